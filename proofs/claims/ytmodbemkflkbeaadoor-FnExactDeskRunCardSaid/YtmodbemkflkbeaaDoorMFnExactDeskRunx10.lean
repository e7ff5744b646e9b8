/- For the law FnExactDeskRun: walks of the functions that it reaches: each call returns what the plain function beside it tells. The conditions stand in each statement. -/
import Derived.Test.YtmodbemkflkbeaaDoorV
import Derived.Test.YtmodbemkflkbeaaDoorMFnExactDeskRunx0
import Derived.Test.YtmodbemkflkbeaaDoorMFnExactDeskRunx9
namespace Go.Proofs.YtmodbemkflkbeaaDoor.MFnExactDeskRun
open Go.RowKit Go.Proofs.YtmodbemkflkbeaaDoorW.PrintWords Go.Proofs.YtmodbemkflkbeaaDoorW.PrintLast Go.Proofs.YtmodbemkflkbeaaDoorW.PrintMore
attribute [local go_sem] max2_int min2_int max_two min_two max_three min_three max_four min_four   -- for this text's walks alone
set_option linter.unusedVariables false
set_option linter.unusedSimpArgs false
set_option maxHeartbeats 8000000
set_option maxRecDepth 100000

/-! ### impl_after: function 71 -/
def impl_after.l0 : Nat → List (List Int) → List Int → List Int → Int → Int → Option (List Int)
 | 0, _, _, _, _, _ => none
 | k + 1, x1, x7, x12, x13, x14 => if x14 < x13 then (if 0 ≤ x14 then (if x14 < (x12.length : Int) then (if 0 ≤ (rd x12 x14) then (if (rd x12 x14) < (x1.length : Int) then ((impl_added.f k x7 (rd_L1 x1 (rd x12 x14))).bind fun bd => (impl_after.l0 k x1 bd x12 x13 (wrap64 (x14 + 1)))) else (none)) else (none)) else (none)) else (none)) else (some x7)
def impl_after.f (k : Nat) (l0 : List Int) (l1 : List (List Int)) (l2 : List Int) : Option (List Int) := (slices_Clone_int_int.f l0).bind fun be => (impl_after.l0 k l1 be l2 (l2.length : Int) 0)
theorem impl_after.mono_l : ∀ k, (∀ y0 y1 y2 y3 y4, LeO (impl_after.l0 k y0 y1 y2 y3 y4) (impl_after.l0 (k + 1) y0 y1 y2 y3 y4))
 | 0 => fun _ _ _ _ _ r h => by simp [impl_after.l0] at h
 | k + 1 => by
  have ih0 := impl_after.mono_l k
  ·
   intro y0 y1 y2 y3 y4
   unfold impl_after.l0
   repeat' (with_reducible first | exact ih0 _ _ _ _ _ | exact impl_added.mono _ _ _ | exact mr_ | exact mn_ | refine mi_ ?_ ?_ | refine mb_ ?_ (fun _ => ?_))
theorem impl_after.mono : ∀ a0 a1 a2 k, LeO (impl_after.f k a0 a1 a2) (impl_after.f (k + 1) a0 a1 a2) := by
 intro a0 a1 a2 k; have ih0 := impl_after.mono_l k; unfold impl_after.f; repeat' (with_reducible first | exact ih0 _ _ _ _ _ | exact impl_added.mono _ _ _ | exact mr_ | exact mn_ | refine mi_ ?_ ?_ | refine mb_ ?_ (fun _ => ?_))
theorem impl_after.z0 {P_ : Prop} (h_ : P_ := by go_wp2_with (first | ((with_reducible refine gate_dst (N := 16) rfl ?_); obtain ⟨p_, q_, ad_, e_, x0⟩ := a2_ (Kd.at_int (gC_ st (Kd.int .i64) A2 l2) ae); have ix_ := ix1_ Tryd.underlying22 e_ p_ q_ (c := c2); clear e_; go_step) | ((with_reducible refine gate_dst (N := 21) rfl ?_); obtain ⟨p_, q_, ad_, bf, bg, e_, x0, l0_, C0_⟩ := a2_ (at_L1 (gC_ s0 (Kd.slice 3 (Kd.int .i64)) A1 l1) (rd l2 ae)); replace x0 := cb_ st x0; replace st := st.c C0_ l0_; have ix_ := ix1_ Tryd.underlying75 e_ p_ q_ (c := c1); clear e_; go_step) | ((with_reducible refine gate_callee (f := 74) rfl ?_); refine ca_ (some 23) Tryd.func74 _ (impl_added.calls k1 aK aM _ bf bg _ _ _ (gt_ st) (gt_ st) (gt_ st) (gt_ st) A_23.out) ?_; rintro e w_ ⟨v0, rfl, h0, hb⟩; refine ⟨_, rfl, ?_⟩; obtain ⟨B23_0, d23_0, rfl⟩ := Kd.R_slice h0; replace st := st.p1 hb (st.mr h0); clear cl hb h0; have cl := cl_ st)); first | (go_roundg k1; (case measure => have := HK1.out; omega); (case rel => exact ⟨(bd), (wrap64 (ae + 1)), B23_0, d23_0, tx_, tx_, H', ⟨by have := HK1.out; omega⟩, st.en⟩)) | (go_ret; exact ⟨.slice aK ah.length aM, tw_, gt_ st, st.b⟩)) : P_ := h_
theorem impl_after.calls (k : Nat) (A0 : Option Addr) (c0 : Nat) (l0 : List Int) (A1 : Option Addr) (c1 : Nat) (l1 : List (List Int)) (A2 : Option Addr) (c2 : Nat) (l2 : List Int) (r : List Int) (w : World) (hr0 : Kd.C (Kd.int .i64) w A0 l0.length l0) (hc0 : l0.length ≤ c0) (hr1 : Kd.C (Kd.slice 3 (Kd.int .i64)) w A1 l1.length l1) (hc1 : l1.length ≤ c1) (hr2 : Kd.C (Kd.int .i64) w A2 l2.length l2) (hc2 : l2.length ≤ c2) (h : impl_after.f k l0 l1 l2 = some r) :
  Calls Tryd.prog 71 #[.slice A0 l0.length c0, .slice A1 l1.length c1, .slice A2 l2.length c2] w fun e w' => ∃ v0_ : Value, e = .returned (v0_) ∧ Kd.R (Kd.int .i64) 3 w' w.heap.size (fun _ => True) v0_ r ∧ Below w.heap.size w w' := by
 have st := (((ST.nil w).c hr0 hc0).c hr1 hc1).c hr2 hc2; have s0 := st; have cl := cl_ st; have H := h; clear h; unfold impl_after.f at H; go_enter Tryd.func71, Tryd.ntmps71; obtain ⟨be, A_11, H⟩ := bnd_ H; have H' := A_ H; clear H; go_wp2_with (first | ((with_reducible refine gate_callee (f := 55) rfl ?_); refine ca_ (some 11) Tryd.func55 _ (slices_Clone_int_int.calls A0 c0 _ _ _ (gt_ st) (gt_ st) A_11.out) ?_; rintro e w_ ⟨v0, rfl, h0, hb⟩; refine ⟨_, rfl, ?_⟩; obtain ⟨B11_0, d11_0, rfl⟩ := Kd.R_slice h0; replace st := st.p1 hb (st.mr h0); clear cl hb h0; have cl := cl_ st))
 go_loopg [7, 14] k (fun kq v7 bS w' => ∃ (ah : List Int) (ae : Int) (aK : Option Addr) (aM : Nat), v7 = .slice aK ah.length aM ∧ bS = .int .i64 ae ∧ Aside0 (impl_after.l0 kq l1 ah l2 (l2.length : Int) ae = some r) ∧ Aside0 (kq ≤ k) ∧ ST w [CA (Kd.slice 3 (Kd.int .i64)) w A1 l1 c1, CA (Kd.int .i64) w A2 l2 c2, AR (Kd.int .i64) 3 w.heap.size (.slice aK ah.length aM) ah] [] w')
 case atStart => exact ⟨(be), (0), B11_0, d11_0, tx_, tx_, H', ⟨Nat.le_refl _⟩, st.en⟩
 case round =>
  clear H' st cl; obtain ⟨ah, ae, aK, aM, rfl, rfl, HA, HK1, st⟩ := hrel; have cl := cl_ st
  cases gk with
  | zero => exact absurd HA.out (by simp [impl_after.l0])
  | succ k1 =>
   have H := HA.out; clear HA; simp only [impl_after.l0] at H; replace H := it_ H; rcases H with ⟨aN, H⟩ | ⟨aN, H⟩
   ·
    replace H := in_ H; obtain ⟨au, H⟩ := H; replace H := in_ H; obtain ⟨bF, H⟩ := H; replace H := in_ H; obtain ⟨bG, H⟩ := H; replace H := in_ H; obtain ⟨bU, H⟩ := H; obtain ⟨bd, A_23, H⟩ := bnd_ H; have H' := A_ H; clear H; exact impl_after.z0
   ·
    obtain rfl := Option.some.inj H; exact impl_after.z0

/-! ### impl_ruleWays: function 58 -/
def impl_ruleWays.l0 : Nat → List Int → List (List Int) → List Int → Int → List Int → Int → Int → Option (Int)
 | 0, _, _, _, _, _, _, _ => none
 | k + 1, x0, x1, x2, x7, x10, x11, x12 => if x12 < x11 then (if 0 ≤ x12 then (if x12 < (x10.length : Int) then (if x12 ≤ (x2.length : Int) then ((impl_after.f k x0 x1 (x2.take (x12 : Int).toNat)).bind fun an => (if 0 ≤ (rd x10 x12) then (if (rd x10 x12) < (an.length : Int) then (if (wrap64 (x7 * (mx 0 (rd an (rd x10 x12))))) = 0 then (some 0) else (impl_ruleWays.l0 k x0 x1 x2 (wrap64 (x7 * (mx 0 (rd an (rd x10 x12))))) x10 x11 (wrap64 (x12 + 1)))) else (none)) else (none))) else (none)) else (none)) else (none)) else (some x7)
def impl_ruleWays.f (k : Nat) (l0 : List Int) (l1 : List (List Int)) (l2 : List Int) : Option (Int) := impl_ruleWays.l0 k l0 l1 l2 1 l2 (l2.length : Int) 0
theorem impl_ruleWays.mono_l : ∀ k, (∀ y0 y1 y2 y3 y4 y5 y6, LeO (impl_ruleWays.l0 k y0 y1 y2 y3 y4 y5 y6) (impl_ruleWays.l0 (k + 1) y0 y1 y2 y3 y4 y5 y6))
 | 0 => fun _ _ _ _ _ _ _ r h => by simp [impl_ruleWays.l0] at h
 | k + 1 => by
  have ih0 := impl_ruleWays.mono_l k
  ·
   intro y0 y1 y2 y3 y4 y5 y6
   unfold impl_ruleWays.l0
   repeat' (with_reducible first | exact ih0 _ _ _ _ _ _ _ | exact impl_after.mono _ _ _ _ | exact mr_ | exact mn_ | refine mi_ ?_ ?_ | refine mb_ ?_ (fun _ => ?_))
theorem impl_ruleWays.mono : ∀ a0 a1 a2 k, LeO (impl_ruleWays.f k a0 a1 a2) (impl_ruleWays.f (k + 1) a0 a1 a2) := by
 intro a0 a1 a2 k; have ih0 := impl_ruleWays.mono_l k; unfold impl_ruleWays.f; repeat' (with_reducible first | exact ih0 _ _ _ _ _ _ _ | exact impl_after.mono _ _ _ _ | exact mr_ | exact mn_ | refine mi_ ?_ ?_ | refine mb_ ?_ (fun _ => ?_))
theorem impl_ruleWays.calls (k : Nat) (A0 : Option Addr) (c0 : Nat) (l0 : List Int) (A1 : Option Addr) (c1 : Nat) (l1 : List (List Int)) (A2 : Option Addr) (c2 : Nat) (l2 : List Int) (r : Int) (w : World) (hr0 : Kd.C (Kd.int .i64) w A0 l0.length l0) (hc0 : l0.length ≤ c0) (hr1 : Kd.C (Kd.slice 3 (Kd.int .i64)) w A1 l1.length l1) (hc1 : l1.length ≤ c1) (hr2 : Kd.C (Kd.int .i64) w A2 l2.length l2) (hc2 : l2.length ≤ c2) (h : impl_ruleWays.f k l0 l1 l2 = some r) :
  Calls Tryd.prog 58 #[.slice A0 l0.length c0, .slice A1 l1.length c1, .slice A2 l2.length c2] w fun e w' => e = .returned (.int .i64 r) ∧ Below w.heap.size w w' := by
 have HR0 := A_ hr0; have HC0 := A_ hc0; clear hr0 hc0; have HR1 := A_ hr1; have HC1 := A_ hc1; clear hr1 hc1; have HR2 := A_ hr2; have HC2 := A_ hc2; clear hr2 hc2; have HB := A_ (Below.refl w.heap.size w); have H : (impl_ruleWays.l0 k l0 l1 l2 1 l2 (l2.length : Int) 0) = some r := h; clear h; have H' := A_ H; clear H; go_enter Tryd.func58, Tryd.ntmps58; go_wp2
 go_loopg [7, 12] k (fun kq v7 bV w' => ∃ (ah : Int) (aa : Int), v7 = .int .i64 ah ∧ bV = .int .i64 aa ∧ Aside0 (impl_ruleWays.l0 kq l0 l1 l2 ah l2 (l2.length : Int) aa = some r) ∧ Aside0 (kq ≤ k) ∧ Aside0 (Below w.heap.size w w'))
 case atStart => exact ⟨(1), (0), tx_, tx_, H', ⟨Nat.le_refl _⟩, ⟨(tb_ HB.out)⟩⟩
 case round =>
  clear H'; obtain ⟨ah, aa, rfl, rfl, HA, HK1, HB⟩ := hrel
  cases gk with
  | zero => exact absurd HA.out (by simp [impl_ruleWays.l0])
  | succ k1 =>
   have H := HA.out; clear HA; simp only [impl_ruleWays.l0] at H; replace H := it_ H; rcases H with ⟨ax, H⟩ | ⟨ax, H⟩
   ·
    replace H := in_ H; obtain ⟨aN, H⟩ := H; replace H := in_ H; obtain ⟨au, H⟩ := H; have bF := eq_true (od_ : 0 ≤ aa); replace H := i0_ H; obtain ⟨c8, H⟩ := H; have bG := eq_true c8; have bW : decide (aa ≤ (l2.length : Int)) = true := decide_eq_true c8; clear c8; obtain ⟨an, A9, H⟩ := bnd_ H; (try dsimp only at H); replace H := in_ H; obtain ⟨a8, H⟩ := H; replace H := in_ H; obtain ⟨bp, H⟩ := H; obtain ⟨av, ar⟩ : ∃ j_ : Int, (mx 0 (rd an (rd l2 aa))) = j_ := ⟨_, rfl⟩
    replace H : (if (wrap64 (ah * (av))) = 0 then (some 0) else (impl_ruleWays.l0 k1 l0 l1 l2 (wrap64 (ah * (av))) l2 (l2.length : Int) (wrap64 (aa + 1)))) = some r := by first | (rw [ar] at H; exact H) | (simp only [ar] at H ⊢; exact H)
    (try rw [ar] at A9); have hji12_ : (if 0 < (rd an (rd l2 aa)) then (rd an (rd l2 aa)) else 0) = av := ar; by_cases c13 : (wrap64 (ah * (av))) = 0
    ·
     rw [if_pos c13] at H; have a9 : ((wrap64 (ah * (av))) == 0) = true := beq_iff_eq.mpr c13; have bq : ((wrap64 (ah * (av))) != 0) = false := bne_eq_false_iff_eq.mpr c13; clear c13; obtain rfl := Option.some.inj H; obtain ⟨p449, q449, ad449, e449, ag⟩ := a2_ (Kd.at_int HR2.out aa); cases e449; replace ag := (HB.out.cell (World.block_lt_of_cell? w _ ag)).trans ag; obtain ⟨i014, hi014, _, hsz14, _⟩ := info_parts info3; obtain ⟨hcut14, hA14, hC14⟩ := print_take_of (P := Tryd.prog) (Value.int .i64) 0 22 3 .i64 Tryd.underlying22 hi014 hsz14 (some ad449) c2 l2 aa (od_) (od_) HC2.out; have HR450 := A_ (Kd.C_of_reads (h1 := fun _ => rfl) (hA14 _ (Kd.reads_of_C HR2.out))); have HC450 := A_ hC14; clear hA14 hC14 hi014 hsz14; go_wp2_with (first | ((with_reducible refine gate_callee (f := 71) rfl ?_); refine goesL_ (some 23) rfl rfl Tryd.func71 (by kernel_rfl) rfl #[.slice A0 l0.length c0, .slice A1 l1.length c1, .slice (some ad449) (l2.take (aa : Int).toNat).length c2] rfl (by (try simp only [List.map_toArray, List.map_cons, List.map_nil]); first | done | (rw [show (l2.take (aa : Int).toNat).length = aa.toNat from (by rw [List.length_take]; have h_ : (aa : Int) ≤ (l2.length : Int) := od_; omega)] <;> rfl) | rfl | (simp only [List.length_drop, List.length_take]; rfl)) ?_; (with_reducible refine (impl_after.calls k1 _ _ l0 _ _ l1 _ _ (l2.take (aa : Int).toNat) an _ ?s1 ?s2 ?s3 ?s4 ?s5 ?s6 A9.out).mono ?_); (case s1 => exact tD_); (case s2 => exact HC0.out); (case s3 => exact tD_); (case s4 => exact HC1.out); (case s5 => exact tD_); (case s6 => exact HC450.out); rintro e b8 ⟨bH, rfl, ho0, hb⟩; refine ⟨_, rfl, ?_⟩; have ay := rx_ ho0 HB; replace HB := bs_ HB hb; (try clear hb ho0); obtain ⟨bX, bZ, bI⟩ := Kd.R_slice ay.out; subst bI; obtain ⟨p454, q454, ad454, e454, a4⟩ := a2_ (Kd.at_int (Kd.R_reads' ay.out).2.2 (rd l2 aa)); cases e454)); go_ret; exact ⟨by first | rfl | (simp [errW_none, errW_some] <;> rfl) | (simp only [← ar]; first | rfl | (simp [errW_none, errW_some] <;> rfl)) | (simp [*, errW_none, errW_some] <;> rfl), (tb_ HB.out)⟩
    ·
     rw [if_neg c13] at H; have a9 : ((wrap64 (ah * (av))) == 0) = false := beq_eq_false_iff_ne.mpr c13; have bq : ((wrap64 (ah * (av))) != 0) = true := bne_iff_ne.mpr c13; have H' := A_ H; clear H; obtain ⟨p449, q449, ad449, e449, ag⟩ := a2_ (Kd.at_int HR2.out aa); cases e449; replace ag := (HB.out.cell (World.block_lt_of_cell? w _ ag)).trans ag; obtain ⟨i017, hi017, _, hsz17, _⟩ := info_parts info3; obtain ⟨hcut17, hA17, hC17⟩ := print_take_of (P := Tryd.prog) (Value.int .i64) 0 22 3 .i64 Tryd.underlying22 hi017 hsz17 (some ad449) c2 l2 aa (od_) (od_) HC2.out; have HR450 := A_ (Kd.C_of_reads (h1 := fun _ => rfl) (hA17 _ (Kd.reads_of_C HR2.out))); have HC450 := A_ hC17; clear hA17 hC17 hi017 hsz17; go_wp2_with (first | ((with_reducible refine gate_callee (f := 71) rfl ?_); refine goesL_ (some 23) rfl rfl Tryd.func71 (by kernel_rfl) rfl #[.slice A0 l0.length c0, .slice A1 l1.length c1, .slice (some ad449) (l2.take (aa : Int).toNat).length c2] rfl (by (try simp only [List.map_toArray, List.map_cons, List.map_nil]); first | done | (rw [show (l2.take (aa : Int).toNat).length = aa.toNat from (by rw [List.length_take]; have h_ : (aa : Int) ≤ (l2.length : Int) := od_; omega)] <;> rfl) | rfl | (simp only [List.length_drop, List.length_take]; rfl)) ?_; (with_reducible refine (impl_after.calls k1 _ _ l0 _ _ l1 _ _ (l2.take (aa : Int).toNat) an _ ?s1 ?s2 ?s3 ?s4 ?s5 ?s6 A9.out).mono ?_); (case s1 => exact tD_); (case s2 => exact HC0.out); (case s3 => exact tD_); (case s4 => exact HC1.out); (case s5 => exact tD_); (case s6 => exact HC450.out); rintro e b9 ⟨bH, rfl, ho0, hb⟩; refine ⟨_, rfl, ?_⟩; have ay := rx_ ho0 HB; replace HB := bs_ HB hb; (try clear hb ho0); obtain ⟨b0, b1, bJ⟩ := Kd.R_slice ay.out; subst bJ; obtain ⟨p454, q454, ad454, e454, a4⟩ := a2_ (Kd.at_int (Kd.R_reads' ay.out).2.2 (rd l2 aa)); cases e454))
     go_roundg k1
     case measure => have := HK1.out; omega
     case rel => exact ⟨(wrap64 (ah * (av))), (wrap64 (aa + 1)), (by first | rfl | (simp; done) | (simp only [← ar] <;> (first | rfl | simp)) | (simp [*]; done)), tx_, H', ⟨by have := HK1.out; omega⟩, ⟨(tb_ HB.out)⟩⟩
   ·
    obtain rfl := Option.some.inj H; go_wp2; go_ret; exact ⟨tw_, (tb_ HB.out)⟩

/-! ### impl_SameRule: function 59 -/
mutual
def impl_SameRule.j0 : Nat → Int → Int → Bool → Option ((List (List Int)))
 | 0, _, _, _ => none
 | k + 1, x0, x1, x18 => if x18 = true then (some ([] : List (List Int))) else (impl_SameRule.l0 k x0 x1 (([] : List (List Int))) x0 0)
def impl_SameRule.l0 : Nat → Int → Int → List (List Int) → Int → Int → Option ((List (List Int)))
 | 0, _, _, _, _, _ => none
 | k + 1, x0, x1, x5, x20, x21 => if x21 < x20 then (if 0 ≤ x0 then (if (x0 : Int).toNat ≤ 35184372088832 then ((some (List.replicate (x0 : Int).toNat 0 : List Int)).bind fun am => (if 0 ≤ x21 then (if x21 < (am.length : Int) then (if x5.length < 5864062014805 then (impl_SameRule.l0 k x0 x1 (x5 ++ [(am.set (x21 : Int).toNat x1)]) x20 (wrap64 (x21 + 1))) else (none)) else (none)) else (none))) else (none)) else (none)) else (some x5)
end
def impl_SameRule.f (k : Nat) (a0 : Int) (a1 : Int) : Option ((List (List Int))) := (impl_coloursOk.f a0).bind fun aQ => (if aQ = true then (if a1 < (-1) then (impl_SameRule.j0 k a0 a1 true) else (impl_SameRule.j0 k a0 a1 (decide (a1 > 3)))) else (impl_SameRule.j0 k a0 a1 true))
theorem impl_SameRule.mono_l : ∀ k, (∀ y0 y1 y2, LeO (impl_SameRule.j0 k y0 y1 y2) (impl_SameRule.j0 (k + 1) y0 y1 y2)) ∧ (∀ y0 y1 y2 y3 y4, LeO (impl_SameRule.l0 k y0 y1 y2 y3 y4) (impl_SameRule.l0 (k + 1) y0 y1 y2 y3 y4))
 | 0 => ⟨fun _ _ _ r h => by simp [impl_SameRule.j0] at h, fun _ _ _ _ _ r h => by simp [impl_SameRule.l0] at h⟩
 | k + 1 => by
  obtain ⟨ih0, ih1⟩ := impl_SameRule.mono_l k
  refine ⟨?_, ?_⟩
  ·
   intro y0 y1 y2
   unfold impl_SameRule.j0
   repeat' (with_reducible first | exact ih0 _ _ _ | exact ih1 _ _ _ _ _ | exact mr_ | exact mn_ | refine mi_ ?_ ?_ | refine mb_ ?_ (fun _ => ?_))
  ·
   intro y0 y1 y2 y3 y4
   unfold impl_SameRule.l0
   repeat' (with_reducible first | exact ih0 _ _ _ | exact ih1 _ _ _ _ _ | exact mr_ | exact mn_ | refine mi_ ?_ ?_ | refine mb_ ?_ (fun _ => ?_))
theorem impl_SameRule.mono : ∀ a0 a1 k, LeO (impl_SameRule.f k a0 a1) (impl_SameRule.f (k + 1) a0 a1) := by
 intro a0 a1 k; obtain ⟨ih0, ih1⟩ := impl_SameRule.mono_l k; unfold impl_SameRule.f; repeat' (with_reducible first | exact ih0 _ _ _ | exact ih1 _ _ _ _ _ | exact mr_ | exact mn_ | refine mi_ ?_ ?_ | refine mb_ ?_ (fun _ => ?_))
theorem impl_SameRule.calls (k : Nat) (a0 : Int) (a1 : Int) (r : List (List Int)) (w : World) (h : impl_SameRule.f k a0 a1 = some r) :
  Calls Tryd.prog 59 #[.int .i64 a0, .int .i64 a1] w fun e w' => ∃ v0_ : Value, e = .returned (v0_) ∧ Kd.S (Kd.slice 3 (Kd.int .i64)) 22 w' w.heap.size (fun _ => True) v0_ r ∧ Below w.heap.size w w' := by
 have HB := A_ (Below.refl w.heap.size w); have H : ((impl_coloursOk.f a0).bind fun aQ => (if aQ = true then (if a1 < (-1) then (impl_SameRule.j0 k a0 a1 true) else (impl_SameRule.j0 k a0 a1 (decide (a1 > 3)))) else (impl_SameRule.j0 k a0 a1 true))) = some r := h; clear h; have HC3 := A_ H; clear H; go_enter Tryd.func59, Tryd.ntmps59
 go_upto_region 1 with (fail)
 go_cut [18] (fun b2 wc => ∃ (kq : Nat) (aC : Bool), b2 = .bool aC ∧ Aside0 (impl_SameRule.j0 kq a0 a1 aC = some r) ∧ Aside0 (kq ≤ k) ∧ Aside0 (Below w.heap.size w wc))
 case first =>
  have H := HC3.out; clear HC3; obtain ⟨aQ, A4, H⟩ := bnd_ H; (try dsimp only at H); by_cases c5 : aQ = true
  ·
   subst c5; replace H : (if a1 < (-1) then (impl_SameRule.j0 k a0 a1 true) else (impl_SameRule.j0 k a0 a1 (decide (a1 > 3)))) = some r := by rw [if_pos rfl] at H; exact H
   replace H := it_ H; rcases H with ⟨au, H⟩ | ⟨au, H⟩
   ·
    (first | rw [au] | (simp only [i64_w, i32_w]; rw [au]) | skip); have H' := A_ H; clear H; go_wp2_with (first | ((with_reducible refine gate_callee (f := 70) rfl ?_); refine gl_ (some 9) Tryd.func70 #[.int .i64 a0] ?_; (with_reducible refine (impl_coloursOk.calls a0 true _ A4.out).mono ?_); rintro e w' ⟨rfl, ⟨nd, rfl⟩⟩; refine ⟨_, rfl, ?_⟩)); go_meet
    case rel => exact ⟨_, (true), tx_, H', ⟨by first | omega | exact Nat.le_refl _⟩, ⟨(tb_ HB.out)⟩⟩
   ·
    (first | rw [au] | (simp only [i64_w, i32_w]; rw [au]) | skip); have H' := A_ H; clear H; go_wp2_with (first | ((with_reducible refine gate_callee (f := 70) rfl ?_); refine gl_ (some 9) Tryd.func70 #[.int .i64 a0] ?_; (with_reducible refine (impl_coloursOk.calls a0 true _ A4.out).mono ?_); rintro e w' ⟨rfl, ⟨nd, rfl⟩⟩; refine ⟨_, rfl, ?_⟩)); go_meet
    case rel => exact ⟨_, (decide (a1 > 3)), tx_, H', ⟨by first | omega | exact Nat.le_refl _⟩, ⟨(tb_ HB.out)⟩⟩
  ·
   replace c5 := Bool.eq_false_iff.mpr c5; subst c5; replace H : (impl_SameRule.j0 k a0 a1 true) = some r := by rw [if_neg (show ¬ (false = true) by decide)] at H; exact H
   have H' := A_ H; clear H; go_wp2_with (first | ((with_reducible refine gate_callee (f := 70) rfl ?_); refine gl_ (some 9) Tryd.func70 #[.int .i64 a0] ?_; (with_reducible refine (impl_coloursOk.calls a0 false _ A4.out).mono ?_); rintro e w' ⟨rfl, ⟨nd, rfl⟩⟩; refine ⟨_, rfl, ?_⟩)); go_meet
   case rel => exact ⟨_, (true), tx_, H', ⟨by first | omega | exact Nat.le_refl _⟩, ⟨(tb_ HB.out)⟩⟩
 case rest =>
  clear HC3; obtain ⟨kq, aC, rfl, HA, HJ2, HB⟩ := hcut
  cases kq with
  | zero => exact absurd HA.out (by simp [impl_SameRule.j0])
  | succ kj2 =>
   have H := HA.out; clear HA; simp only [impl_SameRule.j0] at H; by_cases c7 : aC = true
   ·
    subst c7; replace H : (some ([] : List (List Int))) = some r := by rw [if_pos rfl] at H; exact H
    obtain rfl := Option.some.inj H; go_wp2; go_ret; exact ⟨_, tw_, by first | exact Kd.S_nil _ _ _ _ _ | exact Kd.N_nil _ _ _ _ _ | exact Kd.V_nil _ _ _ _ _ | exact Kd.Q_nil _ _ _ _ _ | exact Kd.R_nil _ _ _ _ _, (tb_ HB.out)⟩
   ·
    replace c7 := Bool.eq_false_iff.mpr c7; subst c7; replace H : (impl_SameRule.l0 kj2 a0 a1 (([] : List (List Int))) a0 0) = some r := by rw [if_neg (show ¬ (false = true) by decide)] at H; exact H
    obtain ⟨br, aR⟩ : ∃ y_ : List (List Int), y_ = (([] : List (List Int))) := ⟨_, rfl⟩
    replace H : (impl_SameRule.l0 kj2 a0 a1 br a0 0) = some r := yq_ aR H; have bb := A_ aR; clear aR; have H' := A_ H; clear H; go_wp2_with (first | ((with_reducible refine gate_dst (N := 19) rfl ?_); refine Kd.S_lit (Kd.slice 3 (Kd.int .i64)) _ 22 ?hg (N := 19) ?hd (xs := ([] : List (List Int))) (inner := []) (ok := fun _ => True) (okp := fun _ => True) ?hr ?hp (fun _ hk => hk) trivial (Below.refl _ _) (Nat.le_refl _) (by simp) ?_; (case hd => rfl); (case hg => rfl); (case hr => first | (go_simp; done) | (go_simp; rfl)); (case hp => exact (Reps.none _ _)); intro b3 w8 ho9 hb hg_ hnew_; clear hg_ hnew_; (first | rw [← bb.out] at ho9 | (simp only [Int.reduceToNat] at ho9; rw [← bb.out] at ho9)); have bs := A_ (Kd.S_lower ho9 (below_size (tb_ HB.out))); replace HB := bs_ HB hb; clear hb ho9))
    go_loopg [5, 21] kj2 (fun kq v5 b4 w' => ∃ (aq : List (List Int)) (ab : Int), b4 = .int .i64 ab ∧ Aside0 (impl_SameRule.l0 kq a0 a1 aq a0 ab = some r) ∧ Aside0 (kq ≤ kj2) ∧ Aside0 (Kd.S (Kd.slice 3 (Kd.int .i64)) 22 w' w.heap.size (fun _ => True) v5 aq) ∧ Aside0 (Below w.heap.size w w'))
    case atStart => exact ⟨(br), (0), tx_, H', ⟨Nat.le_refl _⟩, ⟨rS_ bs.out⟩, ⟨(tb_ HB.out)⟩⟩
    case round =>
     clear H'; (try clear c7); obtain ⟨aq, ab, rfl, HA, HK2, aw, HB⟩ := hrel
     cases gk with
     | zero => exact absurd HA.out (by simp [impl_SameRule.l0])
     | succ k2 =>
      have H := HA.out; clear HA; simp only [impl_SameRule.l0] at H; replace H := it_ H; rcases H with ⟨a8, H⟩ | ⟨a8, H⟩
      ·
       replace H := i0_ H; obtain ⟨c11, H⟩ := H; have bp := eq_true c11; have bN : decide (0 ≤ a0) = true := decide_eq_true c11; clear c11; replace H := i0_ H; obtain ⟨c12, H⟩ := H; have bO := eq_true c12; have bP : decide ((a0 : Int).toNat ≤ 35184372088832) = true := decide_eq_true c12; clear c12; obtain ⟨am, aU⟩ : ∃ y_ : List Int, y_ = (List.replicate (a0 : Int).toNat 0) := ⟨_, rfl⟩
       replace H : (if 0 ≤ ab then (if ab < (am.length : Int) then (if aq.length < 5864062014805 then (impl_SameRule.l0 k2 a0 a1 (aq ++ [(am.set (ab : Int).toNat a1)]) a0 (wrap64 (ab + 1))) else (none)) else (none)) else (none)) = some r := yq_ aU H; have bc := A_ aU; clear aU; replace H := in_ H; obtain ⟨a9, H⟩ := H; replace H := in_ H; obtain ⟨bQ, H⟩ := H; obtain ⟨a5, aV⟩ : ∃ y_ : List Int, y_ = (am.set (ab : Int).toNat a1) := ⟨_, rfl⟩
       replace H : (if aq.length < 5864062014805 then (impl_SameRule.l0 k2 a0 a1 (aq ++ [a5]) a0 (wrap64 (ab + 1))) else (none)) = some r := yq_ aV H; have bu := A_ aV; clear aV; replace H := il_ H; obtain ⟨bv, H⟩ := H; obtain ⟨bw, aW⟩ : ∃ y_ : List (List Int), y_ = (aq ++ [a5]) := ⟨_, rfl⟩
       replace H : (impl_SameRule.l0 k2 a0 a1 bw a0 (wrap64 (ab + 1))) = some r := yq_ aW H; have bx := A_ aW; clear aW; have H' := A_ H; clear H; go_wp2_with (first | ((with_reducible refine gate_dst (N := 25) rfl ?_); refine Kd.R_make (Kd.int .i64) _ 3 rfl (N := 25) rfl 22 _ _ rfl a0 rfl rfl Tryd.underlying22 (.int .i64 0) 8 info3 rfl (by decide) (by omega) 0 (ok := fun _ => True) (okp := fun _ => True) rfl (fun _ hk => hk) trivial (od_) (Nat.le_trans (Nat.mul_le_mul_right _ (od_ : a0.toNat ≤ 35184372088832)) (by omega)) (Below.refl _ _) (Nat.le_refl _) ?_; intro b5 bR ho18 hb hg_ hnew_; clear hg_ hnew_; (first | rw [← bc.out] at ho18 | (simp only [Int.reduceToNat] at ho18; rw [← bc.out] at ho18)); replace aw := A_ (Kd.S_elder' (rS_ aw.out) (Kd.R_base ho18) hb); have ao := rx_ ho18 HB; replace HB := bs_ HB hb; clear hb ho18; have p15 : 0 ≤ (ab : Int) := od_; have q15 : (ab : Int) < ((am.length : Int) : Int) := od_; obtain ⟨go15, aX, bz, bB, gl15, cl15, HG15⟩ := Kd.R_form ao.out (by omega); (first | cases bz | (injection bz with ea_ en_ ec_; (first | subst ea_ | (injection ea_ with ea_; subst ea_)); subst ec_; clear en_)); have GB15 := A_ bB; have GG15 := A_ HG15; clear bB gl15 HG15; obtain ⟨bK, hf15_0⟩ := Kd.R_celln 0 ao.out (ab : Int) p15 q15; replace p15 := eq_true p15; replace q15 := eq_true q15; obtain ⟨hy19_, hz19_⟩ := Kd.R_celln 0 ao.out (ab : Int) (od_) (od_); have HP19 := Kd.R_putg ao.out (ab : Int) a1) | ((with_reducible refine gate_store (t := 3) (p := 29) rfl ?_); refine store_event (t := 3) (p := 29) (v := ?vo_w20) (w1 := (bR.setCell ⟨go15, (ab : Int).toNat, none⟩ (.int .i64 a1))) ?hg ?ho ?hn ?hr ?_; (case ho => rfl); (case hg => rfl); (case hn => rfl); (case hr => first | (go_simp; done) | (go_simp; rfl)); intro bL hw; have hg : bR.grownBy bL (some go15) := (by rw [hw]; exact HP19.2); have hp_ : Kd.R (Kd.int .i64) 3 bL w.heap.size (fun _ => True) (.slice (some ⟨go15, 0, none⟩) am.length aX) a5 := (by rw [hw, bu.out]; exact HP19.1); clear HP19; replace aw := A_ (Kd.S_after (v := (.slice (some ⟨go15, 0, none⟩) am.length aX)) (v1 := (.slice (some ⟨go15, 0, none⟩) am.length aX)) (ok := (fun _ => True)) (rS_ aw.out) hg (.inl rfl)); replace ao := A_ (hp_); replace HB := A_ ((by rw [hw]; exact below_set (HB.out) GB15.out : Below w.heap.size w bL)); clear hg hw hp_) | ((with_reducible refine gate_builtin (b := .append) (xs := #[.tmp 30, .tmp 32]) rfl ?_); at_builtin; refine Kd.S_append (Kd.slice 3 (Kd.int .i64)) (w0 := w) w.heap.size rfl (.tmp 30) (.tmp 32) 75 22 (.slice none 0 0) 24 rfl Tryd.underlying75 info22 rfl (by decide) (by omega) u5 aq a5 [.slice (some ⟨go15, 0, none⟩) am.length aX] (fun _ => True) (fun k_ => some k_ = (.slice (some ⟨go15, 0, none⟩) am.length aX : Value).ownBlock) rfl rfl ?aP (fun k_ hk_ => ((Kd.R_mono (ok' := fun k_ => ((fun _ => True)) k_ ∧ some k_ ≠ (u5 : Value).ownBlock) (Kd.R_apart' (ao.out) (Kd.S_typed aw.out) (by decide)) (fun k_ hk => ⟨trivial, hk.2⟩))).1 k_ hk_.symm) ?aF ?aO ?aB ?aS ?aL ?_; (case aP => exact Kd.M_row (Kd.R_mono (Kd.R_tight rfl (Kd.R_mono (ok' := fun k_ => ((fun _ => True)) k_ ∧ some k_ ≠ (u5 : Value).ownBlock) (Kd.R_apart' (ao.out) (Kd.S_typed aw.out) (by decide)) (fun k_ hk => ⟨trivial, hk.2⟩))) (fun _ h_ => h_))); (case aB => exact (tb_ HB.out)); (case aF => exact (fun _ _ => trivial)); (case aO => exact (by refine qS_ ?_; exact Kd.S_mono aw.out (fun k_ hk => ⟨trivial, fun e_ => hk.2 e_⟩))); (case aS => exact (below_size (tb_ HB.out))); (case aL => have := bv.out; omega); intro b6 ca ho hb hg hat; rw [← bx.out] at ho; replace HB := A_ (hb); have bC := A_ (ho); clear aw ao ho hb hg hat))
       go_roundg k2
       case measure => have := HJ2.out; have := HK2.out; omega
       case rel => exact ⟨(bw), (wrap64 (ab + 1)), tx_, H', ⟨by have := HJ2.out; have := HK2.out; omega⟩, ⟨rS_ bC.out⟩, ⟨(tb_ HB.out)⟩⟩
      ·
       obtain rfl := Option.some.inj H; go_wp2; go_ret; exact ⟨_, tw_, by refine qS_ ?_; exact aw.out, (tb_ HB.out)⟩

/-! ### impl_PlaceOk: function 32 -/
def impl_PlaceOk.j0 : Nat → Bool → List Int → Int → List Int → Option (Bool)
 | 0, _, _, _, _ => none
 | k + 1, x25, aD, a6, a7 => if x25 = true then (some false) else ((impl_SameRule.f k (aD.length : Int) a6).bind fun bD => ((impl_ruleWays.f k aD bD a7).bind fun bE => (some (decide (bE > 0)))))
def impl_PlaceOk.f (k : Nat) (ac : List Int) (a0_1 : Int) (ad : List Int) : Option (Bool) := (impl_StartOk.f k ac).bind fun bh => (if bh = true then (if a0_1 < (-1) then (impl_PlaceOk.j0 k true ac a0_1 ad) else (if a0_1 > 3 then (impl_PlaceOk.j0 k true ac a0_1 ad) else ((impl_WordOk.f k (ac.length : Int) ad).bind fun bi => (impl_PlaceOk.j0 k (!bi) ac a0_1 ad)))) else (impl_PlaceOk.j0 k true ac a0_1 ad))
theorem impl_PlaceOk.mono_l : ∀ k, (∀ y0 y1 y2 y3, LeO (impl_PlaceOk.j0 k y0 y1 y2 y3) (impl_PlaceOk.j0 (k + 1) y0 y1 y2 y3))
 | 0 => fun _ _ _ _ r h => by simp [impl_PlaceOk.j0] at h
 | k + 1 => by
  have ih0 := impl_PlaceOk.mono_l k
  ·
   intro y0 y1 y2 y3
   unfold impl_PlaceOk.j0
   repeat' (with_reducible first | exact ih0 _ _ _ _ | exact impl_SameRule.mono _ _ _ | exact impl_StartOk.mono _ _ | exact impl_WordOk.mono _ _ _ | exact impl_ruleWays.mono _ _ _ _ | exact mr_ | exact mn_ | refine mi_ ?_ ?_ | refine mb_ ?_ (fun _ => ?_))
theorem impl_PlaceOk.mono : ∀ a0 a1 a2 k, LeO (impl_PlaceOk.f k a0 a1 a2) (impl_PlaceOk.f (k + 1) a0 a1 a2) := by
 intro a0 a1 a2 k; have ih0 := impl_PlaceOk.mono_l k; unfold impl_PlaceOk.f; repeat' (with_reducible first | exact ih0 _ _ _ _ | exact impl_SameRule.mono _ _ _ | exact impl_StartOk.mono _ _ | exact impl_WordOk.mono _ _ _ | exact impl_ruleWays.mono _ _ _ _ | exact mr_ | exact mn_ | refine mi_ ?_ ?_ | refine mb_ ?_ (fun _ => ?_))
def impl_PlaceOk.T3 : Bool × List (List Nat × List Nat) := (true, [([], []), ([0], [0]), ([], []), ([2], [2]), ([3], [3]), ([], []), ([5], [5]), ([4, 6], [4, 6]), ([], []), ([8], [8]), ([1, 7, 9, 7], [1, 7, 9]), ([10], [10]), ([11, 10, 0, 1, 2, 3, 4, 5, 6, 7, 8, 9, 10, 11], [11])])
def impl_PlaceOk.B3 : List Nat := [0, 1, 0, 4, 12, 0, 32, 124, 0, 256, 1023, 2047, 4095]
theorem impl_PlaceOk.tab3 : rtab .any (opsOf Tryd.f32 3) = impl_PlaceOk.T3 := by kernel_rfl
theorem impl_PlaceOk.bits3 : waitsOk impl_PlaceOk.T3.2 impl_PlaceOk.B3 = true := by kernel_rfl
theorem impl_PlaceOk.z0 {P_ : Prop} (h_ : P_ := by go_wp2_with (first | ((with_reducible refine gate_callee (f := 56) rfl ?_); refine ca_ (some 5) Tryd.func56 _ (impl_StartOk.calls k ai aj _ _ _ (gt_ st) (gt_ st) A_5.out) ?_; rintro e w_ ⟨rfl, hb⟩; refine ⟨_, rfl, ?_⟩; replace hb := hb.below; replace st := st.ev hb; clear cl hb; have cl := cl_ st) | ((with_reducible refine gate_callee (f := 57) rfl ?_); refine gate_guard (by rfl) ?_; dsimp only; refine ca_ (some 23) Tryd.func57 _ (impl_WordOk.calls k _ ak al _ _ _ (gt_ st) (gt_ st) A_23.out) ?_; rintro e w_ ⟨rfl, hb⟩; refine ⟨_, rfl, ?_⟩; replace hb := hb.below; replace st := st.ev hb; clear cl hb; have cl := cl_ st)); first | (go_meet; (case rel => exact ⟨_, (true), tx_, H', ⟨by first | omega | exact Nat.le_refl _⟩, st.en⟩)) | (go_meet; (case rel => exact ⟨_, (!bi), tx_, H', ⟨by first | omega | exact Nat.le_refl _⟩, st.en⟩))) : P_ := h_
theorem impl_PlaceOk.calls (k : Nat) (ai : Option Addr) (aj : Nat) (ac : List Int) (a0_1 : Int) (ak : Option Addr) (al : Nat) (ad : List Int) (r : Bool) (w : World) (hr0_0 : Kd.C (Kd.int .i64) w ai ac.length ac) (hc0_0 : ac.length ≤ aj) (hr0_2 : Kd.C (Kd.int .i64) w ak ad.length ad) (hc0_2 : ad.length ≤ al) (h : impl_PlaceOk.f k ac a0_1 ad = some r) :
  Calls Tryd.prog 32 #[.agg #[.slice ai ac.length aj, .int .i64 a0_1, .slice ak ad.length al]] w fun e w' => e = .returned (.bool r) ∧ Below w.heap.size w w' := by
 have hu31 := Tryd.underlying31; have st := ((ST.nil w).c hr0_0 hc0_0).c hr0_2 hc0_2; have s0 := st; have cl := cl_ st; have H := h; clear h; unfold impl_PlaceOk.f at H; go_enter Tryd.func32, Tryd.ntmps32; have HC3 := A_ H; clear H
 go_upto_region 1 with (first | ((with_reducible refine gate_dst (N := 1) rfl ?_); refine al_ st ?_; clear st cl; intro g1 w_ st; have cl := cl_ st))
 (try simp only [Act.put, sa_, sb_, sc_])
 go_cut [25] (fun b7 wc => ∃ (kq : Nat) (aE : Bool), b7 = .bool aE ∧ Aside0 (impl_PlaceOk.j0 kq aE ac a0_1 ad = some r) ∧ Aside0 (kq ≤ k) ∧ ST w [CA (Kd.int .i64) w ai ac aj, CA (Kd.int .i64) w ak ad al] [Bx g1 #[.slice ai ac.length aj, .int .i64 a0_1, .slice ak ad.length al] 31] wc)
 case first =>
  have H := HC3.out; clear HC3; obtain ⟨bh, A_5, H⟩ := bnd_ H; rcases bx_ bh with rfl | rfl
  ·
   replace H := bt_ H; replace H := it_ H; rcases H with ⟨ax, H⟩ | ⟨ax, H⟩
   ·
    (first | rw [ax] | (simp only [i64_w, i32_w]; rw [ax]) | skip); have H' := A_ H; clear H; exact impl_PlaceOk.z0
   ·
    (first | rw [ax] | (simp only [i64_w, i32_w]; rw [ax]) | skip); replace H := ig_ H; rcases H with ⟨aN, H⟩ | ⟨aN, H⟩
    ·
     have H' := A_ H; clear H; exact impl_PlaceOk.z0
    ·
     obtain ⟨bi, A_23, H⟩ := bnd_ H; have H' := A_ H; clear H; exact impl_PlaceOk.z0
  ·
   replace H := bf_ H; have H' := A_ H; clear H; exact impl_PlaceOk.z0
 case rest =>
  clear HC3 st cl; obtain ⟨kq, aE, rfl, HA, HJ2, st⟩ := hcut; have cl := cl_ st
  cases kq with
  | zero => exact absurd HA.out (by simp [impl_PlaceOk.j0])
  | succ kj2 =>
   have H := HA.out; clear HA; simp only [impl_PlaceOk.j0] at H; rcases bx_ aE with rfl | rfl
   ·
    replace H := bt_ H; obtain rfl := Option.some.inj H; go_wp2; go_ret; exact ⟨tw_, st.b⟩
   ·
    replace H := bf_ H; obtain ⟨bD, A_33, H⟩ := bnd_ H; obtain ⟨bE, A_36, H⟩ := bnd_ H; obtain rfl := Option.some.inj H; (try go_wp2); (all_goals (refine rg_ st [] ?_; clear st cl; intro w_ st hs; have cl := cl_ st; refine with_tabW impl_PlaceOk.tab3 impl_PlaceOk.bits3 (fun HT_ HW_ => ?_); refine pv_ 0 ?_; refine pv_ 2 ?_; refine pv_ 5 ?_; refine pv_ 8 ?_; refine tu_ 1 ?_; refine tu_ 3 ?_; refine tu_ 6 ?_; refine tu_ 9 ?_; refine pv_ 4 ?_; refine ov_ 7 (fun K hK => ?_); refine ca2_ (some 33) Tryd.func59 _ (impl_SameRule.calls kj2 _ _ _ _ A_33.out) ?_; rintro e w_ ⟨v0, rfl, h0, hb⟩; refine ⟨_, rfl, ?_⟩; obtain ⟨B33_0, d33_0, rfl⟩ := Kd.S_slice h0; replace st := st.p1 hb (st.ms h0); clear cl hb h0; have cl := cl_ st; refine hK.out _ _ st.en (fun hs => ?_); clear hK K; refine nr_ 33 ?_; refine ov_ 10 (fun K hK => ?_); refine ca2_ (some 36) Tryd.func58 _ (impl_ruleWays.calls kj2 ai aj _ B33_0 d33_0 _ ak al _ _ _ (gt_ st) (gt_ st) (gt_ st) (gt_ st) (gt_ st) (gt_ st) A_36.out) ?_; rintro e w_ ⟨rfl, hb⟩; refine ⟨_, rfl, ?_⟩; replace st := st.ev hb; clear cl hb; have cl := cl_ st; refine hK.out _ _ st.en (fun hs => ?_); clear hK K; refine nr_ 36 ?_; refine pv_ 11 ?_; refine pv_ 12 ?_; refine done_ (done_of HT_.out (by kernel_rfl)) ?_; all_goals (try go_wp2))); go_ret; exact ⟨tw_, st.b⟩

/-! ### impl_DeskOk: function 28 -/
def impl_DeskOk.l0 : Nat → List (S31) → Int → Int → List Int → Int → List Int → List (S31) → Option (Bool)
 | 0, _, _, _, _, _, _, _ => none
 | k + 1, x6, x7, x8, aG, aH, aI, aJ => if x8 < x7 then (if 0 ≤ x8 then (if x8 < (x6.length : Int) then ((impl_PlaceOk.f k ((rd_T31 x6 x8).f0) ((rd_T31 x6 x8).f1) ((rd_T31 x6 x8).f2)).bind fun bj => (if bj = true then (impl_DeskOk.l0 k x6 x7 (wrap64 (x8 + 1)) aG aH aI aJ) else (some false))) else (none)) else (none)) else ((impl_PlaceOk.f k aG aH aI).bind fun bk => (if bk = true then (some (decide ((aJ.length : Int) ≤ 8))) else (some false)))
def impl_DeskOk.f (k : Nat) (ac : List Int) (a0_1 : Int) (ad : List Int) (af : List (S31)) : Option (Bool) := impl_DeskOk.l0 k af (af.length : Int) 0 ac a0_1 ad af
theorem impl_DeskOk.mono_l : ∀ k, (∀ y0 y1 y2 y3 y4 y5 y6, LeO (impl_DeskOk.l0 k y0 y1 y2 y3 y4 y5 y6) (impl_DeskOk.l0 (k + 1) y0 y1 y2 y3 y4 y5 y6))
 | 0 => fun _ _ _ _ _ _ _ r h => by simp [impl_DeskOk.l0] at h
 | k + 1 => by
  have ih0 := impl_DeskOk.mono_l k
  ·
   intro y0 y1 y2 y3 y4 y5 y6
   unfold impl_DeskOk.l0
   repeat' (with_reducible first | exact ih0 _ _ _ _ _ _ _ | exact impl_PlaceOk.mono _ _ _ _ | exact mr_ | exact mn_ | refine mi_ ?_ ?_ | refine mb_ ?_ (fun _ => ?_))
theorem impl_DeskOk.mono : ∀ a0 a1 a2 a3 k, LeO (impl_DeskOk.f k a0 a1 a2 a3) (impl_DeskOk.f (k + 1) a0 a1 a2 a3) := by
 intro a0 a1 a2 a3 k; have ih0 := impl_DeskOk.mono_l k; unfold impl_DeskOk.f; repeat' (with_reducible first | exact ih0 _ _ _ _ _ _ _ | exact impl_PlaceOk.mono _ _ _ _ | exact mr_ | exact mn_ | refine mi_ ?_ ?_ | refine mb_ ?_ (fun _ => ?_))
theorem impl_DeskOk.z0 {P_ : Prop} (h_ : P_ := by go_wp2_with (first | ((with_reducible refine gate_dst (N := 10) rfl ?_); obtain ⟨p_, q_, ad_, bl, bm, bn, bo, e_, x0, x1, x2, l0_, C0_, l2_, C2_⟩ := a2_ (at_T31 (gC_ s0 k31 aY af) ap); replace x0 := cb_ st x0; replace x1 := cb_ st x1; replace x2 := cb_ st x2; replace st := st.c C0_ l0_; replace st := st.c C2_ l2_; have ix_ := ix3_ Tryd.underlying32 e_ p_ q_ (c := aZ); clear e_; go_step) | ((with_reducible refine gate_dst (N := 4) rfl ?_); refine al_ st ?_; clear st cl; intro g4 w_ st; have cl := cl_ st) | ((with_reducible refine gate_store (p := 4) rfl ?_); refine so3_ st ?_; clear st cl; intro w_ st; have cl := cl_ st) | ((with_reducible refine gate_callee (f := 32) rfl ?_); refine ca_ (some 13) Tryd.func32 _ (impl_PlaceOk.calls k1 bl bm _ _ bn bo _ _ _ (gt_ st) (gt_ st) (gt_ st) (gt_ st) A_13.out) ?_; rintro e w_ ⟨rfl, hb⟩; refine ⟨_, rfl, ?_⟩; replace st := st.ev hb; clear cl hb; have cl := cl_ st) | ((with_reducible refine gate_callee (f := 32) rfl ?_); refine ca_ (some 18) Tryd.func32 _ (impl_PlaceOk.calls k1 ai aj _ _ ak al _ _ _ (gt_ st) (gt_ st) (gt_ st) (gt_ st) A_18.out) ?_; rintro e w_ ⟨rfl, hb⟩; refine ⟨_, rfl, ?_⟩; replace st := st.ev hb; clear cl hb; have cl := cl_ st)); first | (go_roundg k1; (case measure => have := HK1.out; omega); (case rel => exact ⟨(wrap64 (ap + 1)), tx_, H', ⟨by have := HK1.out; omega⟩, st.en⟩)) | (go_ret; exact ⟨tw_, st.b⟩)) : P_ := h_
theorem impl_DeskOk.calls (k : Nat) (ai : Option Addr) (aj : Nat) (ac : List Int) (a0_1 : Int) (ak : Option Addr) (al : Nat) (ad : List Int) (aY : Option Addr) (aZ : Nat) (af : List (S31)) (r : Bool) (w : World) (hr0_0 : Kd.C (Kd.int .i64) w ai ac.length ac) (hc0_0 : ac.length ≤ aj) (hr0_2 : Kd.C (Kd.int .i64) w ak ad.length ad) (hc0_2 : ad.length ≤ al) (hr0_3 : Kd.C k31 w aY af.length af) (hc0_3 : af.length ≤ aZ) (h : impl_DeskOk.f k ac a0_1 ad af = some r) :
  Calls Tryd.prog 28 #[.agg #[.slice ai ac.length aj, .int .i64 a0_1, .slice ak ad.length al, .slice aY af.length aZ]] w fun e w' => e = .returned (.bool r) ∧ Below w.heap.size w w' := by
 have hu34 := Tryd.underlying34; have hu31 := Tryd.underlying31; have st := (((ST.nil w).c hr0_0 hc0_0).c hr0_2 hc0_2).c hr0_3 hc0_3; have s0 := st; have cl := cl_ st; have H := h; clear h; unfold impl_DeskOk.f at H; go_enter Tryd.func28, Tryd.ntmps28; have H' := A_ H; clear H; go_wp2_with (first | ((with_reducible refine gate_dst (N := 1) rfl ?_); refine al_ st ?_; clear st cl; intro g1 w_ st; have cl := cl_ st))
 go_loopg [8] k (fun kq v8 w' => ∃ (ap : Int), v8 = .int .i64 ap ∧ Aside0 (impl_DeskOk.l0 kq af (af.length : Int) ap ac a0_1 ad af = some r) ∧ Aside0 (kq ≤ k) ∧ ST w [CA (Kd.int .i64) w ai ac aj, CA (Kd.int .i64) w ak ad al, CA k31 w aY af aZ] [Bx g1 #[.slice ai ac.length aj, .int .i64 a0_1, .slice ak ad.length al, .slice aY af.length aZ] 34] w')
 case atStart => exact ⟨(0), tx_, H', ⟨Nat.le_refl _⟩, st.en⟩
 case round =>
  clear H' st cl; obtain ⟨ap, rfl, HA, HK1, st⟩ := hrel; have cl := cl_ st
  cases gk with
  | zero => exact absurd HA.out (by simp [impl_DeskOk.l0])
  | succ k1 =>
   have H := HA.out; clear HA; simp only [impl_DeskOk.l0] at H; replace H := it_ H; rcases H with ⟨bM, H⟩ | ⟨bM, H⟩
   ·
    replace H := in_ H; obtain ⟨ax, H⟩ := H; replace H := in_ H; obtain ⟨aN, H⟩ := H; obtain ⟨bj, A_13, H⟩ := bnd_ H; rcases bx_ bj with rfl | rfl
    ·
     replace H := bt_ H; have H' := A_ H; clear H; exact impl_DeskOk.z0
    ·
     replace H := bf_ H; obtain rfl := Option.some.inj H; exact impl_DeskOk.z0
   ·
    obtain ⟨bk, A_18, H⟩ := bnd_ H; rcases bx_ bk with rfl | rfl
    ·
     replace H := bt_ H; obtain rfl := Option.some.inj H; exact impl_DeskOk.z0
    ·
     replace H := bf_ H; obtain rfl := Option.some.inj H; exact impl_DeskOk.z0

/-! ### impl_copyPlace: function 34 -/
def impl_copyPlace.f (ac : List Int) (a0_1 : Int) (ad : List Int) : Option (List Int × Int × List Int) := (slices_Clone_int_int.f ac).bind fun az => ((slices_Clone_int_int.f ad).bind fun aA => (some (az, a0_1, aA)))
def impl_copyPlace.T1 : Bool × List (List Nat × List Nat) := (true, [([], []), ([0], [0]), ([1], [1]), ([], []), ([3], [3]), ([], []), ([5], [5]), ([6, 2], [6]), ([2, 4, 7], [2, 4, 7]), ([8, 7, 0, 1, 2, 3, 4, 5, 6, 7, 8], [8])])
def impl_copyPlace.B1 : List Nat := [0, 1, 3, 0, 8, 0, 32, 103, 255, 511]
theorem impl_copyPlace.tab1 : rtab .any (opsOf Tryd.f34 1) = impl_copyPlace.T1 := by kernel_rfl
theorem impl_copyPlace.bits1 : waitsOk impl_copyPlace.T1.2 impl_copyPlace.B1 = true := by kernel_rfl
theorem impl_copyPlace.calls (ai : Option Addr) (aj : Nat) (ac : List Int) (a0_1 : Int) (ak : Option Addr) (al : Nat) (ad : List Int) (r1 : List Int) (r2 : Int) (r3 : List Int) (w : World) (hr0_0 : Kd.C (Kd.int .i64) w ai ac.length ac) (hc0_0 : ac.length ≤ aj) (hr0_2 : Kd.C (Kd.int .i64) w ak ad.length ad) (hc0_2 : ad.length ≤ al) (h : impl_copyPlace.f ac a0_1 ad = some (r1, r2, r3)) :
  Calls Tryd.prog 34 #[.agg #[.slice ai ac.length aj, .int .i64 a0_1, .slice ak ad.length al]] w fun e w' => ∃ v0_ v2_ : Value, e = .returned (.agg #[v0_, .int .i64 r2, v2_]) ∧ Kd.R (Kd.int .i64) 3 w' w.heap.size (fun k_ => some k_ ≠ (v2_ : Value).ownBlock) v0_ r1 ∧ Kd.R (Kd.int .i64) 3 w' w.heap.size (fun k_ => some k_ ≠ (v0_ : Value).ownBlock) v2_ r3 ∧ Below w.heap.size w w' := by
 have hu31 := Tryd.underlying31; have st := ((ST.nil w).c hr0_0 hc0_0).c hr0_2 hc0_2; have s0 := st; have cl := cl_ st; have H := h; clear h; unfold impl_copyPlace.f at H; go_enter Tryd.func34, Tryd.ntmps34; obtain ⟨az, A_5, H⟩ := bnd_ H; obtain ⟨aA, A_10, H⟩ := bnd_ H; simp only [Option.some.injEq, Prod.mk.injEq] at H; obtain ⟨rfl, rfl, rfl⟩ := H; (try go_wp2_with (first | ((with_reducible refine gate_dst (N := 1) rfl ?_); refine al_ st ?_; clear st cl; intro g1 w_ st; have cl := cl_ st) | ((with_reducible refine gate_dst (N := 2) rfl ?_); refine al_ st ?_; clear st cl; intro g2 w_ st; have cl := cl_ st))); (all_goals (refine rg_ st [9] ?_; clear st cl; intro w_ st hs; have cl := cl_ st; refine with_tabW impl_copyPlace.tab1 impl_copyPlace.bits1 (fun HT_ HW_ => ?_); refine pv_ 0 ?_; refine pv_ 3 ?_; refine pv_ 5 ?_; refine tu_ 1 ?_; refine tu_ 4 ?_; refine tu_ 6 ?_; refine ov_ 2 (fun K hK => ?_); refine ca2_ (some 5) Tryd.func55 _ (slices_Clone_int_int.calls ai aj _ _ _ (gt_ st) (gt_ st) A_5.out) ?_; rintro e w_ ⟨v0, rfl, h0, hb⟩; refine ⟨_, rfl, ?_⟩; obtain ⟨B5_0, d5_0, rfl⟩ := Kd.R_slice h0; replace st := st.box (A := AR (Kd.int .i64) 3 w.heap.size (.slice B5_0 az.length d5_0) az) hb (st.mr h0); clear cl hb h0; have cl := cl_ st; refine hK.out _ _ st.en (fun hs => ?_); clear hK K; refine nr_ 5 ?_; refine ov_ 7 (fun K hK => ?_); refine ca2_ (some 10) Tryd.func55 _ (slices_Clone_int_int.calls ak al _ _ _ (gt_ st) (gt_ st) A_10.out) ?_; rintro e w_ ⟨v0, rfl, h0, hb⟩; refine ⟨_, rfl, ?_⟩; obtain ⟨B10_0, d10_0, rfl⟩ := Kd.R_slice h0; replace st := st.box (A := AR (Kd.int .i64) 3 w.heap.size (.slice B10_0 aA.length d10_0) aA) hb (st.mr h0); clear cl hb h0; have cl := cl_ st; refine hK.out _ _ st.en (fun hs => ?_); clear hK K; refine nr_ 10 ?_; refine pv_ 8 ?_; refine lv_ 9 (fun K hK => ?_); refine sp3_ st ?_; clear st cl; intro w_ st; have cl := cl_ st; refine hK.out _ _ ?_; clear hK K; refine done_ (done_of HT_.out (by kernel_rfl)) ?_; all_goals (try go_wp2_with (first | ((with_reducible refine gate_dst (N := 1) rfl ?_); refine al_ st ?_; clear st cl; intro g1 w_ st; have cl := cl_ st) | ((with_reducible refine gate_dst (N := 2) rfl ?_); refine al_ st ?_; clear st cl; intro g2 w_ st; have cl := cl_ st))))); refine bodyPost_ret (rcc_ st Tryd.underlying31) rfl ?_; exact ⟨.slice B5_0 az.length d5_0, .slice B10_0 aA.length d10_0, tw_, (tap_ st B5_0 az B10_0 aA).1, (tap_ st B5_0 az B10_0 aA).2, st.b⟩

end Go.Proofs.YtmodbemkflkbeaaDoor.MFnExactDeskRun
