/- For the law FnDeskDo: walks of the functions that it reaches: each call returns what the plain function beside it tells. The conditions stand in each statement. -/
import Derived.Test.YtfacponjomafcaaDoorV
import Derived.Test.YtfacponjomafcaaDoorMFnDeskDox0
import Derived.Test.YtfacponjomafcaaDoorMFnDeskDox14
namespace Go.Proofs.YtfacponjomafcaaDoor.MFnDeskDo
open Go.RowKit Go.Proofs.YtfacponjomafcaaDoorW.PrintWords Go.Proofs.YtfacponjomafcaaDoorW.PrintLast Go.Proofs.YtfacponjomafcaaDoorW.PrintMore
attribute [local go_sem] max2_int min2_int max_two min_two max_three min_three max_four min_four   -- for this text's walks alone
set_option linter.unusedVariables false
set_option linter.unusedSimpArgs false
set_option maxHeartbeats 8000000
set_option maxRecDepth 100000

/-! ### impl_after: function 38 -/
def impl_after.l0 : Nat → List (List Int) → List Int → List Int → Int → Int → Option (List Int)
 | 0, _, _, _, _, _ => none
 | k + 1, x1, x7, x12, x13, x14 => if x14 < x13 then (if 0 ≤ x14 then (if x14 < (x12.length : Int) then (if 0 ≤ (rd x12 x14) then (if (rd x12 x14) < (x1.length : Int) then ((impl_added.f k x7 (rd_L2 x1 (rd x12 x14))).bind fun aH => (impl_after.l0 k x1 aH x12 x13 (wrap64 (x14 + 1)))) else (none)) else (none)) else (none)) else (none)) else (some x7)
def impl_after.f (k : Nat) (l0 : List Int) (l1 : List (List Int)) (l2 : List Int) : Option (List Int) := (slices_Clone_int_int.f l0).bind fun aE => (impl_after.l0 k l1 aE l2 (l2.length : Int) 0)
theorem impl_after.mono_l : ∀ k, (∀ y0 y1 y2 y3 y4, LeO (impl_after.l0 k y0 y1 y2 y3 y4) (impl_after.l0 (k + 1) y0 y1 y2 y3 y4))
 | 0 => fun _ _ _ _ _ r h => by simp [impl_after.l0] at h
 | k + 1 => by
  have ih0 := impl_after.mono_l k
  ·
   intro y0 y1 y2 y3 y4
   unfold impl_after.l0
   repeat' (with_reducible first | exact ih0 _ _ _ _ _ | exact impl_added.mono _ _ _ | exact mr_ | exact mn_ | refine mi_ ?_ ?_ | refine mb_ ?_ (fun _ => ?_))
theorem impl_after.mono : ∀ a0 a1 a2 k, LeO (impl_after.f k a0 a1 a2) (impl_after.f (k + 1) a0 a1 a2) := by
 intro a0 a1 a2 k; have ih0 := impl_after.mono_l k; unfold impl_after.f; repeat' (with_reducible first | exact ih0 _ _ _ _ _ | exact impl_added.mono _ _ _ | exact mr_ | exact mn_ | refine mi_ ?_ ?_ | refine mb_ ?_ (fun _ => ?_))
theorem impl_after.calls (k : Nat) (A0 : Option Addr) (c0 : Nat) (l0 : List Int) (A1 : Option Addr) (c1 : Nat) (l1 : List (List Int)) (A2 : Option Addr) (c2 : Nat) (l2 : List Int) (r : List Int) (w : World) (hr0 : Kd.C (Kd.int .i64) w A0 l0.length l0) (hc0 : l0.length ≤ c0) (hr1 : Kd.C (Kd.slice 3 (Kd.int .i64)) w A1 l1.length l1) (hc1 : l1.length ≤ c1) (hr2 : Kd.C (Kd.int .i64) w A2 l2.length l2) (hc2 : l2.length ≤ c2) (h : impl_after.f k l0 l1 l2 = some r) :
  Calls Tryd.prog 38 #[.slice A0 l0.length c0, .slice A1 l1.length c1, .slice A2 l2.length c2] w fun e w' => ∃ v0_ : Value, e = .returned (v0_) ∧ Kd.R (Kd.int .i64) 3 w' w.heap.size (fun _ => True) v0_ r ∧ Below w.heap.size w w' := by
 have HR0 := A_ hr0; have HC0 := A_ hc0; clear hr0 hc0; have HR1 := A_ hr1; have HC1 := A_ hc1; clear hr1 hc1; have HR2 := A_ hr2; have HC2 := A_ hc2; clear hr2 hc2; have HB := A_ (Below.refl w.heap.size w); have H : ((slices_Clone_int_int.f l0).bind fun aE => (impl_after.l0 k l1 aE l2 (l2.length : Int) 0)) = some r := h; clear h; obtain ⟨aE, A4, H⟩ := bnd_ H; (try dsimp only at H); have H' := A_ H; clear H; go_enter Tryd.func38, Tryd.ntmps38; go_wp2_with (first | ((with_reducible refine gate_callee (f := 46) rfl ?_); refine gl_ (some 11) Tryd.func46 #[.slice A0 l0.length c0] ?_; (with_reducible refine (slices_Clone_int_int.calls _ _ l0 aE _ ?s1 ?s2 A4.out).mono ?_); (case s1 => exact td_); (case s2 => exact HC0.out); rintro e w5 ⟨bq, rfl, ho0, hb⟩; refine ⟨_, rfl, ?_⟩; have a8 := rx_ ho0 HB; replace HB := bs_ HB hb; (try clear hb ho0)))
 go_loopg [7, 14] k (fun kq v7 br w' => ∃ (ab : List Int) (ac : Int), br = .int .i64 ac ∧ Aside0 (impl_after.l0 kq l1 ab l2 (l2.length : Int) ac = some r) ∧ Aside0 (kq ≤ k) ∧ Aside0 (Kd.R (Kd.int .i64) 3 w' w.heap.size (fun _ => True) v7 ab) ∧ Aside0 (Below w.heap.size w w'))
 case atStart => exact ⟨(aE), (0), tx_, H', ⟨Nat.le_refl _⟩, ⟨rR_ a8.out⟩, ⟨(tb_ HB.out)⟩⟩
 case round =>
  clear H'; obtain ⟨ab, ac, rfl, HA, HK1, av, HB⟩ := hrel
  cases gk with
  | zero => exact absurd HA.out (by simp [impl_after.l0])
  | succ k1 =>
   have H := HA.out; clear HA; simp only [impl_after.l0] at H; replace H := it_ H; rcases H with ⟨aI, H⟩ | ⟨aI, H⟩
   ·
    replace H := in_ H; obtain ⟨bh, H⟩ := H; replace H := in_ H; obtain ⟨bi, H⟩ := H; replace H := in_ H; obtain ⟨bs, H⟩ := H; replace H := in_ H; obtain ⟨a9, H⟩ := H; obtain ⟨aH, A11, H⟩ := bnd_ H; (try dsimp only at H); have H' := A_ H; clear H; obtain ⟨p492, q492, ad492, e492, ap⟩ := a2_ (Kd.at_int HR2.out ac); cases e492; replace ap := (HB.out.cell (World.block_lt_of_cell? w _ ap)).trans ap; obtain ⟨p493, q493, ad493, aO, aP, e493, aq, hl493_0, hi493_0⟩ := a2_ (at_L2 HR1.out (rd l2 ac)); cases e493; replace aq := (HB.out.cell (World.block_lt_of_cell? w _ aq)).trans aq; have bg := A_ hi493_0; have aJ := A_ hl493_0; clear hi493_0 hl493_0; obtain ⟨bj, bk, bl⟩ := Kd.R_slice av.out; subst bl; go_wp2_with (first | ((with_reducible refine gate_callee (f := 60) rfl ?_); refine gl_ (some 23) Tryd.func60 #[.slice bj ab.length bk, .slice aO (rd_L2 l1 (rd l2 ac)).length aP] ?_; (with_reducible refine (impl_added.calls k1 _ _ ab _ _ (rd_L2 l1 (rd l2 ac)) aH _ ?s1 ?s2 ?s3 ?s4 A11.out).mono ?_); (case s1 => exact rc_ av); (case s2 => exact (ll_ av)); (case s3 => exact tD_); (case s4 => exact aJ.out); rintro e bE ⟨bu, rfl, ho0, hb⟩; refine ⟨_, rfl, ?_⟩; have bb := rx_ (nR_ ho0 (Kd.R_lt (rR_ av.out))) HB; replace av := A_ (Kd.R_elder' (rR_ av.out) (Kd.R_base ho0) hb); replace HB := bs_ HB hb; (try clear hb ho0)))
    go_roundg k1
    case measure => have := HK1.out; omega
    case rel => exact ⟨(aH), (wrap64 (ac + 1)), tx_, H', ⟨by have := HK1.out; omega⟩, ⟨by refine qR_ ?_; exact Kd.R_mono bb.out (fun _ hk => trivial)⟩, ⟨(tb_ HB.out)⟩⟩
   ·
    obtain rfl := Option.some.inj H; go_wp2; go_ret; exact ⟨_, tw_, by refine qR_ ?_; exact av.out, (tb_ HB.out)⟩

/-! ### impl_ruleWays: function 37 -/
def impl_ruleWays.l0 : Nat → List Int → List (List Int) → List Int → Int → List Int → Int → Int → Option (Int)
 | 0, _, _, _, _, _, _, _ => none
 | k + 1, x0, x1, x2, x7, x10, x11, x12 => if x12 < x11 then (if 0 ≤ x12 then (if x12 < (x10.length : Int) then (if x12 ≤ (x2.length : Int) then ((impl_after.f k x0 x1 (x2.take (x12 : Int).toNat)).bind fun ah => (if 0 ≤ (rd x10 x12) then (if (rd x10 x12) < (ah.length : Int) then (if (wrap64 (x7 * (mx 0 (rd ah (rd x10 x12))))) = 0 then (some 0) else (impl_ruleWays.l0 k x0 x1 x2 (wrap64 (x7 * (mx 0 (rd ah (rd x10 x12))))) x10 x11 (wrap64 (x12 + 1)))) else (none)) else (none))) else (none)) else (none)) else (none)) else (some x7)
def impl_ruleWays.f (k : Nat) (l0 : List Int) (l1 : List (List Int)) (l2 : List Int) : Option (Int) := impl_ruleWays.l0 k l0 l1 l2 1 l2 (l2.length : Int) 0
theorem impl_ruleWays.mono_l : ∀ k, (∀ y0 y1 y2 y3 y4 y5 y6, LeO (impl_ruleWays.l0 k y0 y1 y2 y3 y4 y5 y6) (impl_ruleWays.l0 (k + 1) y0 y1 y2 y3 y4 y5 y6))
 | 0 => fun _ _ _ _ _ _ _ r h => by simp [impl_ruleWays.l0] at h
 | k + 1 => by
  have ih0 := impl_ruleWays.mono_l k
  ·
   intro y0 y1 y2 y3 y4 y5 y6
   unfold impl_ruleWays.l0
   repeat' (with_reducible first | exact ih0 _ _ _ _ _ _ _ | exact impl_after.mono _ _ _ _ | exact mr_ | exact mn_ | refine mi_ ?_ ?_ | refine mb_ ?_ (fun _ => ?_))
theorem impl_ruleWays.mono : ∀ a0 a1 a2 k, LeO (impl_ruleWays.f k a0 a1 a2) (impl_ruleWays.f (k + 1) a0 a1 a2) := by
 intro a0 a1 a2 k; have ih0 := impl_ruleWays.mono_l k; unfold impl_ruleWays.f; repeat' (with_reducible first | exact ih0 _ _ _ _ _ _ _ | exact impl_after.mono _ _ _ _ | exact mr_ | exact mn_ | refine mi_ ?_ ?_ | refine mb_ ?_ (fun _ => ?_))
theorem impl_ruleWays.calls (k : Nat) (A0 : Option Addr) (c0 : Nat) (l0 : List Int) (A1 : Option Addr) (c1 : Nat) (l1 : List (List Int)) (A2 : Option Addr) (c2 : Nat) (l2 : List Int) (r : Int) (w : World) (hr0 : Kd.C (Kd.int .i64) w A0 l0.length l0) (hc0 : l0.length ≤ c0) (hr1 : Kd.C (Kd.slice 3 (Kd.int .i64)) w A1 l1.length l1) (hc1 : l1.length ≤ c1) (hr2 : Kd.C (Kd.int .i64) w A2 l2.length l2) (hc2 : l2.length ≤ c2) (h : impl_ruleWays.f k l0 l1 l2 = some r) :
  Calls Tryd.prog 37 #[.slice A0 l0.length c0, .slice A1 l1.length c1, .slice A2 l2.length c2] w fun e w' => e = .returned (.int .i64 r) ∧ Below w.heap.size w w' := by
 have HR0 := A_ hr0; have HC0 := A_ hc0; clear hr0 hc0; have HR1 := A_ hr1; have HC1 := A_ hc1; clear hr1 hc1; have HR2 := A_ hr2; have HC2 := A_ hc2; clear hr2 hc2; have HB := A_ (Below.refl w.heap.size w); have H : (impl_ruleWays.l0 k l0 l1 l2 1 l2 (l2.length : Int) 0) = some r := h; clear h; have H' := A_ H; clear H; go_enter Tryd.func37, Tryd.ntmps37; go_wp2
 go_loopg [7, 12] k (fun kq v7 bv w' => ∃ (ab : Int) (aa : Int), v7 = .int .i64 ab ∧ bv = .int .i64 aa ∧ Aside0 (impl_ruleWays.l0 kq l0 l1 l2 ab l2 (l2.length : Int) aa = some r) ∧ Aside0 (kq ≤ k) ∧ Aside0 (Below w.heap.size w w'))
 case atStart => exact ⟨(1), (0), tx_, tx_, H', ⟨Nat.le_refl _⟩, ⟨(tb_ HB.out)⟩⟩
 case round =>
  clear H'; obtain ⟨ab, aa, rfl, rfl, HA, HK1, HB⟩ := hrel
  cases gk with
  | zero => exact absurd HA.out (by simp [impl_ruleWays.l0])
  | succ k1 =>
   have H := HA.out; clear HA; simp only [impl_ruleWays.l0] at H; replace H := it_ H; rcases H with ⟨an, H⟩ | ⟨an, H⟩
   ·
    replace H := in_ H; obtain ⟨aw, H⟩ := H; replace H := in_ H; obtain ⟨aI, H⟩ := H; have bh := eq_true (od_ : 0 ≤ aa); replace H := i0_ H; obtain ⟨c8, H⟩ := H; have bi := eq_true c8; have bw : decide (aa ≤ (l2.length : Int)) = true := decide_eq_true c8; clear c8; obtain ⟨ah, A9, H⟩ := bnd_ H; (try dsimp only at H); replace H := in_ H; obtain ⟨a9, H⟩ := H; replace H := in_ H; obtain ⟨bp, H⟩ := H; obtain ⟨ar, ao⟩ : ∃ j_ : Int, (mx 0 (rd ah (rd l2 aa))) = j_ := ⟨_, rfl⟩
    replace H : (if (wrap64 (ab * (ar))) = 0 then (some 0) else (impl_ruleWays.l0 k1 l0 l1 l2 (wrap64 (ab * (ar))) l2 (l2.length : Int) (wrap64 (aa + 1)))) = some r := by first | (rw [ao] at H; exact H) | (simp only [ao] at H ⊢; exact H)
    (try rw [ao] at A9); have hji12_ : (if 0 < (rd ah (rd l2 aa)) then (rd ah (rd l2 aa)) else 0) = ar := ao; by_cases c13 : (wrap64 (ab * (ar))) = 0
    ·
     rw [if_pos c13] at H; have bc : ((wrap64 (ab * (ar))) == 0) = true := beq_iff_eq.mpr c13; have bd : ((wrap64 (ab * (ar))) != 0) = false := bne_eq_false_iff_eq.mpr c13; clear c13; obtain rfl := Option.some.inj H; obtain ⟨p497, q497, ad497, e497, ag⟩ := a2_ (Kd.at_int HR2.out aa); cases e497; replace ag := (HB.out.cell (World.block_lt_of_cell? w _ ag)).trans ag; obtain ⟨i014, hi014, _, hsz14, _⟩ := info_parts info3; obtain ⟨hcut14, hA14, hC14⟩ := print_take_of (P := Tryd.prog) (Value.int .i64) 0 23 3 .i64 Tryd.underlying23 hi014 hsz14 (some ad497) c2 l2 aa (od_) (od_) HC2.out; have HR498 := A_ (Kd.C_of_reads (h1 := fun _ => rfl) (hA14 _ (Kd.reads_of_C HR2.out))); have HC498 := A_ hC14; clear hA14 hC14 hi014 hsz14; go_wp2_with (first | ((with_reducible refine gate_callee (f := 38) rfl ?_); refine goesL_ (some 23) rfl rfl Tryd.func38 (by kernel_rfl) rfl #[.slice A0 l0.length c0, .slice A1 l1.length c1, .slice (some ad497) (l2.take (aa : Int).toNat).length c2] rfl (by (try simp only [List.map_toArray, List.map_cons, List.map_nil]); first | done | (rw [show (l2.take (aa : Int).toNat).length = aa.toNat from (by rw [List.length_take]; have h_ : (aa : Int) ≤ (l2.length : Int) := od_; omega)] <;> rfl) | rfl | (simp only [List.length_drop, List.length_take]; rfl)) ?_; (with_reducible refine (impl_after.calls k1 _ _ l0 _ _ l1 _ _ (l2.take (aa : Int).toNat) ah _ ?s1 ?s2 ?s3 ?s4 ?s5 ?s6 A9.out).mono ?_); (case s1 => exact tD_); (case s2 => exact HC0.out); (case s3 => exact tD_); (case s4 => exact HC1.out); (case s5 => exact tD_); (case s6 => exact HC498.out); rintro e bF ⟨bm, rfl, ho0, hb⟩; refine ⟨_, rfl, ?_⟩; have au := rx_ ho0 HB; replace HB := bs_ HB hb; (try clear hb ho0); obtain ⟨bx, bz, bn⟩ := Kd.R_slice au.out; subst bn; obtain ⟨p502, q502, ad502, e502, aK⟩ := a2_ (Kd.at_int (Kd.R_reads' au.out).2.2 (rd l2 aa)); cases e502)); go_ret; exact ⟨by first | rfl | (simp [errW_none, errW_some] <;> rfl) | (simp only [← ao]; first | rfl | (simp [errW_none, errW_some] <;> rfl)) | (simp [*, errW_none, errW_some] <;> rfl), (tb_ HB.out)⟩
    ·
     rw [if_neg c13] at H; have bc : ((wrap64 (ab * (ar))) == 0) = false := beq_eq_false_iff_ne.mpr c13; have bd : ((wrap64 (ab * (ar))) != 0) = true := bne_iff_ne.mpr c13; have H' := A_ H; clear H; obtain ⟨p497, q497, ad497, e497, ag⟩ := a2_ (Kd.at_int HR2.out aa); cases e497; replace ag := (HB.out.cell (World.block_lt_of_cell? w _ ag)).trans ag; obtain ⟨i017, hi017, _, hsz17, _⟩ := info_parts info3; obtain ⟨hcut17, hA17, hC17⟩ := print_take_of (P := Tryd.prog) (Value.int .i64) 0 23 3 .i64 Tryd.underlying23 hi017 hsz17 (some ad497) c2 l2 aa (od_) (od_) HC2.out; have HR498 := A_ (Kd.C_of_reads (h1 := fun _ => rfl) (hA17 _ (Kd.reads_of_C HR2.out))); have HC498 := A_ hC17; clear hA17 hC17 hi017 hsz17; go_wp2_with (first | ((with_reducible refine gate_callee (f := 38) rfl ?_); refine goesL_ (some 23) rfl rfl Tryd.func38 (by kernel_rfl) rfl #[.slice A0 l0.length c0, .slice A1 l1.length c1, .slice (some ad497) (l2.take (aa : Int).toNat).length c2] rfl (by (try simp only [List.map_toArray, List.map_cons, List.map_nil]); first | done | (rw [show (l2.take (aa : Int).toNat).length = aa.toNat from (by rw [List.length_take]; have h_ : (aa : Int) ≤ (l2.length : Int) := od_; omega)] <;> rfl) | rfl | (simp only [List.length_drop, List.length_take]; rfl)) ?_; (with_reducible refine (impl_after.calls k1 _ _ l0 _ _ l1 _ _ (l2.take (aa : Int).toNat) ah _ ?s1 ?s2 ?s3 ?s4 ?s5 ?s6 A9.out).mono ?_); (case s1 => exact tD_); (case s2 => exact HC0.out); (case s3 => exact tD_); (case s4 => exact HC1.out); (case s5 => exact tD_); (case s6 => exact HC498.out); rintro e bG ⟨bm, rfl, ho0, hb⟩; refine ⟨_, rfl, ?_⟩; have au := rx_ ho0 HB; replace HB := bs_ HB hb; (try clear hb ho0); obtain ⟨bB, bC, bo⟩ := Kd.R_slice au.out; subst bo; obtain ⟨p502, q502, ad502, e502, aK⟩ := a2_ (Kd.at_int (Kd.R_reads' au.out).2.2 (rd l2 aa)); cases e502))
     go_roundg k1
     case measure => have := HK1.out; omega
     case rel => exact ⟨(wrap64 (ab * (ar))), (wrap64 (aa + 1)), (by first | rfl | (simp; done) | (simp only [← ao] <;> (first | rfl | simp)) | (simp [*]; done)), tx_, H', ⟨by have := HK1.out; omega⟩, ⟨(tb_ HB.out)⟩⟩
   ·
    obtain rfl := Option.some.inj H; go_wp2; go_ret; exact ⟨tw_, (tb_ HB.out)⟩

/-! ### impl_UrnOk: function 33 -/
def impl_UrnOk.l0 : Nat → List Int → List Int → Int → Int → Option (Bool)
 | 0, _, _, _, _ => none
 | k + 1, x0, x5, x6, x7 => if x7 < x6 then (if 0 ≤ x7 then (if x7 < (x5.length : Int) then (if (rd x5 x7) < 0 then (some false) else (if (rd x5 x7) > 40 then (some false) else (impl_UrnOk.l0 k x0 x5 x6 (wrap64 (x7 + 1))))) else (none)) else (none)) else ((impl_coloursOk.f (x0.length : Int)).bind fun aQ => (some aQ))
def impl_UrnOk.f (k : Nat) (l0 : List Int) : Option (Bool) := impl_UrnOk.l0 k l0 l0 (l0.length : Int) 0
theorem impl_UrnOk.mono_l : ∀ k, (∀ y0 y1 y2 y3, LeO (impl_UrnOk.l0 k y0 y1 y2 y3) (impl_UrnOk.l0 (k + 1) y0 y1 y2 y3))
 | 0 => fun _ _ _ _ r h => by simp [impl_UrnOk.l0] at h
 | k + 1 => by
  have ih0 := impl_UrnOk.mono_l k
  ·
   intro y0 y1 y2 y3
   unfold impl_UrnOk.l0
   repeat' (with_reducible first | exact ih0 _ _ _ _ | exact mr_ | exact mn_ | refine mi_ ?_ ?_ | refine mb_ ?_ (fun _ => ?_))
theorem impl_UrnOk.mono : ∀ a0 k, LeO (impl_UrnOk.f k a0) (impl_UrnOk.f (k + 1) a0) := by
 intro a0 k; have ih0 := impl_UrnOk.mono_l k; unfold impl_UrnOk.f; repeat' (with_reducible first | exact ih0 _ _ _ _ | exact mr_ | exact mn_ | refine mi_ ?_ ?_ | refine mb_ ?_ (fun _ => ?_))
theorem impl_UrnOk.calls (k : Nat) (A0 : Option Addr) (c0 : Nat) (l0 : List Int) (r : Bool) (w : World) (hr0 : Kd.C (Kd.int .i64) w A0 l0.length l0) (hc0 : l0.length ≤ c0) (h : impl_UrnOk.f k l0 = some r) :
  Calls Tryd.prog 33 #[.slice A0 l0.length c0] w fun e w' => e = .returned (.bool r) ∧ Drawn0 w w' := by
 have HR0 := A_ hr0; have HC0 := A_ hc0; clear hr0 hc0; have H : (impl_UrnOk.l0 k l0 l0 (l0.length : Int) 0) = some r := h; clear h; have H' := A_ H; clear H; go_enter Tryd.func33, Tryd.ntmps33; go_wp2
 go_loopg [7] k (fun kq v7 w' => ∃ (ab : Int), v7 = .int .i64 ab ∧ Aside0 (impl_UrnOk.l0 kq l0 l0 (l0.length : Int) ab = some r) ∧ Aside0 (kq ≤ k) ∧ Drawn0 w w')
 case atStart => exact ⟨(0), tx_, H', ⟨Nat.le_refl _⟩, dz_⟩
 case round =>
  clear H'; obtain ⟨ab, rfl, HA, HK1, ⟨m1, rfl⟩⟩ := hrel
  cases gk with
  | zero => exact absurd HA.out (by simp [impl_UrnOk.l0])
  | succ k1 =>
   have H := HA.out; clear HA; simp only [impl_UrnOk.l0] at H; replace H := it_ H; rcases H with ⟨aR, H⟩ | ⟨aR, H⟩
   ·
    replace H := in_ H; obtain ⟨aU, H⟩ := H; replace H := in_ H; obtain ⟨an, H⟩ := H; replace H := it_ H; rcases H with ⟨aw, H⟩ | ⟨aw, H⟩
    ·
     obtain rfl := Option.some.inj H; obtain ⟨p503, q503, ad503, e503, ax⟩ := a2_ (Kd.at_int HR0.out ab); cases e503; go_wp2; go_ret; exact ⟨tx_, dz_⟩
    ·
     replace H := ig_ H; rcases H with ⟨aI, H⟩ | ⟨aI, H⟩
     ·
      obtain rfl := Option.some.inj H; obtain ⟨p503, q503, ad503, e503, ax⟩ := a2_ (Kd.at_int HR0.out ab); cases e503; go_wp2; go_ret; exact ⟨tx_, dz_⟩
     ·
      have H' := A_ H; clear H; obtain ⟨p503, q503, ad503, e503, ax⟩ := a2_ (Kd.at_int HR0.out ab); cases e503; go_wp2
      go_roundg k1
      case measure => have := HK1.out; omega
      case rel => exact ⟨(wrap64 (ab + 1)), tx_, H', ⟨by have := HK1.out; omega⟩, dz_⟩
   ·
    obtain ⟨aQ, A7, H⟩ := bnd_ H; (try dsimp only at H); obtain rfl := Option.some.inj H; go_wp2_with (first | ((with_reducible refine gate_callee (f := 34) rfl ?_); refine gl_ (some 20) Tryd.func34 #[.int .i64 (l0.length : Int)] ?_; (with_reducible refine (impl_coloursOk.calls (l0.length : Int) aQ _ A7.out).mono ?_); rintro e w' ⟨rfl, ⟨nd, rfl⟩⟩; refine ⟨_, rfl, ?_⟩)); go_ret; exact ⟨tx_, dz_⟩

/-! ### impl_StartOk: function 47 -/
def impl_StartOk.l0 : Nat → List Int → List Int → Int → Int → Option (Bool)
 | 0, _, _, _, _ => none
 | k + 1, x0, x5, x6, x7 => if x7 < x6 then (if 0 ≤ x7 then (if x7 < (x5.length : Int) then (if (rd x5 x7) > 10 then (some false) else (impl_StartOk.l0 k x0 x5 x6 (wrap64 (x7 + 1)))) else (none)) else (none)) else ((impl_UrnOk.f k x0).bind fun aV => (some aV))
def impl_StartOk.f (k : Nat) (l0 : List Int) : Option (Bool) := impl_StartOk.l0 k l0 l0 (l0.length : Int) 0
theorem impl_StartOk.mono_l : ∀ k, (∀ y0 y1 y2 y3, LeO (impl_StartOk.l0 k y0 y1 y2 y3) (impl_StartOk.l0 (k + 1) y0 y1 y2 y3))
 | 0 => fun _ _ _ _ r h => by simp [impl_StartOk.l0] at h
 | k + 1 => by
  have ih0 := impl_StartOk.mono_l k
  ·
   intro y0 y1 y2 y3
   unfold impl_StartOk.l0
   repeat' (with_reducible first | exact ih0 _ _ _ _ | exact impl_UrnOk.mono _ _ | exact mr_ | exact mn_ | refine mi_ ?_ ?_ | refine mb_ ?_ (fun _ => ?_))
theorem impl_StartOk.mono : ∀ a0 k, LeO (impl_StartOk.f k a0) (impl_StartOk.f (k + 1) a0) := by
 intro a0 k; have ih0 := impl_StartOk.mono_l k; unfold impl_StartOk.f; repeat' (with_reducible first | exact ih0 _ _ _ _ | exact impl_UrnOk.mono _ _ | exact mr_ | exact mn_ | refine mi_ ?_ ?_ | refine mb_ ?_ (fun _ => ?_))
theorem impl_StartOk.calls (k : Nat) (A0 : Option Addr) (c0 : Nat) (l0 : List Int) (r : Bool) (w : World) (hr0 : Kd.C (Kd.int .i64) w A0 l0.length l0) (hc0 : l0.length ≤ c0) (h : impl_StartOk.f k l0 = some r) :
  Calls Tryd.prog 47 #[.slice A0 l0.length c0] w fun e w' => e = .returned (.bool r) ∧ Drawn0 w w' := by
 have HR0 := A_ hr0; have HC0 := A_ hc0; clear hr0 hc0; have H : (impl_StartOk.l0 k l0 l0 (l0.length : Int) 0) = some r := h; clear h; have H' := A_ H; clear H; go_enter Tryd.func47, Tryd.ntmps47; go_wp2
 go_loopg [7] k (fun kq v7 w' => ∃ (ab : Int), v7 = .int .i64 ab ∧ Aside0 (impl_StartOk.l0 kq l0 l0 (l0.length : Int) ab = some r) ∧ Aside0 (kq ≤ k) ∧ Drawn0 w w')
 case atStart => exact ⟨(0), tx_, H', ⟨Nat.le_refl _⟩, dz_⟩
 case round =>
  clear H'; obtain ⟨ab, rfl, HA, HK1, ⟨m1, rfl⟩⟩ := hrel
  cases gk with
  | zero => exact absurd HA.out (by simp [impl_StartOk.l0])
  | succ k1 =>
   have H := HA.out; clear HA; simp only [impl_StartOk.l0] at H; replace H := it_ H; rcases H with ⟨aR, H⟩ | ⟨aR, H⟩
   ·
    replace H := in_ H; obtain ⟨aU, H⟩ := H; replace H := in_ H; obtain ⟨an, H⟩ := H; replace H := ig_ H; rcases H with ⟨aw, H⟩ | ⟨aw, H⟩
    ·
     obtain rfl := Option.some.inj H; obtain ⟨p505, q505, ad505, e505, aL⟩ := a2_ (Kd.at_int HR0.out ab); cases e505; go_wp2; go_ret; exact ⟨tx_, dz_⟩
    ·
     have H' := A_ H; clear H; obtain ⟨p505, q505, ad505, e505, aL⟩ := a2_ (Kd.at_int HR0.out ab); cases e505; go_wp2
     go_roundg k1
     case measure => have := HK1.out; omega
     case rel => exact ⟨(wrap64 (ab + 1)), tx_, H', ⟨by have := HK1.out; omega⟩, dz_⟩
   ·
    obtain ⟨aV, A6, H⟩ := bnd_ H; (try dsimp only at H); obtain rfl := Option.some.inj H; go_wp2_with (first | ((with_reducible refine gate_callee (f := 33) rfl ?_); refine gl_ (some 15) Tryd.func33 #[.slice A0 l0.length c0] ?_; (with_reducible refine (impl_UrnOk.calls k1 _ _ l0 aV _ ?s1 ?s2 A6.out).mono ?_); (case s1 => exact td_); (case s2 => exact HC0.out); rintro e w' ⟨rfl, ⟨nd, rfl⟩⟩; refine ⟨_, rfl, ?_⟩)); go_ret; exact ⟨tx_, dz_⟩

/-! ### impl_PlaceOk: function 25 -/
def impl_PlaceOk.j0 : Nat → Bool → List Int → Int → List Int → Option (Bool)
 | 0, _, _, _, _ => none
 | k + 1, x25, ay, aM, aN => if x25 = true then (some false) else ((impl_SameRule.f k (ay.length : Int) aM).bind fun be => ((impl_ruleWays.f k ay be aN).bind fun bf => (some (decide (bf > 0)))))
def impl_PlaceOk.f (k : Nat) (ad : List Int) (a0_1 : Int) (ae : List Int) : Option (Bool) := (impl_StartOk.f k ad).bind fun aW => (if aW = true then (if a0_1 < (-1) then (impl_PlaceOk.j0 k true ad a0_1 ae) else (if a0_1 > 3 then (impl_PlaceOk.j0 k true ad a0_1 ae) else ((impl_WordOk.f k (ad.length : Int) ae).bind fun aX => (impl_PlaceOk.j0 k (!aX) ad a0_1 ae)))) else (impl_PlaceOk.j0 k true ad a0_1 ae))
theorem impl_PlaceOk.mono_l : ∀ k, (∀ y0 y1 y2 y3, LeO (impl_PlaceOk.j0 k y0 y1 y2 y3) (impl_PlaceOk.j0 (k + 1) y0 y1 y2 y3))
 | 0 => fun _ _ _ _ r h => by simp [impl_PlaceOk.j0] at h
 | k + 1 => by
  have ih0 := impl_PlaceOk.mono_l k
  ·
   intro y0 y1 y2 y3
   unfold impl_PlaceOk.j0
   repeat' (with_reducible first | exact ih0 _ _ _ _ | exact impl_SameRule.mono _ _ _ | exact impl_StartOk.mono _ _ | exact impl_WordOk.mono _ _ _ | exact impl_ruleWays.mono _ _ _ _ | exact mr_ | exact mn_ | refine mi_ ?_ ?_ | refine mb_ ?_ (fun _ => ?_))
theorem impl_PlaceOk.mono : ∀ a0 a1 a2 k, LeO (impl_PlaceOk.f k a0 a1 a2) (impl_PlaceOk.f (k + 1) a0 a1 a2) := by
 intro a0 a1 a2 k; have ih0 := impl_PlaceOk.mono_l k; unfold impl_PlaceOk.f; repeat' (with_reducible first | exact ih0 _ _ _ _ | exact impl_SameRule.mono _ _ _ | exact impl_StartOk.mono _ _ | exact impl_WordOk.mono _ _ _ | exact impl_ruleWays.mono _ _ _ _ | exact mr_ | exact mn_ | refine mi_ ?_ ?_ | refine mb_ ?_ (fun _ => ?_))
def impl_PlaceOk.T3 : Bool × List (List Nat × List Nat) := (true, [([], []), ([0], [0]), ([], []), ([2], [2]), ([3], [3]), ([], []), ([5], [5]), ([4, 6], [4, 6]), ([], []), ([8], [8]), ([1, 7, 9, 7], [1, 7, 9]), ([10], [10]), ([11, 10, 0, 1, 2, 3, 4, 5, 6, 7, 8, 9, 10, 11], [11])])
def impl_PlaceOk.B3 : List Nat := [0, 1, 0, 4, 12, 0, 32, 124, 0, 256, 1023, 2047, 4095]
theorem impl_PlaceOk.tab3 : rtab .any (opsOf Tryd.f25 3) = impl_PlaceOk.T3 := by kernel_rfl
theorem impl_PlaceOk.bits3 : waitsOk impl_PlaceOk.T3.2 impl_PlaceOk.B3 = true := by kernel_rfl
theorem impl_PlaceOk.z0 {P_ : Prop} (h_ : P_ := by go_wp2_with (first | ((with_reducible refine gate_callee (f := 47) rfl ?_); refine ca_ (some 5) Tryd.func47 _ (impl_StartOk.calls k ai aj _ _ _ (gt_ st) (gt_ st) A_5.out) ?_; rintro e w_ ⟨rfl, hb⟩; refine ⟨_, rfl, ?_⟩; replace hb := hb.below; replace st := st.ev hb; clear cl hb; have cl := cl_ st) | ((with_reducible refine gate_callee (f := 36) rfl ?_); refine gate_guard (by rfl) ?_; dsimp only; refine ca_ (some 23) Tryd.func36 _ (impl_WordOk.calls k _ ak al _ _ _ (gt_ st) (gt_ st) A_23.out) ?_; rintro e w_ ⟨rfl, hb⟩; refine ⟨_, rfl, ?_⟩; replace hb := hb.below; replace st := st.ev hb; clear cl hb; have cl := cl_ st)); first | (go_meet; (case rel => exact ⟨_, (true), tx_, H', ⟨by first | omega | exact Nat.le_refl _⟩, st.en⟩)) | (go_meet; (case rel => exact ⟨_, (!aX), tx_, H', ⟨by first | omega | exact Nat.le_refl _⟩, st.en⟩))) : P_ := h_
theorem impl_PlaceOk.calls (k : Nat) (ai : Option Addr) (aj : Nat) (ad : List Int) (a0_1 : Int) (ak : Option Addr) (al : Nat) (ae : List Int) (r : Bool) (w : World) (hr0_0 : Kd.C (Kd.int .i64) w ai ad.length ad) (hc0_0 : ad.length ≤ aj) (hr0_2 : Kd.C (Kd.int .i64) w ak ae.length ae) (hc0_2 : ae.length ≤ al) (h : impl_PlaceOk.f k ad a0_1 ae = some r) :
  Calls Tryd.prog 25 #[.agg #[.slice ai ad.length aj, .int .i64 a0_1, .slice ak ae.length al]] w fun e w' => e = .returned (.bool r) ∧ Below w.heap.size w w' := by
 have hu25 := Tryd.underlying25; have st := ((ST.nil w).c hr0_0 hc0_0).c hr0_2 hc0_2; have s0 := st; have cl := cl_ st; have H := h; clear h; unfold impl_PlaceOk.f at H; go_enter Tryd.func25, Tryd.ntmps25; have HC3 := A_ H; clear H
 go_upto_region 1 with (first | ((with_reducible refine gate_dst (N := 1) rfl ?_); refine al_ st ?_; clear st cl; intro g1 w_ st; have cl := cl_ st))
 (try simp only [Act.put, sa_, sb_, sc_])
 go_cut [25] (fun bD wc => ∃ (kq : Nat) (az : Bool), bD = .bool az ∧ Aside0 (impl_PlaceOk.j0 kq az ad a0_1 ae = some r) ∧ Aside0 (kq ≤ k) ∧ ST w [CA (Kd.int .i64) w ai ad aj, CA (Kd.int .i64) w ak ae al] [Bx g1 #[.slice ai ad.length aj, .int .i64 a0_1, .slice ak ae.length al] 25] wc)
 case first =>
  have H := HC3.out; clear HC3; obtain ⟨aW, A_5, H⟩ := bnd_ H; rcases bx_ aW with rfl | rfl
  ·
   replace H := bt_ H; replace H := it_ H; rcases H with ⟨an, H⟩ | ⟨an, H⟩
   ·
    (first | rw [an] | (simp only [i64_w, i32_w]; rw [an]) | skip); have H' := A_ H; clear H; exact impl_PlaceOk.z0
   ·
    (first | rw [an] | (simp only [i64_w, i32_w]; rw [an]) | skip); replace H := ig_ H; rcases H with ⟨aw, H⟩ | ⟨aw, H⟩
    ·
     have H' := A_ H; clear H; exact impl_PlaceOk.z0
    ·
     obtain ⟨aX, A_23, H⟩ := bnd_ H; have H' := A_ H; clear H; exact impl_PlaceOk.z0
  ·
   replace H := bf_ H; have H' := A_ H; clear H; exact impl_PlaceOk.z0
 case rest =>
  clear HC3 st cl; obtain ⟨kq, az, rfl, HA, HJ2, st⟩ := hcut; have cl := cl_ st
  cases kq with
  | zero => exact absurd HA.out (by simp [impl_PlaceOk.j0])
  | succ kj2 =>
   have H := HA.out; clear HA; simp only [impl_PlaceOk.j0] at H; rcases bx_ az with rfl | rfl
   ·
    replace H := bt_ H; obtain rfl := Option.some.inj H; go_wp2; go_ret; exact ⟨tw_, st.b⟩
   ·
    replace H := bf_ H; obtain ⟨be, A_33, H⟩ := bnd_ H; obtain ⟨bf, A_36, H⟩ := bnd_ H; obtain rfl := Option.some.inj H; (try go_wp2); (all_goals (refine rg_ st [] ?_; clear st cl; intro w_ st hs; have cl := cl_ st; refine with_tabW impl_PlaceOk.tab3 impl_PlaceOk.bits3 (fun HT_ HW_ => ?_); refine pv_ 0 ?_; refine pv_ 2 ?_; refine pv_ 5 ?_; refine pv_ 8 ?_; refine tu_ 1 ?_; refine tu_ 3 ?_; refine tu_ 6 ?_; refine tu_ 9 ?_; refine pv_ 4 ?_; refine ov_ 7 (fun K hK => ?_); refine ca2_ (some 33) Tryd.func11 _ (impl_SameRule.calls kj2 _ _ _ _ A_33.out) ?_; rintro e w_ ⟨v0, rfl, h0, hb⟩; refine ⟨_, rfl, ?_⟩; obtain ⟨B33_0, d33_0, rfl⟩ := Kd.S_slice h0; replace st := st.p1 hb (st.ms h0); clear cl hb h0; have cl := cl_ st; refine hK.out _ _ st.en (fun hs => ?_); clear hK K; refine nr_ 33 ?_; refine ov_ 10 (fun K hK => ?_); refine ca2_ (some 36) Tryd.func37 _ (impl_ruleWays.calls kj2 ai aj _ B33_0 d33_0 _ ak al _ _ _ (gt_ st) (gt_ st) (gt_ st) (gt_ st) (gt_ st) (gt_ st) A_36.out) ?_; rintro e w_ ⟨rfl, hb⟩; refine ⟨_, rfl, ?_⟩; replace st := st.ev hb; clear cl hb; have cl := cl_ st; refine hK.out _ _ st.en (fun hs => ?_); clear hK K; refine nr_ 36 ?_; refine pv_ 11 ?_; refine pv_ 12 ?_; refine done_ (done_of HT_.out (by kernel_rfl)) ?_; all_goals (try go_wp2))); go_ret; exact ⟨tw_, st.b⟩

/-! ### impl_DeskOk: function 9 -/
def impl_DeskOk.l0 : Nat → List (S25) → Int → Int → List Int → Int → List Int → List (S25) → Option (Bool)
 | 0, _, _, _, _, _, _, _ => none
 | k + 1, x6, x7, x8, aA, aB, aC, aD => if x8 < x7 then (if 0 ≤ x8 then (if x8 < (x6.length : Int) then ((impl_PlaceOk.f k ((rd_T25 x6 x8).f0) ((rd_T25 x6 x8).f1) ((rd_T25 x6 x8).f2)).bind fun aY => (if aY = true then (impl_DeskOk.l0 k x6 x7 (wrap64 (x8 + 1)) aA aB aC aD) else (some false))) else (none)) else (none)) else ((impl_PlaceOk.f k aA aB aC).bind fun aZ => (if aZ = true then (some (decide ((aD.length : Int) ≤ 8))) else (some false)))
def impl_DeskOk.f (k : Nat) (ad : List Int) (a0_1 : Int) (ae : List Int) (af : List (S25)) : Option (Bool) := impl_DeskOk.l0 k af (af.length : Int) 0 ad a0_1 ae af
theorem impl_DeskOk.mono_l : ∀ k, (∀ y0 y1 y2 y3 y4 y5 y6, LeO (impl_DeskOk.l0 k y0 y1 y2 y3 y4 y5 y6) (impl_DeskOk.l0 (k + 1) y0 y1 y2 y3 y4 y5 y6))
 | 0 => fun _ _ _ _ _ _ _ r h => by simp [impl_DeskOk.l0] at h
 | k + 1 => by
  have ih0 := impl_DeskOk.mono_l k
  ·
   intro y0 y1 y2 y3 y4 y5 y6
   unfold impl_DeskOk.l0
   repeat' (with_reducible first | exact ih0 _ _ _ _ _ _ _ | exact impl_PlaceOk.mono _ _ _ _ | exact mr_ | exact mn_ | refine mi_ ?_ ?_ | refine mb_ ?_ (fun _ => ?_))
theorem impl_DeskOk.mono : ∀ a0 a1 a2 a3 k, LeO (impl_DeskOk.f k a0 a1 a2 a3) (impl_DeskOk.f (k + 1) a0 a1 a2 a3) := by
 intro a0 a1 a2 a3 k; have ih0 := impl_DeskOk.mono_l k; unfold impl_DeskOk.f; repeat' (with_reducible first | exact ih0 _ _ _ _ _ _ _ | exact impl_PlaceOk.mono _ _ _ _ | exact mr_ | exact mn_ | refine mi_ ?_ ?_ | refine mb_ ?_ (fun _ => ?_))
theorem impl_DeskOk.z0 {P_ : Prop} (h_ : P_ := by go_wp2_with (first | ((with_reducible refine gate_dst (N := 10) rfl ?_); obtain ⟨p_, q_, ad_, a4, a5, a6, a7, e_, x0, x1, x2, l0_, C0_, l2_, C2_⟩ := a2_ (at_T25 (gC_ s0 k25 aF af) am); replace x0 := cb_ st x0; replace x1 := cb_ st x1; replace x2 := cb_ st x2; replace st := st.c C0_ l0_; replace st := st.c C2_ l2_; have ix_ := ix3_ Tryd.underlying26 e_ p_ q_ (c := aG); clear e_; go_step) | ((with_reducible refine gate_dst (N := 4) rfl ?_); refine al_ st ?_; clear st cl; intro g4 w_ st; have cl := cl_ st) | ((with_reducible refine gate_store (p := 4) rfl ?_); refine so3_ st ?_; clear st cl; intro w_ st; have cl := cl_ st) | ((with_reducible refine gate_callee (f := 25) rfl ?_); refine ca_ (some 13) Tryd.func25 _ (impl_PlaceOk.calls k1 a4 a5 _ _ a6 a7 _ _ _ (gt_ st) (gt_ st) (gt_ st) (gt_ st) A_13.out) ?_; rintro e w_ ⟨rfl, hb⟩; refine ⟨_, rfl, ?_⟩; replace st := st.ev hb; clear cl hb; have cl := cl_ st) | ((with_reducible refine gate_callee (f := 25) rfl ?_); refine ca_ (some 18) Tryd.func25 _ (impl_PlaceOk.calls k1 ai aj _ _ ak al _ _ _ (gt_ st) (gt_ st) (gt_ st) (gt_ st) A_18.out) ?_; rintro e w_ ⟨rfl, hb⟩; refine ⟨_, rfl, ?_⟩; replace st := st.ev hb; clear cl hb; have cl := cl_ st)); first | (go_roundg k1; (case measure => have := HK1.out; omega); (case rel => exact ⟨(wrap64 (am + 1)), tx_, H', ⟨by have := HK1.out; omega⟩, st.en⟩)) | (go_ret; exact ⟨tw_, st.b⟩)) : P_ := h_
theorem impl_DeskOk.calls (k : Nat) (ai : Option Addr) (aj : Nat) (ad : List Int) (a0_1 : Int) (ak : Option Addr) (al : Nat) (ae : List Int) (aF : Option Addr) (aG : Nat) (af : List (S25)) (r : Bool) (w : World) (hr0_0 : Kd.C (Kd.int .i64) w ai ad.length ad) (hc0_0 : ad.length ≤ aj) (hr0_2 : Kd.C (Kd.int .i64) w ak ae.length ae) (hc0_2 : ae.length ≤ al) (hr0_3 : Kd.C k25 w aF af.length af) (hc0_3 : af.length ≤ aG) (h : impl_DeskOk.f k ad a0_1 ae af = some r) :
  Calls Tryd.prog 9 #[.agg #[.slice ai ad.length aj, .int .i64 a0_1, .slice ak ae.length al, .slice aF af.length aG]] w fun e w' => e = .returned (.bool r) ∧ Below w.heap.size w w' := by
 have hu28 := Tryd.underlying28; have hu25 := Tryd.underlying25; have st := (((ST.nil w).c hr0_0 hc0_0).c hr0_2 hc0_2).c hr0_3 hc0_3; have s0 := st; have cl := cl_ st; have H := h; clear h; unfold impl_DeskOk.f at H; go_enter Tryd.func9, Tryd.ntmps9; have H' := A_ H; clear H; go_wp2_with (first | ((with_reducible refine gate_dst (N := 1) rfl ?_); refine al_ st ?_; clear st cl; intro g1 w_ st; have cl := cl_ st))
 go_loopg [8] k (fun kq v8 w' => ∃ (am : Int), v8 = .int .i64 am ∧ Aside0 (impl_DeskOk.l0 kq af (af.length : Int) am ad a0_1 ae af = some r) ∧ Aside0 (kq ≤ k) ∧ ST w [CA (Kd.int .i64) w ai ad aj, CA (Kd.int .i64) w ak ae al, CA k25 w aF af aG] [Bx g1 #[.slice ai ad.length aj, .int .i64 a0_1, .slice ak ae.length al, .slice aF af.length aG] 28] w')
 case atStart => exact ⟨(0), tx_, H', ⟨Nat.le_refl _⟩, st.en⟩
 case round =>
  clear H' st cl; obtain ⟨am, rfl, HA, HK1, st⟩ := hrel; have cl := cl_ st
  cases gk with
  | zero => exact absurd HA.out (by simp [impl_DeskOk.l0])
  | succ k1 =>
   have H := HA.out; clear HA; simp only [impl_DeskOk.l0] at H; replace H := it_ H; rcases H with ⟨aU, H⟩ | ⟨aU, H⟩
   ·
    replace H := in_ H; obtain ⟨an, H⟩ := H; replace H := in_ H; obtain ⟨aw, H⟩ := H; obtain ⟨aY, A_13, H⟩ := bnd_ H; rcases bx_ aY with rfl | rfl
    ·
     replace H := bt_ H; have H' := A_ H; clear H; exact impl_DeskOk.z0
    ·
     replace H := bf_ H; obtain rfl := Option.some.inj H; exact impl_DeskOk.z0
   ·
    obtain ⟨aZ, A_18, H⟩ := bnd_ H; rcases bx_ aZ with rfl | rfl
    ·
     replace H := bt_ H; obtain rfl := Option.some.inj H; exact impl_DeskOk.z0
    ·
     replace H := bf_ H; obtain rfl := Option.some.inj H; exact impl_DeskOk.z0

end Go.Proofs.YtfacponjomafcaaDoor.MFnDeskDo
