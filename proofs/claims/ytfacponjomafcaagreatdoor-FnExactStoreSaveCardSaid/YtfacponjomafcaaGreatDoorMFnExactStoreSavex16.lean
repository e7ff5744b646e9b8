/- For the law FnExactStoreSave: walks of the functions that it reaches: each call returns what the plain function beside it tells. The conditions stand in each statement. -/
import Derived.Test.YtfacponjomafcaaGreatDoorV
import Derived.Test.YtfacponjomafcaaGreatDoorMFnExactStoreSavex0
import Derived.Test.YtfacponjomafcaaGreatDoorMFnExactStoreSavex15
namespace Go.Proofs.YtfacponjomafcaaGreatDoor.MFnExactStoreSave
open Go.RowKit Go.Proofs.YtfacponjomafcaaGreatDoorW.PrintWords Go.Proofs.YtfacponjomafcaaGreatDoorW.PrintLast Go.Proofs.YtfacponjomafcaaGreatDoorW.PrintMore
attribute [local go_sem] max2_int min2_int max_two min_two max_three min_three max_four min_four   -- for this text's walks alone
set_option linter.unusedVariables false
set_option linter.unusedSimpArgs false
set_option maxHeartbeats 8000000
set_option maxRecDepth 100000

/-! ### impl_ruleWays: function 35 -/
def impl_ruleWays.l0 : Nat → List Int → List (List Int) → List Int → Int → List Int → Int → Int → Option (Int)
 | 0, _, _, _, _, _, _, _ => none
 | k + 1, x0, x1, x2, x7, x10, x11, x12 => if x12 < x11 then (if 0 ≤ x12 then (if x12 < (x10.length : Int) then (if x12 ≤ (x2.length : Int) then ((impl_after.f k x0 x1 (x2.take (x12 : Int).toNat)).bind fun aj => (if 0 ≤ (rd x10 x12) then (if (rd x10 x12) < (aj.length : Int) then (if (wrap64 (x7 * (mx 0 (rd aj (rd x10 x12))))) = 0 then (some 0) else (impl_ruleWays.l0 k x0 x1 x2 (wrap64 (x7 * (mx 0 (rd aj (rd x10 x12))))) x10 x11 (wrap64 (x12 + 1)))) else (none)) else (none))) else (none)) else (none)) else (none)) else (some x7)
def impl_ruleWays.f (k : Nat) (l0 : List Int) (l1 : List (List Int)) (l2 : List Int) : Option (Int) := impl_ruleWays.l0 k l0 l1 l2 1 l2 (l2.length : Int) 0
theorem impl_ruleWays.calls (k : Nat) (A0 : Option Addr) (c0 : Nat) (l0 : List Int) (A1 : Option Addr) (c1 : Nat) (l1 : List (List Int)) (A2 : Option Addr) (c2 : Nat) (l2 : List Int) (r : Int) (w : World) (hr0 : Kd.C (Kd.int .i64) w A0 l0.length l0) (hc0 : l0.length ≤ c0) (hr1 : Kd.C (Kd.slice 3 (Kd.int .i64)) w A1 l1.length l1) (hc1 : l1.length ≤ c1) (hr2 : Kd.C (Kd.int .i64) w A2 l2.length l2) (hc2 : l2.length ≤ c2) (h : impl_ruleWays.f k l0 l1 l2 = some r) :
  Calls Tryz.prog 35 #[.slice A0 l0.length c0, .slice A1 l1.length c1, .slice A2 l2.length c2] w fun e w' => e = .returned (.int .i64 r) ∧ Below w.heap.size w w' := by
 have HR0 := A_ hr0; have HC0 := A_ hc0; clear hr0 hc0; have HR1 := A_ hr1; have HC1 := A_ hc1; clear hr1 hc1; have HR2 := A_ hr2; have HC2 := A_ hc2; clear hr2 hc2; have HB := A_ (Below.refl w.heap.size w); have H : (impl_ruleWays.l0 k l0 l1 l2 1 l2 (l2.length : Int) 0) = some r := h; clear h; have H' := A_ H; clear H; go_enter Tryz.func35, Tryz.ntmps35; go_wp2
 go_loopg [7, 12] k (fun kq v7 b4 w' => ∃ (al : Int) (aa : Int), v7 = .int .i64 al ∧ b4 = .int .i64 aa ∧ Aside0 (impl_ruleWays.l0 kq l0 l1 l2 al l2 (l2.length : Int) aa = some r) ∧ Aside0 (kq ≤ k) ∧ Aside0 (Below w.heap.size w w'))
 case atStart => exact ⟨(1), (0), tx_, tx_, H', ⟨Nat.le_refl _⟩, ⟨(tb_ HB.out)⟩⟩
 case round =>
  clear H'; obtain ⟨al, aa, rfl, rfl, HA, HK1, HB⟩ := hrel
  cases gk with
  | zero => exact absurd HA.out (by simp [impl_ruleWays.l0])
  | succ k1 =>
   have H := HA.out; clear HA; simp only [impl_ruleWays.l0] at H; replace H := it_ H; rcases H with ⟨bM, H⟩ | ⟨bM, H⟩
   ·
    replace H := in_ H; obtain ⟨b5, H⟩ := H; replace H := in_ H; obtain ⟨ah, H⟩ := H; have b6 := eq_true (od_ : 0 ≤ aa); replace H := i0_ H; obtain ⟨c8, H⟩ := H; have bj := eq_true c8; have b7 : decide (aa ≤ (l2.length : Int)) = true := decide_eq_true c8; clear c8; obtain ⟨aj, A9, H⟩ := bnd_ H; (try dsimp only at H); replace H := in_ H; obtain ⟨be, H⟩ := H; replace H := in_ H; obtain ⟨bx, H⟩ := H; obtain ⟨aq, ap⟩ : ∃ j_ : Int, (mx 0 (rd aj (rd l2 aa))) = j_ := ⟨_, rfl⟩
    replace H : (if (wrap64 (al * (aq))) = 0 then (some 0) else (impl_ruleWays.l0 k1 l0 l1 l2 (wrap64 (al * (aq))) l2 (l2.length : Int) (wrap64 (aa + 1)))) = some r := by first | (rw [ap] at H; exact H) | (simp only [ap] at H ⊢; exact H)
    (try rw [ap] at A9); have hji12_ : (if 0 < (rd aj (rd l2 aa)) then (rd aj (rd l2 aa)) else 0) = aq := ap; by_cases c13 : (wrap64 (al * (aq))) = 0
    ·
     rw [if_pos c13] at H; have bf : ((wrap64 (al * (aq))) == 0) = true := beq_iff_eq.mpr c13; have bz : ((wrap64 (al * (aq))) != 0) = false := bne_eq_false_iff_eq.mpr c13; clear c13; obtain rfl := Option.some.inj H; obtain ⟨p484, q484, ad484, e484, ag⟩ := a2_ (Kd.at_int HR2.out aa); cases e484; replace ag := (HB.out.cell (World.block_lt_of_cell? w _ ag)).trans ag; obtain ⟨i014, hi014, _, hsz14, _⟩ := info_parts info3; obtain ⟨hcut14, hA14, hC14⟩ := print_take_of (P := Tryz.prog) (Value.int .i64) 0 23 3 .i64 Tryz.underlying23 hi014 hsz14 (some ad484) c2 l2 aa (od_) (od_) HC2.out; have HR485 := A_ (Kd.C_of_reads (h1 := fun _ => rfl) (hA14 _ (Kd.reads_of_C HR2.out))); have HC485 := A_ hC14; clear hA14 hC14 hi014 hsz14; go_wp2_with (first | ((with_reducible refine gate_callee (f := 56) rfl ?_); refine goesL_ (some 23) rfl rfl Tryz.func56 (by kernel_rfl) rfl #[.slice A0 l0.length c0, .slice A1 l1.length c1, .slice (some ad484) (l2.take (aa : Int).toNat).length c2] rfl (by (try simp only [List.map_toArray, List.map_cons, List.map_nil]); first | done | (rw [show (l2.take (aa : Int).toNat).length = aa.toNat from (by rw [List.length_take]; have h_ : (aa : Int) ≤ (l2.length : Int) := od_; omega)] <;> rfl) | rfl | (simp only [List.length_drop, List.length_take]; rfl)) ?_; (with_reducible refine (impl_after.calls k1 _ _ l0 _ _ l1 _ _ (l2.take (aa : Int).toNat) aj _ ?s1 ?s2 ?s3 ?s4 ?s5 ?s6 A9.out).mono ?_); (case s1 => exact tD_); (case s2 => exact HC0.out); (case s3 => exact tD_); (case s4 => exact HC1.out); (case s5 => exact tD_); (case s6 => exact HC485.out); rintro e cj ⟨bN, rfl, ho0, hb⟩; refine ⟨_, rfl, ?_⟩; have au := rx_ ho0 HB; replace HB := bs_ HB hb; (try clear hb ho0); obtain ⟨b8, b9, bO⟩ := Kd.R_slice au.out; subst bO; obtain ⟨p489, q489, ad489, e489, aU⟩ := a2_ (Kd.at_int (Kd.R_reads' au.out).2.2 (rd l2 aa)); cases e489)); go_ret; exact ⟨by first | rfl | (simp [errW_none, errW_some, Option.map_none, Option.map_some] <;> rfl) | (simp only [← ap]; first | rfl | (simp [errW_none, errW_some, Option.map_none, Option.map_some] <;> rfl)) | (simp [*, errW_none, errW_some] <;> rfl), (tb_ HB.out)⟩
    ·
     rw [if_neg c13] at H; have bf : ((wrap64 (al * (aq))) == 0) = false := beq_eq_false_iff_ne.mpr c13; have bz : ((wrap64 (al * (aq))) != 0) = true := bne_iff_ne.mpr c13; have H' := A_ H; clear H; obtain ⟨p484, q484, ad484, e484, ag⟩ := a2_ (Kd.at_int HR2.out aa); cases e484; replace ag := (HB.out.cell (World.block_lt_of_cell? w _ ag)).trans ag; obtain ⟨i017, hi017, _, hsz17, _⟩ := info_parts info3; obtain ⟨hcut17, hA17, hC17⟩ := print_take_of (P := Tryz.prog) (Value.int .i64) 0 23 3 .i64 Tryz.underlying23 hi017 hsz17 (some ad484) c2 l2 aa (od_) (od_) HC2.out; have HR485 := A_ (Kd.C_of_reads (h1 := fun _ => rfl) (hA17 _ (Kd.reads_of_C HR2.out))); have HC485 := A_ hC17; clear hA17 hC17 hi017 hsz17; go_wp2_with (first | ((with_reducible refine gate_callee (f := 56) rfl ?_); refine goesL_ (some 23) rfl rfl Tryz.func56 (by kernel_rfl) rfl #[.slice A0 l0.length c0, .slice A1 l1.length c1, .slice (some ad484) (l2.take (aa : Int).toNat).length c2] rfl (by (try simp only [List.map_toArray, List.map_cons, List.map_nil]); first | done | (rw [show (l2.take (aa : Int).toNat).length = aa.toNat from (by rw [List.length_take]; have h_ : (aa : Int) ≤ (l2.length : Int) := od_; omega)] <;> rfl) | rfl | (simp only [List.length_drop, List.length_take]; rfl)) ?_; (with_reducible refine (impl_after.calls k1 _ _ l0 _ _ l1 _ _ (l2.take (aa : Int).toNat) aj _ ?s1 ?s2 ?s3 ?s4 ?s5 ?s6 A9.out).mono ?_); (case s1 => exact tD_); (case s2 => exact HC0.out); (case s3 => exact tD_); (case s4 => exact HC1.out); (case s5 => exact tD_); (case s6 => exact HC485.out); rintro e ck ⟨bN, rfl, ho0, hb⟩; refine ⟨_, rfl, ?_⟩; have au := rx_ ho0 HB; replace HB := bs_ HB hb; (try clear hb ho0); obtain ⟨ca, cb, bP⟩ := Kd.R_slice au.out; subst bP; obtain ⟨p489, q489, ad489, e489, aU⟩ := a2_ (Kd.at_int (Kd.R_reads' au.out).2.2 (rd l2 aa)); cases e489))
     go_roundg k1
     case measure => have := HK1.out; omega
     case rel => exact ⟨(wrap64 (al * (aq))), (wrap64 (aa + 1)), (by first | rfl | (simp; done) | (simp only [← ap] <;> (first | rfl | simp)) | (simp [*]; done)), tx_, H', ⟨by have := HK1.out; omega⟩, ⟨(tb_ HB.out)⟩⟩
   ·
    obtain rfl := Option.some.inj H; go_wp2; go_ret; exact ⟨tw_, (tb_ HB.out)⟩

/-! ### impl_SameRule: function 36 -/
mutual
def impl_SameRule.j0 : Nat → Int → Int → Bool → Option ((List (List Int)))
 | 0, _, _, _ => none
 | k + 1, x0, x1, x18 => if x18 = true then (some ([] : List (List Int))) else (impl_SameRule.l0 k x0 x1 (([] : List (List Int))) x0 0)
def impl_SameRule.l0 : Nat → Int → Int → List (List Int) → Int → Int → Option ((List (List Int)))
 | 0, _, _, _, _, _ => none
 | k + 1, x0, x1, x5, x20, x21 => if x21 < x20 then (if 0 ≤ x0 then (if (x0 : Int).toNat ≤ 35184372088832 then ((some (List.replicate (x0 : Int).toNat 0 : List Int)).bind fun ai => (if 0 ≤ x21 then (if x21 < (ai.length : Int) then (if x5.length < 5864062014805 then (impl_SameRule.l0 k x0 x1 (x5 ++ [(ai.set (x21 : Int).toNat x1)]) x20 (wrap64 (x21 + 1))) else (none)) else (none)) else (none))) else (none)) else (none)) else (some x5)
end
def impl_SameRule.f (k : Nat) (a0 : Int) (a1 : Int) : Option ((List (List Int))) := (impl_coloursOk.f a0).bind fun aH => (if aH = true then (if a1 < (-1) then (impl_SameRule.j0 k a0 a1 true) else (impl_SameRule.j0 k a0 a1 (decide (a1 > 3)))) else (impl_SameRule.j0 k a0 a1 true))
theorem impl_SameRule.mono_l : ∀ k, (∀ y0 y1 y2, LeO (impl_SameRule.j0 k y0 y1 y2) (impl_SameRule.j0 (k + 1) y0 y1 y2)) ∧ (∀ y0 y1 y2 y3 y4, LeO (impl_SameRule.l0 k y0 y1 y2 y3 y4) (impl_SameRule.l0 (k + 1) y0 y1 y2 y3 y4))
 | 0 => ⟨fun _ _ _ r h => by simp [impl_SameRule.j0] at h, fun _ _ _ _ _ r h => by simp [impl_SameRule.l0] at h⟩
 | k + 1 => by
  obtain ⟨ih0, ih1⟩ := impl_SameRule.mono_l k
  refine ⟨?_, ?_⟩
  ·
   intro y0 y1 y2
   unfold impl_SameRule.j0
   repeat' (with_reducible first | exact ih0 _ _ _ | exact ih1 _ _ _ _ _ | exact mr_ | exact mn_ | refine mi_ ?_ ?_ | refine mb_ ?_ (fun _ => ?_))
  ·
   intro y0 y1 y2 y3 y4
   unfold impl_SameRule.l0
   repeat' (with_reducible first | exact ih0 _ _ _ | exact ih1 _ _ _ _ _ | exact mr_ | exact mn_ | refine mi_ ?_ ?_ | refine mb_ ?_ (fun _ => ?_))
theorem impl_SameRule.mono : ∀ a0 a1 k, LeO (impl_SameRule.f k a0 a1) (impl_SameRule.f (k + 1) a0 a1) := by
 intro a0 a1 k; obtain ⟨ih0, ih1⟩ := impl_SameRule.mono_l k; unfold impl_SameRule.f; repeat' (with_reducible first | exact ih0 _ _ _ | exact ih1 _ _ _ _ _ | exact mr_ | exact mn_ | refine mi_ ?_ ?_ | refine mb_ ?_ (fun _ => ?_))
theorem impl_SameRule.calls (k : Nat) (a0 : Int) (a1 : Int) (r : List (List Int)) (w : World) (h : impl_SameRule.f k a0 a1 = some r) :
  Calls Tryz.prog 36 #[.int .i64 a0, .int .i64 a1] w fun e w' => ∃ v0_ : Value, e = .returned (v0_) ∧ Kd.S (Kd.slice 3 (Kd.int .i64)) 23 w' w.heap.size (fun _ => True) v0_ r ∧ Below w.heap.size w w' := by
 have HB := A_ (Below.refl w.heap.size w); have H : ((impl_coloursOk.f a0).bind fun aH => (if aH = true then (if a1 < (-1) then (impl_SameRule.j0 k a0 a1 true) else (impl_SameRule.j0 k a0 a1 (decide (a1 > 3)))) else (impl_SameRule.j0 k a0 a1 true))) = some r := h; clear h; have HC3 := A_ H; clear H; go_enter Tryz.func36, Tryz.ntmps36
 go_upto_region 1 with (fail)
 go_cut [18] (fun cc wc => ∃ (kq : Nat) (az : Bool), cc = .bool az ∧ Aside0 (impl_SameRule.j0 kq a0 a1 az = some r) ∧ Aside0 (kq ≤ k) ∧ Aside0 (Below w.heap.size w wc))
 case first =>
  have H := HC3.out; clear HC3; obtain ⟨aH, A4, H⟩ := bnd_ H; (try dsimp only at H); by_cases c5 : aH = true
  ·
   subst c5; replace H : (if a1 < (-1) then (impl_SameRule.j0 k a0 a1 true) else (impl_SameRule.j0 k a0 a1 (decide (a1 > 3)))) = some r := by rw [if_pos rfl] at H; exact H
   replace H := it_ H; rcases H with ⟨ah, H⟩ | ⟨ah, H⟩
   ·
    (first | rw [ah] | (simp only [i64_w, i32_w]; rw [ah]) | skip); have H' := A_ H; clear H; go_wp2_with (first | ((with_reducible refine gate_callee (f := 45) rfl ?_); refine gl_ (some 9) Tryz.func45 #[.int .i64 a0] ?_; (with_reducible refine (impl_coloursOk.calls a0 true _ A4.out).mono ?_); rintro e w' ⟨rfl, ⟨nd, rfl⟩⟩; refine ⟨_, rfl, ?_⟩)); go_meet
    case rel => exact ⟨_, (true), tx_, H', ⟨by first | omega | exact Nat.le_refl _⟩, ⟨(tb_ HB.out)⟩⟩
   ·
    (first | rw [ah] | (simp only [i64_w, i32_w]; rw [ah]) | skip); have H' := A_ H; clear H; go_wp2_with (first | ((with_reducible refine gate_callee (f := 45) rfl ?_); refine gl_ (some 9) Tryz.func45 #[.int .i64 a0] ?_; (with_reducible refine (impl_coloursOk.calls a0 true _ A4.out).mono ?_); rintro e w' ⟨rfl, ⟨nd, rfl⟩⟩; refine ⟨_, rfl, ?_⟩)); go_meet
    case rel => exact ⟨_, (decide (a1 > 3)), tx_, H', ⟨by first | omega | exact Nat.le_refl _⟩, ⟨(tb_ HB.out)⟩⟩
  ·
   replace c5 := Bool.eq_false_iff.mpr c5; subst c5; replace H : (impl_SameRule.j0 k a0 a1 true) = some r := by rw [if_neg (show ¬ (false = true) by decide)] at H; exact H
   have H' := A_ H; clear H; go_wp2_with (first | ((with_reducible refine gate_callee (f := 45) rfl ?_); refine gl_ (some 9) Tryz.func45 #[.int .i64 a0] ?_; (with_reducible refine (impl_coloursOk.calls a0 false _ A4.out).mono ?_); rintro e w' ⟨rfl, ⟨nd, rfl⟩⟩; refine ⟨_, rfl, ?_⟩)); go_meet
   case rel => exact ⟨_, (true), tx_, H', ⟨by first | omega | exact Nat.le_refl _⟩, ⟨(tb_ HB.out)⟩⟩
 case rest =>
  clear HC3; obtain ⟨kq, az, rfl, HA, HJ2, HB⟩ := hcut
  cases kq with
  | zero => exact absurd HA.out (by simp [impl_SameRule.j0])
  | succ kj2 =>
   have H := HA.out; clear HA; simp only [impl_SameRule.j0] at H; by_cases c7 : az = true
   ·
    subst c7; replace H : (some ([] : List (List Int))) = some r := by rw [if_pos rfl] at H; exact H
    obtain rfl := Option.some.inj H; go_wp2; go_ret; exact ⟨_, tw_, by first | exact Kd.S_nil _ _ _ _ _ | exact Kd.N_nil _ _ _ _ _ | exact Kd.V_nil _ _ _ _ _ | exact Kd.Q_nil _ _ _ _ _ | exact Kd.R_nil _ _ _ _ _, (tb_ HB.out)⟩
   ·
    replace c7 := Bool.eq_false_iff.mpr c7; subst c7; replace H : (impl_SameRule.l0 kj2 a0 a1 (([] : List (List Int))) a0 0) = some r := by rw [if_neg (show ¬ (false = true) by decide)] at H; exact H
    obtain ⟨bB, aI⟩ : ∃ y_ : List (List Int), y_ = (([] : List (List Int))) := ⟨_, rfl⟩
    replace H : (impl_SameRule.l0 kj2 a0 a1 bB a0 0) = some r := yq_ aI H; have bg := A_ aI; clear aI; have H' := A_ H; clear H; go_wp2_with (first | ((with_reducible refine gate_dst (N := 19) rfl ?_); refine Kd.S_lit (Kd.slice 3 (Kd.int .i64)) _ 23 ?hg (N := 19) ?hd (xs := ([] : List (List Int))) (inner := []) (ok := fun _ => True) (okp := fun _ => True) ?hr ?hp (fun _ hk => hk) trivial (Below.refl _ _) (Nat.le_refl _) (by simp) ?_; (case hd => rfl); (case hg => rfl); (case hr => first | (go_simp; done) | (go_simp; rfl)); (case hp => exact (Reps.none _ _)); intro cd w8 ho9 hb hg_ hnew_; clear hg_ hnew_; (first | rw [← bg.out] at ho9 | (simp only [Int.reduceToNat] at ho9; rw [← bg.out] at ho9)); have bC := A_ (Kd.S_lower ho9 (below_size (tb_ HB.out))); replace HB := bs_ HB hb; clear hb ho9))
    go_loopg [5, 21] kj2 (fun kq v5 ce w' => ∃ (am : List (List Int)) (ae : Int), ce = .int .i64 ae ∧ Aside0 (impl_SameRule.l0 kq a0 a1 am a0 ae = some r) ∧ Aside0 (kq ≤ kj2) ∧ Aside0 (Kd.S (Kd.slice 3 (Kd.int .i64)) 23 w' w.heap.size (fun _ => True) v5 am) ∧ Aside0 (Below w.heap.size w w'))
    case atStart => exact ⟨(bB), (0), tx_, H', ⟨Nat.le_refl _⟩, ⟨rS_ bC.out⟩, ⟨(tb_ HB.out)⟩⟩
    case round =>
     clear H'; (try clear c7); obtain ⟨am, ae, rfl, HA, HK2, ar, HB⟩ := hrel
     cases gk with
     | zero => exact absurd HA.out (by simp [impl_SameRule.l0])
     | succ k2 =>
      have H := HA.out; clear HA; simp only [impl_SameRule.l0] at H; replace H := it_ H; rcases H with ⟨be, H⟩ | ⟨be, H⟩
      ·
       replace H := i0_ H; obtain ⟨c11, H⟩ := H; have bx := eq_true c11; have bW : decide (0 ≤ a0) = true := decide_eq_true c11; clear c11; replace H := i0_ H; obtain ⟨c12, H⟩ := H; have bX := eq_true c12; have bZ : decide ((a0 : Int).toNat ≤ 35184372088832) = true := decide_eq_true c12; clear c12; obtain ⟨ai, aJ⟩ : ∃ y_ : List Int, y_ = (List.replicate (a0 : Int).toNat 0) := ⟨_, rfl⟩
       replace H : (if 0 ≤ ae then (if ae < (ai.length : Int) then (if am.length < 5864062014805 then (impl_SameRule.l0 k2 a0 a1 (am ++ [(ai.set (ae : Int).toNat a1)]) a0 (wrap64 (ae + 1))) else (none)) else (none)) else (none)) = some r := yq_ aJ H; have bh := A_ aJ; clear aJ; replace H := in_ H; obtain ⟨bf, H⟩ := H; replace H := in_ H; obtain ⟨b0, H⟩ := H; obtain ⟨aV, aK⟩ : ∃ y_ : List Int, y_ = (ai.set (ae : Int).toNat a1) := ⟨_, rfl⟩
       replace H : (if am.length < 5864062014805 then (impl_SameRule.l0 k2 a0 a1 (am ++ [aV]) a0 (wrap64 (ae + 1))) else (none)) = some r := yq_ aK H; have bD := A_ aK; clear aK; replace H := il_ H; obtain ⟨bE, H⟩ := H; obtain ⟨bF, aM⟩ : ∃ y_ : List (List Int), y_ = (am ++ [aV]) := ⟨_, rfl⟩
       replace H : (impl_SameRule.l0 k2 a0 a1 bF a0 (wrap64 (ae + 1))) = some r := yq_ aM H; have bG := A_ aM; clear aM; have H' := A_ H; clear H; go_wp2_with (first | ((with_reducible refine gate_dst (N := 25) rfl ?_); refine Kd.R_make (Kd.int .i64) _ 3 rfl (N := 25) rfl 23 _ _ rfl a0 rfl rfl Tryz.underlying23 (.int .i64 0) 8 info3 rfl (by decide) (by omega) 0 (ok := fun _ => True) (okp := fun _ => True) rfl (fun _ hk => hk) trivial (od_) (Nat.le_trans (Nat.mul_le_mul_right _ (od_ : a0.toNat ≤ 35184372088832)) (by omega)) (Below.refl _ _) (Nat.le_refl _) ?_; intro cf bQ ho18 hb hg_ hnew_; clear hg_ hnew_; (first | rw [← bh.out] at ho18 | (simp only [Int.reduceToNat] at ho18; rw [← bh.out] at ho18)); replace ar := A_ (Kd.S_elder' (rS_ ar.out) (Kd.R_base ho18) hb); have ak := rx_ ho18 HB; replace HB := bs_ HB hb; clear hb ho18; have p15 : 0 ≤ (ae : Int) := od_; have q15 : (ae : Int) < ((ai.length : Int) : Int) := od_; obtain ⟨go15, aN, bH, bI, gl15, cl15, HG15⟩ := Kd.R_form ak.out (by omega); (first | cases bH | (injection bH with ea_ en_ ec_; (first | subst ea_ | (injection ea_ with ea_; subst ea_)); subst ec_; clear en_)); have GB15 := A_ bI; have GG15 := A_ HG15; clear bI gl15 HG15; obtain ⟨bR, hf15_0⟩ := Kd.R_celln 0 ak.out (ae : Int) p15 q15; replace p15 := eq_true p15; replace q15 := eq_true q15; obtain ⟨hy19_, hz19_⟩ := Kd.R_celln 0 ak.out (ae : Int) (od_) (od_); have HP19 := Kd.R_putg ak.out (ae : Int) a1) | ((with_reducible refine gate_store (t := 3) (p := 29) rfl ?_); refine store_event (t := 3) (p := 29) (v := ?vo_w20) (w1 := (bQ.setCell ⟨go15, (ae : Int).toNat, none⟩ (.int .i64 a1))) ?hg ?ho ?hn ?hr ?_; (case ho => rfl); (case hg => rfl); (case hn => rfl); (case hr => first | (go_simp; done) | (go_simp; rfl)); intro bS hw; have hg : bQ.grownBy bS (some go15) := (by rw [hw]; exact HP19.2); have hp_ : Kd.R (Kd.int .i64) 3 bS w.heap.size (fun _ => True) (.slice (some ⟨go15, 0, none⟩) ai.length aN) aV := (by rw [hw, bD.out]; exact HP19.1); clear HP19; replace ar := A_ (Kd.S_after (v := (.slice (some ⟨go15, 0, none⟩) ai.length aN)) (v1 := (.slice (some ⟨go15, 0, none⟩) ai.length aN)) (ok := (fun _ => True)) (rS_ ar.out) hg (.inl rfl)); replace ak := A_ (hp_); replace HB := A_ ((by rw [hw]; exact below_set (HB.out) GB15.out : Below w.heap.size w bS)); clear hg hw hp_) | ((with_reducible refine gate_builtin (b := .append) (xs := #[.tmp 30, .tmp 32]) rfl ?_); at_builtin; refine Kd.S_append (Kd.slice 3 (Kd.int .i64)) (w0 := w) w.heap.size rfl (.tmp 30) (.tmp 32) 65 23 (.slice none 0 0) 24 rfl Tryz.underlying65 info23 rfl (by decide) (by omega) u5 am aV [.slice (some ⟨go15, 0, none⟩) ai.length aN] (fun _ => True) (fun k_ => some k_ = (.slice (some ⟨go15, 0, none⟩) ai.length aN : Value).ownBlock) rfl rfl ?aP (fun k_ hk_ => ((Kd.R_mono (ok' := fun k_ => ((fun _ => True)) k_ ∧ some k_ ≠ (u5 : Value).ownBlock) (Kd.R_apart' (ak.out) (Kd.S_typed ar.out) (by decide)) (fun k_ hk => ⟨trivial, hk.2⟩))).1 k_ hk_.symm) ?aF ?aO ?aB ?aS ?aL ?_; (case aP => exact Kd.M_row (Kd.R_mono (Kd.R_tight rfl (Kd.R_mono (ok' := fun k_ => ((fun _ => True)) k_ ∧ some k_ ≠ (u5 : Value).ownBlock) (Kd.R_apart' (ak.out) (Kd.S_typed ar.out) (by decide)) (fun k_ hk => ⟨trivial, hk.2⟩))) (fun _ h_ => h_))); (case aB => exact (tb_ HB.out)); (case aF => exact (fun _ _ => trivial)); (case aO => exact (by refine qS_ ?_; exact Kd.S_mono ar.out (fun k_ hk => ⟨trivial, fun e_ => hk.2 e_⟩))); (case aS => exact (below_size (tb_ HB.out))); (case aL => have := bE.out; omega); intro cg cl ho hb hg hat; rw [← bG.out] at ho; replace HB := A_ (hb); have bJ := A_ (ho); clear ar ak ho hb hg hat))
       go_roundg k2
       case measure => have := HJ2.out; have := HK2.out; omega
       case rel => exact ⟨(bF), (wrap64 (ae + 1)), tx_, H', ⟨by have := HJ2.out; have := HK2.out; omega⟩, ⟨rS_ bJ.out⟩, ⟨(tb_ HB.out)⟩⟩
      ·
       obtain rfl := Option.some.inj H; go_wp2; go_ret; exact ⟨_, tw_, by refine qS_ ?_; exact ar.out, (tb_ HB.out)⟩

/-! ### impl_PlaceOk: function 20 -/
def impl_PlaceOk.j0 : Nat → Bool → List Int → Int → List Int → Option (Bool)
 | 0, _, _, _, _ => none
 | k + 1, x25, aA, aW, aX => if x25 = true then (some false) else ((impl_SameRule.f k (aA.length : Int) aW).bind fun ay => ((impl_ruleWays.f k aA ay aX).bind fun aQ => (some (decide (aQ > 0)))))
def impl_PlaceOk.f (k : Nat) (ac : List Int) (a0_1 : Int) (af : List Int) : Option (Bool) := (impl_StartOk.f k ac).bind fun aR => (if aR = true then (if a0_1 < (-1) then (impl_PlaceOk.j0 k true ac a0_1 af) else (if a0_1 > 3 then (impl_PlaceOk.j0 k true ac a0_1 af) else ((impl_WordOk.f k (ac.length : Int) af).bind fun av => (impl_PlaceOk.j0 k (!av) ac a0_1 af)))) else (impl_PlaceOk.j0 k true ac a0_1 af))
def impl_PlaceOk.T3 : Bool × List (List Nat × List Nat) := (true, [([], []), ([0], [0]), ([], []), ([2], [2]), ([3], [3]), ([], []), ([5], [5]), ([4, 6], [4, 6]), ([], []), ([8], [8]), ([1, 7, 9, 7], [1, 7, 9]), ([10], [10]), ([11, 10, 0, 1, 2, 3, 4, 5, 6, 7, 8, 9, 10, 11], [11])])
def impl_PlaceOk.B3 : List Nat := [0, 1, 0, 4, 12, 0, 32, 124, 0, 256, 1023, 2047, 4095]
theorem impl_PlaceOk.tab3 : rtab .any (opsOf Tryz.f20 3) = impl_PlaceOk.T3 := by kernel_rfl
theorem impl_PlaceOk.bits3 : waitsOk impl_PlaceOk.T3.2 impl_PlaceOk.B3 = true := by kernel_rfl
theorem impl_PlaceOk.calls (k : Nat) (an : Option Addr) (ao : Nat) (ac : List Int) (a0_1 : Int) (aE : Option Addr) (aG : Nat) (af : List Int) (r : Bool) (w : World) (hr0_0 : Kd.C (Kd.int .i64) w an ac.length ac) (hc0_0 : ac.length ≤ ao) (hr0_2 : Kd.C (Kd.int .i64) w aE af.length af) (hc0_2 : af.length ≤ aG) (h : impl_PlaceOk.f k ac a0_1 af = some r) :
  Calls Tryz.prog 20 #[.agg #[.slice an ac.length ao, .int .i64 a0_1, .slice aE af.length aG]] w fun e w' => e = .returned (.bool r) ∧ Below w.heap.size w w' := by
 have hu25 := Tryz.underlying25; have b1 := A_ hr0_0; have aw := A_ hc0_0; clear hr0_0 hc0_0; have bK := A_ hr0_2; have bi := A_ hc0_2; clear hr0_2 hc0_2; have HB := A_ (Below.refl w.heap.size w); have H : ((impl_StartOk.f k ac).bind fun aR => (if aR = true then (if a0_1 < (-1) then (impl_PlaceOk.j0 k true ac a0_1 af) else (if a0_1 > 3 then (impl_PlaceOk.j0 k true ac a0_1 af) else ((impl_WordOk.f k (ac.length : Int) af).bind fun av => (impl_PlaceOk.j0 k (!av) ac a0_1 af)))) else (impl_PlaceOk.j0 k true ac a0_1 af))) = some r := h; clear h; have HC2 := A_ H; clear H; go_enter Tryz.func20, Tryz.ntmps20
 go_upto_region 1 with (first | ((with_reducible refine gate_dst (N := 1) rfl ?_); (try (refine gate_guard (by rfl) ?_; dsimp only)); refine be_ 1 #[.slice an ac.length ao, .int .i64 a0_1, .slice aE af.length aG] 25 ?_; intro aC hg w3 ab hb; have b2 := gx_ HB hg; have b3 := gx_ HB hg; replace HB := bs_ HB hb; clear hb hg))
 (try simp only [Act.put, sa_, sb_, sc_])
 go_cut [25] (fun ch wc => ∃ (kq : Nat) (aD : Bool), ch = .bool aD ∧ Aside0 (impl_PlaceOk.j0 kq aD ac a0_1 af = some r) ∧ Aside0 (kq ≤ k) ∧ Aside0 (wc.heap[aC]? = some (.cells #[(.slice an ac.length ao), .int .i64 a0_1, (.slice aE af.length aG)] 25 (0, 0))) ∧ Aside0 (Below w.heap.size w wc))
 case first =>
  have H := HC2.out; clear HC2; obtain ⟨aR, A4, H⟩ := bnd_ H; (try dsimp only at H); by_cases c5 : aR = true
  ·
   subst c5; replace H : (if a0_1 < (-1) then (impl_PlaceOk.j0 k true ac a0_1 af) else (if a0_1 > 3 then (impl_PlaceOk.j0 k true ac a0_1 af) else ((impl_WordOk.f k (ac.length : Int) af).bind fun av => (impl_PlaceOk.j0 k (!av) ac a0_1 af)))) = some r := by rw [if_pos rfl] at H; exact H
   replace H := it_ H; rcases H with ⟨ah, H⟩ | ⟨ah, H⟩
   ·
    (first | rw [ah] | (simp only [i64_w, i32_w]; rw [ah]) | skip); have H' := A_ H; clear H; obtain ⟨bk, bl, bm, bn, bo, bp⟩ := cf3_ ab; go_wp2_with (first | ((with_reducible refine gate_callee (f := 33) rfl ?_); refine gl_ (some 5) Tryz.func33 #[.slice an ac.length ao] ?_; (with_reducible refine (impl_StartOk.calls k _ _ ac true _ ?s1 ?s2 A4.out).mono ?_); (case s1 => exact tD_); (case s2 => exact aw.out); rintro e w' ⟨rfl, ⟨nd, rfl⟩⟩; refine ⟨_, rfl, ?_⟩)); go_meet
    case rel => exact ⟨_, (true), tx_, H', ⟨by first | omega | exact Nat.le_refl _⟩, ⟨tk_ ab.out⟩, ⟨(tb_ HB.out)⟩⟩
   ·
    (first | rw [ah] | (simp only [i64_w, i32_w]; rw [ah]) | skip); replace H := ig_ H; rcases H with ⟨bj, H⟩ | ⟨bj, H⟩
    ·
     have H' := A_ H; clear H; obtain ⟨bq, br, bs, bu, bv, bw⟩ := cf3_ ab; go_wp2_with (first | ((with_reducible refine gate_callee (f := 33) rfl ?_); refine gl_ (some 5) Tryz.func33 #[.slice an ac.length ao] ?_; (with_reducible refine (impl_StartOk.calls k _ _ ac true _ ?s1 ?s2 A4.out).mono ?_); (case s1 => exact tD_); (case s2 => exact aw.out); rintro e w' ⟨rfl, ⟨nd, rfl⟩⟩; refine ⟨_, rfl, ?_⟩)); go_meet
     case rel => exact ⟨_, (true), tx_, H', ⟨by first | omega | exact Nat.le_refl _⟩, ⟨tk_ ab.out⟩, ⟨(tb_ HB.out)⟩⟩
    ·
     obtain ⟨av, A10, H⟩ := bnd_ H; (try dsimp only at H); have H' := A_ H; clear H; obtain ⟨aY, aZ, a3, a4, a5, a6⟩ := cf3_ ab; go_wp2_with (first | ((with_reducible refine gate_callee (f := 33) rfl ?_); refine gl_ (some 5) Tryz.func33 #[.slice an ac.length ao] ?_; (with_reducible refine (impl_StartOk.calls k _ _ ac true _ ?s1 ?s2 A4.out).mono ?_); (case s1 => exact tD_); (case s2 => exact aw.out); rintro e w' ⟨rfl, ⟨nd, rfl⟩⟩; refine ⟨_, rfl, ?_⟩) | (go_at_call 34; (with_reducible refine (impl_WordOk.calls k (ac.length : Int) _ _ af av _ ?s1 ?s2 A10.out).mono ?_); (case s1 => repeat (first | exact (Kd.C_below bK.out (tb_ HB.out)) | (with_reducible refine Kd.C_alloc ?_ _) | (with_reducible refine Kd.C_drewN ?_ _) | (with_reducible refine Kd.C_drew ?_))); (case s2 => exact bi.out); rintro e w' ⟨rfl, ⟨nd, rfl⟩⟩)); go_meet
     case rel => exact ⟨_, (!av), tx_, H', ⟨by first | omega | exact Nat.le_refl _⟩, ⟨tk_ ab.out⟩, ⟨(tb_ HB.out)⟩⟩
  ·
   replace c5 := Bool.eq_false_iff.mpr c5; subst c5; replace H : (impl_PlaceOk.j0 k true ac a0_1 af) = some r := by rw [if_neg (show ¬ (false = true) by decide)] at H; exact H
   have H' := A_ H; clear H; obtain ⟨a7, a8, a9, bb, bc, bd⟩ := cf3_ ab; go_wp2_with (first | ((with_reducible refine gate_callee (f := 33) rfl ?_); refine gl_ (some 5) Tryz.func33 #[.slice an ac.length ao] ?_; (with_reducible refine (impl_StartOk.calls k _ _ ac false _ ?s1 ?s2 A4.out).mono ?_); (case s1 => exact tD_); (case s2 => exact aw.out); rintro e w' ⟨rfl, ⟨nd, rfl⟩⟩; refine ⟨_, rfl, ?_⟩)); go_meet
   case rel => exact ⟨_, (true), tx_, H', ⟨by first | omega | exact Nat.le_refl _⟩, ⟨tk_ ab.out⟩, ⟨(tb_ HB.out)⟩⟩
 case rest =>
  clear HC2; obtain ⟨kq, aD, rfl, HA, HJ1, ab, HB⟩ := hcut
  cases kq with
  | zero => exact absurd HA.out (by simp [impl_PlaceOk.j0])
  | succ kj1 =>
   have H := HA.out; clear HA; simp only [impl_PlaceOk.j0] at H; by_cases c13 : aD = true
   ·
    subst c13; replace H : (some false) = some r := by rw [if_pos rfl] at H; exact H
    obtain rfl := Option.some.inj H; go_wp2; go_ret; exact ⟨tw_, (tb_ HB.out)⟩
   ·
    replace c13 := Bool.eq_false_iff.mpr c13; subst c13; replace H : ((impl_SameRule.f kj1 (ac.length : Int) a0_1).bind fun ay => ((impl_ruleWays.f kj1 ac ay af).bind fun aQ => (some (decide (aQ > 0))))) = some r := by rw [if_neg (show ¬ (false = true) by decide)] at H; exact H
    obtain ⟨ay, A14, H⟩ := bnd_ H; (try dsimp only at H); obtain ⟨aQ, A15, H⟩ := bnd_ H; (try dsimp only at H); obtain rfl := Option.some.inj H; (try go_wp2); replace ab := dB_ ab; replace HB := A_ (ld_ HB.out); refine sv_ (S := fun w' => w'.cell? ⟨aC, 0, none⟩ = some (.slice an ac.length ao) ∧ w'.cell? ⟨aC, 1, none⟩ = some (.int .i64 a0_1) ∧ w'.cell? ⟨aC, 2, none⟩ = some (.slice aE af.length aG)) (ds := []) hh_ (fun hHeld => ?_); refine with_tabW impl_PlaceOk.tab3 impl_PlaceOk.bits3 (fun HT_ HW_ => ?_); generalize wc.drew = cm at ab HB hHeld ⊢; refine pv_ 0 ?_; refine pv_ 2 ?_; refine pv_ 5 ?_; refine pv_ 8 ?_; refine tv_ 1 ?_; refine tv_ 3 ?_; refine pv_ 4 ?_; refine tv_ 6 ?_; refine tv_ 9 ?_; refine ov_ 7 (fun K hK => ?_); refine goes_ Tryz.func36 (by kernel_rfl) rfl #[.int .i64 (ac.length : Int), .int .i64 a0_1] (by rfl) rfl rfl tz_ ?_; (with_reducible refine (impl_SameRule.calls kj1 (ac.length : Int) a0_1 ay _ A14.out).mono ?_); rintro e bQ ⟨ci, rfl, ho0, hb⟩; refine ⟨_, rfl, ?_⟩; have ax := A_ (Kd.S_lower ho0 (below_size (tb_ HB.out))); replace ab := bb_ ab hb; replace HB := bs_ HB hb; (try clear hb); (try clear hb2); (try clear hk); (try clear hi); (try clear ho0); obtain ⟨bU, bV, bL⟩ := Kd.S_slice ax.out; (first | subst bL | (injection bL with f1_ f2_ f3_; have f4_ := f1_.symm; have f5_ := f3_.symm; clear f1_ f2_ f3_; subst f4_; subst f5_)); refine hK.out _ _ hh_ (fun hHeld => ?_); clear hK K; refine nr_ 33 ?_; refine ov_ 10 (fun K hK => ?_); refine goes_ Tryz.func35 (by kernel_rfl) rfl #[.slice an ac.length ao, .slice bU ay.length bV, .slice aE af.length aG] (by rfl) rfl rfl tz_ ?_; (with_reducible refine (impl_ruleWays.calls kj1 _ _ ac _ _ ay _ _ af aQ _ ?s1 ?s2 ?s3 ?s4 ?s5 ?s6 A15.out).mono ?_); (case s1 => exact tD_); (case s2 => exact aw.out); (case s3 => repeat (first | exact (Kd.S_reads' ax.out).2.2 | (with_reducible refine Kd.C_alloc ?_ _) | (with_reducible refine Kd.C_drewN ?_ _) | (with_reducible refine Kd.C_drew ?_))); (case s4 => exact (Kd.S_reads' ax.out).2.1); (case s5 => exact tD_); (case s6 => exact bi.out); rintro e cn ⟨rfl, hb⟩; refine ⟨_, rfl, ?_⟩; replace ax := A_ (Kd.S_below (rS_ ax.out) hb); replace ab := bb_ ab hb; replace HB := bs_ HB hb; (try clear hb); (try clear hb2); (try clear hk); (try clear hi); refine hK.out _ _ hh_ (fun hHeld => ?_); clear hK K; refine nr_ 36 ?_; refine pv_ 11 ?_; refine pv_ 12 ?_; refine done_ (done_of HT_.out (by kernel_rfl)) ?_; (try go_wp2); go_ret; exact ⟨tw_, (tb_ HB.out)⟩

/-! ### strconv_Itoa: function 38 -/
def strconv_Itoa.f (a0 : Int) : Option (ByteArray) := if -9223372036854775808 ≤ a0 ∧ a0 ≤ 9223372036854775807 then some ⟨(Lib.itoa a0).toArray⟩ else none
theorem strconv_Itoa.calls (a0 : Int) (r : ByteArray) (w : World) (hG : GWb w) (h : strconv_Itoa.f a0 = some r) :
  Calls Tryz.prog 38 #[.int .i64 a0] w fun e w' => e = .returned (.string r) ∧ Below w.heap.size w w' := by
 unfold strconv_Itoa.f at h; split at h
 ·
  rename_i hb; obtain rfl := Option.some.inj h; refine (Sh.Tryz.strconv_Itoa a0 hb.1 hb.2 w hG.tab).mono fun e w' ⟨he, k, os, hw⟩ => ⟨he, hw ▸ Lib.below_grow _ w (Nat.le_refl _) k os⟩
 ·
  cases h

/-! ### strings_Join: function 57 -/
def strings_Join.f (l0 : List ByteArray) (a1 : ByteArray) : Option (ByteArray) := if l0.length ≤ 140737488355328 ∧ (Lib.join (l0.map (·.data.toList)) a1.data.toList).length ≤ 140737488355328 then some ⟨(Lib.join (l0.map (·.data.toList)) a1.data.toList).toArray⟩ else none
theorem strings_Join.calls (A0 : Option Addr) (c0 : Nat) (l0 : List ByteArray) (a1 : ByteArray) (r : ByteArray) (w : World) (hr0 : Kd.C Kd.string w A0 l0.length l0) (hc0 : l0.length ≤ c0) (h : strings_Join.f l0 a1 = some r) :
  Calls Tryz.prog 57 #[.slice A0 l0.length c0, .string a1] w fun e w' => e = .returned (.string r) ∧ Below w.heap.size w w' := by
 unfold strings_Join.f at h; split at h
 ·
  rename_i hb; obtain rfl := Option.some.inj h; rcases Nat.eq_zero_or_pos l0.length with h0 | h0
  ·
   obtain rfl : l0 = [] := List.eq_nil_of_length_eq_zero h0; exact (Sh.Tryz.strings_Join_none A0 c0 a1 w).mono fun e w' ⟨he, hw⟩ => ⟨he, hw ▸ Below.refl _ _⟩
  ·
   obtain ⟨ad, rfl, hc⟩ := hr0.2.2 h0
   have hcell : ∀ (j : Nat) x, l0[j]? = some x → w.cell? (ad.add j) = some (.string x) := by
    intro j x hj; obtain ⟨c, hc1, hc2, hc3⟩ := hc j _ hj; have e1 : c = [.string x] := hc2; have := hc3 0 _ (by rw [e1]; rfl); simpa [Kd.string, Kd.scalar] using this
   have hs := hcell 0 _ (List.getElem?_eq_getElem h0)
   have hsp : ad.spot = none := by
    cases hq : ad.spot with
    | none => rfl
    | some q => simp [World.cell?, Addr.add, hq] at hs; split at hs <;> simp at hs
   have hlt := World.block_lt_of_cell? _ _ hs; obtain ⟨b, o, sp⟩ := ad; simp only at hsp; subst hsp; exact Sh.Tryz.strings_Join b o c0 l0 a1 w (fun j x hj => by have := hcell j x hj; unfold Addr.add at this; split at this <;> simp_all) (by simpa [Addr.add] using hlt) hb.1 hc0 hb.2
 ·
  cases h

end Go.Proofs.YtfacponjomafcaaGreatDoor.MFnExactStoreSave
