/- For the law FnDeskOk: walks of the functions that it reaches: each call returns what the plain function beside it tells. The conditions stand in each statement. -/
import Derived.Test.YtncgleffkbegjaaV
import Derived.Test.YtncgleffkbegjaaMFnDeskOkx0
import Derived.Test.YtncgleffkbegjaaMFnDeskOkx14
namespace Go.Proofs.Ytncgleffkbegjaa.MFnDeskOk
open Go.RowKit Go.Proofs.YtncgleffkbegjaaW.PrintWords Go.Proofs.YtncgleffkbegjaaW.PrintLast Go.Proofs.YtncgleffkbegjaaW.PrintMore
attribute [local go_sem] max2_int min2_int max_two min_two max_three min_three max_four min_four   -- for this text's walks alone
set_option linter.unusedVariables false
set_option linter.unusedSimpArgs false

/-! ### impl_ruleWays: function 39 -/
def impl_ruleWays.l0 : Nat → List Int → List (List Int) → List Int → Int → List Int → Int → Int → Option (Int)
 | 0, _, _, _, _, _, _, _ => none
 | k + 1, x0, x1, x2, x7, x10, x11, x12 => if x12 < x11 then (if 0 ≤ x12 then (if x12 < (x10.length : Int) then (if x12 ≤ (x2.length : Int) then ((impl_after.f k x0 x1 (x2.take (x12 : Int).toNat)).bind fun ai => (if 0 ≤ (rd x10 x12) then (if (rd x10 x12) < (ai.length : Int) then (if (wrap64 (x7 * (mx 0 (rd ai (rd x10 x12))))) = 0 then (some 0) else (impl_ruleWays.l0 k x0 x1 x2 (wrap64 (x7 * (mx 0 (rd ai (rd x10 x12))))) x10 x11 (wrap64 (x12 + 1)))) else (none)) else (none))) else (none)) else (none)) else (none)) else (some x7)
def impl_ruleWays.f (k : Nat) (l0 : List Int) (l1 : List (List Int)) (l2 : List Int) : Option (Int) := impl_ruleWays.l0 k l0 l1 l2 1 l2 (l2.length : Int) 0
theorem impl_ruleWays.mono_l : ∀ k, (∀ y0 y1 y2 y3 y4 y5 y6, LeO (impl_ruleWays.l0 k y0 y1 y2 y3 y4 y5 y6) (impl_ruleWays.l0 (k + 1) y0 y1 y2 y3 y4 y5 y6))
 | 0 => fun _ _ _ _ _ _ _ r h => by simp [impl_ruleWays.l0] at h
 | k + 1 => by
  have ih0 := impl_ruleWays.mono_l k
  ·
   intro y0 y1 y2 y3 y4 y5 y6
   unfold impl_ruleWays.l0
   repeat' (with_reducible first | exact ih0 _ _ _ _ _ _ _ | exact impl_after.mono _ _ _ _ | exact mr_ | exact mn_ | refine mi_ ?_ ?_ | refine mb_ ?_ (fun _ => ?_))
theorem impl_ruleWays.mono : ∀ a0 a1 a2 k, LeO (impl_ruleWays.f k a0 a1 a2) (impl_ruleWays.f (k + 1) a0 a1 a2) := by
 intro a0 a1 a2 k; have ih0 := impl_ruleWays.mono_l k; unfold impl_ruleWays.f; repeat' (with_reducible first | exact ih0 _ _ _ _ _ _ _ | exact impl_after.mono _ _ _ _ | exact mr_ | exact mn_ | refine mi_ ?_ ?_ | refine mb_ ?_ (fun _ => ?_))
set_option maxHeartbeats 8000000 in
set_option maxRecDepth 100000 in
theorem impl_ruleWays.calls (k : Nat) (A0 : Option Addr) (c0 : Nat) (l0 : List Int) (A1 : Option Addr) (c1 : Nat) (l1 : List (List Int)) (A2 : Option Addr) (c2 : Nat) (l2 : List Int) (r : Int) (w : World) (hr0 : Kd.C (Kd.int .i64) w A0 l0.length l0) (hc0 : l0.length ≤ c0) (hr1 : Kd.C (Kd.slice 3 (Kd.int .i64)) w A1 l1.length l1) (hc1 : l1.length ≤ c1) (hr2 : Kd.C (Kd.int .i64) w A2 l2.length l2) (hc2 : l2.length ≤ c2) (h : impl_ruleWays.f k l0 l1 l2 = some r) :
  Calls Try.prog 39 #[.slice A0 l0.length c0, .slice A1 l1.length c1, .slice A2 l2.length c2] w fun e w' => e = .returned (.int .i64 r) ∧ Below w.heap.size w w' := by
 have HR0 := A_ hr0; have HC0 := A_ hc0; clear hr0 hc0; have HR1 := A_ hr1; have HC1 := A_ hc1; clear hr1 hc1; have HR2 := A_ hr2; have HC2 := A_ hc2; clear hr2 hc2; have HB := A_ (Below.refl w.heap.size w); have H : (impl_ruleWays.l0 k l0 l1 l2 1 l2 (l2.length : Int) 0) = some r := h; clear h; have H' := A_ H; clear H; go_enter Try.func39, Try.ntmps39; go_wp2
 go_loopg [7, 12] k (fun kq v7 b3 w' => ∃ (ak : Int) (aa : Int), v7 = .int .i64 ak ∧ b3 = .int .i64 aa ∧ Aside0 (impl_ruleWays.l0 kq l0 l1 l2 ak l2 (l2.length : Int) aa = some r) ∧ Aside0 (kq ≤ k) ∧ Aside0 (Below w.heap.size w w'))
 case atStart => exact ⟨(1), (0), tx_, tx_, H', ⟨Nat.le_refl _⟩, ⟨(tb_ HB.out)⟩⟩
 case round =>
  clear H'; (try clear c1); (try clear c2); (try clear p2); (try clear c3); obtain ⟨ak, aa, rfl, rfl, HA, HK1, HB⟩ := hrel
  cases gk with
  | zero => exact absurd HA.out (by simp [impl_ruleWays.l0])
  | succ k1 =>
   have H := HA.out; clear HA; simp only [impl_ruleWays.l0] at H; by_cases c4 : aa < (l2.length : Int)
   ·
    rw [if_pos c4] at H; have bL : decide (aa < (l2.length : Int)) = true := decide_eq_true c4; clear c4; by_cases c5 : 0 ≤ aa
    ·
     rw [if_pos c5] at H; have b4 : decide (0 ≤ aa) = true := decide_eq_true c5; clear c5; by_cases c6 : aa < (l2.length : Int)
     ·
      rw [if_pos c6] at H; have ag : decide (aa < (l2.length : Int)) = true := decide_eq_true c6; clear c6; have b5 := eq_true (od_ : 0 ≤ aa); by_cases c8 : aa ≤ (l2.length : Int)
      ·
       rw [if_pos c8] at H; have bi := eq_true c8; have b6 : decide (aa ≤ (l2.length : Int)) = true := decide_eq_true c8; clear c8; obtain ⟨ai, A9, H⟩ := bnd_ H; (try dsimp only at H); by_cases c10 : 0 ≤ (rd l2 aa)
       ·
        rw [if_pos c10] at H; have bd : decide (0 ≤ (rd l2 aa)) = true := decide_eq_true c10; clear c10; by_cases c11 : (rd l2 aa) < (ai.length : Int)
        ·
         rw [if_pos c11] at H; have bw : decide ((rd l2 aa) < (ai.length : Int)) = true := decide_eq_true c11; clear c11; obtain ⟨ap, ao⟩ : ∃ j_ : Int, (mx 0 (rd ai (rd l2 aa))) = j_ := ⟨_, rfl⟩
         replace H : (if (wrap64 (ak * (ap))) = 0 then (some 0) else (impl_ruleWays.l0 k1 l0 l1 l2 (wrap64 (ak * (ap))) l2 (l2.length : Int) (wrap64 (aa + 1)))) = some r := by first | (rw [ao] at H; exact H) | (simp only [ao] at H ⊢; exact H)
         (try rw [ao] at A9); have hji12_ : (if 0 < (rd ai (rd l2 aa)) then (rd ai (rd l2 aa)) else 0) = ap := ao; by_cases c13 : (wrap64 (ak * (ap))) = 0
         ·
          rw [if_pos c13] at H; have be : ((wrap64 (ak * (ap))) == 0) = true := beq_iff_eq.mpr c13; have bx : ((wrap64 (ak * (ap))) != 0) = false := bne_eq_false_iff_eq.mpr c13; clear c13; obtain rfl := Option.some.inj H; have p484 : 0 ≤ (aa : Int) := od_; have q484 : aa < (l2.length : Int) := od_; obtain ⟨ad484, e484, af⟩ := Kd.at_int HR2.out aa p484 q484; cases e484; replace af := (HB.out.cell (World.block_lt_of_cell? w _ af)).trans af; replace p484 := eq_true p484; replace q484 := eq_true q484; obtain ⟨i014, hi014, _, hsz14, _⟩ := info_parts info3; obtain ⟨hcut14, hA14, hC14⟩ := print_take_of (P := Try.prog) (Value.int .i64) 0 22 3 .i64 Try.underlying22 hi014 hsz14 (some ad484) c2 l2 aa (od_) (od_) HC2.out; have HR485 := A_ (Kd.C_of_reads (h1 := fun _ => rfl) (hA14 _ (Kd.reads_of_C HR2.out))); have HC485 := A_ hC14; clear hA14 hC14 hi014 hsz14; go_wp2_with (first | ((with_reducible refine gate_callee (f := 53) rfl ?_); refine goesL_ (some 23) rfl rfl Try.func53 (by kernel_rfl) rfl #[.slice A0 l0.length c0, .slice A1 l1.length c1, .slice (some ad484) (l2.take (aa : Int).toNat).length c2] rfl (by (try simp only [List.map_toArray, List.map_cons, List.map_nil]); first | done | (rw [show (l2.take (aa : Int).toNat).length = aa.toNat from (by rw [List.length_take]; have h_ : (aa : Int) ≤ (l2.length : Int) := od_; omega)] <;> rfl) | rfl | (simp only [List.length_drop, List.length_take]; rfl)) ?_; (with_reducible refine (impl_after.calls k1 _ _ l0 _ _ l1 _ _ (l2.take (aa : Int).toNat) ai _ ?s1 ?s2 ?s3 ?s4 ?s5 ?s6 A9.out).mono ?_); (case s1 => exact tD_); (case s2 => exact HC0.out); (case s3 => exact tD_); (case s4 => exact HC1.out); (case s5 => exact tD_); (case s6 => exact HC485.out); rintro e ci ⟨bM, rfl, ho0, hb⟩; refine ⟨_, rfl, ?_⟩; have ar := rx_ ho0 HB; replace HB := bs_ HB hb; (try clear hb ho0); obtain ⟨b7, b8, bN⟩ := Kd.R_slice ar.out; subst bN; have p489 : 0 ≤ ((rd l2 aa) : Int) := od_; have q489 : (rd l2 aa) < (ai.length : Int) := od_; obtain ⟨ad489, e489, aR⟩ := Kd.at_int (Kd.R_reads' ar.out).2.2 (rd l2 aa) p489 q489; cases e489; replace p489 := eq_true p489; replace q489 := eq_true q489)); go_ret; exact ⟨by first | rfl | (simp [errW_none, errW_some] <;> rfl) | (simp only [← ao]; first | rfl | (simp [errW_none, errW_some] <;> rfl)) | (simp [*, errW_none, errW_some] <;> rfl), (tb_ HB.out)⟩
         ·
          rw [if_neg c13] at H; have be : ((wrap64 (ak * (ap))) == 0) = false := beq_eq_false_iff_ne.mpr c13; have bx : ((wrap64 (ak * (ap))) != 0) = true := bne_iff_ne.mpr c13; have H' := A_ H; clear H; have p484 : 0 ≤ (aa : Int) := od_; have q484 : aa < (l2.length : Int) := od_; obtain ⟨ad484, e484, af⟩ := Kd.at_int HR2.out aa p484 q484; cases e484; replace af := (HB.out.cell (World.block_lt_of_cell? w _ af)).trans af; replace p484 := eq_true p484; replace q484 := eq_true q484; obtain ⟨i017, hi017, _, hsz17, _⟩ := info_parts info3; obtain ⟨hcut17, hA17, hC17⟩ := print_take_of (P := Try.prog) (Value.int .i64) 0 22 3 .i64 Try.underlying22 hi017 hsz17 (some ad484) c2 l2 aa (od_) (od_) HC2.out; have HR485 := A_ (Kd.C_of_reads (h1 := fun _ => rfl) (hA17 _ (Kd.reads_of_C HR2.out))); have HC485 := A_ hC17; clear hA17 hC17 hi017 hsz17; go_wp2_with (first | ((with_reducible refine gate_callee (f := 53) rfl ?_); refine goesL_ (some 23) rfl rfl Try.func53 (by kernel_rfl) rfl #[.slice A0 l0.length c0, .slice A1 l1.length c1, .slice (some ad484) (l2.take (aa : Int).toNat).length c2] rfl (by (try simp only [List.map_toArray, List.map_cons, List.map_nil]); first | done | (rw [show (l2.take (aa : Int).toNat).length = aa.toNat from (by rw [List.length_take]; have h_ : (aa : Int) ≤ (l2.length : Int) := od_; omega)] <;> rfl) | rfl | (simp only [List.length_drop, List.length_take]; rfl)) ?_; (with_reducible refine (impl_after.calls k1 _ _ l0 _ _ l1 _ _ (l2.take (aa : Int).toNat) ai _ ?s1 ?s2 ?s3 ?s4 ?s5 ?s6 A9.out).mono ?_); (case s1 => exact tD_); (case s2 => exact HC0.out); (case s3 => exact tD_); (case s4 => exact HC1.out); (case s5 => exact tD_); (case s6 => exact HC485.out); rintro e cj ⟨bM, rfl, ho0, hb⟩; refine ⟨_, rfl, ?_⟩; have ar := rx_ ho0 HB; replace HB := bs_ HB hb; (try clear hb ho0); obtain ⟨b9, ca, bO⟩ := Kd.R_slice ar.out; subst bO; have p489 : 0 ≤ ((rd l2 aa) : Int) := od_; have q489 : (rd l2 aa) < (ai.length : Int) := od_; obtain ⟨ad489, e489, aR⟩ := Kd.at_int (Kd.R_reads' ar.out).2.2 (rd l2 aa) p489 q489; cases e489; replace p489 := eq_true p489; replace q489 := eq_true q489))
          go_roundg k1
          case measure => have := HK1.out; omega
          case rel => exact ⟨(wrap64 (ak * (ap))), (wrap64 (aa + 1)), (by first | rfl | (simp; done) | (simp only [← ao] <;> (first | rfl | simp)) | (simp [*]; done)), tx_, H', ⟨by have := HK1.out; omega⟩, ⟨(tb_ HB.out)⟩⟩
        ·
         rw [if_neg c11] at H; exact absurd H (by simp)
       ·
        rw [if_neg c10] at H; exact absurd H (by simp)
      ·
       rw [if_neg c8] at H; exact absurd H (by simp)
     ·
      rw [if_neg c6] at H; exact absurd H (by simp)
    ·
     rw [if_neg c5] at H; exact absurd H (by simp)
   ·
    rw [if_neg c4] at H; have bL : decide (aa < (l2.length : Int)) = false := decide_eq_false c4; clear c4; obtain rfl := Option.some.inj H; go_wp2; go_ret; exact ⟨tw_, (tb_ HB.out)⟩

/-! ### impl_SameRule: function 40 -/
mutual
def impl_SameRule.j0 : Nat → Int → Int → Bool → Option ((List (List Int)))
 | 0, _, _, _ => none
 | k + 1, x0, x1, x18 => if x18 = true then (some ([] : List (List Int))) else (impl_SameRule.l0 k x0 x1 (([] : List (List Int))) x0 0)
def impl_SameRule.l0 : Nat → Int → Int → List (List Int) → Int → Int → Option ((List (List Int)))
 | 0, _, _, _, _, _ => none
 | k + 1, x0, x1, x5, x20, x21 => if x21 < x20 then (if 0 ≤ x0 then (if (x0 : Int).toNat ≤ 35184372088832 then ((some (List.replicate (x0 : Int).toNat 0 : List Int)).bind fun ah => (if 0 ≤ x21 then (if x21 < (ah.length : Int) then (if x5.length < 5864062014805 then (impl_SameRule.l0 k x0 x1 (x5 ++ [(ah.set (x21 : Int).toNat x1)]) x20 (wrap64 (x21 + 1))) else (none)) else (none)) else (none))) else (none)) else (none)) else (some x5)
end
def impl_SameRule.f (k : Nat) (a0 : Int) (a1 : Int) : Option ((List (List Int))) := (impl_coloursOk.f a0).bind fun aG => (if aG = true then (if a1 < (-1) then (impl_SameRule.j0 k a0 a1 true) else (impl_SameRule.j0 k a0 a1 (decide (a1 > 3)))) else (impl_SameRule.j0 k a0 a1 true))
theorem impl_SameRule.mono_l : ∀ k, (∀ y0 y1 y2, LeO (impl_SameRule.j0 k y0 y1 y2) (impl_SameRule.j0 (k + 1) y0 y1 y2)) ∧ (∀ y0 y1 y2 y3 y4, LeO (impl_SameRule.l0 k y0 y1 y2 y3 y4) (impl_SameRule.l0 (k + 1) y0 y1 y2 y3 y4))
 | 0 => ⟨fun _ _ _ r h => by simp [impl_SameRule.j0] at h, fun _ _ _ _ _ r h => by simp [impl_SameRule.l0] at h⟩
 | k + 1 => by
  obtain ⟨ih0, ih1⟩ := impl_SameRule.mono_l k
  refine ⟨?_, ?_⟩
  ·
   intro y0 y1 y2
   unfold impl_SameRule.j0
   repeat' (with_reducible first | exact ih0 _ _ _ | exact ih1 _ _ _ _ _ | exact mr_ | exact mn_ | refine mi_ ?_ ?_ | refine mb_ ?_ (fun _ => ?_))
  ·
   intro y0 y1 y2 y3 y4
   unfold impl_SameRule.l0
   repeat' (with_reducible first | exact ih0 _ _ _ | exact ih1 _ _ _ _ _ | exact mr_ | exact mn_ | refine mi_ ?_ ?_ | refine mb_ ?_ (fun _ => ?_))
theorem impl_SameRule.mono : ∀ a0 a1 k, LeO (impl_SameRule.f k a0 a1) (impl_SameRule.f (k + 1) a0 a1) := by
 intro a0 a1 k; obtain ⟨ih0, ih1⟩ := impl_SameRule.mono_l k; unfold impl_SameRule.f; repeat' (with_reducible first | exact ih0 _ _ _ | exact ih1 _ _ _ _ _ | exact mr_ | exact mn_ | refine mi_ ?_ ?_ | refine mb_ ?_ (fun _ => ?_))
set_option maxHeartbeats 8000000 in
set_option maxRecDepth 100000 in
theorem impl_SameRule.calls (k : Nat) (a0 : Int) (a1 : Int) (r : List (List Int)) (w : World) (h : impl_SameRule.f k a0 a1 = some r) :
  Calls Try.prog 40 #[.int .i64 a0, .int .i64 a1] w fun e w' => ∃ v0_ : Value, e = .returned (v0_) ∧ Kd.S (Kd.slice 3 (Kd.int .i64)) 22 w' w.heap.size (fun _ => True) v0_ r ∧ Below w.heap.size w w' := by
 have HB := A_ (Below.refl w.heap.size w); have H : ((impl_coloursOk.f a0).bind fun aG => (if aG = true then (if a1 < (-1) then (impl_SameRule.j0 k a0 a1 true) else (impl_SameRule.j0 k a0 a1 (decide (a1 > 3)))) else (impl_SameRule.j0 k a0 a1 true))) = some r := h; clear h; have HC3 := A_ H; clear H; go_enter Try.func40, Try.ntmps40
 go_upto_region 1 with (fail)
 go_cut [18] (fun cb wc => ∃ (kq : Nat) (ay : Bool), cb = .bool ay ∧ Aside0 (impl_SameRule.j0 kq a0 a1 ay = some r) ∧ Aside0 (kq ≤ k) ∧ Aside0 (Below w.heap.size w wc))
 case first =>
  have H := HC3.out; clear HC3; obtain ⟨aG, A4, H⟩ := bnd_ H; (try dsimp only at H); by_cases c5 : aG = true
  ·
   subst c5; replace H : (if a1 < (-1) then (impl_SameRule.j0 k a0 a1 true) else (impl_SameRule.j0 k a0 a1 (decide (a1 > 3)))) = some r := by rw [if_pos rfl] at H; exact H
   by_cases c6 : a1 < (-1)
   ·
    rw [if_pos c6] at H; have ag : decide (a1 < (-1)) = true := decide_eq_true c6; clear c6; (first | rw [ag] | (simp only [i64_w, i32_w]; rw [ag]) | skip); have H' := A_ H; clear H; go_wp2_with (first | ((with_reducible refine gate_callee (f := 48) rfl ?_); refine gl_ (some 9) Try.func48 #[.int .i64 a0] ?_; (with_reducible refine (impl_coloursOk.calls a0 true _ A4.out).mono ?_); rintro e w' ⟨rfl, ⟨nd, rfl⟩⟩; refine ⟨_, rfl, ?_⟩)); go_meet
    case rel => exact ⟨_, (true), tx_, H', ⟨by first | omega | exact Nat.le_refl _⟩, ⟨(tb_ HB.out)⟩⟩
   ·
    rw [if_neg c6] at H; have ag : decide (a1 < (-1)) = false := decide_eq_false c6; clear c6; (first | rw [ag] | (simp only [i64_w, i32_w]; rw [ag]) | skip); have H' := A_ H; clear H; go_wp2_with (first | ((with_reducible refine gate_callee (f := 48) rfl ?_); refine gl_ (some 9) Try.func48 #[.int .i64 a0] ?_; (with_reducible refine (impl_coloursOk.calls a0 true _ A4.out).mono ?_); rintro e w' ⟨rfl, ⟨nd, rfl⟩⟩; refine ⟨_, rfl, ?_⟩)); go_meet
    case rel => exact ⟨_, (decide (a1 > 3)), tx_, H', ⟨by first | omega | exact Nat.le_refl _⟩, ⟨(tb_ HB.out)⟩⟩
  ·
   replace c5 := Bool.eq_false_iff.mpr c5; subst c5; replace H : (impl_SameRule.j0 k a0 a1 true) = some r := by rw [if_neg (show ¬ (false = true) by decide)] at H; exact H
   have H' := A_ H; clear H; go_wp2_with (first | ((with_reducible refine gate_callee (f := 48) rfl ?_); refine gl_ (some 9) Try.func48 #[.int .i64 a0] ?_; (with_reducible refine (impl_coloursOk.calls a0 false _ A4.out).mono ?_); rintro e w' ⟨rfl, ⟨nd, rfl⟩⟩; refine ⟨_, rfl, ?_⟩)); go_meet
   case rel => exact ⟨_, (true), tx_, H', ⟨by first | omega | exact Nat.le_refl _⟩, ⟨(tb_ HB.out)⟩⟩
 case rest =>
  clear HC3; (try clear p2); (try clear c4); (try clear c5); (try clear c6); (try clear ag); obtain ⟨kq, ay, rfl, HA, HJ2, HB⟩ := hcut
  cases kq with
  | zero => exact absurd HA.out (by simp [impl_SameRule.j0])
  | succ kj2 =>
   have H := HA.out; clear HA; simp only [impl_SameRule.j0] at H; by_cases c7 : ay = true
   ·
    subst c7; replace H : (some ([] : List (List Int))) = some r := by rw [if_pos rfl] at H; exact H
    obtain rfl := Option.some.inj H; go_wp2; go_ret; exact ⟨_, tw_, by first | exact Kd.S_nil _ _ _ _ _ | exact Kd.N_nil _ _ _ _ _ | exact Kd.V_nil _ _ _ _ _ | exact Kd.Q_nil _ _ _ _ _ | exact Kd.R_nil _ _ _ _ _, (tb_ HB.out)⟩
   ·
    replace c7 := Bool.eq_false_iff.mpr c7; subst c7; replace H : (impl_SameRule.l0 kj2 a0 a1 (([] : List (List Int))) a0 0) = some r := by rw [if_neg (show ¬ (false = true) by decide)] at H; exact H
    obtain ⟨bz, aH⟩ : ∃ y_ : List (List Int), y_ = (([] : List (List Int))) := ⟨_, rfl⟩
    replace H : (impl_SameRule.l0 kj2 a0 a1 bz a0 0) = some r := yq_ aH H; have bf := A_ aH; clear aH; have H' := A_ H; clear H; go_wp2_with (first | ((with_reducible refine gate_dst (N := 19) rfl ?_); refine Kd.S_lit (Kd.slice 3 (Kd.int .i64)) _ 22 ?hg (N := 19) ?hd (xs := ([] : List (List Int))) (inner := []) (ok := fun _ => True) (okp := fun _ => True) ?hr ?hp (fun _ hk => hk) trivial (Below.refl _ _) (Nat.le_refl _) (by simp) ?_; (case hd => rfl); (case hg => rfl); (case hr => first | (go_simp; done) | (go_simp; rfl)); (case hp => exact (Reps.none _ _)); intro cc w8 ho9 hb hg_ hnew_; clear hg_ hnew_; (first | rw [← bf.out] at ho9 | (simp only [Int.reduceToNat] at ho9; rw [← bf.out] at ho9)); have bB := A_ (Kd.S_lower ho9 (below_size (tb_ HB.out))); replace HB := bs_ HB hb; clear hb ho9))
    go_loopg [5, 21] kj2 (fun kq v5 cd w' => ∃ (al : List (List Int)) (ad : Int), cd = .int .i64 ad ∧ Aside0 (impl_SameRule.l0 kq a0 a1 al a0 ad = some r) ∧ Aside0 (kq ≤ kj2) ∧ Aside0 (Kd.S (Kd.slice 3 (Kd.int .i64)) 22 w' w.heap.size (fun _ => True) v5 al) ∧ Aside0 (Below w.heap.size w w'))
    case atStart => exact ⟨(bz), (0), tx_, H', ⟨Nat.le_refl _⟩, ⟨rS_ bB.out⟩, ⟨(tb_ HB.out)⟩⟩
    case round =>
     clear H'; (try clear p2); (try clear c4); (try clear c5); (try clear c6); (try clear ag); (try clear c7); (try clear p2); obtain ⟨al, ad, rfl, HA, HK2, aq, HB⟩ := hrel
     cases gk with
     | zero => exact absurd HA.out (by simp [impl_SameRule.l0])
     | succ k2 =>
      have H := HA.out; clear HA; simp only [impl_SameRule.l0] at H; by_cases c10 : ad < a0
      ·
       rw [if_pos c10] at H; have bd : decide (ad < a0) = true := decide_eq_true c10; clear c10; by_cases c11 : 0 ≤ a0
       ·
        rw [if_pos c11] at H; have bw := eq_true c11; have bV : decide (0 ≤ a0) = true := decide_eq_true c11; clear c11; by_cases c12 : (a0 : Int).toNat ≤ 35184372088832
        ·
         rw [if_pos c12] at H; have bW := eq_true c12; have bX : decide ((a0 : Int).toNat ≤ 35184372088832) = true := decide_eq_true c12; clear c12; obtain ⟨ah, aI⟩ : ∃ y_ : List Int, y_ = (List.replicate (a0 : Int).toNat 0) := ⟨_, rfl⟩
         replace H : (if 0 ≤ ad then (if ad < (ah.length : Int) then (if al.length < 5864062014805 then (impl_SameRule.l0 k2 a0 a1 (al ++ [(ah.set (ad : Int).toNat a1)]) a0 (wrap64 (ad + 1))) else (none)) else (none)) else (none)) = some r := yq_ aI H; have bg := A_ aI; clear aI; by_cases c13 : 0 ≤ ad
         ·
          rw [if_pos c13] at H; have be : decide (0 ≤ ad) = true := decide_eq_true c13; clear c13; by_cases c14 : ad < (ah.length : Int)
          ·
           rw [if_pos c14] at H; have bZ : decide (ad < (ah.length : Int)) = true := decide_eq_true c14; clear c14; obtain ⟨aU, aJ⟩ : ∃ y_ : List Int, y_ = (ah.set (ad : Int).toNat a1) := ⟨_, rfl⟩
           replace H : (if al.length < 5864062014805 then (impl_SameRule.l0 k2 a0 a1 (al ++ [aU]) a0 (wrap64 (ad + 1))) else (none)) = some r := yq_ aJ H; have bC := A_ aJ; clear aJ; by_cases c16 : al.length < 5864062014805
           ·
            rw [if_pos c16] at H; have bD := A_ c16; clear c16; obtain ⟨bE, aK⟩ : ∃ y_ : List (List Int), y_ = (al ++ [aU]) := ⟨_, rfl⟩
            replace H : (impl_SameRule.l0 k2 a0 a1 bE a0 (wrap64 (ad + 1))) = some r := yq_ aK H; have bF := A_ aK; clear aK; have H' := A_ H; clear H; go_wp2_with (first | ((with_reducible refine gate_dst (N := 25) rfl ?_); refine Kd.R_make (Kd.int .i64) _ 3 rfl (N := 25) rfl 22 _ _ rfl a0 rfl rfl Try.underlying22 (.int .i64 0) 8 info3 rfl (by decide) (by omega) 0 (ok := fun _ => True) (okp := fun _ => True) rfl (fun _ hk => hk) trivial (od_) (Nat.le_trans (Nat.mul_le_mul_right _ (od_ : a0.toNat ≤ 35184372088832)) (by omega)) (Below.refl _ _) (Nat.le_refl _) ?_; intro ce bP ho18 hb hg_ hnew_; clear hg_ hnew_; (first | rw [← bg.out] at ho18 | (simp only [Int.reduceToNat] at ho18; rw [← bg.out] at ho18)); replace aq := A_ (Kd.S_elder' (rS_ aq.out) (Kd.R_base ho18) hb); have aj := rx_ ho18 HB; replace HB := bs_ HB hb; clear hb ho18; have p15 : 0 ≤ (ad : Int) := od_; have q15 : (ad : Int) < ((ah.length : Int) : Int) := od_; obtain ⟨go15, aM, bG, bH, gl15, cl15, HG15⟩ := Kd.R_form aj.out (by omega); (first | cases bG | (injection bG with ea_ en_ ec_; (first | subst ea_ | (injection ea_ with ea_; subst ea_)); subst ec_; clear en_)); have GB15 := A_ bH; have GG15 := A_ HG15; clear bH gl15 HG15; obtain ⟨bQ, hf15_0⟩ := Kd.R_celln 0 aj.out (ad : Int) p15 q15; replace p15 := eq_true p15; replace q15 := eq_true q15; obtain ⟨hy19_, hz19_⟩ := Kd.R_celln 0 aj.out (ad : Int) (od_) (od_); have HP19 := Kd.R_putg aj.out (ad : Int) a1) | ((with_reducible refine gate_store (t := 3) (p := 29) rfl ?_); refine store_event (t := 3) (p := 29) (v := ?vo_w20) (w1 := (bP.setCell ⟨go15, (ad : Int).toNat, none⟩ (.int .i64 a1))) ?hg ?ho ?hn ?hr ?_; (case ho => rfl); (case hg => rfl); (case hn => rfl); (case hr => first | (go_simp; done) | (go_simp; rfl)); intro bR hw; have hg : bP.grownBy bR (some go15) := (by rw [hw]; exact HP19.2); have hp_ : Kd.R (Kd.int .i64) 3 bR w.heap.size (fun _ => True) (.slice (some ⟨go15, 0, none⟩) ah.length aM) aU := (by rw [hw, bC.out]; exact HP19.1); clear HP19; replace aq := A_ (Kd.S_after (v := (.slice (some ⟨go15, 0, none⟩) ah.length aM)) (v1 := (.slice (some ⟨go15, 0, none⟩) ah.length aM)) (ok := (fun _ => True)) (rS_ aq.out) hg (.inl rfl)); replace aj := A_ (hp_); replace HB := A_ ((by rw [hw]; exact below_set (HB.out) GB15.out : Below w.heap.size w bR)); clear hg hw hp_) | ((with_reducible refine gate_builtin (b := .append) (xs := #[.tmp 30, .tmp 32]) rfl ?_); at_builtin; refine Kd.S_append (Kd.slice 3 (Kd.int .i64)) (w0 := w) w.heap.size rfl (.tmp 30) (.tmp 32) 57 22 (.slice none 0 0) 24 rfl Try.underlying57 info22 rfl (by decide) (by omega) u5 al aU [.slice (some ⟨go15, 0, none⟩) ah.length aM] (fun _ => True) (fun k_ => some k_ = (.slice (some ⟨go15, 0, none⟩) ah.length aM : Value).ownBlock) rfl rfl ?aP (fun k_ hk_ => ((Kd.R_mono (ok' := fun k_ => ((fun _ => True)) k_ ∧ some k_ ≠ (u5 : Value).ownBlock) (Kd.R_apart' (aj.out) (Kd.S_typed aq.out) (by decide)) (fun k_ hk => ⟨trivial, hk.2⟩))).1 k_ hk_.symm) ?aF ?aO ?aB ?aS ?aL ?_; (case aP => exact Kd.M_row (Kd.R_mono (Kd.R_tight rfl (Kd.R_mono (ok' := fun k_ => ((fun _ => True)) k_ ∧ some k_ ≠ (u5 : Value).ownBlock) (Kd.R_apart' (aj.out) (Kd.S_typed aq.out) (by decide)) (fun k_ hk => ⟨trivial, hk.2⟩))) (fun _ h_ => h_))); (case aB => exact (tb_ HB.out)); (case aF => exact (fun _ _ => trivial)); (case aO => exact (by refine qS_ ?_; exact Kd.S_mono aq.out (fun k_ hk => ⟨trivial, fun e_ => hk.2 e_⟩))); (case aS => exact (below_size (tb_ HB.out))); (case aL => have := bD.out; omega); intro cf ck ho hb hg hat; rw [← bF.out] at ho; replace HB := A_ (hb); have bI := A_ (ho); clear aq aj ho hb hg hat))
            go_roundg k2
            case measure => have := HJ2.out; have := HK2.out; omega
            case rel => exact ⟨(bE), (wrap64 (ad + 1)), tx_, H', ⟨by have := HJ2.out; have := HK2.out; omega⟩, ⟨rS_ bI.out⟩, ⟨(tb_ HB.out)⟩⟩
           ·
            rw [if_neg c16] at H; exact absurd H (by simp)
          ·
           rw [if_neg c14] at H; exact absurd H (by simp)
         ·
          rw [if_neg c13] at H; exact absurd H (by simp)
        ·
         rw [if_neg c12] at H; exact absurd H (by simp)
       ·
        rw [if_neg c11] at H; exact absurd H (by simp)
      ·
       rw [if_neg c10] at H; have bd : decide (ad < a0) = false := decide_eq_false c10; clear c10; obtain rfl := Option.some.inj H; go_wp2; go_ret; exact ⟨_, tw_, by refine qS_ ?_; exact aq.out, (tb_ HB.out)⟩

/-! ### impl_PlaceOk: function 22 -/
def impl_PlaceOk.j0 : Nat → Bool → List Int → Int → List Int → Option (Bool)
 | 0, _, _, _, _ => none
 | k + 1, x25, az, aV, aW => if x25 = true then (some false) else ((impl_SameRule.f k (az.length : Int) aV).bind fun ax => ((impl_ruleWays.f k az ax aW).bind fun aN => (some (decide (aN > 0)))))
def impl_PlaceOk.f (k : Nat) (ac : List Int) (a0_1 : Int) (ae : List Int) : Option (Bool) := (impl_StartOk.f k ac).bind fun aQ => (if aQ = true then (if a0_1 < (-1) then (impl_PlaceOk.j0 k true ac a0_1 ae) else (if a0_1 > 3 then (impl_PlaceOk.j0 k true ac a0_1 ae) else ((impl_WordOk.f k (ac.length : Int) ae).bind fun au => (impl_PlaceOk.j0 k (!au) ac a0_1 ae)))) else (impl_PlaceOk.j0 k true ac a0_1 ae))
theorem impl_PlaceOk.mono_l : ∀ k, (∀ y0 y1 y2 y3, LeO (impl_PlaceOk.j0 k y0 y1 y2 y3) (impl_PlaceOk.j0 (k + 1) y0 y1 y2 y3))
 | 0 => fun _ _ _ _ r h => by simp [impl_PlaceOk.j0] at h
 | k + 1 => by
  have ih0 := impl_PlaceOk.mono_l k
  ·
   intro y0 y1 y2 y3
   unfold impl_PlaceOk.j0
   repeat' (with_reducible first | exact ih0 _ _ _ _ | exact impl_SameRule.mono _ _ _ | exact impl_StartOk.mono _ _ | exact impl_WordOk.mono _ _ _ | exact impl_ruleWays.mono _ _ _ _ | exact mr_ | exact mn_ | refine mi_ ?_ ?_ | refine mb_ ?_ (fun _ => ?_))
theorem impl_PlaceOk.mono : ∀ a0 a1 a2 k, LeO (impl_PlaceOk.f k a0 a1 a2) (impl_PlaceOk.f (k + 1) a0 a1 a2) := by
 intro a0 a1 a2 k; have ih0 := impl_PlaceOk.mono_l k; unfold impl_PlaceOk.f; repeat' (with_reducible first | exact ih0 _ _ _ _ | exact impl_SameRule.mono _ _ _ | exact impl_StartOk.mono _ _ | exact impl_WordOk.mono _ _ _ | exact impl_ruleWays.mono _ _ _ _ | exact mr_ | exact mn_ | refine mi_ ?_ ?_ | refine mb_ ?_ (fun _ => ?_))
def impl_PlaceOk.T3 : Bool × List (List Nat × List Nat) := (true, [([], []), ([0], [0]), ([], []), ([2], [2]), ([3], [3]), ([], []), ([5], [5]), ([4, 6], [4, 6]), ([], []), ([8], [8]), ([1, 7, 9, 7], [1, 7, 9]), ([10], [10]), ([11, 10, 0, 1, 2, 3, 4, 5, 6, 7, 8, 9, 10, 11], [11])])
def impl_PlaceOk.B3 : List Nat := [0, 1, 0, 4, 12, 0, 32, 124, 0, 256, 1023, 2047, 4095]
theorem impl_PlaceOk.tab3 : rtab .any (opsOf Try.f22 3) = impl_PlaceOk.T3 := by kernel_rfl
theorem impl_PlaceOk.bits3 : waitsOk impl_PlaceOk.T3.2 impl_PlaceOk.B3 = true := by kernel_rfl
set_option maxHeartbeats 8000000 in
set_option maxRecDepth 100000 in
theorem impl_PlaceOk.calls (k : Nat) (am : Option Addr) (an : Nat) (ac : List Int) (a0_1 : Int) (aD : Option Addr) (aE : Nat) (ae : List Int) (r : Bool) (w : World) (hr0_0 : Kd.C (Kd.int .i64) w am ac.length ac) (hc0_0 : ac.length ≤ an) (hr0_2 : Kd.C (Kd.int .i64) w aD ae.length ae) (hc0_2 : ae.length ≤ aE) (h : impl_PlaceOk.f k ac a0_1 ae = some r) :
  Calls Try.prog 22 #[.agg #[.slice am ac.length an, .int .i64 a0_1, .slice aD ae.length aE]] w fun e w' => e = .returned (.bool r) ∧ Below w.heap.size w w' := by
 have hu26 := Try.underlying26; have b0 := A_ hr0_0; have av := A_ hc0_0; clear hr0_0 hc0_0; have bJ := A_ hr0_2; have bh := A_ hc0_2; clear hr0_2 hc0_2; have HB := A_ (Below.refl w.heap.size w); have H : ((impl_StartOk.f k ac).bind fun aQ => (if aQ = true then (if a0_1 < (-1) then (impl_PlaceOk.j0 k true ac a0_1 ae) else (if a0_1 > 3 then (impl_PlaceOk.j0 k true ac a0_1 ae) else ((impl_WordOk.f k (ac.length : Int) ae).bind fun au => (impl_PlaceOk.j0 k (!au) ac a0_1 ae)))) else (impl_PlaceOk.j0 k true ac a0_1 ae))) = some r := h; clear h; have HC2 := A_ H; clear H; go_enter Try.func22, Try.ntmps22
 go_upto_region 1 with (first | ((with_reducible refine gate_dst (N := 1) rfl ?_); (try (refine gate_guard (by rfl) ?_; dsimp only)); refine be_ 1 #[.slice am ac.length an, .int .i64 a0_1, .slice aD ae.length aE] 26 ?_; intro aA hg w3 ab hb; have b1 := gx_ HB hg; have b2 := gx_ HB hg; replace HB := bs_ HB hb; clear hb hg))
 (try simp only [Act.put, sa_, sb_, sc_])
 go_cut [25] (fun cg wc => ∃ (kq : Nat) (aC : Bool), cg = .bool aC ∧ Aside0 (impl_PlaceOk.j0 kq aC ac a0_1 ae = some r) ∧ Aside0 (kq ≤ k) ∧ Aside0 (wc.heap[aA]? = some (.cells #[(.slice am ac.length an), .int .i64 a0_1, (.slice aD ae.length aE)] 26 (0, 0))) ∧ Aside0 (Below w.heap.size w wc))
 case first =>
  have H := HC2.out; clear HC2; obtain ⟨aQ, A4, H⟩ := bnd_ H; (try dsimp only at H); by_cases c5 : aQ = true
  ·
   subst c5; replace H : (if a0_1 < (-1) then (impl_PlaceOk.j0 k true ac a0_1 ae) else (if a0_1 > 3 then (impl_PlaceOk.j0 k true ac a0_1 ae) else ((impl_WordOk.f k (ac.length : Int) ae).bind fun au => (impl_PlaceOk.j0 k (!au) ac a0_1 ae)))) = some r := by rw [if_pos rfl] at H; exact H
   by_cases c6 : a0_1 < (-1)
   ·
    rw [if_pos c6] at H; have ag : decide (a0_1 < (-1)) = true := decide_eq_true c6; clear c6; (first | rw [ag] | (simp only [i64_w, i32_w]; rw [ag]) | skip); have H' := A_ H; clear H; obtain ⟨bj, bk, bl, bm, bn, bo⟩ := cf3_ ab; go_wp2_with (first | ((with_reducible refine gate_callee (f := 37) rfl ?_); refine gl_ (some 5) Try.func37 #[.slice am ac.length an] ?_; (with_reducible refine (impl_StartOk.calls k _ _ ac true _ ?s1 ?s2 A4.out).mono ?_); (case s1 => exact tD_); (case s2 => exact av.out); rintro e w' ⟨rfl, ⟨nd, rfl⟩⟩; refine ⟨_, rfl, ?_⟩)); go_meet
    case rel => exact ⟨_, (true), tx_, H', ⟨by first | omega | exact Nat.le_refl _⟩, ⟨tk_ ab.out⟩, ⟨(tb_ HB.out)⟩⟩
   ·
    rw [if_neg c6] at H; have ag : decide (a0_1 < (-1)) = false := decide_eq_false c6; clear c6; (first | rw [ag] | (simp only [i64_w, i32_w]; rw [ag]) | skip); by_cases c8 : a0_1 > 3
    ·
     rw [if_pos c8] at H; have bi : decide (3 < a0_1) = true := decide_eq_true c8; clear c8; have H' := A_ H; clear H; obtain ⟨bp, bq, br, bs, bu, bv⟩ := cf3_ ab; go_wp2_with (first | ((with_reducible refine gate_callee (f := 37) rfl ?_); refine gl_ (some 5) Try.func37 #[.slice am ac.length an] ?_; (with_reducible refine (impl_StartOk.calls k _ _ ac true _ ?s1 ?s2 A4.out).mono ?_); (case s1 => exact tD_); (case s2 => exact av.out); rintro e w' ⟨rfl, ⟨nd, rfl⟩⟩; refine ⟨_, rfl, ?_⟩)); go_meet
     case rel => exact ⟨_, (true), tx_, H', ⟨by first | omega | exact Nat.le_refl _⟩, ⟨tk_ ab.out⟩, ⟨(tb_ HB.out)⟩⟩
    ·
     rw [if_neg c8] at H; have bi : decide (3 < a0_1) = false := decide_eq_false c8; clear c8; obtain ⟨au, A10, H⟩ := bnd_ H; (try dsimp only at H); have H' := A_ H; clear H; obtain ⟨aX, aY, aZ, a3, a4, a5⟩ := cf3_ ab; go_wp2_with (first | ((with_reducible refine gate_callee (f := 37) rfl ?_); refine gl_ (some 5) Try.func37 #[.slice am ac.length an] ?_; (with_reducible refine (impl_StartOk.calls k _ _ ac true _ ?s1 ?s2 A4.out).mono ?_); (case s1 => exact tD_); (case s2 => exact av.out); rintro e w' ⟨rfl, ⟨nd, rfl⟩⟩; refine ⟨_, rfl, ?_⟩) | (go_at_call 38; (with_reducible refine (impl_WordOk.calls k (ac.length : Int) _ _ ae au _ ?s1 ?s2 A10.out).mono ?_); (case s1 => repeat (first | exact (Kd.C_below bJ.out (tb_ HB.out)) | (with_reducible refine Kd.C_alloc ?_ _) | (with_reducible refine Kd.C_drewN ?_ _) | (with_reducible refine Kd.C_drew ?_))); (case s2 => exact bh.out); rintro e w' ⟨rfl, ⟨nd, rfl⟩⟩)); go_meet
     case rel => exact ⟨_, (!au), tx_, H', ⟨by first | omega | exact Nat.le_refl _⟩, ⟨tk_ ab.out⟩, ⟨(tb_ HB.out)⟩⟩
  ·
   replace c5 := Bool.eq_false_iff.mpr c5; subst c5; replace H : (impl_PlaceOk.j0 k true ac a0_1 ae) = some r := by rw [if_neg (show ¬ (false = true) by decide)] at H; exact H
   have H' := A_ H; clear H; obtain ⟨a6, a7, a8, a9, bb, bc⟩ := cf3_ ab; go_wp2_with (first | ((with_reducible refine gate_callee (f := 37) rfl ?_); refine gl_ (some 5) Try.func37 #[.slice am ac.length an] ?_; (with_reducible refine (impl_StartOk.calls k _ _ ac false _ ?s1 ?s2 A4.out).mono ?_); (case s1 => exact tD_); (case s2 => exact av.out); rintro e w' ⟨rfl, ⟨nd, rfl⟩⟩; refine ⟨_, rfl, ?_⟩)); go_meet
   case rel => exact ⟨_, (true), tx_, H', ⟨by first | omega | exact Nat.le_refl _⟩, ⟨tk_ ab.out⟩, ⟨(tb_ HB.out)⟩⟩
 case rest =>
  clear HC2; (try clear c2); (try clear p2); (try clear c3); (try clear c5); (try clear c6); (try clear ag); (try clear c8); (try clear bi); (try clear aX); (try clear aY); (try clear aZ); (try clear a6); (try clear a7); (try clear a8); (try clear bj); (try clear bk); (try clear bl); (try clear bp); (try clear bq); (try clear br); (try clear a3); (try clear a4); (try clear a5); (try clear a9); (try clear bb); (try clear bc); (try clear bm); (try clear bn); (try clear bo); (try clear bs); (try clear bu); (try clear bv); obtain ⟨kq, aC, rfl, HA, HJ1, ab, HB⟩ := hcut
  cases kq with
  | zero => exact absurd HA.out (by simp [impl_PlaceOk.j0])
  | succ kj1 =>
   have H := HA.out; clear HA; simp only [impl_PlaceOk.j0] at H; by_cases c13 : aC = true
   ·
    subst c13; replace H : (some false) = some r := by rw [if_pos rfl] at H; exact H
    obtain rfl := Option.some.inj H; go_wp2; go_ret; exact ⟨tw_, (tb_ HB.out)⟩
   ·
    replace c13 := Bool.eq_false_iff.mpr c13; subst c13; replace H : ((impl_SameRule.f kj1 (ac.length : Int) a0_1).bind fun ax => ((impl_ruleWays.f kj1 ac ax ae).bind fun aN => (some (decide (aN > 0))))) = some r := by rw [if_neg (show ¬ (false = true) by decide)] at H; exact H
    obtain ⟨ax, A14, H⟩ := bnd_ H; (try dsimp only at H); obtain ⟨aN, A15, H⟩ := bnd_ H; (try dsimp only at H); obtain rfl := Option.some.inj H; (try go_wp2); replace ab := dB_ ab; replace HB := A_ (ld_ HB.out); refine start_ (n := 13) (S := fun w' => w'.cell? ⟨aA, 0, none⟩ = some (.slice am ac.length an) ∧ w'.cell? ⟨aA, 1, none⟩ = some (.int .i64 a0_1) ∧ w'.cell? ⟨aA, 2, none⟩ = some (.slice aD ae.length aE)) (ds := []) #[false, false, false, false, false, false, false, false, false, false, false, false, false] (by kernel_rfl) rfl rfl hh_ (fun hHeld => ?_); refine with_tabW impl_PlaceOk.tab3 impl_PlaceOk.bits3 (fun HT_ HW_ => ?_); generalize wc.drew = cl at ab HB hHeld ⊢; refine pu_ 0 (some 26) #[true, false, false, false, false, false, false, false, false, false, false, false, false] HT_ rfl rfl ?_; refine pu_ 2 (some 28) #[true, false, true, false, false, false, false, false, false, false, false, false, false] HT_ rfl rfl ?_; refine pu_ 5 (some 31) #[true, false, true, false, false, true, false, false, false, false, false, false, false] HT_ rfl rfl ?_; refine pu_ 8 (some 34) #[true, false, true, false, false, true, false, false, true, false, false, false, false] HT_ rfl rfl ?_; refine ta_ 1 (some 27) #[true, true, true, false, false, true, false, false, true, false, false, false, false] HT_ HW_ hHeld rfl rfl ?_; refine ta_ 3 (some 29) #[true, true, true, true, false, true, false, false, true, false, false, false, false] HT_ HW_ hHeld rfl rfl ?_; refine pu_ 4 (some 30) #[true, true, true, true, true, true, false, false, true, false, false, false, false] HT_ rfl rfl ?_; refine ta_ 6 (some 32) #[true, true, true, true, true, true, true, false, true, false, false, false, false] HT_ HW_ hHeld rfl rfl ?_; refine ta_ 9 (some 35) #[true, true, true, true, true, true, true, false, true, true, false, false, false] HT_ HW_ hHeld rfl rfl ?_; refine one_ (i := 7) (N := some 33) #[true, true, true, true, true, true, true, true, true, true, false, false, false] rfl rfl (one_of HT_.out (by kernel_rfl)) (by decide) (fun K hK => ?_); refine goes_ Try.func40 (by kernel_rfl) rfl #[.int .i64 (ac.length : Int), .int .i64 a0_1] (by rfl) rfl rfl tz_ ?_; (with_reducible refine (impl_SameRule.calls kj1 (ac.length : Int) a0_1 ax _ A14.out).mono ?_); rintro e bP ⟨ch, rfl, ho0, hb⟩; refine ⟨_, rfl, ?_⟩; have aw := A_ (Kd.S_lower ho0 (below_size (tb_ HB.out))); replace ab := bb_ ab hb; replace HB := bs_ HB hb; (try clear hb); (try clear hb2); (try clear hk); (try clear hi); (try clear ho0); obtain ⟨bS, bU, bK⟩ := Kd.S_slice aw.out; (first | subst bK | (injection bK with f1_ f2_ f3_; have f4_ := f1_.symm; have f5_ := f3_.symm; clear f1_ f2_ f3_; subst f4_; subst f5_)); refine hK.out _ _ hh_ (fun hHeld => ?_); clear hK K; refine nr_ 33 ?_; refine one_ (i := 10) (N := some 36) #[true, true, true, true, true, true, true, true, true, true, true, false, false] rfl rfl (one_of HT_.out (by kernel_rfl)) (by decide) (fun K hK => ?_); refine goes_ Try.func39 (by kernel_rfl) rfl #[.slice am ac.length an, .slice bS ax.length bU, .slice aD ae.length aE] (by rfl) rfl rfl tz_ ?_; (with_reducible refine (impl_ruleWays.calls kj1 _ _ ac _ _ ax _ _ ae aN _ ?s1 ?s2 ?s3 ?s4 ?s5 ?s6 A15.out).mono ?_); (case s1 => exact tD_); (case s2 => exact av.out); (case s3 => repeat (first | exact (Kd.S_reads' aw.out).2.2 | (with_reducible refine Kd.C_alloc ?_ _) | (with_reducible refine Kd.C_drewN ?_ _) | (with_reducible refine Kd.C_drew ?_))); (case s4 => exact (Kd.S_reads' aw.out).2.1); (case s5 => exact tD_); (case s6 => exact bh.out); rintro e cm ⟨rfl, hb⟩; refine ⟨_, rfl, ?_⟩; replace aw := A_ (Kd.S_below (rS_ aw.out) hb); replace ab := bb_ ab hb; replace HB := bs_ HB hb; (try clear hb); (try clear hb2); (try clear hk); (try clear hi); refine hK.out _ _ hh_ (fun hHeld => ?_); clear hK K; refine nr_ 36 ?_; refine pu_ 11 (some 37) #[true, true, true, true, true, true, true, true, true, true, true, true, false] HT_ rfl rfl ?_; refine pu_ 12 (some 2) #[true, true, true, true, true, true, true, true, true, true, true, true, true] HT_ rfl rfl ?_; refine done_ (done_of HT_.out (by kernel_rfl)) ?_; (try go_wp2); go_ret; exact ⟨tw_, (tb_ HB.out)⟩

end Go.Proofs.Ytncgleffkbegjaa.MFnDeskOk
