/- For the law FnExactPlaceText: walks of the functions that it reaches: each call returns what the plain function beside it tells. The conditions stand in each statement. -/
import Derived.Test.YtlnbobpmjbcejaaDoorMFnExactPlaceTextx0
import Derived.Test.YtlnbobpmjbcejaaDoorMFnExactPlaceTextx1
namespace Go.Proofs.YtlnbobpmjbcejaaDoor.MFnExactPlaceText
open Go.RowKit Go.Proofs.YtlnbobpmjbcejaaDoorW.PrintWords Go.Proofs.YtlnbobpmjbcejaaDoorW.PrintLast Go.Proofs.YtlnbobpmjbcejaaDoorW.PrintMore
attribute [local go_sem] max2_int min2_int max_two min_two max_three min_three max_four min_four   -- for this text's walks alone
set_option linter.unusedVariables false
set_option linter.unusedSimpArgs false

/-! ### spec_RuleOk: function 46 -/
mutual
def spec_RuleOk.l0 : Nat → Int → List (List Int) → Int → Option (Bool)
 | 0, _, _, _ => none
 | k + 1, x0, x1, x5 => if x5 < (x1.length : Int) then (if 0 ≤ x5 then (if ((rd_L2 x1 x5).length : Int) = x0 then (spec_RuleOk.l1 k x0 x1 x5 0) else (some false)) else (none)) else ((spec_l1In.f x0 1 3).bind fun t118 => (if t118 = true then (some ((x1.length : Int) == x0)) else (some false)))
def spec_RuleOk.l1 : Nat → Int → List (List Int) → Int → Int → Option (Bool)
 | 0, _, _, _, _ => none
 | k + 1, x0, x1, x5, x6 => if x6 < x0 then (if 0 ≤ x5 then (if x5 < (x1.length : Int) then (if 0 ≤ x6 then (if x6 < ((rd_L2 x1 x5).length : Int) then ((spec_l1In.f (rd (rd_L2 x1 x5) x6) 0 3).bind fun t122 => (if t122 = true then (spec_RuleOk.l1 k x0 x1 x5 (wrap64 (x6 + 1))) else (if (rd (rd_L2 x1 x5) x6) = (-1) then (if x6 = x5 then (spec_RuleOk.l1 k x0 x1 x5 (wrap64 (x6 + 1))) else (some false)) else (some false)))) else (none)) else (none)) else (none)) else (none)) else (spec_RuleOk.l0 k x0 x1 (wrap64 (x5 + 1)))
end
def spec_RuleOk.f (k : Nat) (a0 : Int) (l1 : List (List Int)) : Option (Bool) := spec_RuleOk.l0 k a0 l1 0
theorem spec_RuleOk.mono_l : ∀ k, (∀ y0 y1 y2, LeO (spec_RuleOk.l0 k y0 y1 y2) (spec_RuleOk.l0 (k + 1) y0 y1 y2)) ∧ (∀ y0 y1 y2 y3, LeO (spec_RuleOk.l1 k y0 y1 y2 y3) (spec_RuleOk.l1 (k + 1) y0 y1 y2 y3))
 | 0 => ⟨fun _ _ _ r h => by simp [spec_RuleOk.l0] at h, fun _ _ _ _ r h => by simp [spec_RuleOk.l1] at h⟩
 | k + 1 => by
  obtain ⟨ih0, ih1⟩ := spec_RuleOk.mono_l k
  refine ⟨?_, ?_⟩
  ·
   intro y0 y1 y2
   unfold spec_RuleOk.l0
   repeat' first
   | (with_reducible exact ih0 _ _ _)
   | (with_reducible exact ih1 _ _ _ _)
   | (with_reducible exact LeO.refl _)
   | (with_reducible exact LeO.none _)
   | (with_reducible refine LeO.ite ?_ ?_)
   | (with_reducible refine LeO.bind ?_ (fun _ => ?_))
   | exact ih0 _ _ _
   | exact ih1 _ _ _ _
   | exact LeO.none _
   | refine LeO.ite ?_ ?_
   | refine LeO.bind ?_ (fun _ => ?_)
  ·
   intro y0 y1 y2 y3
   unfold spec_RuleOk.l1
   repeat' first
   | (with_reducible exact ih0 _ _ _)
   | (with_reducible exact ih1 _ _ _ _)
   | (with_reducible exact LeO.refl _)
   | (with_reducible exact LeO.none _)
   | (with_reducible refine LeO.ite ?_ ?_)
   | (with_reducible refine LeO.bind ?_ (fun _ => ?_))
   | exact ih0 _ _ _
   | exact ih1 _ _ _ _
   | exact LeO.none _
   | refine LeO.ite ?_ ?_
   | refine LeO.bind ?_ (fun _ => ?_)
theorem spec_RuleOk.mono : ∀ a0 a1 k, LeO (spec_RuleOk.f k a0 a1) (spec_RuleOk.f (k + 1) a0 a1) := by
 intro a0 a1 k
 obtain ⟨ih0, ih1⟩ := spec_RuleOk.mono_l k
 unfold spec_RuleOk.f
 repeat' first
   | (with_reducible exact ih0 _ _ _)
   | (with_reducible exact ih1 _ _ _ _)
   | (with_reducible exact LeO.refl _)
   | (with_reducible exact LeO.none _)
   | (with_reducible refine LeO.ite ?_ ?_)
   | (with_reducible refine LeO.bind ?_ (fun _ => ?_))
   | exact ih0 _ _ _
   | exact ih1 _ _ _ _
   | exact LeO.none _
   | refine LeO.ite ?_ ?_
   | refine LeO.bind ?_ (fun _ => ?_)
set_option maxHeartbeats 8000000 in
set_option maxRecDepth 100000 in
theorem spec_RuleOk.calls (k : Nat) (a0 : Int) (A1 : Option Addr) (c1 : Nat) (l1 : List (List Int)) (r : Bool) (w : World) (hr1 : Kd.C (Kd.slice 3 (Kd.int .i64)) w A1 l1.length l1) (hc1 : l1.length ≤ c1) (h : spec_RuleOk.f k a0 l1 = some r) :
  Calls Tryd.prog 46 #[.int .i64 a0, .slice A1 l1.length c1] w fun e w' => e = .returned (.bool r) ∧ Drawn0 w w' := by
 have HR1 := Aside0.mk hr1
 have HC1 := Aside0.mk hc1
 clear hr1 hc1
 have H : (spec_RuleOk.l0 k a0 l1 0) = some r := h
 clear h
 have H' := Aside0.mk H
 clear H
 go_enter Tryd.func46, Tryd.ntmps46
 go_wp2
 go_loopg [5] k (fun kq v5 w' => ∃ (x5_1 : Int), v5 = .int .i64 x5_1 ∧ Aside0 (spec_RuleOk.l0 kq a0 l1 x5_1 = some r) ∧ Aside0 (kq ≤ k) ∧ Drawn0 w w')
 case atStart => exact ⟨(0), tx_, H', ⟨Nat.le_refl _⟩, by repeat (first | exact Drawn0.refl _ | apply Drawn0.step)⟩
 case round =>
  clear H'
  try clear c1
  try clear p2
  obtain ⟨x5_1, rfl, HA, HK1, ⟨m1, rfl⟩⟩ := hrel
  cases gk with
  | zero => exact absurd HA.out (by simp [spec_RuleOk.l0])
  | succ k1 =>
   have H := HA.out
   clear HA
   simp only [spec_RuleOk.l0] at H
   by_cases c3 : x5_1 < (l1.length : Int)
   ·
    rw [if_pos c3] at H
    have c3b0 : decide (x5_1 < (l1.length : Int)) = true := decide_eq_true c3
    clear c3
    by_cases c4 : 0 ≤ x5_1
    ·
     rw [if_pos c4] at H
     have c4b0 : decide (0 ≤ x5_1) = true := decide_eq_true c4
     clear c4
     by_cases c5 : ((rd_L2 l1 x5_1).length : Int) = a0
     ·
      rw [if_pos c5] at H
      have c5b0 : (((rd_L2 l1 x5_1).length : Int) == a0) = true := beq_iff_eq.mpr c5
      have c5b1 : (((rd_L2 l1 x5_1).length : Int) != a0) = false := bne_eq_false_iff_eq.mpr c5
      clear c5
      have H' := Aside0.mk H
      clear H
      have p119 : 0 ≤ (x5_1 : Int) := od_
      have q119 : x5_1 < (l1.length : Int) := od_
      obtain ⟨ad119, A119_0, c119_0, e119, hx119_0, hl119_0, hi119_0⟩ := at_L2 HR1.out x5_1 p119 q119
      cases e119
      have HR119_0 := Aside0.mk hi119_0
      have HC119_0 := Aside0.mk hl119_0
      clear hi119_0 hl119_0
      replace p119 := eq_true p119
      replace q119 := eq_true q119
      go_wp2
      go_loopg [6] k1 (fun kq v6 w' => ∃ (x6_2 : Int), v6 = .int .i64 x6_2 ∧ Aside0 (spec_RuleOk.l1 kq a0 l1 x5_1 x6_2 = some r) ∧ Aside0 (kq ≤ k1) ∧ Drawn0 w w')
      case atStart => exact ⟨(0), tx_, H', ⟨Nat.le_refl _⟩, by repeat (first | exact Drawn0.refl _ | apply Drawn0.step)⟩
      case round =>
       clear H'
       try clear c1
       try clear p1
       try clear q1
       try clear hx1
       try clear p2
       try clear c3
       try clear c3b0
       try clear c4
       try clear c4b0
       try clear c5
       try clear c5b0
       try clear c5b1
       try clear hx119_0
       try clear p119
       try clear p2
       try clear q119
       obtain ⟨x6_2, rfl, HA, HK2, ⟨m2, rfl⟩⟩ := hrel
       cases gk with
       | zero => exact absurd HA.out (by simp [spec_RuleOk.l1])
       | succ k2 =>
        have H := HA.out
        clear HA
        simp only [spec_RuleOk.l1] at H
        by_cases c6 : x6_2 < a0
        ·
         rw [if_pos c6] at H
         have c6b0 : decide (x6_2 < a0) = true := decide_eq_true c6
         clear c6
         by_cases c7 : 0 ≤ x5_1
         ·
          rw [if_pos c7] at H
          have c7b0 : decide (0 ≤ x5_1) = true := decide_eq_true c7
          clear c7
          by_cases c8 : x5_1 < (l1.length : Int)
          ·
           rw [if_pos c8] at H
           have c8b0 : decide (x5_1 < (l1.length : Int)) = true := decide_eq_true c8
           clear c8
           by_cases c9 : 0 ≤ x6_2
           ·
            rw [if_pos c9] at H
            have c9b0 : decide (0 ≤ x6_2) = true := decide_eq_true c9
            clear c9
            by_cases c10 : x6_2 < ((rd_L2 l1 x5_1).length : Int)
            ·
             rw [if_pos c10] at H
             have c10b0 : decide (x6_2 < ((rd_L2 l1 x5_1).length : Int)) = true := decide_eq_true c10
             clear c10
             replace H := Option.bind_eq_some_iff.mp H
             obtain ⟨t122, A110, H⟩ := H
             replace H : (if t122 = true then (spec_RuleOk.l1 k2 a0 l1 x5_1 (wrap64 (x6_2 + 1))) else (if (rd (rd_L2 l1 x5_1) x6_2) = (-1) then (if x6_2 = x5_1 then (spec_RuleOk.l1 k2 a0 l1 x5_1 (wrap64 (x6_2 + 1))) else (some false)) else (some false))) = some r := H
             have A11 := Aside0.mk A110
             clear A110
             by_cases c12 : t122 = true
             ·
              subst c12
              have H1 : (spec_RuleOk.l1 k2 a0 l1 x5_1 (wrap64 (x6_2 + 1))) = some r := by rw [if_pos rfl] at H; exact H
              clear H
              have H := H1
              clear H1
              have H' := Aside0.mk H
              clear H
              have p120 : 0 ≤ (x5_1 : Int) := od_
              have q120 : x5_1 < (l1.length : Int) := od_
              obtain ⟨ad120, A120_0, c120_0, e120, hx120_0, hl120_0, hi120_0⟩ := at_L2 HR1.out x5_1 p120 q120
              obtain rfl : ad119 = ad120 := (by injection e120)
              have HR120_0 := Aside0.mk hi120_0
              have HC120_0 := Aside0.mk hl120_0
              clear hi120_0 hl120_0
              replace p120 := eq_true p120
              replace q120 := eq_true q120
              have p121 : 0 ≤ (x6_2 : Int) := od_
              have q121 : x6_2 < ((rd_L2 l1 x5_1).length : Int) := od_
              obtain ⟨ad121, e121, hx121_0⟩ := Kd.at_int HR120_0.out x6_2 p121 q121
              cases e121
              replace p121 := eq_true p121
              replace q121 := eq_true q121
              go_wp2_with (first | ((with_reducible refine gate_callee (f := 23) rfl ?_); refine goesL_ (some 32) rfl rfl Tryd.func23 (by kernel_rfl) rfl #[.int .i64 (rd (rd_L2 l1 x5_1) x6_2), .int .i64 0, .int .i64 3] rfl tz_ ?_; (with_reducible refine (spec_l1In.calls (rd (rd_L2 l1 x5_1) x6_2) 0 3 true _ A11.out).mono ?_); rintro e w' ⟨rfl, ⟨nd, rfl⟩⟩; refine ⟨_, rfl, ?_⟩))
              go_roundg k2
              case measure => have := HK1.out; have := HK2.out; omega
              case rel => exact ⟨(wrap64 (x6_2 + 1)), tx_, H', ⟨by have := HK1.out; have := HK2.out; omega⟩, by repeat (first | exact Drawn0.refl _ | apply Drawn0.step)⟩
             ·
              replace c12 := Bool.eq_false_iff.mpr c12
              subst c12
              have H1 : (if (rd (rd_L2 l1 x5_1) x6_2) = (-1) then (if x6_2 = x5_1 then (spec_RuleOk.l1 k2 a0 l1 x5_1 (wrap64 (x6_2 + 1))) else (some false)) else (some false)) = some r := by rw [if_neg (show ¬ (false = true) by decide)] at H; exact H
              clear H
              have H := H1
              clear H1
              by_cases c13 : (rd (rd_L2 l1 x5_1) x6_2) = (-1)
              ·
               rw [if_pos c13] at H
               have c13b0 : ((rd (rd_L2 l1 x5_1) x6_2) == (-1)) = true := beq_iff_eq.mpr c13
               have c13b1 : ((rd (rd_L2 l1 x5_1) x6_2) != (-1)) = false := bne_eq_false_iff_eq.mpr c13
               clear c13
               by_cases c14 : x6_2 = x5_1
               ·
                rw [if_pos c14] at H
                have c14b0 : (x6_2 == x5_1) = true := beq_iff_eq.mpr c14
                have c14b1 : (x6_2 != x5_1) = false := bne_eq_false_iff_eq.mpr c14
                clear c14
                have H' := Aside0.mk H
                clear H
                have p120 : 0 ≤ (x5_1 : Int) := od_
                have q120 : x5_1 < (l1.length : Int) := od_
                obtain ⟨ad120, A120_0, c120_0, e120, hx120_0, hl120_0, hi120_0⟩ := at_L2 HR1.out x5_1 p120 q120
                obtain rfl : ad119 = ad120 := (by injection e120)
                have HR120_0 := Aside0.mk hi120_0
                have HC120_0 := Aside0.mk hl120_0
                clear hi120_0 hl120_0
                replace p120 := eq_true p120
                replace q120 := eq_true q120
                have p121 : 0 ≤ (x6_2 : Int) := od_
                have q121 : x6_2 < ((rd_L2 l1 x5_1).length : Int) := od_
                obtain ⟨ad121, e121, hx121_0⟩ := Kd.at_int HR120_0.out x6_2 p121 q121
                cases e121
                replace p121 := eq_true p121
                replace q121 := eq_true q121
                go_wp2_with (first | ((with_reducible refine gate_callee (f := 23) rfl ?_); refine goesL_ (some 32) rfl rfl Tryd.func23 (by kernel_rfl) rfl #[.int .i64 (rd (rd_L2 l1 x5_1) x6_2), .int .i64 0, .int .i64 3] rfl tz_ ?_; (with_reducible refine (spec_l1In.calls (rd (rd_L2 l1 x5_1) x6_2) 0 3 false _ A11.out).mono ?_); rintro e w' ⟨rfl, ⟨nd, rfl⟩⟩; refine ⟨_, rfl, ?_⟩; have p123 : 0 ≤ (x5_1 : Int) := od_; have q123 : x5_1 < (l1.length : Int) := od_; obtain ⟨ad123, A123_0, c123_0, e123, hx123_0, hl123_0, hi123_0⟩ := at_L2 HR1.out x5_1 p123 q123; obtain rfl : ad119 = ad123 := (by injection e123); have HR123_0 := Aside0.mk hi123_0; have HC123_0 := Aside0.mk hl123_0; clear hi123_0 hl123_0; replace p123 := eq_true p123; replace q123 := eq_true q123; have ea_ := Option.some.inj (hx120_0.symm.trans hx123_0); injection ea_ with ea_ en_ ec_; subst ea_; subst ec_; clear en_; have p124 : 0 ≤ (x6_2 : Int) := od_; have q124 : x6_2 < ((rd_L2 l1 x5_1).length : Int) := od_; obtain ⟨ad124, e124, hx124_0⟩ := Kd.at_int HR123_0.out x6_2 p124 q124; cases e124; replace p124 := eq_true p124; replace q124 := eq_true q124))
                go_roundg k2
                case measure => have := HK1.out; have := HK2.out; omega
                case rel => exact ⟨(wrap64 (x6_2 + 1)), tx_, H', ⟨by have := HK1.out; have := HK2.out; omega⟩, by repeat (first | exact Drawn0.refl _ | apply Drawn0.step)⟩
               ·
                rw [if_neg c14] at H
                have c14b0 : (x6_2 == x5_1) = false := beq_eq_false_iff_ne.mpr c14
                have c14b1 : (x6_2 != x5_1) = true := bne_iff_ne.mpr c14
                obtain rfl := Option.some.inj H
                have p120 : 0 ≤ (x5_1 : Int) := od_
                have q120 : x5_1 < (l1.length : Int) := od_
                obtain ⟨ad120, A120_0, c120_0, e120, hx120_0, hl120_0, hi120_0⟩ := at_L2 HR1.out x5_1 p120 q120
                obtain rfl : ad119 = ad120 := (by injection e120)
                have HR120_0 := Aside0.mk hi120_0
                have HC120_0 := Aside0.mk hl120_0
                clear hi120_0 hl120_0
                replace p120 := eq_true p120
                replace q120 := eq_true q120
                have p121 : 0 ≤ (x6_2 : Int) := od_
                have q121 : x6_2 < ((rd_L2 l1 x5_1).length : Int) := od_
                obtain ⟨ad121, e121, hx121_0⟩ := Kd.at_int HR120_0.out x6_2 p121 q121
                cases e121
                replace p121 := eq_true p121
                replace q121 := eq_true q121
                go_wp2_with (first | ((with_reducible refine gate_callee (f := 23) rfl ?_); refine goesL_ (some 32) rfl rfl Tryd.func23 (by kernel_rfl) rfl #[.int .i64 (rd (rd_L2 l1 x5_1) x6_2), .int .i64 0, .int .i64 3] rfl tz_ ?_; (with_reducible refine (spec_l1In.calls (rd (rd_L2 l1 x5_1) x6_2) 0 3 false _ A11.out).mono ?_); rintro e w' ⟨rfl, ⟨nd, rfl⟩⟩; refine ⟨_, rfl, ?_⟩; have p123 : 0 ≤ (x5_1 : Int) := od_; have q123 : x5_1 < (l1.length : Int) := od_; obtain ⟨ad123, A123_0, c123_0, e123, hx123_0, hl123_0, hi123_0⟩ := at_L2 HR1.out x5_1 p123 q123; obtain rfl : ad119 = ad123 := (by injection e123); have HR123_0 := Aside0.mk hi123_0; have HC123_0 := Aside0.mk hl123_0; clear hi123_0 hl123_0; replace p123 := eq_true p123; replace q123 := eq_true q123; have ea_ := Option.some.inj (hx120_0.symm.trans hx123_0); injection ea_ with ea_ en_ ec_; subst ea_; subst ec_; clear en_; have p124 : 0 ≤ (x6_2 : Int) := od_; have q124 : x6_2 < ((rd_L2 l1 x5_1).length : Int) := od_; obtain ⟨ad124, e124, hx124_0⟩ := Kd.at_int HR123_0.out x6_2 p124 q124; cases e124; replace p124 := eq_true p124; replace q124 := eq_true q124))
                go_ret
                exact ⟨tx_, by repeat (first | exact Drawn0.refl _ | apply Drawn0.step)⟩
              ·
               rw [if_neg c13] at H
               have c13b0 : ((rd (rd_L2 l1 x5_1) x6_2) == (-1)) = false := beq_eq_false_iff_ne.mpr c13
               have c13b1 : ((rd (rd_L2 l1 x5_1) x6_2) != (-1)) = true := bne_iff_ne.mpr c13
               obtain rfl := Option.some.inj H
               have p120 : 0 ≤ (x5_1 : Int) := od_
               have q120 : x5_1 < (l1.length : Int) := od_
               obtain ⟨ad120, A120_0, c120_0, e120, hx120_0, hl120_0, hi120_0⟩ := at_L2 HR1.out x5_1 p120 q120
               obtain rfl : ad119 = ad120 := (by injection e120)
               have HR120_0 := Aside0.mk hi120_0
               have HC120_0 := Aside0.mk hl120_0
               clear hi120_0 hl120_0
               replace p120 := eq_true p120
               replace q120 := eq_true q120
               have p121 : 0 ≤ (x6_2 : Int) := od_
               have q121 : x6_2 < ((rd_L2 l1 x5_1).length : Int) := od_
               obtain ⟨ad121, e121, hx121_0⟩ := Kd.at_int HR120_0.out x6_2 p121 q121
               cases e121
               replace p121 := eq_true p121
               replace q121 := eq_true q121
               go_wp2_with (first | ((with_reducible refine gate_callee (f := 23) rfl ?_); refine goesL_ (some 32) rfl rfl Tryd.func23 (by kernel_rfl) rfl #[.int .i64 (rd (rd_L2 l1 x5_1) x6_2), .int .i64 0, .int .i64 3] rfl tz_ ?_; (with_reducible refine (spec_l1In.calls (rd (rd_L2 l1 x5_1) x6_2) 0 3 false _ A11.out).mono ?_); rintro e w' ⟨rfl, ⟨nd, rfl⟩⟩; refine ⟨_, rfl, ?_⟩; have p123 : 0 ≤ (x5_1 : Int) := od_; have q123 : x5_1 < (l1.length : Int) := od_; obtain ⟨ad123, A123_0, c123_0, e123, hx123_0, hl123_0, hi123_0⟩ := at_L2 HR1.out x5_1 p123 q123; obtain rfl : ad119 = ad123 := (by injection e123); have HR123_0 := Aside0.mk hi123_0; have HC123_0 := Aside0.mk hl123_0; clear hi123_0 hl123_0; replace p123 := eq_true p123; replace q123 := eq_true q123; have ea_ := Option.some.inj (hx120_0.symm.trans hx123_0); injection ea_ with ea_ en_ ec_; subst ea_; subst ec_; clear en_; have p124 : 0 ≤ (x6_2 : Int) := od_; have q124 : x6_2 < ((rd_L2 l1 x5_1).length : Int) := od_; obtain ⟨ad124, e124, hx124_0⟩ := Kd.at_int HR123_0.out x6_2 p124 q124; cases e124; replace p124 := eq_true p124; replace q124 := eq_true q124))
               go_ret
               exact ⟨tx_, by repeat (first | exact Drawn0.refl _ | apply Drawn0.step)⟩
            ·
             rw [if_neg c10] at H
             exact absurd H (by simp)
           ·
            rw [if_neg c9] at H
            exact absurd H (by simp)
          ·
           rw [if_neg c8] at H
           exact absurd H (by simp)
         ·
          rw [if_neg c7] at H
          exact absurd H (by simp)
        ·
         rw [if_neg c6] at H
         have c6b0 : decide (x6_2 < a0) = false := decide_eq_false c6
         clear c6
         have H' := Aside0.mk H
         clear H
         go_wp2
         go_roundg k2
         case measure => have := HK1.out; have := HK2.out; omega
         case rel => exact ⟨(wrap64 (x5_1 + 1)), tx_, H', ⟨by have := HK1.out; have := HK2.out; omega⟩, by repeat (first | exact Drawn0.refl _ | apply Drawn0.step)⟩
     ·
      rw [if_neg c5] at H
      have c5b0 : (((rd_L2 l1 x5_1).length : Int) == a0) = false := beq_eq_false_iff_ne.mpr c5
      have c5b1 : (((rd_L2 l1 x5_1).length : Int) != a0) = true := bne_iff_ne.mpr c5
      obtain rfl := Option.some.inj H
      have p119 : 0 ≤ (x5_1 : Int) := od_
      have q119 : x5_1 < (l1.length : Int) := od_
      obtain ⟨ad119, A119_0, c119_0, e119, hx119_0, hl119_0, hi119_0⟩ := at_L2 HR1.out x5_1 p119 q119
      cases e119
      have HR119_0 := Aside0.mk hi119_0
      have HC119_0 := Aside0.mk hl119_0
      clear hi119_0 hl119_0
      replace p119 := eq_true p119
      replace q119 := eq_true q119
      go_wp2
      go_ret
      exact ⟨tx_, by repeat (first | exact Drawn0.refl _ | apply Drawn0.step)⟩
    ·
     rw [if_neg c4] at H
     exact absurd H (by simp)
   ·
    rw [if_neg c3] at H
    have c3b0 : decide (x5_1 < (l1.length : Int)) = false := decide_eq_false c3
    clear c3
    replace H := Option.bind_eq_some_iff.mp H
    obtain ⟨t118, A150, H⟩ := H
    replace H : (if t118 = true then (some ((l1.length : Int) == a0)) else (some false)) = some r := H
    have A15 := Aside0.mk A150
    clear A150
    by_cases c16 : t118 = true
    ·
     subst c16
     have H1 : (some ((l1.length : Int) == a0)) = some r := by rw [if_pos rfl] at H; exact H
     clear H
     have H := H1
     clear H1
     obtain rfl := Option.some.inj H
     go_wp2_with (first | ((with_reducible refine gate_callee (f := 23) rfl ?_); refine goesL_ (some 51) rfl rfl Tryd.func23 (by kernel_rfl) rfl #[.int .i64 a0, .int .i64 1, .int .i64 3] rfl tz_ ?_; (with_reducible refine (spec_l1In.calls a0 1 3 true _ A15.out).mono ?_); rintro e w' ⟨rfl, ⟨nd, rfl⟩⟩; refine ⟨_, rfl, ?_⟩))
     go_ret
     exact ⟨tx_, by repeat (first | exact Drawn0.refl _ | apply Drawn0.step)⟩
    ·
     replace c16 := Bool.eq_false_iff.mpr c16
     subst c16
     have H1 : (some false) = some r := by rw [if_neg (show ¬ (false = true) by decide)] at H; exact H
     clear H
     have H := H1
     clear H1
     obtain rfl := Option.some.inj H
     go_wp2_with (first | ((with_reducible refine gate_callee (f := 23) rfl ?_); refine goesL_ (some 51) rfl rfl Tryd.func23 (by kernel_rfl) rfl #[.int .i64 a0, .int .i64 1, .int .i64 3] rfl tz_ ?_; (with_reducible refine (spec_l1In.calls a0 1 3 false _ A15.out).mono ?_); rintro e w' ⟨rfl, ⟨nd, rfl⟩⟩; refine ⟨_, rfl, ?_⟩))
     go_ret
     exact ⟨tx_, by repeat (first | exact Drawn0.refl _ | apply Drawn0.step)⟩

/-! ### spec_WordOk: function 47 -/
def spec_WordOk.l0 : Nat → Int → List Int → Int → Option (Bool)
 | 0, _, _, _ => none
 | k + 1, x0, x1, x5 => if x5 < (x1.length : Int) then (if 0 ≤ x5 then (if (rd x1 x5) < 0 then (some false) else (if (rd x1 x5) ≥ x0 then (some false) else (spec_WordOk.l0 k x0 x1 (wrap64 (x5 + 1))))) else (none)) else ((spec_l1In.f x0 1 3).bind fun t127 => (if t127 = true then (some (decide ((x1.length : Int) ≤ 6))) else (some false)))
def spec_WordOk.f (k : Nat) (a0 : Int) (l1 : List Int) : Option (Bool) := spec_WordOk.l0 k a0 l1 0
theorem spec_WordOk.mono_l : ∀ k, (∀ y0 y1 y2, LeO (spec_WordOk.l0 k y0 y1 y2) (spec_WordOk.l0 (k + 1) y0 y1 y2))
 | 0 => fun _ _ _ r h => by simp [spec_WordOk.l0] at h
 | k + 1 => by
  have ih0 := spec_WordOk.mono_l k
  ·
   intro y0 y1 y2
   unfold spec_WordOk.l0
   repeat' first
   | (with_reducible exact ih0 _ _ _)
   | (with_reducible exact LeO.refl _)
   | (with_reducible exact LeO.none _)
   | (with_reducible refine LeO.ite ?_ ?_)
   | (with_reducible refine LeO.bind ?_ (fun _ => ?_))
   | exact ih0 _ _ _
   | exact LeO.none _
   | refine LeO.ite ?_ ?_
   | refine LeO.bind ?_ (fun _ => ?_)
theorem spec_WordOk.mono : ∀ a0 a1 k, LeO (spec_WordOk.f k a0 a1) (spec_WordOk.f (k + 1) a0 a1) := by
 intro a0 a1 k
 have ih0 := spec_WordOk.mono_l k
 unfold spec_WordOk.f
 repeat' first
   | (with_reducible exact ih0 _ _ _)
   | (with_reducible exact LeO.refl _)
   | (with_reducible exact LeO.none _)
   | (with_reducible refine LeO.ite ?_ ?_)
   | (with_reducible refine LeO.bind ?_ (fun _ => ?_))
   | exact ih0 _ _ _
   | exact LeO.none _
   | refine LeO.ite ?_ ?_
   | refine LeO.bind ?_ (fun _ => ?_)
set_option maxHeartbeats 8000000 in
set_option maxRecDepth 100000 in
theorem spec_WordOk.calls (k : Nat) (a0 : Int) (A1 : Option Addr) (c1 : Nat) (l1 : List Int) (r : Bool) (w : World) (hr1 : Kd.C (Kd.int .i64) w A1 l1.length l1) (hc1 : l1.length ≤ c1) (h : spec_WordOk.f k a0 l1 = some r) :
  Calls Tryd.prog 47 #[.int .i64 a0, .slice A1 l1.length c1] w fun e w' => e = .returned (.bool r) ∧ Drawn0 w w' := by
 have HR1 := Aside0.mk hr1
 have HC1 := Aside0.mk hc1
 clear hr1 hc1
 have H : (spec_WordOk.l0 k a0 l1 0) = some r := h
 clear h
 have H' := Aside0.mk H
 clear H
 go_enter Tryd.func47, Tryd.ntmps47
 go_wp2
 go_loopg [5] k (fun kq v5 w' => ∃ (x5_1 : Int), v5 = .int .i64 x5_1 ∧ Aside0 (spec_WordOk.l0 kq a0 l1 x5_1 = some r) ∧ Aside0 (kq ≤ k) ∧ Drawn0 w w')
 case atStart => exact ⟨(0), tx_, H', ⟨Nat.le_refl _⟩, by repeat (first | exact Drawn0.refl _ | apply Drawn0.step)⟩
 case round =>
  clear H'
  try clear c1
  try clear p2
  obtain ⟨x5_1, rfl, HA, HK1, ⟨m1, rfl⟩⟩ := hrel
  cases gk with
  | zero => exact absurd HA.out (by simp [spec_WordOk.l0])
  | succ k1 =>
   have H := HA.out
   clear HA
   simp only [spec_WordOk.l0] at H
   by_cases c3 : x5_1 < (l1.length : Int)
   ·
    rw [if_pos c3] at H
    have c3b0 : decide (x5_1 < (l1.length : Int)) = true := decide_eq_true c3
    clear c3
    by_cases c4 : 0 ≤ x5_1
    ·
     rw [if_pos c4] at H
     have c4b0 : decide (0 ≤ x5_1) = true := decide_eq_true c4
     clear c4
     by_cases c5 : (rd l1 x5_1) < 0
     ·
      rw [if_pos c5] at H
      have c5b0 : decide ((rd l1 x5_1) < 0) = true := decide_eq_true c5
      clear c5
      obtain rfl := Option.some.inj H
      have p125 : 0 ≤ (x5_1 : Int) := od_
      have q125 : x5_1 < (l1.length : Int) := od_
      obtain ⟨ad125, e125, hx125_0⟩ := Kd.at_int HR1.out x5_1 p125 q125
      cases e125
      replace p125 := eq_true p125
      replace q125 := eq_true q125
      go_wp2
      go_ret
      exact ⟨tx_, by repeat (first | exact Drawn0.refl _ | apply Drawn0.step)⟩
     ·
      rw [if_neg c5] at H
      have c5b0 : decide ((rd l1 x5_1) < 0) = false := decide_eq_false c5
      clear c5
      by_cases c6 : (rd l1 x5_1) ≥ a0
      ·
       rw [if_pos c6] at H
       have c6b0 : decide (a0 ≤ (rd l1 x5_1)) = true := decide_eq_true c6
       clear c6
       obtain rfl := Option.some.inj H
       have p125 : 0 ≤ (x5_1 : Int) := od_
       have q125 : x5_1 < (l1.length : Int) := od_
       obtain ⟨ad125, e125, hx125_0⟩ := Kd.at_int HR1.out x5_1 p125 q125
       cases e125
       replace p125 := eq_true p125
       replace q125 := eq_true q125
       have p126 : 0 ≤ (x5_1 : Int) := od_
       have q126 : x5_1 < (l1.length : Int) := od_
       obtain ⟨ad126, e126, hx126_0⟩ := Kd.at_int HR1.out x5_1 p126 q126
       obtain rfl : ad125 = ad126 := (by injection e126)
       replace p126 := eq_true p126
       replace q126 := eq_true q126
       go_wp2
       go_ret
       exact ⟨tx_, by repeat (first | exact Drawn0.refl _ | apply Drawn0.step)⟩
      ·
       rw [if_neg c6] at H
       have c6b0 : decide (a0 ≤ (rd l1 x5_1)) = false := decide_eq_false c6
       clear c6
       have H' := Aside0.mk H
       clear H
       have p125 : 0 ≤ (x5_1 : Int) := od_
       have q125 : x5_1 < (l1.length : Int) := od_
       obtain ⟨ad125, e125, hx125_0⟩ := Kd.at_int HR1.out x5_1 p125 q125
       cases e125
       replace p125 := eq_true p125
       replace q125 := eq_true q125
       have p126 : 0 ≤ (x5_1 : Int) := od_
       have q126 : x5_1 < (l1.length : Int) := od_
       obtain ⟨ad126, e126, hx126_0⟩ := Kd.at_int HR1.out x5_1 p126 q126
       obtain rfl : ad125 = ad126 := (by injection e126)
       replace p126 := eq_true p126
       replace q126 := eq_true q126
       go_wp2
       go_roundg k1
       case measure => have := HK1.out; omega
       case rel => exact ⟨(wrap64 (x5_1 + 1)), tx_, H', ⟨by have := HK1.out; omega⟩, by repeat (first | exact Drawn0.refl _ | apply Drawn0.step)⟩
    ·
     rw [if_neg c4] at H
     exact absurd H (by simp)
   ·
    rw [if_neg c3] at H
    have c3b0 : decide (x5_1 < (l1.length : Int)) = false := decide_eq_false c3
    clear c3
    replace H := Option.bind_eq_some_iff.mp H
    obtain ⟨t127, A70, H⟩ := H
    replace H : (if t127 = true then (some (decide ((l1.length : Int) ≤ 6))) else (some false)) = some r := H
    have A7 := Aside0.mk A70
    clear A70
    by_cases c8 : t127 = true
    ·
     subst c8
     have H1 : (some (decide ((l1.length : Int) ≤ 6))) = some r := by rw [if_pos rfl] at H; exact H
     clear H
     have H := H1
     clear H1
     obtain rfl := Option.some.inj H
     go_wp2_with (first | ((with_reducible refine gate_callee (f := 23) rfl ?_); refine goesL_ (some 26) rfl rfl Tryd.func23 (by kernel_rfl) rfl #[.int .i64 a0, .int .i64 1, .int .i64 3] rfl tz_ ?_; (with_reducible refine (spec_l1In.calls a0 1 3 true _ A7.out).mono ?_); rintro e w' ⟨rfl, ⟨nd, rfl⟩⟩; refine ⟨_, rfl, ?_⟩))
     go_ret
     exact ⟨tx_, by repeat (first | exact Drawn0.refl _ | apply Drawn0.step)⟩
    ·
     replace c8 := Bool.eq_false_iff.mpr c8
     subst c8
     have H1 : (some false) = some r := by rw [if_neg (show ¬ (false = true) by decide)] at H; exact H
     clear H
     have H := H1
     clear H1
     obtain rfl := Option.some.inj H
     go_wp2_with (first | ((with_reducible refine gate_callee (f := 23) rfl ?_); refine goesL_ (some 26) rfl rfl Tryd.func23 (by kernel_rfl) rfl #[.int .i64 a0, .int .i64 1, .int .i64 3] rfl tz_ ?_; (with_reducible refine (spec_l1In.calls a0 1 3 false _ A7.out).mono ?_); rintro e w' ⟨rfl, ⟨nd, rfl⟩⟩; refine ⟨_, rfl, ?_⟩))
     go_ret
     exact ⟨tx_, by repeat (first | exact Drawn0.refl _ | apply Drawn0.step)⟩

/-! ### spec_l4After: function 48 -/
def spec_l4After.l0 : Nat → List Int → List (List Int) → Int → List Int → Int → Option (List Int)
 | 0, _, _, _, _, _ => none
 | k + 1, x0, x1, x2, x7, x8 => if x8 < (x0.length : Int) then (if 0 ≤ x8 then (if 0 ≤ x2 then (if x2 < (x1.length : Int) then (if x8 < ((rd_L2 x1 x2).length : Int) then (if x7.length < 17592186044416 then (spec_l4After.l0 k x0 x1 x2 (x7 ++ [wrap64 ((rd x0 x8) + (rd (rd_L2 x1 x2) x8))]) (wrap64 (x8 + 1))) else (none)) else (none)) else (none)) else (none)) else (none)) else (some x7)
def spec_l4After.f (k : Nat) (l0 : List Int) (l1 : List (List Int)) (a2 : Int) : Option (List Int) := spec_l4After.l0 k l0 l1 a2 (([] : List Int)) 0
theorem spec_l4After.mono_l : ∀ k, (∀ y0 y1 y2 y3 y4, LeO (spec_l4After.l0 k y0 y1 y2 y3 y4) (spec_l4After.l0 (k + 1) y0 y1 y2 y3 y4))
 | 0 => fun _ _ _ _ _ r h => by simp [spec_l4After.l0] at h
 | k + 1 => by
  have ih0 := spec_l4After.mono_l k
  ·
   intro y0 y1 y2 y3 y4
   unfold spec_l4After.l0
   repeat' first
   | (with_reducible exact ih0 _ _ _ _ _)
   | (with_reducible exact LeO.refl _)
   | (with_reducible exact LeO.none _)
   | (with_reducible refine LeO.ite ?_ ?_)
   | (with_reducible refine LeO.bind ?_ (fun _ => ?_))
   | exact ih0 _ _ _ _ _
   | exact LeO.none _
   | refine LeO.ite ?_ ?_
   | refine LeO.bind ?_ (fun _ => ?_)
theorem spec_l4After.mono : ∀ a0 a1 a2 k, LeO (spec_l4After.f k a0 a1 a2) (spec_l4After.f (k + 1) a0 a1 a2) := by
 intro a0 a1 a2 k
 have ih0 := spec_l4After.mono_l k
 unfold spec_l4After.f
 repeat' first
   | (with_reducible exact ih0 _ _ _ _ _)
   | (with_reducible exact LeO.refl _)
   | (with_reducible exact LeO.none _)
   | (with_reducible refine LeO.ite ?_ ?_)
   | (with_reducible refine LeO.bind ?_ (fun _ => ?_))
   | exact ih0 _ _ _ _ _
   | exact LeO.none _
   | refine LeO.ite ?_ ?_
   | refine LeO.bind ?_ (fun _ => ?_)
def spec_l4After.T5 : Bool × List (List Nat × List Nat) := (true, [([], []), ([], []), ([], []), ([1, 2], [1, 2]), ([3], [3]), ([], []), ([], []), ([5, 6], [5, 6]), ([7], [7]), ([], []), ([8, 9], [8, 9]), ([10], [10]), ([4, 11], [4, 11]), ([12], [12]), ([0, 13], [0, 13]), ([14, 14, 0, 1, 2, 3, 4, 5, 6, 7, 8, 9, 10, 11, 12, 13, 14], [0, 14])])
def spec_l4After.B5 : List Nat := [0, 0, 0, 6, 14, 0, 0, 96, 224, 0, 992, 2016, 4094, 8190, 16383, 32767]
theorem spec_l4After.tab5 : rtab .any (opsOf Tryd.f48 5) = spec_l4After.T5 := by kernel_rfl
theorem spec_l4After.bits5 : waitsOk spec_l4After.T5.2 spec_l4After.B5 = true := by kernel_rfl
set_option maxHeartbeats 8000000 in
set_option maxRecDepth 100000 in
theorem spec_l4After.calls (k : Nat) (A0 : Option Addr) (c0 : Nat) (l0 : List Int) (A1 : Option Addr) (c1 : Nat) (l1 : List (List Int)) (a2 : Int) (r : List Int) (w : World) (hr0 : Kd.C (Kd.int .i64) w A0 l0.length l0) (hc0 : l0.length ≤ c0) (hr1 : Kd.C (Kd.slice 3 (Kd.int .i64)) w A1 l1.length l1) (hc1 : l1.length ≤ c1) (h : spec_l4After.f k l0 l1 a2 = some r) :
  Calls Tryd.prog 48 #[.slice A0 l0.length c0, .slice A1 l1.length c1, .int .i64 a2] w fun e w' => ∃ v0_ : Value, e = .returned (v0_) ∧ Kd.R (Kd.int .i64) 3 w' w.heap.size (fun _ => True) v0_ r ∧ Below w.heap.size w w' := by
 have HR0 := Aside0.mk hr0
 have HC0 := Aside0.mk hc0
 clear hr0 hc0
 have HR1 := Aside0.mk hr1
 have HC1 := Aside0.mk hc1
 clear hr1 hc1
 have HB := Aside0.mk (Below.refl w.heap.size w)
 have H : (spec_l4After.l0 k l0 l1 a2 (([] : List Int)) 0) = some r := h
 clear h
 obtain ⟨y128, hy128⟩ : ∃ y_ : List Int, y_ = (([] : List Int)) := ⟨_, rfl⟩
 replace H : (spec_l4After.l0 k l0 l1 a2 y128 0) = some r := by first | (rw [hy128]; with_reducible exact H) | (have H2_ := (Option.bind_some _ _).symm.trans H; rw [hy128]; with_reducible exact H2_) | (have H2_ := (Option.bind_some _ _).symm.trans H; with_reducible exact H2_) | with_reducible exact H | (rw [hy128]; exact H) | exact H
 have Ny128 := Aside0.mk hy128
 clear hy128
 have H' := Aside0.mk H
 clear H
 go_enter Tryd.func48, Tryd.ntmps48
 go_wp2_with (first | ((with_reducible refine gate_dst (N := 9) rfl ?_); refine Kd.R_lit (Kd.int .i64) _ 3 ?hg (N := 9) ?hd (xs := ([] : List Int)) (inner := []) (ok := fun _ => True) (okp := fun _ => True) ?hr ?hp (fun _ hk => hk) trivial (Below.refl _ _) (Nat.le_refl _) (by simp) ?_; (case hd => rfl); (case hg => rfl); (case hr => first | (go_simp; done) | (go_simp; rfl)); (case hp => exact (Reps.none _ _)); intro v129 w4 ho5 hb hg_ hnew_; clear hg_ hnew_; (first | rw [← Ny128.out] at ho5 | (simp only [Int.reduceToNat] at ho5; rw [← Ny128.out] at ho5)); have n0_ := Aside0.mk (Kd.R_lower ho5 (below_size (tb_ HB.out))); have n1_ := Aside0.mk (below_step (tb_ HB.out) hb); clear HB; have HO130 := n0_; have HB := n1_; clear n0_ n1_ hb ho5))
 go_loopg [7, 8] k (fun kq v7 v8 w' => ∃ (x7_1 : List Int) (x8_1 : Int), v8 = .int .i64 x8_1 ∧ Aside0 (spec_l4After.l0 kq l0 l1 a2 x7_1 x8_1 = some r) ∧ Aside0 (kq ≤ k) ∧ Aside0 (Kd.R (Kd.int .i64) 3 w' w.heap.size (fun _ => True) v7 x7_1) ∧ Aside0 (Below w.heap.size w w'))
 case atStart => exact ⟨(y128), (0), tx_, H', ⟨Nat.le_refl _⟩, ⟨rR_ HO130.out⟩, ⟨(tb_ HB.out)⟩⟩
 case round =>
  clear H'
  try clear c1
  try clear p2
  try clear c4
  obtain ⟨x7_1, x8_1, rfl, HA, HK1, HO_7, HB⟩ := hrel
  cases gk with
  | zero => exact absurd HA.out (by simp [spec_l4After.l0])
  | succ k1 =>
   have H := HA.out
   clear HA
   simp only [spec_l4After.l0] at H
   by_cases c6 : x8_1 < (l0.length : Int)
   ·
    rw [if_pos c6] at H
    have c6b0 : decide (x8_1 < (l0.length : Int)) = true := decide_eq_true c6
    clear c6
    by_cases c7 : 0 ≤ x8_1
    ·
     rw [if_pos c7] at H
     have c7b0 : decide (0 ≤ x8_1) = true := decide_eq_true c7
     clear c7
     by_cases c8 : 0 ≤ a2
     ·
      rw [if_pos c8] at H
      have c8b0 : decide (0 ≤ a2) = true := decide_eq_true c8
      clear c8
      by_cases c9 : a2 < (l1.length : Int)
      ·
       rw [if_pos c9] at H
       have c9b0 : decide (a2 < (l1.length : Int)) = true := decide_eq_true c9
       clear c9
       by_cases c10 : x8_1 < ((rd_L2 l1 a2).length : Int)
       ·
        rw [if_pos c10] at H
        have c10b0 : decide (x8_1 < ((rd_L2 l1 a2).length : Int)) = true := decide_eq_true c10
        clear c10
        by_cases c11 : x7_1.length < 17592186044416
        ·
         rw [if_pos c11] at H
         have LMc11 := Aside0.mk c11
         clear c11
         obtain ⟨y134, hy134⟩ : ∃ y_ : List Int, y_ = (x7_1 ++ [wrap64 ((rd l0 x8_1) + (rd (rd_L2 l1 a2) x8_1))]) := ⟨_, rfl⟩
         replace H : (spec_l4After.l0 k1 l0 l1 a2 y134 (wrap64 (x8_1 + 1))) = some r := by first | (rw [hy134]; with_reducible exact H) | (have H2_ := (Option.bind_some _ _).symm.trans H; rw [hy134]; with_reducible exact H2_) | (have H2_ := (Option.bind_some _ _).symm.trans H; with_reducible exact H2_) | with_reducible exact H | (rw [hy134]; exact H) | exact H
         have Ny134 := Aside0.mk hy134
         clear hy134
         have H' := Aside0.mk H
         clear H
         try go_wp2
         have n0_ := Aside0.mk (Kd.R_drew HO_7.out)
         have n1_ := Aside0.mk (ld_ HB.out)
         clear HO_7
         clear HB
         have HO_7 := n0_
         have HB := n1_
         clear n0_ n1_
         have p131 : 0 ≤ (x8_1 : Int) := od_
         have q131 : x8_1 < (l0.length : Int) := od_
         obtain ⟨ad131, e131, hx131_0⟩ := Kd.at_int HR0.out x8_1 p131 q131
         have hw131_0 := hx131_0
         cases e131
         replace hx131_0 := (HB.out.cell (World.block_lt_of_cell? w _ hx131_0)).trans hx131_0
         replace p131 := eq_true p131
         replace q131 := eq_true q131
         have p132 : 0 ≤ (a2 : Int) := od_
         have q132 : a2 < (l1.length : Int) := od_
         obtain ⟨ad132, A132_0, c132_0, e132, hx132_0, hl132_0, hi132_0⟩ := at_L2 HR1.out a2 p132 q132
         have hw132_0 := hx132_0
         cases e132
         replace hx132_0 := (HB.out.cell (World.block_lt_of_cell? w _ hx132_0)).trans hx132_0
         have HR132_0 := Aside0.mk hi132_0
         have HC132_0 := Aside0.mk hl132_0
         clear hi132_0 hl132_0
         replace p132 := eq_true p132
         replace q132 := eq_true q132
         have p133 : 0 ≤ (x8_1 : Int) := od_
         have q133 : x8_1 < ((rd_L2 l1 a2).length : Int) := od_
         obtain ⟨ad133, e133, hx133_0⟩ := Kd.at_int HR132_0.out x8_1 p133 q133
         have hw133_0 := hx133_0
         cases e133
         replace hx133_0 := (HB.out.cell (World.block_lt_of_cell? w _ hx133_0)).trans hx133_0
         replace p133 := eq_true p133
         replace q133 := eq_true q133
         refine start_ (n := 16) (S := fun w' => w'.cell? (ad131.add (x8_1).toNat) = some (.int .i64 (rd l0 x8_1)) ∧ w'.cell? (ad132.add (a2).toNat) = some (.slice (some ad133) (rd_L2 l1 a2).length c132_0) ∧ w'.cell? (ad133.add (x8_1).toNat) = some (.int .i64 (rd (rd_L2 l1 a2) x8_1))) (ds := []) #[false, false, false, false, false, false, false, false, false, false, false, false, false, false, false, false] (by kernel_rfl) rfl rfl ⟨((HB.out.cell (World.block_lt_of_cell? w _ hw131_0)).trans hw131_0), ((HB.out.cell (World.block_lt_of_cell? w _ hw132_0)).trans hw132_0), ((HB.out.cell (World.block_lt_of_cell? w _ hw133_0)).trans hw133_0)⟩ (fun hHeld => ?_); refine with_tabW spec_l4After.tab5 spec_l4After.bits5 (fun HT_ HW_ => ?_)
         generalize wr.drew = w12 at HO_7 HB HR132_0 hx131_0 hx132_0 hx133_0 hHeld ⊢
         refine pure_ (i := 0) (N := some 16) (v := ?_) (a' := ?_) #[true, false, false, false, false, false, false, false, false, false, false, false, false, false, false, false] rfl rfl (any_of HT_.out (by kernel_rfl)) (fun _ _ _ h => h) (Or.inl ⟨by rfl, ?_⟩) ?_ ?_
         rotate_left
         ·
          intro w'
          go_simp
          first | with_reducible rfl | (rw [if_neg (by omega)]; done)
         rotate_left
         ·
          simp only [Act.put, sa_, sb_, sc_, i64_w, i32_w]
          rfl
         refine pure_ (i := 1) (N := some 17) (v := ?_) (a' := ?_) #[true, true, false, false, false, false, false, false, false, false, false, false, false, false, false, false] rfl rfl (any_of HT_.out (by kernel_rfl)) (fun _ _ _ h => h) (Or.inl ⟨by rfl, ?_⟩) ?_ ?_
         rotate_left
         ·
          intro w'
          go_simp
          first | with_reducible rfl | (rw [if_neg (by omega)]; done)
         rotate_left
         ·
          simp only [Act.put, sa_, sb_, sc_, i64_w, i32_w]
          rfl
         refine pure_ (i := 2) (N := some 18) (v := ?_) (a' := ?_) #[true, true, true, false, false, false, false, false, false, false, false, false, false, false, false, false] rfl rfl (any_of HT_.out (by kernel_rfl)) (fun _ _ _ h => h) (Or.inl ⟨by rfl, ?_⟩) ?_ ?_
         rotate_left
         ·
          intro w'
          go_simp
          first | with_reducible rfl | (rw [if_neg (by omega)]; done)
         rotate_left
         ·
          simp only [Act.put, sa_, sb_, sc_, i64_w, i32_w]
          rfl
         refine pure_ (i := 3) (N := some 19) (v := ?_) (a' := ?_) #[true, true, true, true, false, false, false, false, false, false, false, false, false, false, false, false] rfl rfl (any_of HT_.out (by kernel_rfl)) (fun _ _ _ h => h) (Or.inl ⟨by rfl, ?_⟩) ?_ ?_
         rotate_left
         ·
          intro w'
          go_simp
          first | with_reducible rfl | (rw [if_neg (by omega)]; done)
         rotate_left
         ·
          simp only [Act.put, sa_, sb_, sc_, i64_w, i32_w]
          rfl
         refine pure_ (i := 5) (N := some 21) (v := ?_) (a' := ?_) #[true, true, true, true, false, true, false, false, false, false, false, false, false, false, false, false] rfl rfl (any_of HT_.out (by kernel_rfl)) (fun _ _ _ h => h) (Or.inl ⟨by rfl, ?_⟩) ?_ ?_
         rotate_left
         ·
          intro w'
          go_simp
          first | with_reducible rfl | (rw [if_neg (by omega)]; done)
         rotate_left
         ·
          simp only [Act.put, sa_, sb_, sc_, i64_w, i32_w]
          rfl
         refine pure_ (i := 6) (N := some 22) (v := ?_) (a' := ?_) #[true, true, true, true, false, true, true, false, false, false, false, false, false, false, false, false] rfl rfl (any_of HT_.out (by kernel_rfl)) (fun _ _ _ h => h) (Or.inl ⟨by rfl, ?_⟩) ?_ ?_
         rotate_left
         ·
          intro w'
          go_simp
          first | with_reducible rfl | (rw [if_neg (by omega)]; done)
         rotate_left
         ·
          simp only [Act.put, sa_, sb_, sc_, i64_w, i32_w]
          rfl
         refine pure_ (i := 7) (N := some 23) (v := ?_) (a' := ?_) #[true, true, true, true, false, true, true, true, false, false, false, false, false, false, false, false] rfl rfl (any_of HT_.out (by kernel_rfl)) (fun _ _ _ h => h) (Or.inl ⟨by rfl, ?_⟩) ?_ ?_
         rotate_left
         ·
          intro w'
          go_simp
          first | with_reducible rfl | (rw [if_neg (by omega)]; done)
         rotate_left
         ·
          simp only [Act.put, sa_, sb_, sc_, i64_w, i32_w]
          rfl
         refine pure_ (i := 9) (N := some 25) (v := ?_) (a' := ?_) #[true, true, true, true, false, true, true, true, false, true, false, false, false, false, false, false] rfl rfl (any_of HT_.out (by kernel_rfl)) (fun _ _ _ h => h) (Or.inl ⟨by rfl, ?_⟩) ?_ ?_
         rotate_left
         ·
          intro w'
          go_simp
          first | with_reducible rfl | (rw [if_neg (by omega)]; done)
         rotate_left
         ·
          simp only [Act.put, sa_, sb_, sc_, i64_w, i32_w]
          rfl
         refine take_ (i := 4) (N := some 20) (v := ?_) (a' := ?_) #[true, true, true, true, true, true, true, true, false, true, false, false, false, false, false, false] rfl rfl (take_ofW HT_.out HW_.out (by kernel_rfl)) (fun _ _ _ h => h) (Or.inl ⟨by rfl, ?_⟩) hHeld ?_ ?_
         rotate_left
         ·
          rintro w' ⟨s0, s1, s2⟩
          go_simp
          first | with_reducible rfl | (rw [if_neg (by omega)]; done)
         rotate_left
         ·
          simp only [Act.put, sa_, sb_, sc_, i64_w, i32_w]
          rfl
         refine take_ (i := 8) (N := some 24) (v := ?_) (a' := ?_) #[true, true, true, true, true, true, true, true, true, true, false, false, false, false, false, false] rfl rfl (take_ofW HT_.out HW_.out (by kernel_rfl)) (fun _ _ _ h => h) (Or.inl ⟨by rfl, ?_⟩) hHeld ?_ ?_
         rotate_left
         ·
          rintro w' ⟨s0, s1, s2⟩
          go_simp
          first | with_reducible rfl | (rw [if_neg (by omega)]; done)
         rotate_left
         ·
          simp only [Act.put, sa_, sb_, sc_, i64_w, i32_w]
          rfl
         refine pure_ (i := 10) (N := some 26) (v := ?_) (a' := ?_) #[true, true, true, true, true, true, true, true, true, true, true, false, false, false, false, false] rfl rfl (any_of HT_.out (by kernel_rfl)) (fun _ _ _ h => h) (Or.inl ⟨by rfl, ?_⟩) ?_ ?_
         rotate_left
         ·
          intro w'
          go_simp
          first | with_reducible rfl | (rw [if_neg (by omega)]; done)
         rotate_left
         ·
          simp only [Act.put, sa_, sb_, sc_, i64_w, i32_w]
          rfl
         refine take_ (i := 11) (N := some 27) (v := ?_) (a' := ?_) #[true, true, true, true, true, true, true, true, true, true, true, true, false, false, false, false] rfl rfl (take_ofW HT_.out HW_.out (by kernel_rfl)) (fun _ _ _ h => h) (Or.inl ⟨by rfl, ?_⟩) hHeld ?_ ?_
         rotate_left
         ·
          rintro w' ⟨s0, s1, s2⟩
          go_simp
          first | with_reducible rfl | (rw [if_neg (by omega)]; done)
         rotate_left
         ·
          simp only [Act.put, sa_, sb_, sc_, i64_w, i32_w]
          rfl
         refine pure_ (i := 12) (N := some 28) (v := ?_) (a' := ?_) #[true, true, true, true, true, true, true, true, true, true, true, true, true, false, false, false] rfl rfl (any_of HT_.out (by kernel_rfl)) (fun _ _ _ h => h) (Or.inl ⟨by rfl, ?_⟩) ?_ ?_
         rotate_left
         ·
          intro w'
          go_simp
          first | with_reducible rfl | (rw [if_neg (by omega)]; done)
         rotate_left
         ·
          simp only [Act.put, sa_, sb_, sc_, i64_w, i32_w]
          rfl
         refine one_ (i := 13) (N := some 29) #[true, true, true, true, true, true, true, true, true, true, true, true, true, true, false, false] rfl rfl (one_of HT_.out (by kernel_rfl)) (by decide) (fun K hK => ?_)
         refine value_ (w1 := ?_) (v := ?_) (by rfl) rfl ?_ ?_
         rotate_left 2
         ·
          go_simp
          constructor
          ·
           rfl
          ·
           rfl
         refine hK.out _ _ ⟨(World.cell?_alloc_lt _ _ _ (World.block_lt_of_cell? _ _ (((HB.out.cell (World.block_lt_of_cell? w _ hw131_0)).trans hw131_0)))).trans (((HB.out.cell (World.block_lt_of_cell? w _ hw131_0)).trans hw131_0)), (World.cell?_alloc_lt _ _ _ (World.block_lt_of_cell? _ _ (((HB.out.cell (World.block_lt_of_cell? w _ hw132_0)).trans hw132_0)))).trans (((HB.out.cell (World.block_lt_of_cell? w _ hw132_0)).trans hw132_0)), (World.cell?_alloc_lt _ _ _ (World.block_lt_of_cell? _ _ (((HB.out.cell (World.block_lt_of_cell? w _ hw133_0)).trans hw133_0)))).trans (((HB.out.cell (World.block_lt_of_cell? w _ hw133_0)).trans hw133_0))⟩ (fun hHeld => ?_)
         clear hK K
         refine norm_ (a' := ?_) ?_ ?_
         rotate_left
         ·
          show Act.put _ (some 29) _ = _
          simp only [Act.put, sa_, sb_, sc_, i64_w, i32_w]
          rfl
         refine one_ (i := 14) (N := some 30) #[true, true, true, true, true, true, true, true, true, true, true, true, true, true, true, false] rfl rfl (one_of HT_.out (by kernel_rfl)) (by decide) (fun K hK => ?_)
         refine Kd.R_append_step (Kd.int .i64) (w0 := w) w.heap.size (by rfl) (.tmp 16) (.tmp 29) 35 3 (.int .i64 0) 8 rfl Tryd.underlying35 info3 rfl (by decide) (by omega) u7 x7_1 (wrap64 ((rd l0 x8_1) + (rd (rd_L2 l1 a2) x8_1))) [.int .i64 (wrap64 ((rd l0 x8_1) + (rd (rd_L2 l1 a2) x8_1)))] (fun _ => True) (fun _ => False) rfl rfl ?aP (fun _ hk => hk.elim) ?aF ?aO ?aB ?aS ?aL ?_
         (case aP => exact rfl)
         (case aB => exact (tb_ HB.out))
         (case aF => exact (fun _ _ => trivial))
         (case aO => exact (rR_ HO_7.out))
         (case aS => exact (below_size (tb_ HB.out)))
         (case aL => have := LMc11.out; omega)
         intro v135 w13 ho hb hg hat
         rw [← Ny134.out] at ho
         have n0_ := Aside0.mk (hb)
         have n1_ := Aside0.mk (ho)
         clear HB
         clear HO_7
         have HB := n0_
         have HO136 := n1_
         clear n0_ n1_
         clear ho hb hg hat
         refine hK.out _ _ ⟨((HB.out.cell (World.block_lt_of_cell? w _ hw131_0)).trans hw131_0), ((HB.out.cell (World.block_lt_of_cell? w _ hw132_0)).trans hw132_0), ((HB.out.cell (World.block_lt_of_cell? w _ hw133_0)).trans hw133_0)⟩ (fun hHeld => ?_)
         clear hK K
         refine norm_ (a' := ?_) ?_ ?_
         rotate_left
         ·
          show Act.put _ (some 30) _ = _
          simp only [Act.put, sa_, sb_, sc_, i64_w, i32_w]
          rfl
         refine pure_ (i := 15) (N := some 7) (v := ?_) (a' := ?_) #[true, true, true, true, true, true, true, true, true, true, true, true, true, true, true, true] rfl rfl (any_of HT_.out (by kernel_rfl)) (fun _ _ _ h => h) (Or.inl ⟨by rfl, ?_⟩) ?_ ?_
         rotate_left
         ·
          intro w'
          go_simp
          first | with_reducible rfl | (rw [if_neg (by omega)]; done)
         rotate_left
         ·
          simp only [Act.put, sa_, sb_, sc_, i64_w, i32_w]
          rfl
         refine done_ (done_of HT_.out (by kernel_rfl)) ?_
         try go_wp2
         go_roundg k1
         case measure => have := HK1.out; omega
         case rel => exact ⟨(y134), (wrap64 (x8_1 + 1)), tx_, H', ⟨by have := HK1.out; omega⟩, ⟨rR_ HO136.out⟩, ⟨(tb_ HB.out)⟩⟩
        ·
         rw [if_neg c11] at H
         exact absurd H (by simp)
       ·
        rw [if_neg c10] at H
        exact absurd H (by simp)
      ·
       rw [if_neg c9] at H
       exact absurd H (by simp)
     ·
      rw [if_neg c8] at H
      exact absurd H (by simp)
    ·
     rw [if_neg c7] at H
     exact absurd H (by simp)
   ·
    rw [if_neg c6] at H
    have c6b0 : decide (x8_1 < (l0.length : Int)) = false := decide_eq_false c6
    clear c6
    obtain rfl := Option.some.inj H
    go_wp2
    go_ret
    exact ⟨_, by first | rfl | (simp [errW_none, errW_some] <;> rfl) | (simp [*, errW_none, errW_some] <;> rfl), by refine qR_ ?_; exact HO_7.out, (tb_ HB.out)⟩

end Go.Proofs.YtlnbobpmjbcejaaDoor.MFnExactPlaceText
