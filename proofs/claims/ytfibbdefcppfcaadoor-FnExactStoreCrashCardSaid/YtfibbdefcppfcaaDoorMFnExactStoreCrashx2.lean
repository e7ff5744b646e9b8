/- For the law FnExactStoreCrash: walks of the functions that it reaches: each call returns what the plain function beside it tells. The conditions stand in each statement. -/
import Derived.Test.YtfibbdefcppfcaaDoorV
import Derived.Test.YtfibbdefcppfcaaDoorMFnExactStoreCrashx0
import Derived.Test.YtfibbdefcppfcaaDoorMFnExactStoreCrashx1
namespace Go.Proofs.YtfibbdefcppfcaaDoor.MFnExactStoreCrash
open Go.RowKit Go.Proofs.YtfibbdefcppfcaaDoorW.PrintWords Go.Proofs.YtfibbdefcppfcaaDoorW.PrintLast Go.Proofs.YtfibbdefcppfcaaDoorW.PrintMore
attribute [local go_sem] max2_int min2_int max_two min_two max_three min_three max_four min_four   -- for this text's walks alone
set_option linter.unusedVariables false
set_option linter.unusedSimpArgs false

/-! ### spec_StartOk: function 34 -/
def spec_StartOk.l0 : Nat → List Int → Int → Option (Bool)
 | 0, _, _ => none
 | k + 1, x0, x3 => if x3 < (x0.length : Int) then (if 0 ≤ x3 then (if (rd x0 x3) > 10 then (some false) else (spec_StartOk.l0 k x0 (wrap64 (x3 + 1)))) else (none)) else ((spec_UrnOk.f k x0).bind fun aA => (some aA))
def spec_StartOk.f (k : Nat) (l0 : List Int) : Option (Bool) := spec_StartOk.l0 k l0 0
theorem spec_StartOk.mono_l : ∀ k, (∀ y0 y1, LeO (spec_StartOk.l0 k y0 y1) (spec_StartOk.l0 (k + 1) y0 y1))
 | 0 => fun _ _ r h => by simp [spec_StartOk.l0] at h
 | k + 1 => by
  have ih0 := spec_StartOk.mono_l k
  ·
   intro y0 y1
   unfold spec_StartOk.l0
   repeat' (with_reducible first | exact ih0 _ _ | exact spec_UrnOk.mono _ _ | exact mr_ | exact mn_ | refine mi_ ?_ ?_ | refine mb_ ?_ (fun _ => ?_))
theorem spec_StartOk.mono : ∀ a0 k, LeO (spec_StartOk.f k a0) (spec_StartOk.f (k + 1) a0) := by
 intro a0 k
 have ih0 := spec_StartOk.mono_l k
 unfold spec_StartOk.f
 repeat' (with_reducible first | exact ih0 _ _ | exact spec_UrnOk.mono _ _ | exact mr_ | exact mn_ | refine mi_ ?_ ?_ | refine mb_ ?_ (fun _ => ?_))
set_option maxHeartbeats 8000000 in
set_option maxRecDepth 100000 in
theorem spec_StartOk.calls (k : Nat) (A0 : Option Addr) (c0 : Nat) (l0 : List Int) (r : Bool) (w : World) (hr0 : Kd.C (Kd.int .i64) w A0 l0.length l0) (hc0 : l0.length ≤ c0) (h : spec_StartOk.f k l0 = some r) :
  Calls Tryd.prog 34 #[.slice A0 l0.length c0] w fun e w' => e = .returned (.bool r) ∧ Drawn0 w w' := by
 have HR0 := Aside0.mk hr0
 have HC0 := Aside0.mk hc0
 clear hr0 hc0
 have H : (spec_StartOk.l0 k l0 0) = some r := h
 clear h
 have H' := Aside0.mk H
 clear H
 go_enter Tryd.func34, Tryd.ntmps34
 go_wp2
 go_loopg [3] k (fun kq v3 w' => ∃ (ad : Int), v3 = .int .i64 ad ∧ Aside0 (spec_StartOk.l0 kq l0 ad = some r) ∧ Aside0 (kq ≤ k) ∧ Drawn0 w w')
 case atStart => exact ⟨(0), tx_, H', ⟨Nat.le_refl _⟩, by repeat (first | exact Drawn0.refl _ | apply Drawn0.step)⟩
 case round =>
  clear H'
  obtain ⟨ad, rfl, HA, HK1, ⟨m1, rfl⟩⟩ := hrel
  cases gk with
  | zero => exact absurd HA.out (by simp [spec_StartOk.l0])
  | succ k1 =>
   have H := HA.out
   clear HA
   simp only [spec_StartOk.l0] at H
   by_cases c2 : ad < (l0.length : Int)
   ·
    rw [if_pos c2] at H
    have aM : decide (ad < (l0.length : Int)) = true := decide_eq_true c2
    clear c2
    by_cases c3 : 0 ≤ ad
    ·
     rw [if_pos c3] at H
     have ap : decide (0 ≤ ad) = true := decide_eq_true c3
     clear c3
     by_cases c4 : (rd l0 ad) > 10
     ·
      rw [if_pos c4] at H
      have au : decide (10 < (rd l0 ad)) = true := decide_eq_true c4
      clear c4
      obtain rfl := Option.some.inj H
      have p121 : 0 ≤ (ad : Int) := od_
      have q121 : ad < (l0.length : Int) := od_
      obtain ⟨ad121, e121, av⟩ := Kd.at_int HR0.out ad p121 q121
      cases e121
      replace p121 := eq_true p121
      replace q121 := eq_true q121
      go_wp2
      go_ret
      exact ⟨tx_, by repeat (first | exact Drawn0.refl _ | apply Drawn0.step)⟩
     ·
      rw [if_neg c4] at H
      have au : decide (10 < (rd l0 ad)) = false := decide_eq_false c4
      clear c4
      have H' := Aside0.mk H
      clear H
      have p121 : 0 ≤ (ad : Int) := od_
      have q121 : ad < (l0.length : Int) := od_
      obtain ⟨ad121, e121, av⟩ := Kd.at_int HR0.out ad p121 q121
      cases e121
      replace p121 := eq_true p121
      replace q121 := eq_true q121
      go_wp2
      go_roundg k1
      case measure => have := HK1.out; omega
      case rel => exact ⟨(wrap64 (ad + 1)), tx_, H', ⟨by have := HK1.out; omega⟩, by repeat (first | exact Drawn0.refl _ | apply Drawn0.step)⟩
    ·
     rw [if_neg c3] at H
     exact absurd H (by simp)
   ·
    rw [if_neg c2] at H
    have aM : decide (ad < (l0.length : Int)) = false := decide_eq_false c2
    clear c2
    obtain ⟨aA, A5, H⟩ := bnd_ H
    try dsimp only at H
    obtain rfl := Option.some.inj H
    go_wp2_with (first | ((with_reducible refine gate_callee (f := 52) rfl ?_); refine gl_ (some 16) Tryd.func52 #[.slice A0 l0.length c0] ?_; (with_reducible refine (spec_UrnOk.calls k1 _ _ l0 aA _ ?s1 ?s2 A5.out).mono ?_); (case s1 => exact td_); (case s2 => exact HC0.out); rintro e w' ⟨rfl, ⟨nd, rfl⟩⟩; refine ⟨_, rfl, ?_⟩))
    go_ret
    exact ⟨tx_, by repeat (first | exact Drawn0.refl _ | apply Drawn0.step)⟩

/-! ### spec_RuleOk: function 53 -/
mutual
def spec_RuleOk.l0 : Nat → Int → List (List Int) → Int → Option (Bool)
 | 0, _, _, _ => none
 | k + 1, x0, x1, x5 => if x5 < (x1.length : Int) then (if 0 ≤ x5 then (if ((rd_L2 x1 x5).length : Int) = x0 then (spec_RuleOk.l1 k x0 x1 x5 0) else (some false)) else (none)) else ((spec_l1In.f x0 1 3).bind fun aB => (if aB = true then (some ((x1.length : Int) == x0)) else (some false)))
def spec_RuleOk.l1 : Nat → Int → List (List Int) → Int → Int → Option (Bool)
 | 0, _, _, _, _ => none
 | k + 1, x0, x1, x5, x6 => if x6 < x0 then (if 0 ≤ x5 then (if x5 < (x1.length : Int) then (if 0 ≤ x6 then (if x6 < ((rd_L2 x1 x5).length : Int) then ((spec_l1In.f (rd (rd_L2 x1 x5) x6) 0 3).bind fun aC => (if aC = true then (spec_RuleOk.l1 k x0 x1 x5 (wrap64 (x6 + 1))) else (if (rd (rd_L2 x1 x5) x6) = (-1) then (if x6 = x5 then (spec_RuleOk.l1 k x0 x1 x5 (wrap64 (x6 + 1))) else (some false)) else (some false)))) else (none)) else (none)) else (none)) else (none)) else (spec_RuleOk.l0 k x0 x1 (wrap64 (x5 + 1)))
end
def spec_RuleOk.f (k : Nat) (a0 : Int) (l1 : List (List Int)) : Option (Bool) := spec_RuleOk.l0 k a0 l1 0
theorem spec_RuleOk.mono_l : ∀ k, (∀ y0 y1 y2, LeO (spec_RuleOk.l0 k y0 y1 y2) (spec_RuleOk.l0 (k + 1) y0 y1 y2)) ∧ (∀ y0 y1 y2 y3, LeO (spec_RuleOk.l1 k y0 y1 y2 y3) (spec_RuleOk.l1 (k + 1) y0 y1 y2 y3))
 | 0 => ⟨fun _ _ _ r h => by simp [spec_RuleOk.l0] at h, fun _ _ _ _ r h => by simp [spec_RuleOk.l1] at h⟩
 | k + 1 => by
  obtain ⟨ih0, ih1⟩ := spec_RuleOk.mono_l k
  refine ⟨?_, ?_⟩
  ·
   intro y0 y1 y2
   unfold spec_RuleOk.l0
   repeat' (with_reducible first | exact ih0 _ _ _ | exact ih1 _ _ _ _ | exact mr_ | exact mn_ | refine mi_ ?_ ?_ | refine mb_ ?_ (fun _ => ?_))
  ·
   intro y0 y1 y2 y3
   unfold spec_RuleOk.l1
   repeat' (with_reducible first | exact ih0 _ _ _ | exact ih1 _ _ _ _ | exact mr_ | exact mn_ | refine mi_ ?_ ?_ | refine mb_ ?_ (fun _ => ?_))
theorem spec_RuleOk.mono : ∀ a0 a1 k, LeO (spec_RuleOk.f k a0 a1) (spec_RuleOk.f (k + 1) a0 a1) := by
 intro a0 a1 k
 obtain ⟨ih0, ih1⟩ := spec_RuleOk.mono_l k
 unfold spec_RuleOk.f
 repeat' (with_reducible first | exact ih0 _ _ _ | exact ih1 _ _ _ _ | exact mr_ | exact mn_ | refine mi_ ?_ ?_ | refine mb_ ?_ (fun _ => ?_))
set_option maxHeartbeats 8000000 in
set_option maxRecDepth 100000 in
theorem spec_RuleOk.calls (k : Nat) (a0 : Int) (A1 : Option Addr) (c1 : Nat) (l1 : List (List Int)) (r : Bool) (w : World) (hr1 : Kd.C (Kd.slice 3 (Kd.int .i64)) w A1 l1.length l1) (hc1 : l1.length ≤ c1) (h : spec_RuleOk.f k a0 l1 = some r) :
  Calls Tryd.prog 53 #[.int .i64 a0, .slice A1 l1.length c1] w fun e w' => e = .returned (.bool r) ∧ Drawn0 w w' := by
 have HR1 := Aside0.mk hr1
 have HC1 := Aside0.mk hc1
 clear hr1 hc1
 have H : (spec_RuleOk.l0 k a0 l1 0) = some r := h
 clear h
 have H' := Aside0.mk H
 clear H
 go_enter Tryd.func53, Tryd.ntmps53
 go_wp2
 go_loopg [5] k (fun kq v5 w' => ∃ (aa : Int), v5 = .int .i64 aa ∧ Aside0 (spec_RuleOk.l0 kq a0 l1 aa = some r) ∧ Aside0 (kq ≤ k) ∧ Drawn0 w w')
 case atStart => exact ⟨(0), tx_, H', ⟨Nat.le_refl _⟩, by repeat (first | exact Drawn0.refl _ | apply Drawn0.step)⟩
 case round =>
  clear H'
  try clear c1
  try clear p2
  obtain ⟨aa, rfl, HA, HK1, ⟨m1, rfl⟩⟩ := hrel
  cases gk with
  | zero => exact absurd HA.out (by simp [spec_RuleOk.l0])
  | succ k1 =>
   have H := HA.out
   clear HA
   simp only [spec_RuleOk.l0] at H
   by_cases c3 : aa < (l1.length : Int)
   ·
    rw [if_pos c3] at H
    have ap : decide (aa < (l1.length : Int)) = true := decide_eq_true c3
    clear c3
    by_cases c4 : 0 ≤ aa
    ·
     rw [if_pos c4] at H
     have au : decide (0 ≤ aa) = true := decide_eq_true c4
     clear c4
     by_cases c5 : ((rd_L2 l1 aa).length : Int) = a0
     ·
      rw [if_pos c5] at H
      have aw : (((rd_L2 l1 aa).length : Int) == a0) = true := beq_iff_eq.mpr c5
      have aH : (((rd_L2 l1 aa).length : Int) != a0) = false := bne_eq_false_iff_eq.mpr c5
      clear c5
      have H' := Aside0.mk H
      clear H
      have p124 : 0 ≤ (aa : Int) := od_
      have q124 : aa < (l1.length : Int) := od_
      obtain ⟨ad124, aD, aE, e124, al, hl124_0, hi124_0⟩ := at_L2 HR1.out aa p124 q124
      cases e124
      have ax := Aside0.mk hi124_0
      have ay := Aside0.mk hl124_0
      clear hi124_0 hl124_0
      replace p124 := eq_true p124
      replace q124 := eq_true q124
      go_wp2
      go_loopg [6] k1 (fun kq v6 w' => ∃ (ab : Int), v6 = .int .i64 ab ∧ Aside0 (spec_RuleOk.l1 kq a0 l1 aa ab = some r) ∧ Aside0 (kq ≤ k1) ∧ Drawn0 w w')
      case atStart => exact ⟨(0), tx_, H', ⟨Nat.le_refl _⟩, by repeat (first | exact Drawn0.refl _ | apply Drawn0.step)⟩
      case round =>
       clear H'
       try clear c1
       try clear p1
       try clear q1
       try clear hx1
       try clear p2
       try clear c3
       try clear ap
       try clear c4
       try clear au
       try clear c5
       try clear aw
       try clear aH
       try clear al
       try clear p124
       try clear p2
       try clear q124
       obtain ⟨ab, rfl, HA, HK2, ⟨m2, rfl⟩⟩ := hrel
       cases gk with
       | zero => exact absurd HA.out (by simp [spec_RuleOk.l1])
       | succ k2 =>
        have H := HA.out
        clear HA
        simp only [spec_RuleOk.l1] at H
        by_cases c6 : ab < a0
        ·
         rw [if_pos c6] at H
         have aF : decide (ab < a0) = true := decide_eq_true c6
         clear c6
         by_cases c7 : 0 ≤ aa
         ·
          rw [if_pos c7] at H
          have aO : decide (0 ≤ aa) = true := decide_eq_true c7
          clear c7
          by_cases c8 : aa < (l1.length : Int)
          ·
           rw [if_pos c8] at H
           have aP : decide (aa < (l1.length : Int)) = true := decide_eq_true c8
           clear c8
           by_cases c9 : 0 ≤ ab
           ·
            rw [if_pos c9] at H
            have aQ : decide (0 ≤ ab) = true := decide_eq_true c9
            clear c9
            by_cases c10 : ab < ((rd_L2 l1 aa).length : Int)
            ·
             rw [if_pos c10] at H
             have aN : decide (ab < ((rd_L2 l1 aa).length : Int)) = true := decide_eq_true c10
             clear c10
             obtain ⟨aC, A11, H⟩ := bnd_ H
             try dsimp only at H
             by_cases c12 : aC = true
             ·
              subst c12
              have H1 : (spec_RuleOk.l1 k2 a0 l1 aa (wrap64 (ab + 1))) = some r := by rw [if_pos rfl] at H; exact H
              clear H
              have H := H1
              clear H1
              have H' := Aside0.mk H
              clear H
              have p125 : 0 ≤ (aa : Int) := od_
              have q125 : aa < (l1.length : Int) := od_
              obtain ⟨ad125, aj, ak, e125, ae, hl125_0, hi125_0⟩ := at_L2 HR1.out aa p125 q125
              obtain rfl : ad124 = ad125 := (by injection e125)
              have ac := Aside0.mk hi125_0
              have ah := Aside0.mk hl125_0
              clear hi125_0 hl125_0
              replace p125 := eq_true p125
              replace q125 := eq_true q125
              have p126 : 0 ≤ (ab : Int) := od_
              have q126 : ab < ((rd_L2 l1 aa).length : Int) := od_
              obtain ⟨ad126, e126, ai⟩ := Kd.at_int ac.out ab p126 q126
              cases e126
              replace p126 := eq_true p126
              replace q126 := eq_true q126
              go_wp2_with (first | ((with_reducible refine gate_callee (f := 16) rfl ?_); refine gl_ (some 32) Tryd.func16 #[.int .i64 (rd (rd_L2 l1 aa) ab), .int .i64 0, .int .i64 3] ?_; (with_reducible refine (spec_l1In.calls (rd (rd_L2 l1 aa) ab) 0 3 true _ A11.out).mono ?_); rintro e w' ⟨rfl, ⟨nd, rfl⟩⟩; refine ⟨_, rfl, ?_⟩))
              go_roundg k2
              case measure => have := HK1.out; have := HK2.out; omega
              case rel => exact ⟨(wrap64 (ab + 1)), tx_, H', ⟨by have := HK1.out; have := HK2.out; omega⟩, by repeat (first | exact Drawn0.refl _ | apply Drawn0.step)⟩
             ·
              replace c12 := Bool.eq_false_iff.mpr c12
              subst c12
              have H1 : (if (rd (rd_L2 l1 aa) ab) = (-1) then (if ab = aa then (spec_RuleOk.l1 k2 a0 l1 aa (wrap64 (ab + 1))) else (some false)) else (some false)) = some r := by rw [if_neg (show ¬ (false = true) by decide)] at H; exact H
              clear H
              have H := H1
              clear H1
              by_cases c13 : (rd (rd_L2 l1 aa) ab) = (-1)
              ·
               rw [if_pos c13] at H
               have aI : ((rd (rd_L2 l1 aa) ab) == (-1)) = true := beq_iff_eq.mpr c13
               have aJ : ((rd (rd_L2 l1 aa) ab) != (-1)) = false := bne_eq_false_iff_eq.mpr c13
               clear c13
               by_cases c14 : ab = aa
               ·
                rw [if_pos c14] at H
                have aK : (ab == aa) = true := beq_iff_eq.mpr c14
                have aL : (ab != aa) = false := bne_eq_false_iff_eq.mpr c14
                clear c14
                have H' := Aside0.mk H
                clear H
                have p125 : 0 ≤ (aa : Int) := od_
                have q125 : aa < (l1.length : Int) := od_
                obtain ⟨ad125, aj, ak, e125, ae, hl125_0, hi125_0⟩ := at_L2 HR1.out aa p125 q125
                obtain rfl : ad124 = ad125 := (by injection e125)
                have ac := Aside0.mk hi125_0
                have ah := Aside0.mk hl125_0
                clear hi125_0 hl125_0
                replace p125 := eq_true p125
                replace q125 := eq_true q125
                have p126 : 0 ≤ (ab : Int) := od_
                have q126 : ab < ((rd_L2 l1 aa).length : Int) := od_
                obtain ⟨ad126, e126, ai⟩ := Kd.at_int ac.out ab p126 q126
                cases e126
                replace p126 := eq_true p126
                replace q126 := eq_true q126
                go_wp2_with (first | ((with_reducible refine gate_callee (f := 16) rfl ?_); refine gl_ (some 32) Tryd.func16 #[.int .i64 (rd (rd_L2 l1 aa) ab), .int .i64 0, .int .i64 3] ?_; (with_reducible refine (spec_l1In.calls (rd (rd_L2 l1 aa) ab) 0 3 false _ A11.out).mono ?_); rintro e w' ⟨rfl, ⟨nd, rfl⟩⟩; refine ⟨_, rfl, ?_⟩; have p128 : 0 ≤ (aa : Int) := od_; have q128 : aa < (l1.length : Int) := od_; obtain ⟨ad128, aq, ar, e128, af, hl128_0, hi128_0⟩ := at_L2 HR1.out aa p128 q128; obtain rfl : ad124 = ad128 := (by injection e128); have ag := Aside0.mk hi128_0; have am := Aside0.mk hl128_0; clear hi128_0 hl128_0; replace p128 := eq_true p128; replace q128 := eq_true q128; have ea_ := Option.some.inj (ae.symm.trans af); injection ea_ with ea_ en_ ec_; subst ea_; subst ec_; clear en_; have p129 : 0 ≤ (ab : Int) := od_; have q129 : ab < ((rd_L2 l1 aa).length : Int) := od_; obtain ⟨ad129, e129, an⟩ := Kd.at_int ag.out ab p129 q129; cases e129; replace p129 := eq_true p129; replace q129 := eq_true q129))
                go_roundg k2
                case measure => have := HK1.out; have := HK2.out; omega
                case rel => exact ⟨(wrap64 (ab + 1)), tx_, H', ⟨by have := HK1.out; have := HK2.out; omega⟩, by repeat (first | exact Drawn0.refl _ | apply Drawn0.step)⟩
               ·
                rw [if_neg c14] at H
                have aK : (ab == aa) = false := beq_eq_false_iff_ne.mpr c14
                have aL : (ab != aa) = true := bne_iff_ne.mpr c14
                obtain rfl := Option.some.inj H
                have p125 : 0 ≤ (aa : Int) := od_
                have q125 : aa < (l1.length : Int) := od_
                obtain ⟨ad125, aj, ak, e125, ae, hl125_0, hi125_0⟩ := at_L2 HR1.out aa p125 q125
                obtain rfl : ad124 = ad125 := (by injection e125)
                have ac := Aside0.mk hi125_0
                have ah := Aside0.mk hl125_0
                clear hi125_0 hl125_0
                replace p125 := eq_true p125
                replace q125 := eq_true q125
                have p126 : 0 ≤ (ab : Int) := od_
                have q126 : ab < ((rd_L2 l1 aa).length : Int) := od_
                obtain ⟨ad126, e126, ai⟩ := Kd.at_int ac.out ab p126 q126
                cases e126
                replace p126 := eq_true p126
                replace q126 := eq_true q126
                go_wp2_with (first | ((with_reducible refine gate_callee (f := 16) rfl ?_); refine gl_ (some 32) Tryd.func16 #[.int .i64 (rd (rd_L2 l1 aa) ab), .int .i64 0, .int .i64 3] ?_; (with_reducible refine (spec_l1In.calls (rd (rd_L2 l1 aa) ab) 0 3 false _ A11.out).mono ?_); rintro e w' ⟨rfl, ⟨nd, rfl⟩⟩; refine ⟨_, rfl, ?_⟩; have p128 : 0 ≤ (aa : Int) := od_; have q128 : aa < (l1.length : Int) := od_; obtain ⟨ad128, aq, ar, e128, af, hl128_0, hi128_0⟩ := at_L2 HR1.out aa p128 q128; obtain rfl : ad124 = ad128 := (by injection e128); have ag := Aside0.mk hi128_0; have am := Aside0.mk hl128_0; clear hi128_0 hl128_0; replace p128 := eq_true p128; replace q128 := eq_true q128; have ea_ := Option.some.inj (ae.symm.trans af); injection ea_ with ea_ en_ ec_; subst ea_; subst ec_; clear en_; have p129 : 0 ≤ (ab : Int) := od_; have q129 : ab < ((rd_L2 l1 aa).length : Int) := od_; obtain ⟨ad129, e129, an⟩ := Kd.at_int ag.out ab p129 q129; cases e129; replace p129 := eq_true p129; replace q129 := eq_true q129))
                go_ret
                exact ⟨tx_, by repeat (first | exact Drawn0.refl _ | apply Drawn0.step)⟩
              ·
               rw [if_neg c13] at H
               have aI : ((rd (rd_L2 l1 aa) ab) == (-1)) = false := beq_eq_false_iff_ne.mpr c13
               have aJ : ((rd (rd_L2 l1 aa) ab) != (-1)) = true := bne_iff_ne.mpr c13
               obtain rfl := Option.some.inj H
               have p125 : 0 ≤ (aa : Int) := od_
               have q125 : aa < (l1.length : Int) := od_
               obtain ⟨ad125, aj, ak, e125, ae, hl125_0, hi125_0⟩ := at_L2 HR1.out aa p125 q125
               obtain rfl : ad124 = ad125 := (by injection e125)
               have ac := Aside0.mk hi125_0
               have ah := Aside0.mk hl125_0
               clear hi125_0 hl125_0
               replace p125 := eq_true p125
               replace q125 := eq_true q125
               have p126 : 0 ≤ (ab : Int) := od_
               have q126 : ab < ((rd_L2 l1 aa).length : Int) := od_
               obtain ⟨ad126, e126, ai⟩ := Kd.at_int ac.out ab p126 q126
               cases e126
               replace p126 := eq_true p126
               replace q126 := eq_true q126
               go_wp2_with (first | ((with_reducible refine gate_callee (f := 16) rfl ?_); refine gl_ (some 32) Tryd.func16 #[.int .i64 (rd (rd_L2 l1 aa) ab), .int .i64 0, .int .i64 3] ?_; (with_reducible refine (spec_l1In.calls (rd (rd_L2 l1 aa) ab) 0 3 false _ A11.out).mono ?_); rintro e w' ⟨rfl, ⟨nd, rfl⟩⟩; refine ⟨_, rfl, ?_⟩; have p128 : 0 ≤ (aa : Int) := od_; have q128 : aa < (l1.length : Int) := od_; obtain ⟨ad128, aq, ar, e128, af, hl128_0, hi128_0⟩ := at_L2 HR1.out aa p128 q128; obtain rfl : ad124 = ad128 := (by injection e128); have ag := Aside0.mk hi128_0; have am := Aside0.mk hl128_0; clear hi128_0 hl128_0; replace p128 := eq_true p128; replace q128 := eq_true q128; have ea_ := Option.some.inj (ae.symm.trans af); injection ea_ with ea_ en_ ec_; subst ea_; subst ec_; clear en_; have p129 : 0 ≤ (ab : Int) := od_; have q129 : ab < ((rd_L2 l1 aa).length : Int) := od_; obtain ⟨ad129, e129, an⟩ := Kd.at_int ag.out ab p129 q129; cases e129; replace p129 := eq_true p129; replace q129 := eq_true q129))
               go_ret
               exact ⟨tx_, by repeat (first | exact Drawn0.refl _ | apply Drawn0.step)⟩
            ·
             rw [if_neg c10] at H
             exact absurd H (by simp)
           ·
            rw [if_neg c9] at H
            exact absurd H (by simp)
          ·
           rw [if_neg c8] at H
           exact absurd H (by simp)
         ·
          rw [if_neg c7] at H
          exact absurd H (by simp)
        ·
         rw [if_neg c6] at H
         have aF : decide (ab < a0) = false := decide_eq_false c6
         clear c6
         have H' := Aside0.mk H
         clear H
         go_wp2
         go_roundg k2
         case measure => have := HK1.out; have := HK2.out; omega
         case rel => exact ⟨(wrap64 (aa + 1)), tx_, H', ⟨by have := HK1.out; have := HK2.out; omega⟩, by repeat (first | exact Drawn0.refl _ | apply Drawn0.step)⟩
     ·
      rw [if_neg c5] at H
      have aw : (((rd_L2 l1 aa).length : Int) == a0) = false := beq_eq_false_iff_ne.mpr c5
      have aH : (((rd_L2 l1 aa).length : Int) != a0) = true := bne_iff_ne.mpr c5
      obtain rfl := Option.some.inj H
      have p124 : 0 ≤ (aa : Int) := od_
      have q124 : aa < (l1.length : Int) := od_
      obtain ⟨ad124, aD, aE, e124, al, hl124_0, hi124_0⟩ := at_L2 HR1.out aa p124 q124
      cases e124
      have ax := Aside0.mk hi124_0
      have ay := Aside0.mk hl124_0
      clear hi124_0 hl124_0
      replace p124 := eq_true p124
      replace q124 := eq_true q124
      go_wp2
      go_ret
      exact ⟨tx_, by repeat (first | exact Drawn0.refl _ | apply Drawn0.step)⟩
    ·
     rw [if_neg c4] at H
     exact absurd H (by simp)
   ·
    rw [if_neg c3] at H
    have ap : decide (aa < (l1.length : Int)) = false := decide_eq_false c3
    clear c3
    obtain ⟨aB, A15, H⟩ := bnd_ H
    try dsimp only at H
    by_cases c16 : aB = true
    ·
     subst c16
     have H1 : (some ((l1.length : Int) == a0)) = some r := by rw [if_pos rfl] at H; exact H
     clear H
     have H := H1
     clear H1
     obtain rfl := Option.some.inj H
     go_wp2_with (first | ((with_reducible refine gate_callee (f := 16) rfl ?_); refine gl_ (some 51) Tryd.func16 #[.int .i64 a0, .int .i64 1, .int .i64 3] ?_; (with_reducible refine (spec_l1In.calls a0 1 3 true _ A15.out).mono ?_); rintro e w' ⟨rfl, ⟨nd, rfl⟩⟩; refine ⟨_, rfl, ?_⟩))
     go_ret
     exact ⟨tx_, by repeat (first | exact Drawn0.refl _ | apply Drawn0.step)⟩
    ·
     replace c16 := Bool.eq_false_iff.mpr c16
     subst c16
     have H1 : (some false) = some r := by rw [if_neg (show ¬ (false = true) by decide)] at H; exact H
     clear H
     have H := H1
     clear H1
     obtain rfl := Option.some.inj H
     go_wp2_with (first | ((with_reducible refine gate_callee (f := 16) rfl ?_); refine gl_ (some 51) Tryd.func16 #[.int .i64 a0, .int .i64 1, .int .i64 3] ?_; (with_reducible refine (spec_l1In.calls a0 1 3 false _ A15.out).mono ?_); rintro e w' ⟨rfl, ⟨nd, rfl⟩⟩; refine ⟨_, rfl, ?_⟩))
     go_ret
     exact ⟨tx_, by repeat (first | exact Drawn0.refl _ | apply Drawn0.step)⟩

/-! ### spec_WordOk: function 54 -/
def spec_WordOk.l0 : Nat → Int → List Int → Int → Option (Bool)
 | 0, _, _, _ => none
 | k + 1, x0, x1, x5 => if x5 < (x1.length : Int) then (if 0 ≤ x5 then (if (rd x1 x5) < 0 then (some false) else (if (rd x1 x5) ≥ x0 then (some false) else (spec_WordOk.l0 k x0 x1 (wrap64 (x5 + 1))))) else (none)) else ((spec_l1In.f x0 1 3).bind fun aG => (if aG = true then (some (decide ((x1.length : Int) ≤ 6))) else (some false)))
def spec_WordOk.f (k : Nat) (a0 : Int) (l1 : List Int) : Option (Bool) := spec_WordOk.l0 k a0 l1 0
theorem spec_WordOk.mono_l : ∀ k, (∀ y0 y1 y2, LeO (spec_WordOk.l0 k y0 y1 y2) (spec_WordOk.l0 (k + 1) y0 y1 y2))
 | 0 => fun _ _ _ r h => by simp [spec_WordOk.l0] at h
 | k + 1 => by
  have ih0 := spec_WordOk.mono_l k
  ·
   intro y0 y1 y2
   unfold spec_WordOk.l0
   repeat' (with_reducible first | exact ih0 _ _ _ | exact mr_ | exact mn_ | refine mi_ ?_ ?_ | refine mb_ ?_ (fun _ => ?_))
theorem spec_WordOk.mono : ∀ a0 a1 k, LeO (spec_WordOk.f k a0 a1) (spec_WordOk.f (k + 1) a0 a1) := by
 intro a0 a1 k
 have ih0 := spec_WordOk.mono_l k
 unfold spec_WordOk.f
 repeat' (with_reducible first | exact ih0 _ _ _ | exact mr_ | exact mn_ | refine mi_ ?_ ?_ | refine mb_ ?_ (fun _ => ?_))
set_option maxHeartbeats 8000000 in
set_option maxRecDepth 100000 in
theorem spec_WordOk.calls (k : Nat) (a0 : Int) (A1 : Option Addr) (c1 : Nat) (l1 : List Int) (r : Bool) (w : World) (hr1 : Kd.C (Kd.int .i64) w A1 l1.length l1) (hc1 : l1.length ≤ c1) (h : spec_WordOk.f k a0 l1 = some r) :
  Calls Tryd.prog 54 #[.int .i64 a0, .slice A1 l1.length c1] w fun e w' => e = .returned (.bool r) ∧ Drawn0 w w' := by
 have HR1 := Aside0.mk hr1
 have HC1 := Aside0.mk hc1
 clear hr1 hc1
 have H : (spec_WordOk.l0 k a0 l1 0) = some r := h
 clear h
 have H' := Aside0.mk H
 clear H
 go_enter Tryd.func54, Tryd.ntmps54
 go_wp2
 go_loopg [5] k (fun kq v5 w' => ∃ (aa : Int), v5 = .int .i64 aa ∧ Aside0 (spec_WordOk.l0 kq a0 l1 aa = some r) ∧ Aside0 (kq ≤ k) ∧ Drawn0 w w')
 case atStart => exact ⟨(0), tx_, H', ⟨Nat.le_refl _⟩, by repeat (first | exact Drawn0.refl _ | apply Drawn0.step)⟩
 case round =>
  clear H'
  try clear c1
  try clear p2
  obtain ⟨aa, rfl, HA, HK1, ⟨m1, rfl⟩⟩ := hrel
  cases gk with
  | zero => exact absurd HA.out (by simp [spec_WordOk.l0])
  | succ k1 =>
   have H := HA.out
   clear HA
   simp only [spec_WordOk.l0] at H
   by_cases c3 : aa < (l1.length : Int)
   ·
    rw [if_pos c3] at H
    have ap : decide (aa < (l1.length : Int)) = true := decide_eq_true c3
    clear c3
    by_cases c4 : 0 ≤ aa
    ·
     rw [if_pos c4] at H
     have au : decide (0 ≤ aa) = true := decide_eq_true c4
     clear c4
     by_cases c5 : (rd l1 aa) < 0
     ·
      rw [if_pos c5] at H
      have aw : decide ((rd l1 aa) < 0) = true := decide_eq_true c5
      clear c5
      obtain rfl := Option.some.inj H
      have p130 : 0 ≤ (aa : Int) := od_
      have q130 : aa < (l1.length : Int) := od_
      obtain ⟨ad130, e130, ao⟩ := Kd.at_int HR1.out aa p130 q130
      cases e130
      replace p130 := eq_true p130
      replace q130 := eq_true q130
      go_wp2
      go_ret
      exact ⟨tx_, by repeat (first | exact Drawn0.refl _ | apply Drawn0.step)⟩
     ·
      rw [if_neg c5] at H
      have aw : decide ((rd l1 aa) < 0) = false := decide_eq_false c5
      clear c5
      by_cases c6 : (rd l1 aa) ≥ a0
      ·
       rw [if_pos c6] at H
       have aF : decide (a0 ≤ (rd l1 aa)) = true := decide_eq_true c6
       clear c6
       obtain rfl := Option.some.inj H
       have p130 : 0 ≤ (aa : Int) := od_
       have q130 : aa < (l1.length : Int) := od_
       obtain ⟨ad130, e130, ao⟩ := Kd.at_int HR1.out aa p130 q130
       cases e130
       replace p130 := eq_true p130
       replace q130 := eq_true q130
       have p131 : 0 ≤ (aa : Int) := od_
       have q131 : aa < (l1.length : Int) := od_
       obtain ⟨ad131, e131, az⟩ := Kd.at_int HR1.out aa p131 q131
       obtain rfl : ad130 = ad131 := (by injection e131)
       replace p131 := eq_true p131
       replace q131 := eq_true q131
       go_wp2
       go_ret
       exact ⟨tx_, by repeat (first | exact Drawn0.refl _ | apply Drawn0.step)⟩
      ·
       rw [if_neg c6] at H
       have aF : decide (a0 ≤ (rd l1 aa)) = false := decide_eq_false c6
       clear c6
       have H' := Aside0.mk H
       clear H
       have p130 : 0 ≤ (aa : Int) := od_
       have q130 : aa < (l1.length : Int) := od_
       obtain ⟨ad130, e130, ao⟩ := Kd.at_int HR1.out aa p130 q130
       cases e130
       replace p130 := eq_true p130
       replace q130 := eq_true q130
       have p131 : 0 ≤ (aa : Int) := od_
       have q131 : aa < (l1.length : Int) := od_
       obtain ⟨ad131, e131, az⟩ := Kd.at_int HR1.out aa p131 q131
       obtain rfl : ad130 = ad131 := (by injection e131)
       replace p131 := eq_true p131
       replace q131 := eq_true q131
       go_wp2
       go_roundg k1
       case measure => have := HK1.out; omega
       case rel => exact ⟨(wrap64 (aa + 1)), tx_, H', ⟨by have := HK1.out; omega⟩, by repeat (first | exact Drawn0.refl _ | apply Drawn0.step)⟩
    ·
     rw [if_neg c4] at H
     exact absurd H (by simp)
   ·
    rw [if_neg c3] at H
    have ap : decide (aa < (l1.length : Int)) = false := decide_eq_false c3
    clear c3
    obtain ⟨aG, A7, H⟩ := bnd_ H
    try dsimp only at H
    by_cases c8 : aG = true
    ·
     subst c8
     have H1 : (some (decide ((l1.length : Int) ≤ 6))) = some r := by rw [if_pos rfl] at H; exact H
     clear H
     have H := H1
     clear H1
     obtain rfl := Option.some.inj H
     go_wp2_with (first | ((with_reducible refine gate_callee (f := 16) rfl ?_); refine gl_ (some 26) Tryd.func16 #[.int .i64 a0, .int .i64 1, .int .i64 3] ?_; (with_reducible refine (spec_l1In.calls a0 1 3 true _ A7.out).mono ?_); rintro e w' ⟨rfl, ⟨nd, rfl⟩⟩; refine ⟨_, rfl, ?_⟩))
     go_ret
     exact ⟨tx_, by repeat (first | exact Drawn0.refl _ | apply Drawn0.step)⟩
    ·
     replace c8 := Bool.eq_false_iff.mpr c8
     subst c8
     have H1 : (some false) = some r := by rw [if_neg (show ¬ (false = true) by decide)] at H; exact H
     clear H
     have H := H1
     clear H1
     obtain rfl := Option.some.inj H
     go_wp2_with (first | ((with_reducible refine gate_callee (f := 16) rfl ?_); refine gl_ (some 26) Tryd.func16 #[.int .i64 a0, .int .i64 1, .int .i64 3] ?_; (with_reducible refine (spec_l1In.calls a0 1 3 false _ A7.out).mono ?_); rintro e w' ⟨rfl, ⟨nd, rfl⟩⟩; refine ⟨_, rfl, ?_⟩))
     go_ret
     exact ⟨tx_, by repeat (first | exact Drawn0.refl _ | apply Drawn0.step)⟩

end Go.Proofs.YtfibbdefcppfcaaDoor.MFnExactStoreCrash
