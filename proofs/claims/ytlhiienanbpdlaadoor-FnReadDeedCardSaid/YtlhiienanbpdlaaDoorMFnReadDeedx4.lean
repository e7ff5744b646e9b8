/- For the law FnReadDeed: walks of the functions that it reaches: each call returns what the plain function beside it tells. The conditions stand in each statement. -/
import Derived.Test.YtlhiienanbpdlaaDoorV
import Derived.Test.YtlhiienanbpdlaaDoorMFnReadDeedx0
import Derived.Test.YtlhiienanbpdlaaDoorMFnReadDeedx3
namespace Go.Proofs.YtlhiienanbpdlaaDoor.MFnReadDeed
open Go.RowKit Go.Proofs.YtlhiienanbpdlaaDoorW.PrintWords Go.Proofs.YtlhiienanbpdlaaDoorW.PrintLast Go.Proofs.YtlhiienanbpdlaaDoorW.PrintMore
attribute [local go_sem] max2_int min2_int max_two min_two max_three min_three max_four min_four   -- for this text's walks alone
set_option linter.unusedVariables false
set_option linter.unusedSimpArgs false

/-! ### spec_l15Signed: function 92 -/
def spec_l15Signed.j0 : Nat → ByteArray → Bool → Option (Int)
 | 0, _, _ => none
 | k + 1, x0, x17 => if x17 = true then (if 1 ≤ (x0.size : Int) then ((spec_l1Digits.f k (x0.extract 1 x0.size)).bind fun t138 => (some (wrap64 (-t138)))) else (none)) else ((spec_l1Digits.f k x0).bind fun t139 => (if t139 < 0 then (some (-100)) else (some t139)))
def spec_l15Signed.f (k : Nat) (a0 : ByteArray) : Option (Int) := if (a0.size : Int) > 1 then (if 0 < (a0.size : Int) then (if (bt a0 0) = 45 then (if 1 ≤ (a0.size : Int) then ((spec_l1Digits.f k (a0.extract 1 a0.size)).bind fun t137 => (spec_l15Signed.j0 k a0 (decide (t137 > 0)))) else (none)) else (spec_l15Signed.j0 k a0 false)) else (none)) else (spec_l15Signed.j0 k a0 false)
theorem spec_l15Signed.mono_l : ∀ k, (∀ y0 y1, LeO (spec_l15Signed.j0 k y0 y1) (spec_l15Signed.j0 (k + 1) y0 y1))
 | 0 => fun _ _ r h => by simp [spec_l15Signed.j0] at h
 | k + 1 => by
  have ih0 := spec_l15Signed.mono_l k
  ·
   intro y0 y1
   unfold spec_l15Signed.j0
   repeat' first
   | (with_reducible exact ih0 _ _)
   | (with_reducible exact spec_l1Digits.mono _ _)
   | (with_reducible exact LeO.refl _)
   | (with_reducible exact LeO.none _)
   | (with_reducible refine LeO.ite ?_ ?_)
   | (with_reducible refine LeO.bind ?_ (fun _ => ?_))
   | exact ih0 _ _
   | exact spec_l1Digits.mono _ _
   | exact LeO.none _
   | refine LeO.ite ?_ ?_
   | refine LeO.bind ?_ (fun _ => ?_)
theorem spec_l15Signed.mono : ∀ a0 k, LeO (spec_l15Signed.f k a0) (spec_l15Signed.f (k + 1) a0) := by
 intro a0 k
 have ih0 := spec_l15Signed.mono_l k
 unfold spec_l15Signed.f
 repeat' first
   | (with_reducible exact ih0 _ _)
   | (with_reducible exact spec_l1Digits.mono _ _)
   | (with_reducible exact LeO.refl _)
   | (with_reducible exact LeO.none _)
   | (with_reducible refine LeO.ite ?_ ?_)
   | (with_reducible refine LeO.bind ?_ (fun _ => ?_))
   | exact ih0 _ _
   | exact spec_l1Digits.mono _ _
   | exact LeO.none _
   | refine LeO.ite ?_ ?_
   | refine LeO.bind ?_ (fun _ => ?_)
set_option maxHeartbeats 8000000 in
set_option maxRecDepth 100000 in
theorem spec_l15Signed.calls (k : Nat) (a0 : ByteArray) (r : Int) (w : World) (h : spec_l15Signed.f k a0 = some r) :
  Calls Tryd.prog 92 #[.string a0] w fun e w' => e = .returned (.int .i64 r) ∧ Drawn0 w w' := by
 have H : (if (a0.size : Int) > 1 then (if 0 < (a0.size : Int) then (if (bt a0 0) = 45 then (if 1 ≤ (a0.size : Int) then ((spec_l1Digits.f k (a0.extract 1 a0.size)).bind fun t137 => (spec_l15Signed.j0 k a0 (decide (t137 > 0)))) else (none)) else (spec_l15Signed.j0 k a0 false)) else (none)) else (spec_l15Signed.j0 k a0 false)) = some r := h
 clear h
 have HC2 := Aside0.mk H
 clear H
 go_enter Tryd.func92, Tryd.ntmps92
 go_upto_region 1 with (fail)
 go_cut [17] (fun v17 wc => ∃ (kq : Nat) (x17_1 : Bool), v17 = .bool x17_1 ∧ Aside0 (spec_l15Signed.j0 kq a0 x17_1 = some r) ∧ Aside0 (kq ≤ k) ∧ Drawn0 w wc)
 case first =>
  have H := HC2.out
  clear HC2
  by_cases c3 : (a0.size : Int) > 1
  ·
   rw [if_pos c3] at H
   have c3b0 : decide (1 < (a0.size : Int)) = true := decide_eq_true c3
   have c3b1 : decide (1 < a0.size) = true := decide_eq_true (by omega)
   clear c3
   (first | rw [c3b0] | (simp only [i64_w, i32_w]; rw [c3b0]) | skip)
   by_cases c4 : 0 < (a0.size : Int)
   ·
    rw [if_pos c4] at H
    have c4b0 : decide (0 < (a0.size : Int)) = true := decide_eq_true c4
    have c4b1 : decide (0 < a0.size) = true := decide_eq_true (by omega)
    clear c4
    by_cases c6 : (bt a0 0) = 45
    ·
     rw [if_pos c6] at H
     have c6b0 : ((bt a0 0) == 45) = true := beq_iff_eq.mpr c6
     have c6b1 : ((bt a0 0) != 45) = false := bne_eq_false_iff_eq.mpr c6
     clear c6
     by_cases c7 : 1 ≤ (a0.size : Int)
     ·
      rw [if_pos c7] at H
      have c7b0 := eq_true c7
      have c7b1 : decide (1 ≤ (a0.size : Int)) = true := decide_eq_true c7
      clear c7
      replace H := Option.bind_eq_some_iff.mp H
      obtain ⟨t137, A80, H⟩ := H
      replace H : (spec_l15Signed.j0 k a0 (decide (t137 > 0))) = some r := H
      have A8 := Aside0.mk A80
      clear A80
      have H' := Aside0.mk H
      clear H
      have p5 : 0 ≤ (0 : Int) := (by omega)
      have q5 : 0 < a0.size := (by have : (0 : Int) < (a0.size : Int) := od_; omega)
      have hx5 : ∀ h : 0 < a0.size, ((a0[0]'h).toNat : Int) = bt a0 0 := bt_at a0 0
      clear p5
      have qi5 : (0 < (a0.size : Int)) = True := eq_true (od_)
      replace q5 := eq_true q5
      go_wp2_with (first | (go_at_call 104; (with_reducible refine (spec_l1Digits.calls k (a0.extract 1 a0.size) t137 _ A8.out).mono ?_); rintro e w' ⟨rfl, ⟨nd, rfl⟩⟩))
      go_meet
      case rel => exact ⟨_, (decide (t137 > 0)), tx_, H', ⟨by first | omega | exact Nat.le_refl _⟩, by repeat (first | exact Drawn0.refl _ | apply Drawn0.step)⟩
     ·
      rw [if_neg c7] at H
      exact absurd H (by simp)
    ·
     rw [if_neg c6] at H
     have c6b0 : ((bt a0 0) == 45) = false := beq_eq_false_iff_ne.mpr c6
     have c6b1 : ((bt a0 0) != 45) = true := bne_iff_ne.mpr c6
     have H' := Aside0.mk H
     clear H
     have p5 : 0 ≤ (0 : Int) := (by omega)
     have q5 : 0 < a0.size := (by have : (0 : Int) < (a0.size : Int) := od_; omega)
     have hx5 : ∀ h : 0 < a0.size, ((a0[0]'h).toNat : Int) = bt a0 0 := bt_at a0 0
     clear p5
     have qi5 : (0 < (a0.size : Int)) = True := eq_true (od_)
     replace q5 := eq_true q5
     go_wp2
     go_meet
     case rel => exact ⟨_, (false), tx_, H', ⟨by first | omega | exact Nat.le_refl _⟩, by repeat (first | exact Drawn0.refl _ | apply Drawn0.step)⟩
   ·
    rw [if_neg c4] at H
    exact absurd H (by simp)
  ·
   rw [if_neg c3] at H
   have c3b0 : decide (1 < (a0.size : Int)) = false := decide_eq_false c3
   have c3b1 : decide (1 < a0.size) = false := decide_eq_false (by omega)
   clear c3
   (first | rw [c3b0] | (simp only [i64_w, i32_w]; rw [c3b0]) | skip)
   have H' := Aside0.mk H
   clear H
   go_wp2
   go_meet
   case rel => exact ⟨_, (false), tx_, H', ⟨by first | omega | exact Nat.le_refl _⟩, by repeat (first | exact Drawn0.refl _ | apply Drawn0.step)⟩
 case rest =>
  clear HC2
  try clear p2
  try clear c3
  try clear c3b0
  try clear c3b1
  try clear c4
  try clear c4b0
  try clear c4b1
  try clear p5
  try clear q5
  try clear hx5
  try clear qi5
  try clear c6
  try clear c6b0
  try clear c6b1
  try clear c7
  try clear c7b0
  try clear c7b1
  try clear p5
  try clear q5
  obtain ⟨kq, x17_1, rfl, HA, HJ1, ⟨mc1, rfl⟩⟩ := hcut
  cases kq with
  | zero => exact absurd HA.out (by simp [spec_l15Signed.j0])
  | succ kj1 =>
   have H := HA.out
   clear HA
   simp only [spec_l15Signed.j0] at H
   by_cases c9 : x17_1 = true
   ·
    subst c9
    have H1 : (if 1 ≤ (a0.size : Int) then ((spec_l1Digits.f kj1 (a0.extract 1 a0.size)).bind fun t138 => (some (wrap64 (-t138)))) else (none)) = some r := by rw [if_pos rfl] at H; exact H
    clear H
    have H := H1
    clear H1
    by_cases c10 : 1 ≤ (a0.size : Int)
    ·
     rw [if_pos c10] at H
     have c10b0 := eq_true c10
     have c10b1 : decide (1 ≤ (a0.size : Int)) = true := decide_eq_true c10
     clear c10
     replace H := Option.bind_eq_some_iff.mp H
     obtain ⟨t138, A110, H⟩ := H
     replace H : (some (wrap64 (-t138))) = some r := H
     have A11 := Aside0.mk A110
     clear A110
     obtain rfl := Option.some.inj H
     go_wp2_with (first | ((with_reducible refine gate_callee (f := 104) rfl ?_); refine goesL_ (some 20) rfl rfl Tryd.func104 (by kernel_rfl) rfl #[.string (a0.extract 1 a0.size)] rfl tz_ ?_; (with_reducible refine (spec_l1Digits.calls kj1 (a0.extract 1 a0.size) t138 _ A11.out).mono ?_); rintro e w' ⟨rfl, ⟨nd, rfl⟩⟩; refine ⟨_, rfl, ?_⟩))
     go_ret
     exact ⟨tx_, by repeat (first | exact Drawn0.refl _ | apply Drawn0.step)⟩
    ·
     rw [if_neg c10] at H
     exact absurd H (by simp)
   ·
    replace c9 := Bool.eq_false_iff.mpr c9
    subst c9
    have H1 : ((spec_l1Digits.f kj1 a0).bind fun t139 => (if t139 < 0 then (some (-100)) else (some t139))) = some r := by rw [if_neg (show ¬ (false = true) by decide)] at H; exact H
    clear H
    have H := H1
    clear H1
    replace H := Option.bind_eq_some_iff.mp H
    obtain ⟨t139, A120, H⟩ := H
    replace H : (if t139 < 0 then (some (-100)) else (some t139)) = some r := H
    have A12 := Aside0.mk A120
    clear A120
    by_cases c13 : t139 < 0
    ·
     rw [if_pos c13] at H
     have c13b0 : decide (t139 < 0) = true := decide_eq_true c13
     clear c13
     obtain rfl := Option.some.inj H
     go_wp2_with (first | ((with_reducible refine gate_callee (f := 104) rfl ?_); refine goesL_ (some 23) rfl rfl Tryd.func104 (by kernel_rfl) rfl #[.string a0] rfl tz_ ?_; (with_reducible refine (spec_l1Digits.calls kj1 a0 t139 _ A12.out).mono ?_); rintro e w' ⟨rfl, ⟨nd, rfl⟩⟩; refine ⟨_, rfl, ?_⟩))
     go_ret
     exact ⟨tx_, by repeat (first | exact Drawn0.refl _ | apply Drawn0.step)⟩
    ·
     rw [if_neg c13] at H
     have c13b0 : decide (t139 < 0) = false := decide_eq_false c13
     clear c13
     obtain rfl := Option.some.inj H
     go_wp2_with (first | ((with_reducible refine gate_callee (f := 104) rfl ?_); refine goesL_ (some 23) rfl rfl Tryd.func104 (by kernel_rfl) rfl #[.string a0] rfl tz_ ?_; (with_reducible refine (spec_l1Digits.calls kj1 a0 t139 _ A12.out).mono ?_); rintro e w' ⟨rfl, ⟨nd, rfl⟩⟩; refine ⟨_, rfl, ?_⟩))
     go_ret
     exact ⟨tx_, by repeat (first | exact Drawn0.refl _ | apply Drawn0.step)⟩

/-! ### spec_ReadDeed: function 39 -/
mutual
def spec_ReadDeed.j0 : Nat → ByteArray → List ByteArray → List (S30) → Option (Int × Int × Int × Bool)
 | 0, _, _, _ => none
 | k + 1, x0, x4, x5 => if (x4.length : Int) = 3 then (if 1 < (x4.length : Int) then ((spec_l15Signed.f k (rdOf ByteArray.empty x4 1)).bind fun t156 => (if 2 < (x4.length : Int) then ((spec_l15Signed.f k (rdOf ByteArray.empty x4 2)).bind fun t158 => (if x5.length < 5864062014805 then (spec_ReadDeed.j1 k x0 (x5 ++ [(⟨0, t156, t158⟩ : S30)])) else (none))) else (none))) else (none)) else (spec_ReadDeed.j1 k x0 x5)
def spec_ReadDeed.j1 : Nat → ByteArray → List (S30) → Option (Int × Int × Int × Bool)
 | 0, _, _ => none
 | k + 1, x0, x5 => spec_ReadDeed.l0 k x0 x5 0
def spec_ReadDeed.l0 : Nat → ByteArray → List (S30) → Int → Option (Int × Int × Int × Bool)
 | 0, _, _, _ => none
 | k + 1, x0, x5, x7 => if x7 < (x5.length : Int) then (if x0.toList = ([] : List UInt8) then (spec_ReadDeed.l0 k x0 x5 (wrap64 (x7 + 1))) else (if 0 ≤ x7 then ((spec_DeedText.f k ((rd_T30 x5 x7).f0) ((rd_T30 x5 x7).f1) ((rd_T30 x5 x7).f2)).bind fun t163 => (if t163.toList = x0.toList then (some ((rd_T30 x5 x7).f0, (rd_T30 x5 x7).f1, (rd_T30 x5 x7).f2, true)) else (spec_ReadDeed.l0 k x0 x5 (wrap64 (x7 + 1))))) else (none))) else (some (0, 0, 0, false))
end
def spec_ReadDeed.f (k : Nat) (a0 : ByteArray) : Option (Int × Int × Int × Bool) := (spec_l1Cut.f k a0 32).bind fun t141 => ((some (([(⟨3, 0, 0⟩ : S30), (⟨4, 0, 0⟩ : S30)] : List (S30)) : List (S30))).bind fun y144 => (if (t141.length : Int) = 2 then (if 1 < (t141.length : Int) then ((spec_l15Signed.f k (rdOf ByteArray.empty t141 1)).bind fun t148 => ((some (([(⟨1, t148, 0⟩ : S30), (⟨2, t148, 0⟩ : S30)] : List (S30)) : List (S30))).bind fun y149 => (if y144.length + y149.length < 5864062014805 then (spec_ReadDeed.j0 k a0 t141 (y144 ++ y149)) else (none)))) else (none)) else (spec_ReadDeed.j0 k a0 t141 y144)))
theorem spec_ReadDeed.mono_l : ∀ k, (∀ y0 y1 y2, LeO (spec_ReadDeed.j0 k y0 y1 y2) (spec_ReadDeed.j0 (k + 1) y0 y1 y2)) ∧ (∀ y0 y1, LeO (spec_ReadDeed.j1 k y0 y1) (spec_ReadDeed.j1 (k + 1) y0 y1)) ∧ (∀ y0 y1 y2, LeO (spec_ReadDeed.l0 k y0 y1 y2) (spec_ReadDeed.l0 (k + 1) y0 y1 y2))
 | 0 => ⟨fun _ _ _ r h => by simp [spec_ReadDeed.j0] at h, fun _ _ r h => by simp [spec_ReadDeed.j1] at h, fun _ _ _ r h => by simp [spec_ReadDeed.l0] at h⟩
 | k + 1 => by
  obtain ⟨ih0, ih1, ih2⟩ := spec_ReadDeed.mono_l k
  refine ⟨?_, ?_, ?_⟩
  ·
   intro y0 y1 y2
   unfold spec_ReadDeed.j0
   repeat' first
   | (with_reducible exact ih0 _ _ _)
   | (with_reducible exact ih1 _ _)
   | (with_reducible exact ih2 _ _ _)
   | (with_reducible exact spec_DeedText.mono _ _ _ _)
   | (with_reducible exact spec_l15Signed.mono _ _)
   | (with_reducible exact spec_l1Cut.mono _ _ _)
   | (with_reducible exact LeO.refl _)
   | (with_reducible exact LeO.none _)
   | (with_reducible refine LeO.ite ?_ ?_)
   | (with_reducible refine LeO.bind ?_ (fun _ => ?_))
   | exact ih0 _ _ _
   | exact ih1 _ _
   | exact ih2 _ _ _
   | exact spec_DeedText.mono _ _ _ _
   | exact spec_l15Signed.mono _ _
   | exact spec_l1Cut.mono _ _ _
   | exact LeO.none _
   | refine LeO.ite ?_ ?_
   | refine LeO.bind ?_ (fun _ => ?_)
  ·
   intro y0 y1
   unfold spec_ReadDeed.j1
   repeat' first
   | (with_reducible exact ih0 _ _ _)
   | (with_reducible exact ih1 _ _)
   | (with_reducible exact ih2 _ _ _)
   | (with_reducible exact spec_DeedText.mono _ _ _ _)
   | (with_reducible exact spec_l15Signed.mono _ _)
   | (with_reducible exact spec_l1Cut.mono _ _ _)
   | (with_reducible exact LeO.refl _)
   | (with_reducible exact LeO.none _)
   | (with_reducible refine LeO.ite ?_ ?_)
   | (with_reducible refine LeO.bind ?_ (fun _ => ?_))
   | exact ih0 _ _ _
   | exact ih1 _ _
   | exact ih2 _ _ _
   | exact spec_DeedText.mono _ _ _ _
   | exact spec_l15Signed.mono _ _
   | exact spec_l1Cut.mono _ _ _
   | exact LeO.none _
   | refine LeO.ite ?_ ?_
   | refine LeO.bind ?_ (fun _ => ?_)
  ·
   intro y0 y1 y2
   unfold spec_ReadDeed.l0
   repeat' first
   | (with_reducible exact ih0 _ _ _)
   | (with_reducible exact ih1 _ _)
   | (with_reducible exact ih2 _ _ _)
   | (with_reducible exact spec_DeedText.mono _ _ _ _)
   | (with_reducible exact spec_l15Signed.mono _ _)
   | (with_reducible exact spec_l1Cut.mono _ _ _)
   | (with_reducible exact LeO.refl _)
   | (with_reducible exact LeO.none _)
   | (with_reducible refine LeO.ite ?_ ?_)
   | (with_reducible refine LeO.bind ?_ (fun _ => ?_))
   | exact ih0 _ _ _
   | exact ih1 _ _
   | exact ih2 _ _ _
   | exact spec_DeedText.mono _ _ _ _
   | exact spec_l15Signed.mono _ _
   | exact spec_l1Cut.mono _ _ _
   | exact LeO.none _
   | refine LeO.ite ?_ ?_
   | refine LeO.bind ?_ (fun _ => ?_)
theorem spec_ReadDeed.mono : ∀ a0 k, LeO (spec_ReadDeed.f k a0) (spec_ReadDeed.f (k + 1) a0) := by
 intro a0 k
 obtain ⟨ih0, ih1, ih2⟩ := spec_ReadDeed.mono_l k
 unfold spec_ReadDeed.f
 repeat' first
   | (with_reducible exact ih0 _ _ _)
   | (with_reducible exact ih1 _ _)
   | (with_reducible exact ih2 _ _ _)
   | (with_reducible exact spec_DeedText.mono _ _ _ _)
   | (with_reducible exact spec_l15Signed.mono _ _)
   | (with_reducible exact spec_l1Cut.mono _ _ _)
   | (with_reducible exact LeO.refl _)
   | (with_reducible exact LeO.none _)
   | (with_reducible refine LeO.ite ?_ ?_)
   | (with_reducible refine LeO.bind ?_ (fun _ => ?_))
   | exact ih0 _ _ _
   | exact ih1 _ _
   | exact ih2 _ _ _
   | exact spec_DeedText.mono _ _ _ _
   | exact spec_l15Signed.mono _ _
   | exact spec_l1Cut.mono _ _ _
   | exact LeO.none _
   | refine LeO.ite ?_ ?_
   | refine LeO.bind ?_ (fun _ => ?_)
def spec_ReadDeed.T7 : Bool × List (List Nat × List Nat) := (true, [([], []), ([], []), ([1], [1]), ([2], [2]), ([3], [3]), ([], []), ([5], [5]), ([6], [6]), ([7, 4], [7]), ([4, 8], [4, 8]), ([9], [9]), ([0, 10, 8], [0, 10]), ([11, 11, 0, 1, 2, 3, 4, 5, 6, 7, 8, 9, 10, 11], [0, 11])])
def spec_ReadDeed.B7 : List Nat := [0, 0, 2, 6, 14, 0, 32, 96, 254, 510, 1022, 2047, 4095]
theorem spec_ReadDeed.tab7 : rtab .any (opsOf Tryd.f39 7) = spec_ReadDeed.T7 := by kernel_rfl
theorem spec_ReadDeed.bits7 : waitsOk spec_ReadDeed.T7.2 spec_ReadDeed.B7 = true := by kernel_rfl
set_option maxHeartbeats 8000000 in
set_option maxRecDepth 100000 in
theorem spec_ReadDeed.calls (k : Nat) (a0 : ByteArray) (r1 : Int) (r2 : Int) (r3 : Int) (r4 : Bool) (w : World) (h : spec_ReadDeed.f k a0 = some (r1, r2, r3, r4)) :
  Calls Tryd.prog 39 #[.string a0] w fun e w' => e = .returned (.tuple #[.agg #[.int .i64 r1, .int .i64 r2, .int .i64 r3], .bool r4]) ∧ Below w.heap.size w w' := by
 have hu30 := Tryd.underlying30
 have HB := Aside0.mk (Below.refl w.heap.size w)
 have H : ((spec_l1Cut.f k a0 32).bind fun t141 => ((some (([(⟨3, 0, 0⟩ : S30), (⟨4, 0, 0⟩ : S30)] : List (S30)) : List (S30))).bind fun y144 => (if (t141.length : Int) = 2 then (if 1 < (t141.length : Int) then ((spec_l15Signed.f k (rdOf ByteArray.empty t141 1)).bind fun t148 => ((some (([(⟨1, t148, 0⟩ : S30), (⟨2, t148, 0⟩ : S30)] : List (S30)) : List (S30))).bind fun y149 => (if y144.length + y149.length < 5864062014805 then (spec_ReadDeed.j0 k a0 t141 (y144 ++ y149)) else (none)))) else (none)) else (spec_ReadDeed.j0 k a0 t141 y144)))) = some (r1, r2, r3, r4) := h
 clear h
 replace H := Option.bind_eq_some_iff.mp H
 obtain ⟨t141, A20, H⟩ := H
 replace H : ((some (([(⟨3, 0, 0⟩ : S30), (⟨4, 0, 0⟩ : S30)] : List (S30)) : List (S30))).bind fun y144 => (if (t141.length : Int) = 2 then (if 1 < (t141.length : Int) then ((spec_l15Signed.f k (rdOf ByteArray.empty t141 1)).bind fun t148 => ((some (([(⟨1, t148, 0⟩ : S30), (⟨2, t148, 0⟩ : S30)] : List (S30)) : List (S30))).bind fun y149 => (if y144.length + y149.length < 5864062014805 then (spec_ReadDeed.j0 k a0 t141 (y144 ++ y149)) else (none)))) else (none)) else (spec_ReadDeed.j0 k a0 t141 y144))) = some (r1, r2, r3, r4) := H
 have A2 := Aside0.mk A20
 clear A20
 obtain ⟨y144, hy144⟩ : ∃ y_ : List (S30), y_ = (([(⟨3, 0, 0⟩ : S30), (⟨4, 0, 0⟩ : S30)] : List (S30))) := ⟨_, rfl⟩
 replace H : (if (t141.length : Int) = 2 then (if 1 < (t141.length : Int) then ((spec_l15Signed.f k (rdOf ByteArray.empty t141 1)).bind fun t148 => ((some (([(⟨1, t148, 0⟩ : S30), (⟨2, t148, 0⟩ : S30)] : List (S30)) : List (S30))).bind fun y149 => (if y144.length + y149.length < 5864062014805 then (spec_ReadDeed.j0 k a0 t141 (y144 ++ y149)) else (none)))) else (none)) else (spec_ReadDeed.j0 k a0 t141 y144)) = some (r1, r2, r3, r4) := by first | (rw [hy144]; with_reducible exact H) | (have H2_ := (Option.bind_some _ _).symm.trans H; rw [hy144]; with_reducible exact H2_) | (have H2_ := (Option.bind_some _ _).symm.trans H; with_reducible exact H2_) | with_reducible exact H | (rw [hy144]; exact H) | exact H
 have Ny144 := Aside0.mk hy144
 clear hy144
 have HC3 := Aside0.mk H
 clear H
 go_enter Tryd.func39, Tryd.ntmps39
 go_upto_if 15 with (first | ((with_reducible refine gate_dst (N := 2) rfl ?_); refine box_event ?hg (N := 2) ?hd (cs := #[.int .i64 0, .int .i64 0, .int .i64 0]) (t := 30) ?hr ?_; (case hd => rfl); (case hg => rfl); (case hr => first | (go_simp; done) | (go_simp; rfl)); intro gb140 hg w4 hbox hb; have n0_ := Aside0.mk (below_step (tb_ HB.out) hb); have n1_ := Aside0.mk (hbox); have n2_ := Aside0.mk ((by rw [hg]; exact (below_size (tb_ HB.out)) : w.heap.size ≤ gb140)); have n3_ := Aside0.mk ((by rw [hg]; exact (below_size (tb_ HB.out)) : w.heap.size ≤ gb140)); clear HB; have HB := n0_; have BK140 := n1_; have GW140 := n2_; have GE140 := n3_; clear n0_ n1_ n2_ n3_ hb hbox hg) | ((with_reducible refine gate_callee (f := 91) rfl ?_); refine goesL_ (some 9) rfl rfl Tryd.func91 (by kernel_rfl) rfl #[.string a0, .int .u8 32] rfl tz_ ?_; (with_reducible refine (spec_l1Cut.calls k a0 32 t141 _ A2.out).mono ?_); rintro e w5 ⟨v142, rfl, ho0, hb⟩; refine ⟨_, rfl, ?_⟩; have n0_ := Aside0.mk (Kd.R_lower ho0 (below_size (tb_ HB.out))); have n1_ := Aside0.mk (blk_below (g := gb140) (o := .cells #[.int .i64 0, .int .i64 0, .int .i64 0] 30 (0, 0)) (tk_ BK140.out) hb); have n2_ := Aside0.mk (below_step (tb_ HB.out) hb); clear BK140 HB; have HO143 := n0_; have BK140 := n1_; have HB := n2_; clear n0_ n1_ n2_; (try clear hb); (try clear hb2); (try clear hk); (try clear hi); (try clear ho0)) | ((with_reducible refine gate_dst (N := 12) rfl ?_); refine Kd.R_lit k30 _ 30 ?hg (N := 12) ?hd (xs := ([(⟨3, 0, 0⟩ : S30), (⟨4, 0, 0⟩ : S30)] : List (S30))) (inner := [.int .i64 3, .int .i64 0, .int .i64 0, .int .i64 4, .int .i64 0, .int .i64 0]) (ok := fun _ => True) (okp := fun _ => True) ?hr ?hp (fun _ hk => hk) trivial (Below.refl _ _) (Nat.le_refl _) (by simp) ?_; (case hd => rfl); (case hg => rfl); (case hr => first | (go_simp; done) | (go_simp; rfl)); (case hp => exact (Reps.c3 (show Kd.M k30 _ _ _ (⟨3, 0, 0⟩ : S30) [.int .i64 3, .int .i64 0, .int .i64 0] from (k30_mkM _ _ _ (⟨3, 0, 0⟩ : S30) )) (Reps.c3 (show Kd.M k30 _ _ _ (⟨4, 0, 0⟩ : S30) [.int .i64 4, .int .i64 0, .int .i64 0] from (k30_mkM _ _ _ (⟨4, 0, 0⟩ : S30) )) (Reps.none _ _)))); intro v145 w6 ho7 hb hg_ hnew_; clear hg_ hnew_; (first | rw [← Ny144.out] at ho7 | (simp only [Int.reduceToNat] at ho7; rw [← Ny144.out] at ho7)); have n0_ := Aside0.mk (Kd.R_below (rR_ HO143.out) hb); have n1_ := Aside0.mk (Kd.R_lower (Kd.R_newB ho7 (g := gb140) (o := .cells #[.int .i64 0, .int .i64 0, .int .i64 0] 30 (0, 0)) (tk_ BK140.out)) (below_size (tb_ HB.out))); have n2_ := Aside0.mk (blk_below (g := gb140) (o := .cells #[.int .i64 0, .int .i64 0, .int .i64 0] 30 (0, 0)) (tk_ BK140.out) hb); have n3_ := Aside0.mk (below_step (tb_ HB.out) hb); clear HO143 BK140 HB; have HO143 := n0_; have HO146 := n1_; have BK140 := n2_; have HB := n3_; clear n0_ n1_ n2_ n3_ hb ho7; obtain ⟨Ao8, co8, eo8⟩ := Kd.R_slice HO143.out; subst eo8))
 (try simp only [Act.put, sa_, sb_, sc_])
 go_cut [5] (fun v5 wc => ∃ (kq : Nat) (x5_2 : List (S30)), Aside0 (spec_ReadDeed.j0 kq a0 t141 x5_2 = some (r1, r2, r3, r4)) ∧ Aside0 (kq ≤ k) ∧ Aside0 (Kd.R Kd.string 9 wc w.heap.size (fun _ => True) (.slice Ao8 t141.length co8) t141) ∧ Aside0 (Kd.R k30 30 wc w.heap.size (fun k_ => k_ ≠ gb140) v5 x5_2) ∧ Aside0 (wc.heap[gb140]? = some (.cells #[.int .i64 0, .int .i64 0, .int .i64 0] 30 (0, 0))) ∧ Aside0 (Below w.heap.size w wc))
 case first =>
  have H := HC3.out
  clear HC3
  by_cases c9 : (t141.length : Int) = 2
  ·
   rw [if_pos c9] at H
   have c9b0 : ((t141.length : Int) == 2) = true := beq_iff_eq.mpr c9
   have c9b1 : ((t141.length : Int) != 2) = false := bne_eq_false_iff_eq.mpr c9
   clear c9
   (first | rw [c9b0] | (simp only [i64_w, i32_w]; rw [c9b0]) | skip)
   by_cases c10 : 1 < (t141.length : Int)
   ·
    rw [if_pos c10] at H
    have c10b0 : decide (1 < (t141.length : Int)) = true := decide_eq_true c10
    have c10b1 : decide (1 < t141.length) = true := decide_eq_true (by omega)
    clear c10
    replace H := Option.bind_eq_some_iff.mp H
    obtain ⟨t148, A110, H⟩ := H
    replace H : ((some (([(⟨1, t148, 0⟩ : S30), (⟨2, t148, 0⟩ : S30)] : List (S30)) : List (S30))).bind fun y149 => (if y144.length + y149.length < 5864062014805 then (spec_ReadDeed.j0 k a0 t141 (y144 ++ y149)) else (none))) = some (r1, r2, r3, r4) := H
    have A11 := Aside0.mk A110
    clear A110
    obtain ⟨y149, hy149⟩ : ∃ y_ : List (S30), y_ = (([(⟨1, t148, 0⟩ : S30), (⟨2, t148, 0⟩ : S30)] : List (S30))) := ⟨_, rfl⟩
    replace H : (if y144.length + y149.length < 5864062014805 then (spec_ReadDeed.j0 k a0 t141 (y144 ++ y149)) else (none)) = some (r1, r2, r3, r4) := by first | (rw [hy149]; with_reducible exact H) | (have H2_ := (Option.bind_some _ _).symm.trans H; rw [hy149]; with_reducible exact H2_) | (have H2_ := (Option.bind_some _ _).symm.trans H; with_reducible exact H2_) | with_reducible exact H | (rw [hy149]; exact H) | exact H
    have Ny149 := Aside0.mk hy149
    clear hy149
    by_cases c12 : y144.length + y149.length < 5864062014805
    ·
     rw [if_pos c12] at H
     have LMc12 := Aside0.mk c12
     clear c12
     obtain ⟨y152, hy152⟩ : ∃ y_ : List (S30), y_ = (y144 ++ y149) := ⟨_, rfl⟩
     replace H : (spec_ReadDeed.j0 k a0 t141 y152) = some (r1, r2, r3, r4) := by first | (rw [hy152]; with_reducible exact H) | (have H2_ := (Option.bind_some _ _).symm.trans H; rw [hy152]; with_reducible exact H2_) | (have H2_ := (Option.bind_some _ _).symm.trans H; with_reducible exact H2_) | with_reducible exact H | (rw [hy152]; exact H) | exact H
     have Ny152 := Aside0.mk hy152
     clear hy152
     have H' := Aside0.mk H
     clear H
     have p147 : 0 ≤ (1 : Int) := (by omega)
     have q147 : 1 < (t141.length : Int) := od_
     obtain ⟨ad147, e147, hx147_0⟩ := Kd.at_string (Kd.R_reads' HO143.out).2.2 1 p147 q147
     cases e147
     (try simp only [show (1 : Int).toNat = 1 from rfl, Nat.reduceMul, Nat.reduceEqDiff, Go.Addr.add, ↓reduceIte] at hx147_0)
     have qi147 : (1 < t141.length) = True := eq_true (by omega)
     (try rw [show ((1 : Int)).toNat = 1 from rfl] at hx147_0)
     replace p147 := eq_true p147
     replace q147 := eq_true q147
     go_wp2_with (first | ((with_reducible refine gate_callee (f := 92) rfl ?_); refine goesL_ (some 19) rfl rfl Tryd.func92 (by kernel_rfl) rfl #[.string (rdOf ByteArray.empty t141 1)] rfl tz_ ?_; (with_reducible refine (spec_l15Signed.calls k (rdOf ByteArray.empty t141 1) t148 _ A11.out).mono ?_); rintro e w' ⟨rfl, ⟨nd, rfl⟩⟩; refine ⟨_, rfl, ?_⟩) | ((with_reducible refine gate_dst (N := 25) rfl ?_); refine Kd.R_lit k30 _ 30 ?hg (N := 25) ?hd (xs := ([(⟨1, t148, 0⟩ : S30), (⟨2, t148, 0⟩ : S30)] : List (S30))) (inner := [.int .i64 1, .int .i64 t148, .int .i64 0, .int .i64 2, .int .i64 t148, .int .i64 0]) (ok := fun _ => True) (okp := fun _ => True) ?hr ?hp (fun _ hk => hk) trivial (Below.refl _ _) (Nat.le_refl _) (by simp) ?_; (case hd => rfl); (case hg => rfl); (case hr => first | (go_simp; done) | (go_simp; rfl)); (case hp => exact (Reps.c3 (show Kd.M k30 _ _ _ (⟨1, t148, 0⟩ : S30) [.int .i64 1, .int .i64 t148, .int .i64 0] from (k30_mkM _ _ _ (⟨1, t148, 0⟩ : S30) )) (Reps.c3 (show Kd.M k30 _ _ _ (⟨2, t148, 0⟩ : S30) [.int .i64 2, .int .i64 t148, .int .i64 0] from (k30_mkM _ _ _ (⟨2, t148, 0⟩ : S30) )) (Reps.none _ _)))); intro v150 w13 ho14 hb hg_ hnew_; clear hg_ hnew_; (first | rw [← Ny149.out] at ho14 | (simp only [Int.reduceToNat] at ho14; rw [← Ny149.out] at ho14)); have n0_ := Aside0.mk (Kd.R_below (rR_ HO143.out) hb); have n1_ := Aside0.mk (Kd.R_elder' (rR_ HO146.out) (Kd.R_base ho14) hb); have n2_ := Aside0.mk (Kd.R_lower (Kd.R_newB (Kd.R_new' ho14 (Kd.R_lt (rR_ HO146.out))) (g := gb140) (o := .cells #[.int .i64 0, .int .i64 0, .int .i64 0] 30 (0, 0)) (tk_ BK140.out)) (below_size (tb_ HB.out))); have n3_ := Aside0.mk (blk_below (g := gb140) (o := .cells #[.int .i64 0, .int .i64 0, .int .i64 0] 30 (0, 0)) (tk_ BK140.out) hb); have n4_ := Aside0.mk (below_step (tb_ HB.out) hb); clear HO143 HO146 BK140 HB; have HO143 := n0_; have HO146 := n1_; have HO151 := n2_; have BK140 := n3_; have HB := n4_; clear n0_ n1_ n2_ n3_ n4_ hb ho14; obtain ⟨Ao16, co16, eo16⟩ := Kd.R_slice HO151.out; subst eo16) | ((with_reducible refine gate_builtin (b := .append) (xs := #[.tmp 20, .tmp 25]) rfl ?_); at_builtin; refine Kd.R_append_rows k30 (w0 := w) w.heap.size rfl (.tmp 20) (.tmp 25) 44 30 (.agg #[(.int .i64 0), (.int .i64 0), (.int .i64 0)]) 24 rfl Tryd.underlying44 info30 rfl (by decide) (by omega) v145 y144 y149 _ _ _ (fun k_ => some k_ ≠ (.slice Ao16 y149.length co16 : Value).ownBlock ∧ k_ ≠ gb140) (fun _ => False) rfl rfl ?aO ?aR (fun _ _ h => h) (fun _ h => h.elim) ?aF ?aB ?aS ?aL ?_; (case aR => repeat (first | exact (Kd.R_reads' HO151.out).2.2 | (with_reducible refine Kd.C_alloc ?_ _) | (with_reducible refine Kd.C_drewN ?_ _) | (with_reducible refine Kd.C_drew ?_))); (case aB => exact (tb_ HB.out)); (case aF => exact (fun k_ hk => ⟨Kd.fresh' (Kd.R_lt (rR_ HO151.out)) k_ hk, Kd.freshB (g := gb140) (o := .cells #[.int .i64 0, .int .i64 0, .int .i64 0] 30 (0, 0)) (tk_ BK140.out) k_ hk⟩)); (case aO => exact (by refine qR_ ?_; exact Kd.R_mono HO146.out (fun _ hk => ⟨hk.2, hk.1.2⟩))); (case aS => exact (below_size (tb_ HB.out))); (case aL => have := LMc12.out; omega); intro v153 w15 ho hb hg hat; rw [← Ny152.out] at ho; have n0_ := Aside0.mk (blk_grown (g := gb140) (o := .cells #[.int .i64 0, .int .i64 0, .int .i64 0] 30 (0, 0)) (tk_ BK140.out) hg (Kd.R_away HO146.out (fun _ hk => hk.1.2))); have n1_ := Aside0.mk (Kd.R_over' (rR_ HO143.out) (Kd.R_typed (rR_ HO146.out)) (by decide) hg); have n2_ := Aside0.mk (Kd.R_after (ok := (fun k_ => k_ ≠ gb140)) (by refine qR_ ?_; exact Kd.R_mono HO151.out (fun _ hk => ⟨hk.2, hk.1.2⟩)) hg hat); have n3_ := Aside0.mk (hb); have n4_ := Aside0.mk (ho); clear BK140 HO143 HO151 HB HO146; have BK140 := n0_; have HO143 := n1_; have HO151 := n2_; have HB := n3_; have HO154 := n4_; clear n0_ n1_ n2_ n3_ n4_ ho hb hg hat))
     go_meet
     case rel => exact ⟨_, (y152), H', ⟨by first | omega | exact Nat.le_refl _⟩, ⟨rR_ HO143.out⟩, ⟨by refine qR_ ?_; exact Kd.R_mono HO154.out (fun _ hk => hk.2)⟩, ⟨tk_ BK140.out⟩, ⟨(tb_ HB.out)⟩⟩
    ·
     rw [if_neg c12] at H
     exact absurd H (by simp)
   ·
    rw [if_neg c10] at H
    exact absurd H (by simp)
  ·
   rw [if_neg c9] at H
   have c9b0 : ((t141.length : Int) == 2) = false := beq_eq_false_iff_ne.mpr c9
   have c9b1 : ((t141.length : Int) != 2) = true := bne_iff_ne.mpr c9
   (first | rw [c9b0] | (simp only [i64_w, i32_w]; rw [c9b0]) | skip)
   have H' := Aside0.mk H
   clear H
   go_wp2
   go_meet
   case rel => exact ⟨_, (y144), H', ⟨by first | omega | exact Nat.le_refl _⟩, ⟨rR_ HO143.out⟩, ⟨by refine qR_ ?_; exact Kd.R_mono HO146.out (fun _ hk => hk.2)⟩, ⟨tk_ BK140.out⟩, ⟨(tb_ HB.out)⟩⟩
 case rest =>
  clear HC3
  try clear c1
  try clear p1
  try clear q1
  try clear hx1
  try clear qi1
  try clear p2
  try clear c3
  try clear c9
  try clear c9b0
  try clear c9b1
  try clear c10
  try clear c10b0
  try clear c10b1
  try clear c12
  try clear p14
  try clear q14
  try clear hx14
  try clear qi14
  try clear hx147_0
  try clear p147
  try clear q147
  obtain ⟨kq, x5_2, HA, HJ2, HO_4, HO_5, BK140, HB⟩ := hcut
  cases kq with
  | zero => exact absurd HA.out (by simp [spec_ReadDeed.j0])
  | succ kj2 =>
   have H := HA.out
   clear HA
   simp only [spec_ReadDeed.j0] at H
   have HC17 := Aside0.mk H
   clear H
   go_upto_if 29 with (fail)
   go_cut [5] (fun v5 wc => ∃ (kq : Nat) (x5_16 : List (S30)), Aside0 (spec_ReadDeed.j1 kq a0 x5_16 = some (r1, r2, r3, r4)) ∧ Aside0 (kq ≤ kj2) ∧ Aside0 (Kd.R k30 30 wc w.heap.size (fun k_ => k_ ≠ gb140) v5 x5_16) ∧ Aside0 (wc.heap[gb140]? = some (.cells #[.int .i64 0, .int .i64 0, .int .i64 0] 30 (0, 0))) ∧ Aside0 (Below w.heap.size w wc))
   case first =>
    have H := HC17.out
    clear HC17
    by_cases c18 : (t141.length : Int) = 3
    ·
     rw [if_pos c18] at H
     have c18b0 : ((t141.length : Int) == 3) = true := beq_iff_eq.mpr c18
     have c18b1 : ((t141.length : Int) != 3) = false := bne_eq_false_iff_eq.mpr c18
     clear c18
     (first | rw [c18b0] | (simp only [i64_w, i32_w]; rw [c18b0]) | skip)
     by_cases c19 : 1 < (t141.length : Int)
     ·
      rw [if_pos c19] at H
      have c19b0 : decide (1 < (t141.length : Int)) = true := decide_eq_true c19
      have c19b1 : decide (1 < t141.length) = true := decide_eq_true (by omega)
      clear c19
      replace H := Option.bind_eq_some_iff.mp H
      obtain ⟨t156, A200, H⟩ := H
      replace H : (if 2 < (t141.length : Int) then ((spec_l15Signed.f kj2 (rdOf ByteArray.empty t141 2)).bind fun t158 => (if x5_2.length < 5864062014805 then (spec_ReadDeed.j1 kj2 a0 (x5_2 ++ [(⟨0, t156, t158⟩ : S30)])) else (none))) else (none)) = some (r1, r2, r3, r4) := H
      have A20 := Aside0.mk A200
      clear A200
      by_cases c21 : 2 < (t141.length : Int)
      ·
       rw [if_pos c21] at H
       have c21b0 : decide (2 < (t141.length : Int)) = true := decide_eq_true c21
       have c21b1 : decide (2 < t141.length) = true := decide_eq_true (by omega)
       clear c21
       replace H := Option.bind_eq_some_iff.mp H
       obtain ⟨t158, A220, H⟩ := H
       replace H : (if x5_2.length < 5864062014805 then (spec_ReadDeed.j1 kj2 a0 (x5_2 ++ [(⟨0, t156, t158⟩ : S30)])) else (none)) = some (r1, r2, r3, r4) := H
       have A22 := Aside0.mk A220
       clear A220
       by_cases c23 : x5_2.length < 5864062014805
       ·
        rw [if_pos c23] at H
        have LMc23 := Aside0.mk c23
        clear c23
        obtain ⟨y159, hy159⟩ : ∃ y_ : List (S30), y_ = (x5_2 ++ [(⟨0, t156, t158⟩ : S30)]) := ⟨_, rfl⟩
        replace H : (spec_ReadDeed.j1 kj2 a0 y159) = some (r1, r2, r3, r4) := by first | (rw [hy159]; with_reducible exact H) | (have H2_ := (Option.bind_some _ _).symm.trans H; rw [hy159]; with_reducible exact H2_) | (have H2_ := (Option.bind_some _ _).symm.trans H; with_reducible exact H2_) | with_reducible exact H | (rw [hy159]; exact H) | exact H
        have Ny159 := Aside0.mk hy159
        clear hy159
        have H' := Aside0.mk H
        clear H
        try go_wp2
        have n0_ := Aside0.mk (Kd.R_drew HO_4.out)
        have n1_ := Aside0.mk (Kd.R_drew HO_5.out)
        have n2_ := Aside0.mk (blk_drew BK140.out)
        have n3_ := Aside0.mk (ld_ HB.out)
        clear HO_4
        clear HO_5
        clear BK140
        clear HB
        have HO_4 := n0_
        have HO_5 := n1_
        have BK140 := n2_
        have HB := n3_
        clear n0_ n1_ n2_ n3_
        have p155 : 0 ≤ (1 : Int) := (by omega)
        have q155 : 1 < (t141.length : Int) := od_
        obtain ⟨ad155, e155, hx155_0⟩ := Kd.at_string (Kd.R_reads' HO_4.out).2.2 1 p155 q155
        cases e155
        (try simp only [show (1 : Int).toNat = 1 from rfl, Nat.reduceMul, Nat.reduceEqDiff, Go.Addr.add, ↓reduceIte] at hx155_0)
        have qi155 : (1 < t141.length) = True := eq_true (by omega)
        (try rw [show ((1 : Int)).toNat = 1 from rfl] at hx155_0)
        replace p155 := eq_true p155
        replace q155 := eq_true q155
        have p157 : 0 ≤ (2 : Int) := (by omega)
        have q157 : 2 < (t141.length : Int) := od_
        obtain ⟨ad157, e157, hx157_0⟩ := Kd.at_string (Kd.R_reads' HO_4.out).2.2 2 p157 q157
        obtain rfl : ad155 = ad157 := (by injection e157)
        (try simp only [show (2 : Int).toNat = 2 from rfl, Nat.reduceMul, Nat.reduceEqDiff, Go.Addr.add, ↓reduceIte] at hx157_0)
        have qi157 : (2 < t141.length) = True := eq_true (by omega)
        (try rw [show ((2 : Int)).toNat = 2 from rfl] at hx157_0)
        replace p157 := eq_true p157
        replace q157 := eq_true q157
        refine start_ (n := 13) (S := fun w' => w'.cell? ⟨ad155.block, ad155.off + 1, none⟩ = some (.string (rdOf ByteArray.empty t141 1)) ∧ w'.cell? ⟨ad155.block, ad155.off + 2, none⟩ = some (.string (rdOf ByteArray.empty t141 2))) (ds := [10, 11]) #[false, false, false, false, false, false, false, false, false, false, false, false, false] (by kernel_rfl) rfl rfl ⟨hx155_0, hx157_0⟩ (fun hHeld => ?_); refine with_tabW spec_ReadDeed.tab7 spec_ReadDeed.bits7 (fun HT_ HW_ => ?_)
        generalize wc.drew = w24 at HO_4 HO_5 BK140 HB hx155_0 hx157_0 hHeld ⊢
        refine pure_ (i := 0) (N := some 30) (v := ?_) (a' := ?_) #[true, false, false, false, false, false, false, false, false, false, false, false, false] rfl rfl (any_of HT_.out (by kernel_rfl)) (fun _ _ _ h => h) (Or.inl ⟨by rfl, ?_⟩) ?_ ?_
        rotate_left
        ·
         intro w'
         go_simp
         first | with_reducible rfl | (rw [if_neg (by omega)]; done)
        rotate_left
        ·
         simp only [Act.put, sa_, sb_, sc_, i64_w, i32_w]
         rfl
        refine pure_ (i := 1) (N := some 31) (v := ?_) (a' := ?_) #[true, true, false, false, false, false, false, false, false, false, false, false, false] rfl rfl (any_of HT_.out (by kernel_rfl)) (fun _ _ _ h => h) (Or.inl ⟨by rfl, ?_⟩) ?_ ?_
        rotate_left
        ·
         intro w'
         go_simp
         first | with_reducible rfl | (rw [if_neg (by omega)]; done)
        rotate_left
        ·
         simp only [Act.put, sa_, sb_, sc_, i64_w, i32_w]
         rfl
        refine pure_ (i := 2) (N := some 32) (v := ?_) (a' := ?_) #[true, true, true, false, false, false, false, false, false, false, false, false, false] rfl rfl (any_of HT_.out (by kernel_rfl)) (fun _ _ _ h => h) (Or.inl ⟨by rfl, ?_⟩) ?_ ?_
        rotate_left
        ·
         intro w'
         go_simp
         first | with_reducible rfl | (rw [if_neg (by omega)]; done)
        rotate_left
        ·
         simp only [Act.put, sa_, sb_, sc_, i64_w, i32_w]
         rfl
        refine pure_ (i := 5) (N := some 35) (v := ?_) (a' := ?_) #[true, true, true, false, false, true, false, false, false, false, false, false, false] rfl rfl (any_of HT_.out (by kernel_rfl)) (fun _ _ _ h => h) (Or.inl ⟨by rfl, ?_⟩) ?_ ?_
        rotate_left
        ·
         intro w'
         go_simp
         first | with_reducible rfl | (rw [if_neg (by omega)]; done)
        rotate_left
        ·
         simp only [Act.put, sa_, sb_, sc_, i64_w, i32_w]
         rfl
        refine pure_ (i := 6) (N := some 36) (v := ?_) (a' := ?_) #[true, true, true, false, false, true, true, false, false, false, false, false, false] rfl rfl (any_of HT_.out (by kernel_rfl)) (fun _ _ _ h => h) (Or.inl ⟨by rfl, ?_⟩) ?_ ?_
        rotate_left
        ·
         intro w'
         go_simp
         first | with_reducible rfl | (rw [if_neg (by omega)]; done)
        rotate_left
        ·
         simp only [Act.put, sa_, sb_, sc_, i64_w, i32_w]
         rfl
        refine take_ (i := 3) (N := some 33) (v := ?_) (a' := ?_) #[true, true, true, true, false, true, true, false, false, false, false, false, false] rfl rfl (take_ofW HT_.out HW_.out (by kernel_rfl)) (fun _ _ _ h => h) (Or.inl ⟨by rfl, ?_⟩) hHeld ?_ ?_
        rotate_left
        ·
         rintro w' ⟨s0, s1⟩
         go_simp
         first | with_reducible rfl | (rw [if_neg (by omega)]; done)
        rotate_left
        ·
         simp only [Act.put, sa_, sb_, sc_, i64_w, i32_w]
         rfl
        refine take_ (i := 7) (N := some 37) (v := ?_) (a' := ?_) #[true, true, true, true, false, true, true, true, false, false, false, false, false] rfl rfl (take_ofW HT_.out HW_.out (by kernel_rfl)) (fun _ _ _ h => h) (Or.inl ⟨by rfl, ?_⟩) hHeld ?_ ?_
        rotate_left
        ·
         rintro w' ⟨s0, s1⟩
         go_simp
         first | with_reducible rfl | (rw [if_neg (by omega)]; done)
        rotate_left
        ·
         simp only [Act.put, sa_, sb_, sc_, i64_w, i32_w]
         rfl
        refine one_ (i := 4) (N := some 34) #[true, true, true, true, true, true, true, true, false, false, false, false, false] rfl rfl (one_of HT_.out (by kernel_rfl)) (by decide) (fun K hK => ?_)
        refine goes_ Tryd.func92 (by kernel_rfl) rfl #[.string (rdOf ByteArray.empty t141 1)] (by rfl) rfl rfl tz_ ?_
        with_reducible refine (spec_l15Signed.calls kj2 (rdOf ByteArray.empty t141 1) t156 _ A20.out).mono ?_
        rintro e w' ⟨rfl, ⟨nd, rfl⟩⟩
        refine ⟨_, rfl, ?_⟩
        refine hK.out _ _ ⟨hHeld.1, hHeld.2⟩ (fun hHeld => ?_)
        clear hK K
        refine norm_ (a' := ?_) ?_ ?_
        rotate_left
        ·
         show Act.put _ (some 34) _ = _
         simp only [Act.put, sa_, sb_, sc_, i64_w, i32_w]
         rfl
        refine one_ (i := 8) (N := some 38) #[true, true, true, true, true, true, true, true, true, false, false, false, false] rfl rfl (one_of HT_.out (by kernel_rfl)) (by decide) (fun K hK => ?_)
        refine goes_ Tryd.func92 (by kernel_rfl) rfl #[.string (rdOf ByteArray.empty t141 2)] (by rfl) rfl rfl tz_ ?_
        with_reducible refine (spec_l15Signed.calls kj2 (rdOf ByteArray.empty t141 2) t158 _ A22.out).mono ?_
        rintro e w' ⟨rfl, ⟨nd, rfl⟩⟩
        refine ⟨_, rfl, ?_⟩
        refine hK.out _ _ ⟨hHeld.1, hHeld.2⟩ (fun hHeld => ?_)
        clear hK K
        refine norm_ (a' := ?_) ?_ ?_
        rotate_left
        ·
         show Act.put _ (some 38) _ = _
         simp only [Act.put, sa_, sb_, sc_, i64_w, i32_w]
         rfl
        refine pure_ (i := 9) (N := some 39) (v := ?_) (a' := ?_) #[true, true, true, true, true, true, true, true, true, true, false, false, false] rfl rfl (any_of HT_.out (by kernel_rfl)) (fun _ _ _ h => h) (Or.inl ⟨by rfl, ?_⟩) ?_ ?_
        rotate_left
        ·
         intro w'
         go_simp
         first | with_reducible rfl | (rw [if_neg (by omega)]; done)
        rotate_left
        ·
         simp only [Act.put, sa_, sb_, sc_, i64_w, i32_w]
         rfl
        refine last_ (i := 10) (N := some 40) #[true, true, true, true, true, true, true, true, true, true, true, false, false] rfl rfl (one_of HT_.out (by kernel_rfl)) (by decide) (fun K hK => ?_)
        refine value_ (w1 := ?_) (v := ?_) (by rfl) rfl ?_ ?_
        rotate_left 2
        ·
         go_simp
         constructor
         ·
          rfl
         ·
          rfl
        refine hK.out _ _ ?_
        clear hK K
        refine norm_ (a' := ?_) ?_ ?_
        rotate_left
        ·
         show Act.put _ (some 40) _ = _
         simp only [Act.put, sa_, sb_, sc_, i64_w, i32_w]
         rfl
        refine last_ (i := 11) (N := some 41) #[true, true, true, true, true, true, true, true, true, true, true, true, false] rfl rfl (one_of HT_.out (by kernel_rfl)) (by decide) (fun K hK => ?_)
        refine Kd.R_append_step k30 (w0 := w) w.heap.size (by rfl) (.tmp 30) (.tmp 40) 44 30 (.agg #[(.int .i64 0), (.int .i64 0), (.int .i64 0)]) 24 rfl Tryd.underlying44 info30 rfl (by decide) (by omega) u5 x5_2 (⟨0, t156, t158⟩ : S30) [.int .i64 0, .int .i64 t156, .int .i64 t158] (fun k_ => k_ ≠ gb140) (fun _ => False) rfl rfl ?aP (fun _ hk => hk.elim) ?aF ?aO ?aB ?aS ?aL ?_
        (case aP => exact k30_mkM _ _ _ (⟨0, t156, t158⟩ : S30))
        (case aB => exact (tb_ HB.out))
        (case aF => exact (fun k_ hk => Kd.freshB (g := gb140) (o := .cells #[.int .i64 0, .int .i64 0, .int .i64 0] 30 (0, 0)) (tk_ BK140.out) k_ hk))
        (case aO => exact (rR_ HO_5.out))
        (case aS => exact (below_size (tb_ HB.out)))
        (case aL => have := LMc23.out; omega)
        intro v160 w25 ho hb hg hat
        rw [← Ny159.out] at ho
        have n0_ := Aside0.mk (Kd.R_over' (rR_ HO_4.out) (Kd.R_typed (rR_ HO_5.out)) (by decide) hg)
        have n1_ := Aside0.mk (blk_grown (g := gb140) (o := .cells #[.int .i64 0, .int .i64 0, .int .i64 0] 30 (0, 0)) (tk_ BK140.out) hg (Kd.R_away HO_5.out (fun _ hk => hk)))
        have n2_ := Aside0.mk (hb)
        have n3_ := Aside0.mk (ho)
        clear HO_4
        clear BK140
        clear HB
        clear HO_5
        have HO_4 := n0_
        have BK140 := n1_
        have HB := n2_
        have HO161 := n3_
        clear n0_ n1_ n2_ n3_
        clear ho hb hg hat
        refine hK.out _ _ ?_
        clear hK K
        refine norm_ (a' := ?_) ?_ ?_
        rotate_left
        ·
         show Act.put _ (some 41) _ = _
         simp only [Act.put, sa_, sb_, sc_, i64_w, i32_w]
         rfl
        refine pure_ (i := 12) (N := some 5) (v := ?_) (a' := ?_) #[true, true, true, true, true, true, true, true, true, true, true, true, true] rfl rfl (any_of HT_.out (by kernel_rfl)) (fun _ _ _ h => h) (Or.inl ⟨by rfl, ?_⟩) ?_ ?_
        rotate_left
        ·
         intro w'
         go_simp
         first | with_reducible rfl | (rw [if_neg (by omega)]; done)
        rotate_left
        ·
         simp only [Act.put, sa_, sb_, sc_, i64_w, i32_w]
         rfl
        refine done_ (done_of HT_.out (by kernel_rfl)) ?_
        try go_wp2
        go_meet
        case rel => exact ⟨_, (y159), H', ⟨by have := HJ2.out; first | omega | exact Nat.le_refl _⟩, ⟨rR_ HO161.out⟩, ⟨tk_ BK140.out⟩, ⟨(tb_ HB.out)⟩⟩
       ·
        rw [if_neg c23] at H
        exact absurd H (by simp)
      ·
       rw [if_neg c21] at H
       exact absurd H (by simp)
     ·
      rw [if_neg c19] at H
      exact absurd H (by simp)
    ·
     rw [if_neg c18] at H
     have c18b0 : ((t141.length : Int) == 3) = false := beq_eq_false_iff_ne.mpr c18
     have c18b1 : ((t141.length : Int) != 3) = true := bne_iff_ne.mpr c18
     (first | rw [c18b0] | (simp only [i64_w, i32_w]; rw [c18b0]) | skip)
     have H' := Aside0.mk H
     clear H
     go_wp2
     go_meet
     case rel => exact ⟨_, (x5_2), H', ⟨by have := HJ2.out; first | omega | exact Nat.le_refl _⟩, ⟨rR_ HO_5.out⟩, ⟨tk_ BK140.out⟩, ⟨(tb_ HB.out)⟩⟩
   case rest =>
    clear HC17
    try clear c1
    try clear p1
    try clear q1
    try clear hx1
    try clear qi1
    try clear c2
    try clear p2
    try clear c3
    try clear c9
    try clear c9b0
    try clear c9b1
    try clear c10
    try clear c10b0
    try clear c10b1
    try clear c12
    try clear p14
    try clear q14
    try clear hx14
    try clear qi14
    try clear p15
    try clear q15
    try clear hx15
    try clear qi15
    try clear c18
    try clear c18b0
    try clear c18b1
    try clear c19
    try clear c19b0
    try clear c19b1
    try clear c21
    try clear c21b0
    try clear c21b1
    try clear c23
    try clear hx147_0
    try clear hx155_0
    try clear hx157_0
    try clear p1
    try clear p14
    try clear p147
    try clear p155
    try clear p157
    try clear p2
    try clear q1
    try clear q14
    try clear q147
    try clear q155
    try clear q157
    obtain ⟨kq, x5_16, HA, HJ16, HO_5, BK140, HB⟩ := hcut
    cases kq with
    | zero => exact absurd HA.out (by simp [spec_ReadDeed.j1])
    | succ kj16 =>
     have H := HA.out
     clear HA
     simp only [spec_ReadDeed.j1] at H
     have H' := Aside0.mk H
     clear H
     go_wp2
     go_loopg [7] kj16 (fun kq v7 w' => ∃ (x7_3 : Int) (x141000_3 : Int) (x141001_3 : Int) (x141002_3 : Int), v7 = .int .i64 x7_3 ∧ Aside0 (spec_ReadDeed.l0 kq a0 x5_16 x7_3 = some (r1, r2, r3, r4)) ∧ Aside0 (kq ≤ kj16) ∧ Aside0 (Kd.R k30 30 w' w.heap.size (fun k_ => k_ ≠ gb140) u5 x5_16) ∧ Aside0 (w'.heap[gb140]? = some (.cells #[.int .i64 x141000_3, .int .i64 x141001_3, .int .i64 x141002_3] 30 (0, 0))) ∧ Aside0 (Below w.heap.size w w'))
     case atStart => exact ⟨(0), (0), (0), (0), tx_, H', ⟨Nat.le_refl _⟩, ⟨rR_ HO_5.out⟩, ⟨tk_ BK140.out⟩, ⟨(tb_ HB.out)⟩⟩
     case round =>
      clear H'
      try clear c1
      try clear p1
      try clear q1
      try clear hx1
      try clear qi1
      try clear c2
      try clear p2
      try clear c3
      try clear c9
      try clear c9b0
      try clear c9b1
      try clear c10
      try clear c10b0
      try clear c10b1
      try clear c12
      try clear p14
      try clear q14
      try clear hx14
      try clear qi14
      try clear p15
      try clear q15
      try clear hx15
      try clear qi15
      try clear c18
      try clear c18b0
      try clear c18b1
      try clear c19
      try clear c19b0
      try clear c19b1
      try clear c21
      try clear c21b0
      try clear c21b1
      try clear c23
      try clear hx147_0
      try clear hx155_0
      try clear hx157_0
      try clear p1
      try clear p14
      try clear p147
      try clear p15
      try clear p155
      try clear p157
      try clear p2
      try clear q1
      try clear q14
      try clear q147
      try clear q15
      try clear q155
      try clear q157
      obtain ⟨x7_3, x141000_3, x141001_3, x141002_3, rfl, HA, HK3, HO_5, BK140, HB⟩ := hrel
      cases gk with
      | zero => exact absurd HA.out (by simp [spec_ReadDeed.l0])
      | succ k3 =>
       have H := HA.out
       clear HA
       simp only [spec_ReadDeed.l0] at H
       by_cases c26 : x7_3 < (x5_16.length : Int)
       ·
        rw [if_pos c26] at H
        have c26b0 : decide (x7_3 < (x5_16.length : Int)) = true := decide_eq_true c26
        clear c26
        by_cases c27 : a0.toList = ([] : List UInt8)
        ·
         rw [if_pos c27] at H
         have c27b0 : (a0.toList == ([] : List UInt8)) = true := beq_iff_eq.mpr c27
         have c27b1 : (a0.toList != ([] : List UInt8)) = false := bne_eq_false_iff_eq.mpr c27
         clear c27
         have H' := Aside0.mk H
         clear H
         obtain ⟨Ao28, co28, eo28⟩ := Kd.R_slice HO_5.out
         subst eo28
         go_wp2
         go_roundg k3
         case measure => have := HJ2.out; have := HJ16.out; have := HK3.out; omega
         case rel => exact ⟨(wrap64 (x7_3 + 1)), (x141000_3), (x141001_3), (x141002_3), tx_, H', ⟨by have := HJ2.out; have := HJ16.out; have := HK3.out; omega⟩, ⟨rR_ HO_5.out⟩, ⟨tk_ BK140.out⟩, ⟨(tb_ HB.out)⟩⟩
        ·
         rw [if_neg c27] at H
         have c27b0 : (a0.toList == ([] : List UInt8)) = false := beq_eq_false_iff_ne.mpr c27
         have c27b1 : (a0.toList != ([] : List UInt8)) = true := bne_iff_ne.mpr c27
         by_cases c29 : 0 ≤ x7_3
         ·
          rw [if_pos c29] at H
          have c29b0 : decide (0 ≤ x7_3) = true := decide_eq_true c29
          clear c29
          replace H := Option.bind_eq_some_iff.mp H
          obtain ⟨t163, A300, H⟩ := H
          replace H : (if t163.toList = a0.toList then (some ((rd_T30 x5_16 x7_3).f0, (rd_T30 x5_16 x7_3).f1, (rd_T30 x5_16 x7_3).f2, true)) else (spec_ReadDeed.l0 k3 a0 x5_16 (wrap64 (x7_3 + 1)))) = some (r1, r2, r3, r4) := H
          have A30 := Aside0.mk A300
          clear A300
          by_cases c31 : t163.toList = a0.toList
          ·
           rw [if_pos c31] at H
           have c31b0 : (t163.toList == a0.toList) = true := beq_iff_eq.mpr c31
           have c31b1 : (t163.toList != a0.toList) = false := bne_eq_false_iff_eq.mpr c31
           clear c31
           simp only [Option.some.injEq, Prod.mk.injEq] at H
           obtain ⟨rfl, rfl, rfl, rfl⟩ := H
           obtain ⟨Ao32, co32, eo32⟩ := Kd.R_slice HO_5.out
           subst eo32
           have p162 : 0 ≤ (x7_3 : Int) := od_
           have q162 : x7_3 < (x5_16.length : Int) := od_
           obtain ⟨ad162, e162, hx162_0, hx162_1, hx162_2⟩ := at_T30 (Kd.R_reads' HO_5.out).2.2 x7_3 p162 q162
           cases e162
           replace p162 := eq_true p162
           replace q162 := eq_true q162
           go_wp2_with (first | (go_at_call 47; (with_reducible refine (spec_DeedText.calls k3 ((rd_T30 x5_16 x7_3).f0) ((rd_T30 x5_16 x7_3).f1) ((rd_T30 x5_16 x7_3).f2) t163 _ A30.out).mono ?_); rintro e w33 ⟨rfl, hb⟩; have n0_ := Aside0.mk (Kd.R_below (rR_ HO_5.out) hb); have n1_ := Aside0.mk (blk_below (g := gb140) (o := .cells #[.int .i64 x141000_3, .int .i64 x141001_3, .int .i64 x141002_3] 30 (0, 0)) (tk_ BK140.out) hb); have n2_ := Aside0.mk (below_step (tb_ HB.out) hb); clear HO_5 BK140 HB; have HO_5 := n0_; have BK140 := n1_; have HB := n2_; clear n0_ n1_ n2_; (try clear hb); (try clear hb2); (try clear hk); (try clear hi); have p164 : 0 ≤ (x7_3 : Int) := od_; have q164 : x7_3 < (x5_16.length : Int) := od_; obtain ⟨ad164, e164, hx164_0, hx164_1, hx164_2⟩ := at_T30 (Kd.R_reads' HO_5.out).2.2 x7_3 p164 q164; obtain rfl : ad162 = ad164 := (by injection e164); replace p164 := eq_true p164; replace q164 := eq_true q164; have hcz34_0 : w33.cell? ⟨gb140, 0, none⟩ = some (.int .i64 x141000_3) := (blk_cell BK140.out 0).trans rfl; have hcz34_1 : w33.cell? ⟨gb140, 1, none⟩ = some (.int .i64 x141001_3) := (blk_cell BK140.out 1).trans rfl; have hcz34_2 : w33.cell? ⟨gb140, 2, none⟩ = some (.int .i64 x141002_3) := (blk_cell BK140.out 2).trans rfl; have hfz34_0 := blk_frozen BK140.out 0; have hfz34_1 := blk_frozen BK140.out 1; have hfz34_2 := blk_frozen BK140.out 2))
           refine bodyPost_ret (results_ct rfl _ _ gb140 30 #[.int .i64 ((rd_T30 x5_16 x7_3).f0), .int .i64 ((rd_T30 x5_16 x7_3).f1), .int .i64 ((rd_T30 x5_16 x7_3).f2)] (0, 0) _ rfl (by refine bq_ ?_; refine blk_put (cs := #[.int .i64 ((rd_T30 x5_16 x7_3).f0), .int .i64 ((rd_T30 x5_16 x7_3).f1), .int .i64 x141002_3]) ?_ 2 _ rfl; refine bq_ ?_; refine blk_put (cs := #[.int .i64 ((rd_T30 x5_16 x7_3).f0), .int .i64 x141001_3, .int .i64 x141002_3]) ?_ 1 _ rfl; refine bq_ ?_; refine blk_put (cs := #[.int .i64 x141000_3, .int .i64 x141001_3, .int .i64 x141002_3]) ?_ 0 _ rfl; exact tk_ BK140.out) Tryd.underlying30 rfl (by kernel_rfl)) rfl ?_
           exact ⟨by first | rfl | (simp [errW_none, errW_some, Option.map_none, Option.map_some] <;> rfl) | (simp [*, errW_none, errW_some] <;> rfl), (tb_ HB.out)⟩
          ·
           rw [if_neg c31] at H
           have c31b0 : (t163.toList == a0.toList) = false := beq_eq_false_iff_ne.mpr c31
           have c31b1 : (t163.toList != a0.toList) = true := bne_iff_ne.mpr c31
           have H' := Aside0.mk H
           clear H
           obtain ⟨Ao35, co35, eo35⟩ := Kd.R_slice HO_5.out
           subst eo35
           have p162 : 0 ≤ (x7_3 : Int) := od_
           have q162 : x7_3 < (x5_16.length : Int) := od_
           obtain ⟨ad162, e162, hx162_0, hx162_1, hx162_2⟩ := at_T30 (Kd.R_reads' HO_5.out).2.2 x7_3 p162 q162
           cases e162
           replace p162 := eq_true p162
           replace q162 := eq_true q162
           go_wp2_with (first | (go_at_call 47; (with_reducible refine (spec_DeedText.calls k3 ((rd_T30 x5_16 x7_3).f0) ((rd_T30 x5_16 x7_3).f1) ((rd_T30 x5_16 x7_3).f2) t163 _ A30.out).mono ?_); rintro e w36 ⟨rfl, hb⟩; have n0_ := Aside0.mk (Kd.R_below (rR_ HO_5.out) hb); have n1_ := Aside0.mk (blk_below (g := gb140) (o := .cells #[.int .i64 x141000_3, .int .i64 x141001_3, .int .i64 x141002_3] 30 (0, 0)) (tk_ BK140.out) hb); have n2_ := Aside0.mk (below_step (tb_ HB.out) hb); clear HO_5 BK140 HB; have HO_5 := n0_; have BK140 := n1_; have HB := n2_; clear n0_ n1_ n2_; (try clear hb); (try clear hb2); (try clear hk); (try clear hi)))
           go_roundg k3
           case measure => have := HJ2.out; have := HJ16.out; have := HK3.out; omega
           case rel => exact ⟨(wrap64 (x7_3 + 1)), (x141000_3), (x141001_3), (x141002_3), tx_, H', ⟨by have := HJ2.out; have := HJ16.out; have := HK3.out; omega⟩, ⟨rR_ HO_5.out⟩, ⟨tk_ BK140.out⟩, ⟨(tb_ HB.out)⟩⟩
         ·
          rw [if_neg c29] at H
          exact absurd H (by simp)
       ·
        rw [if_neg c26] at H
        have c26b0 : decide (x7_3 < (x5_16.length : Int)) = false := decide_eq_false c26
        clear c26
        simp only [Option.some.injEq, Prod.mk.injEq] at H
        obtain ⟨rfl, rfl, rfl, rfl⟩ := H
        obtain ⟨Ao37, co37, eo37⟩ := Kd.R_slice HO_5.out
        subst eo37
        have hcz38_0 : wr.cell? ⟨gb140, 0, none⟩ = some (.int .i64 x141000_3) := (blk_cell BK140.out 0).trans rfl
        have hcz38_1 : wr.cell? ⟨gb140, 1, none⟩ = some (.int .i64 x141001_3) := (blk_cell BK140.out 1).trans rfl
        have hcz38_2 : wr.cell? ⟨gb140, 2, none⟩ = some (.int .i64 x141002_3) := (blk_cell BK140.out 2).trans rfl
        have hfz38_0 := blk_frozen BK140.out 0
        have hfz38_1 := blk_frozen BK140.out 1
        have hfz38_2 := blk_frozen BK140.out 2
        go_wp2
        refine bodyPost_ret (results_ct rfl _ _ gb140 30 #[.int .i64 0, .int .i64 0, .int .i64 0] (0, 0) _ rfl (by refine bq_ ?_; refine blk_put (cs := #[.int .i64 0, .int .i64 0, .int .i64 x141002_3]) ?_ 2 _ rfl; refine bq_ ?_; refine blk_put (cs := #[.int .i64 0, .int .i64 x141001_3, .int .i64 x141002_3]) ?_ 1 _ rfl; refine bq_ ?_; refine blk_put (cs := #[.int .i64 x141000_3, .int .i64 x141001_3, .int .i64 x141002_3]) ?_ 0 _ rfl; exact tk_ BK140.out) Tryd.underlying30 rfl (by kernel_rfl)) rfl ?_
        exact ⟨by first | rfl | (simp [errW_none, errW_some, Option.map_none, Option.map_some] <;> rfl) | (simp [*, errW_none, errW_some] <;> rfl), (tb_ HB.out)⟩

/-! ### strconv_Itoa: function 98 -/
def strconv_Itoa.f (a0 : Int) : Option (ByteArray) := if -9223372036854775808 ≤ a0 ∧ a0 ≤ 9223372036854775807 then some ⟨(Lib.itoa a0).toArray⟩ else none
theorem strconv_Itoa.calls (a0 : Int) (r : ByteArray) (w : World) (hG : GWb w) (h : strconv_Itoa.f a0 = some r) :
  Calls Tryd.prog 98 #[.int .i64 a0] w fun e w' => e = .returned (.string r) ∧ Below w.heap.size w w' := by
 unfold strconv_Itoa.f at h
 split at h
 ·
  rename_i hb
  obtain rfl := Option.some.inj h
  refine (Sh.Tryd.strconv_Itoa a0 hb.1 hb.2 w hG.tab).mono fun e w' ⟨he, k, os, hw⟩ => ⟨he, hw ▸ Lib.below_grow _ w (Nat.le_refl _) k os⟩
 ·
  cases h

end Go.Proofs.YtlhiienanbpdlaaDoor.MFnReadDeed
