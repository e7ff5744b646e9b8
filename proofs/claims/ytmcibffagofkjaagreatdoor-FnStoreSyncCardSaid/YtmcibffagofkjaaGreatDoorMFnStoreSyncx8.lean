/- For the law FnStoreSync: walks of the functions that it reaches: each call returns what the plain function beside it tells. The conditions stand in each statement. -/
import Derived.Test.YtmcibffagofkjaaGreatDoorV
import Derived.Test.YtmcibffagofkjaaGreatDoorMFnStoreSyncx0
import Derived.Test.YtmcibffagofkjaaGreatDoorMFnStoreSyncx3
namespace Go.Proofs.YtmcibffagofkjaaGreatDoor.MFnStoreSync
open Go.RowKit Go.Proofs.YtmcibffagofkjaaGreatDoorW.PrintWords Go.Proofs.YtmcibffagofkjaaGreatDoorW.PrintLast Go.Proofs.YtmcibffagofkjaaGreatDoorW.PrintMore
attribute [local go_sem] max2_int min2_int max_two min_two max_three min_three max_four min_four   -- for this text's walks alone
set_option linter.unusedVariables false
set_option linter.unusedSimpArgs false
set_option maxHeartbeats 8000000
set_option maxRecDepth 100000

/-! ### spec_l1Digits: function 47 -/
mutual
def spec_l1Digits.j0 : Nat → ByteArray → Bool → Option (Int)
 | 0, _, _ => none
 | k + 1, x0, x18 => if x18 = true then (some (-1)) else (spec_l1Digits.l0 k x0 0 0)
def spec_l1Digits.l0 : Nat → ByteArray → Int → Int → Option (Int)
 | 0, _, _, _ => none
 | k + 1, x0, x3, x4 => if x4 < (x0.size : Int) then (if 0 ≤ x4 then (if (bt x0 x4) < 48 then (some (-1)) else (if (bt x0 x4) > 57 then (some (-1)) else (spec_l1Digits.l0 k x0 (wrap64 ((wrap64 (10 * x3)) + (((bt x0 x4) - 48) % 256))) (wrap64 (x4 + 1))))) else (none)) else (some x3)
end
def spec_l1Digits.f (k : Nat) (a0 : ByteArray) : Option (Int) := (spec_l1In.f (a0.size : Int) 1 6).bind fun ah => (if ah = true then (if (a0.size : Int) > 1 then (if 0 < (a0.size : Int) then (spec_l1Digits.j0 k a0 ((bt a0 0) == 48)) else (none)) else (spec_l1Digits.j0 k a0 false)) else (spec_l1Digits.j0 k a0 true))
theorem spec_l1Digits.mono_l : ∀ k, (∀ y0 y1, LeO (spec_l1Digits.j0 k y0 y1) (spec_l1Digits.j0 (k + 1) y0 y1)) ∧ (∀ y0 y1 y2, LeO (spec_l1Digits.l0 k y0 y1 y2) (spec_l1Digits.l0 (k + 1) y0 y1 y2))
 | 0 => ⟨fun _ _ r h => by simp [spec_l1Digits.j0] at h, fun _ _ _ r h => by simp [spec_l1Digits.l0] at h⟩
 | k + 1 => by
  obtain ⟨ih0, ih1⟩ := spec_l1Digits.mono_l k
  refine ⟨?_, ?_⟩
  ·
   intro y0 y1
   unfold spec_l1Digits.j0
   repeat' (with_reducible first | exact ih0 _ _ | exact ih1 _ _ _ | exact mr_ | exact mn_ | refine mi_ ?_ ?_ | refine mb_ ?_ (fun _ => ?_))
  ·
   intro y0 y1 y2
   unfold spec_l1Digits.l0
   repeat' (with_reducible first | exact ih0 _ _ | exact ih1 _ _ _ | exact mr_ | exact mn_ | refine mi_ ?_ ?_ | refine mb_ ?_ (fun _ => ?_))
theorem spec_l1Digits.mono : ∀ a0 k, LeO (spec_l1Digits.f k a0) (spec_l1Digits.f (k + 1) a0) := by
 intro a0 k; obtain ⟨ih0, ih1⟩ := spec_l1Digits.mono_l k; unfold spec_l1Digits.f; repeat' (with_reducible first | exact ih0 _ _ | exact ih1 _ _ _ | exact mr_ | exact mn_ | refine mi_ ?_ ?_ | refine mb_ ?_ (fun _ => ?_))
theorem spec_l1Digits.calls (k : Nat) (a0 : ByteArray) (r : Int) (w : World) (h : spec_l1Digits.f k a0 = some r) :
  Calls Tryz.prog 47 #[.string a0] w fun e w' => e = .returned (.int .i64 r) ∧ Drawn0 w w' := by
 have H : ((spec_l1In.f (a0.size : Int) 1 6).bind fun ah => (if ah = true then (if (a0.size : Int) > 1 then (if 0 < (a0.size : Int) then (spec_l1Digits.j0 k a0 ((bt a0 0) == 48)) else (none)) else (spec_l1Digits.j0 k a0 false)) else (spec_l1Digits.j0 k a0 true))) = some r := h; clear h; have HC2 := A_ H; clear H; go_enter Tryz.func47, Tryz.ntmps47
 go_upto_region 1 with (fail)
 go_cut [18] (fun aC wc => ∃ (kq : Nat) (ad : Bool), aC = .bool ad ∧ Aside0 (spec_l1Digits.j0 kq a0 ad = some r) ∧ Aside0 (kq ≤ k) ∧ Drawn0 w wc)
 case first =>
  have H := HC2.out; clear HC2; obtain ⟨ah, A3, H⟩ := bnd_ H; (try dsimp only at H); by_cases c4 : ah = true
  ·
   subst c4; replace H : (if (a0.size : Int) > 1 then (if 0 < (a0.size : Int) then (spec_l1Digits.j0 k a0 ((bt a0 0) == 48)) else (none)) else (spec_l1Digits.j0 k a0 false)) = some r := by rw [if_pos rfl] at H; exact H
   by_cases c5 : (a0.size : Int) > 1
   ·
    rw [if_pos c5] at H; have ac : decide (1 < (a0.size : Int)) = true := decide_eq_true c5; have am : decide (1 < a0.size) = true := decide_eq_true (by omega); clear c5; (first | rw [ac] | (simp only [i64_w, i32_w]; rw [ac]) | skip); replace H := i0_ H; obtain ⟨c6, H⟩ := H; have ai : decide (0 < (a0.size : Int)) = true := decide_eq_true c6; have aj : decide (0 < a0.size) = true := decide_eq_true (by omega); clear c6; have H' := A_ H; clear H; go_wp2_with (first | ((with_reducible refine gate_callee (f := 27) rfl ?_); refine gl_ (some 7) Tryz.func27 #[.int .i64 (a0.size : Int), .int .i64 1, .int .i64 6] ?_; (with_reducible refine (spec_l1In.calls (a0.size : Int) 1 6 true _ A3.out).mono ?_); rintro e w' ⟨rfl, ⟨nd, rfl⟩⟩; refine ⟨_, rfl, ?_⟩; have p7 : 0 ≤ (0 : Int) := (by omega); have q7 : 0 < a0.size := (by have : (0 : Int) < (a0.size : Int) := od_; omega); have hx7 : ∀ h : 0 < a0.size, ((a0[0]'h).toNat : Int) = bt a0 0 := bt_at a0 0; clear p7; have az : (0 < (a0.size : Int)) = True := eq_true (od_); replace q7 := eq_true q7)); go_meet
    case rel => exact ⟨_, (((bt a0 0) == 48)), tx_, H', ⟨by first | omega | exact Nat.le_refl _⟩, dz_⟩
   ·
    rw [if_neg c5] at H; have ac : decide (1 < (a0.size : Int)) = false := decide_eq_false c5; have am : decide (1 < a0.size) = false := decide_eq_false (by omega); clear c5; (first | rw [ac] | (simp only [i64_w, i32_w]; rw [ac]) | skip); have H' := A_ H; clear H; go_wp2_with (first | ((with_reducible refine gate_callee (f := 27) rfl ?_); refine gl_ (some 7) Tryz.func27 #[.int .i64 (a0.size : Int), .int .i64 1, .int .i64 6] ?_; (with_reducible refine (spec_l1In.calls (a0.size : Int) 1 6 true _ A3.out).mono ?_); rintro e w' ⟨rfl, ⟨nd, rfl⟩⟩; refine ⟨_, rfl, ?_⟩)); go_meet
    case rel => exact ⟨_, (false), tx_, H', ⟨by first | omega | exact Nat.le_refl _⟩, dz_⟩
  ·
   replace c4 := Bool.eq_false_iff.mpr c4; subst c4; replace H : (spec_l1Digits.j0 k a0 true) = some r := by rw [if_neg (show ¬ (false = true) by decide)] at H; exact H
   have H' := A_ H; clear H; go_wp2_with (first | ((with_reducible refine gate_callee (f := 27) rfl ?_); refine gl_ (some 7) Tryz.func27 #[.int .i64 (a0.size : Int), .int .i64 1, .int .i64 6] ?_; (with_reducible refine (spec_l1In.calls (a0.size : Int) 1 6 false _ A3.out).mono ?_); rintro e w' ⟨rfl, ⟨nd, rfl⟩⟩; refine ⟨_, rfl, ?_⟩)); go_meet
   case rel => exact ⟨_, (true), tx_, H', ⟨by first | omega | exact Nat.le_refl _⟩, dz_⟩
 case rest =>
  clear HC2; obtain ⟨kq, ad, rfl, HA, HJ1, ⟨mc1, rfl⟩⟩ := hcut
  cases kq with
  | zero => exact absurd HA.out (by simp [spec_l1Digits.j0])
  | succ kj1 =>
   have H := HA.out; clear HA; simp only [spec_l1Digits.j0] at H; by_cases c8 : ad = true
   ·
    subst c8; replace H : (some (-1)) = some r := by rw [if_pos rfl] at H; exact H
    obtain rfl := Option.some.inj H; go_wp2; go_ret; exact ⟨tx_, dz_⟩
   ·
    replace c8 := Bool.eq_false_iff.mpr c8; subst c8; replace H : (spec_l1Digits.l0 kj1 a0 0 0) = some r := by rw [if_neg (show ¬ (false = true) by decide)] at H; exact H
    have H' := A_ H; clear H; go_wp2
    go_loopg [3, 4] kj1 (fun kq v3 v4 w' => ∃ (al : Int) (aa : Int), v3 = .int .i64 al ∧ v4 = .int .i64 aa ∧ Aside0 (spec_l1Digits.l0 kq a0 al aa = some r) ∧ Aside0 (kq ≤ kj1) ∧ Drawn0 w w')
    case atStart => exact ⟨(0), (0), tx_, tx_, H', ⟨Nat.le_refl _⟩, dz_⟩
    case round =>
     clear H'; (try clear c8); obtain ⟨al, aa, rfl, rfl, HA, HK2, ⟨m2, rfl⟩⟩ := hrel
     cases gk with
     | zero => exact absurd HA.out (by simp [spec_l1Digits.l0])
     | succ k2 =>
      have H := HA.out; clear HA; simp only [spec_l1Digits.l0] at H; replace H := it_ H; rcases H with ⟨au, H⟩ | ⟨au, H⟩
      ·
       replace H := in_ H; obtain ⟨an, H⟩ := H; replace H := it_ H; rcases H with ⟨ao, H⟩ | ⟨ao, H⟩
       ·
        obtain rfl := Option.some.inj H; have p11 : 0 ≤ (aa : Int) := od_; have q11 : aa < (a0.size : Int) := od_; have hx11 := bt_at a0 aa; replace p11 := eq_true p11; replace q11 := eq_true q11; go_wp2; go_ret; exact ⟨tx_, dz_⟩
       ·
        replace H := ig_ H; rcases H with ⟨ap, H⟩ | ⟨ap, H⟩
        ·
         obtain rfl := Option.some.inj H; have p11 : 0 ≤ (aa : Int) := od_; have q11 : aa < (a0.size : Int) := od_; have hx11 := bt_at a0 aa; replace p11 := eq_true p11; replace q11 := eq_true q11; have p13 : 0 ≤ (aa : Int) := od_; have q13 : aa < (a0.size : Int) := od_; have hx13 := bt_at a0 aa; replace p13 := eq_true p13; replace q13 := eq_true q13; go_wp2; go_ret; exact ⟨tx_, dz_⟩
        ·
         have H' := A_ H; clear H; have p11 : 0 ≤ (aa : Int) := od_; have q11 : aa < (a0.size : Int) := od_; have hx11 := bt_at a0 aa; replace p11 := eq_true p11; replace q11 := eq_true q11; have p13 : 0 ≤ (aa : Int) := od_; have q13 : aa < (a0.size : Int) := od_; have hx13 := bt_at a0 aa; replace p13 := eq_true p13; replace q13 := eq_true q13; have p15 : 0 ≤ (aa : Int) := od_; have q15 : aa < (a0.size : Int) := od_; have hx15 := bt_at a0 aa; replace p15 := eq_true p15; replace q15 := eq_true q15; go_wp2
         go_roundg k2
         case measure => have := HJ1.out; have := HK2.out; omega
         case rel => exact ⟨(wrap64 ((wrap64 (10 * al)) + (((bt a0 aa) - 48) % 256))), (wrap64 (aa + 1)), tx_, tx_, H', ⟨by have := HJ1.out; have := HK2.out; omega⟩, dz_⟩
      ·
       obtain rfl := Option.some.inj H; go_wp2; go_ret; exact ⟨tx_, dz_⟩

/-! ### spec_l15Signed: function 46 -/
def spec_l15Signed.j0 : Nat → ByteArray → Bool → Option (Int)
 | 0, _, _ => none
 | k + 1, x0, x17 => if x17 = true then (if 1 ≤ (x0.size : Int) then ((spec_l1Digits.f k (x0.extract 1 x0.size)).bind fun ak => (some (wrap64 (-ak)))) else (none)) else ((spec_l1Digits.f k x0).bind fun ab => (if ab < 0 then (some (-100)) else (some ab)))
def spec_l15Signed.f (k : Nat) (a0 : ByteArray) : Option (Int) := if (a0.size : Int) > 1 then (if 0 < (a0.size : Int) then (if (bt a0 0) = 45 then (if 1 ≤ (a0.size : Int) then ((spec_l1Digits.f k (a0.extract 1 a0.size)).bind fun af => (spec_l15Signed.j0 k a0 (decide (af > 0)))) else (none)) else (spec_l15Signed.j0 k a0 false)) else (none)) else (spec_l15Signed.j0 k a0 false)
theorem spec_l15Signed.mono_l : ∀ k, (∀ y0 y1, LeO (spec_l15Signed.j0 k y0 y1) (spec_l15Signed.j0 (k + 1) y0 y1))
 | 0 => fun _ _ r h => by simp [spec_l15Signed.j0] at h
 | k + 1 => by
  have ih0 := spec_l15Signed.mono_l k
  ·
   intro y0 y1
   unfold spec_l15Signed.j0
   repeat' (with_reducible first | exact ih0 _ _ | exact spec_l1Digits.mono _ _ | exact mr_ | exact mn_ | refine mi_ ?_ ?_ | refine mb_ ?_ (fun _ => ?_))
theorem spec_l15Signed.mono : ∀ a0 k, LeO (spec_l15Signed.f k a0) (spec_l15Signed.f (k + 1) a0) := by
 intro a0 k; have ih0 := spec_l15Signed.mono_l k; unfold spec_l15Signed.f; repeat' (with_reducible first | exact ih0 _ _ | exact spec_l1Digits.mono _ _ | exact mr_ | exact mn_ | refine mi_ ?_ ?_ | refine mb_ ?_ (fun _ => ?_))
theorem spec_l15Signed.calls (k : Nat) (a0 : ByteArray) (r : Int) (w : World) (h : spec_l15Signed.f k a0 = some r) :
  Calls Tryz.prog 46 #[.string a0] w fun e w' => e = .returned (.int .i64 r) ∧ Drawn0 w w' := by
 have H : (if (a0.size : Int) > 1 then (if 0 < (a0.size : Int) then (if (bt a0 0) = 45 then (if 1 ≤ (a0.size : Int) then ((spec_l1Digits.f k (a0.extract 1 a0.size)).bind fun af => (spec_l15Signed.j0 k a0 (decide (af > 0)))) else (none)) else (spec_l15Signed.j0 k a0 false)) else (none)) else (spec_l15Signed.j0 k a0 false)) = some r := h; clear h; have HC2 := A_ H; clear H; go_enter Tryz.func46, Tryz.ntmps46
 go_upto_region 1 with (fail)
 go_cut [17] (fun aD wc => ∃ (kq : Nat) (ae : Bool), aD = .bool ae ∧ Aside0 (spec_l15Signed.j0 kq a0 ae = some r) ∧ Aside0 (kq ≤ k) ∧ Drawn0 w wc)
 case first =>
  have H := HC2.out; clear HC2; by_cases c3 : (a0.size : Int) > 1
  ·
   rw [if_pos c3] at H; have ag : decide (1 < (a0.size : Int)) = true := decide_eq_true c3; have aq : decide (1 < a0.size) = true := decide_eq_true (by omega); clear c3; (first | rw [ag] | (simp only [i64_w, i32_w]; rw [ag]) | skip); replace H := i0_ H; obtain ⟨c4, H⟩ := H; have av : decide (0 < (a0.size : Int)) = true := decide_eq_true c4; have aw : decide (0 < a0.size) = true := decide_eq_true (by omega); clear c4; by_cases c6 : (bt a0 0) = 45
   ·
    rw [if_pos c6] at H; have ai : ((bt a0 0) == 45) = true := beq_iff_eq.mpr c6; have aj : ((bt a0 0) != 45) = false := bne_eq_false_iff_eq.mpr c6; clear c6; replace H := i0_ H; obtain ⟨c7, H⟩ := H; have ax := eq_true c7; have ay : decide (1 ≤ (a0.size : Int)) = true := decide_eq_true c7; clear c7; obtain ⟨af, A8, H⟩ := bnd_ H; (try dsimp only at H); have H' := A_ H; clear H; have p5 : 0 ≤ (0 : Int) := (by omega)
    have q5 : 0 < a0.size := (by have : (0 : Int) < (a0.size : Int) := od_; omega)
    have hx5 : ∀ h : 0 < a0.size, ((a0[0]'h).toNat : Int) = bt a0 0 := bt_at a0 0; clear p5; have aA : (0 < (a0.size : Int)) = True := eq_true (od_); replace q5 := eq_true q5; go_wp2_with (first | (go_at_call 47; (with_reducible refine (spec_l1Digits.calls k (a0.extract 1 a0.size) af _ A8.out).mono ?_); rintro e w' ⟨rfl, ⟨nd, rfl⟩⟩)); go_meet
    case rel => exact ⟨_, (decide (af > 0)), tx_, H', ⟨by first | omega | exact Nat.le_refl _⟩, dz_⟩
   ·
    rw [if_neg c6] at H; have ai : ((bt a0 0) == 45) = false := beq_eq_false_iff_ne.mpr c6; have aj : ((bt a0 0) != 45) = true := bne_iff_ne.mpr c6; have H' := A_ H; clear H; have p5 : 0 ≤ (0 : Int) := (by omega)
    have q5 : 0 < a0.size := (by have : (0 : Int) < (a0.size : Int) := od_; omega)
    have hx5 : ∀ h : 0 < a0.size, ((a0[0]'h).toNat : Int) = bt a0 0 := bt_at a0 0; clear p5; have aA : (0 < (a0.size : Int)) = True := eq_true (od_); replace q5 := eq_true q5; go_wp2; go_meet
    case rel => exact ⟨_, (false), tx_, H', ⟨by first | omega | exact Nat.le_refl _⟩, dz_⟩
  ·
   rw [if_neg c3] at H; have ag : decide (1 < (a0.size : Int)) = false := decide_eq_false c3; have aq : decide (1 < a0.size) = false := decide_eq_false (by omega); clear c3; (first | rw [ag] | (simp only [i64_w, i32_w]; rw [ag]) | skip); have H' := A_ H; clear H; go_wp2; go_meet
   case rel => exact ⟨_, (false), tx_, H', ⟨by first | omega | exact Nat.le_refl _⟩, dz_⟩
 case rest =>
  clear HC2; obtain ⟨kq, ae, rfl, HA, HJ1, ⟨mc1, rfl⟩⟩ := hcut
  cases kq with
  | zero => exact absurd HA.out (by simp [spec_l15Signed.j0])
  | succ kj1 =>
   have H := HA.out; clear HA; simp only [spec_l15Signed.j0] at H; by_cases c9 : ae = true
   ·
    subst c9; replace H : (if 1 ≤ (a0.size : Int) then ((spec_l1Digits.f kj1 (a0.extract 1 a0.size)).bind fun ak => (some (wrap64 (-ak)))) else (none)) = some r := by rw [if_pos rfl] at H; exact H
    replace H := i0_ H; obtain ⟨c10, H⟩ := H; have an := eq_true c10; have aB : decide (1 ≤ (a0.size : Int)) = true := decide_eq_true c10; clear c10; obtain ⟨ak, A11, H⟩ := bnd_ H; (try dsimp only at H); obtain rfl := Option.some.inj H; go_wp2_with (first | ((with_reducible refine gate_callee (f := 47) rfl ?_); refine gl_ (some 20) Tryz.func47 #[.string (a0.extract 1 a0.size)] ?_; (with_reducible refine (spec_l1Digits.calls kj1 (a0.extract 1 a0.size) ak _ A11.out).mono ?_); rintro e w' ⟨rfl, ⟨nd, rfl⟩⟩; refine ⟨_, rfl, ?_⟩)); go_ret; exact ⟨tx_, dz_⟩
   ·
    replace c9 := Bool.eq_false_iff.mpr c9; subst c9; replace H : ((spec_l1Digits.f kj1 a0).bind fun ab => (if ab < 0 then (some (-100)) else (some ab))) = some r := by rw [if_neg (show ¬ (false = true) by decide)] at H; exact H
    obtain ⟨ab, A12, H⟩ := bnd_ H; (try dsimp only at H); replace H := it_ H; rcases H with ⟨ar, H⟩ | ⟨ar, H⟩
    ·
     obtain rfl := Option.some.inj H; go_wp2_with (first | ((with_reducible refine gate_callee (f := 47) rfl ?_); refine gl_ (some 23) Tryz.func47 #[.string a0] ?_; (with_reducible refine (spec_l1Digits.calls kj1 a0 ab _ A12.out).mono ?_); rintro e w' ⟨rfl, ⟨nd, rfl⟩⟩; refine ⟨_, rfl, ?_⟩)); go_ret; exact ⟨tx_, dz_⟩
    ·
     obtain rfl := Option.some.inj H; go_wp2_with (first | ((with_reducible refine gate_callee (f := 47) rfl ?_); refine gl_ (some 23) Tryz.func47 #[.string a0] ?_; (with_reducible refine (spec_l1Digits.calls kj1 a0 ab _ A12.out).mono ?_); rintro e w' ⟨rfl, ⟨nd, rfl⟩⟩; refine ⟨_, rfl, ?_⟩)); go_ret; exact ⟨tx_, dz_⟩

end Go.Proofs.YtmcibffagofkjaaGreatDoor.MFnStoreSync
