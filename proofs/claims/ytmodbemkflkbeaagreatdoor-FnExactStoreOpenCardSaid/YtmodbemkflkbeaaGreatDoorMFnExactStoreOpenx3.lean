/- For the law FnExactStoreOpen: walks of the functions that it reaches: each call returns what the plain function beside it tells. The conditions stand in each statement. -/
import Derived.Test.YtmodbemkflkbeaaGreatDoorV
import Derived.Test.YtmodbemkflkbeaaGreatDoorMFnExactStoreOpenx0
import Derived.Test.YtmodbemkflkbeaaGreatDoorMFnExactStoreOpenx2
namespace Go.Proofs.YtmodbemkflkbeaaGreatDoor.MFnExactStoreOpen
open Go.RowKit Go.Proofs.YtmodbemkflkbeaaGreatDoorW.PrintWords Go.Proofs.YtmodbemkflkbeaaGreatDoorW.PrintLast Go.Proofs.YtmodbemkflkbeaaGreatDoorW.PrintMore
attribute [local go_sem] max2_int min2_int max_two min_two max_three min_three max_four min_four   -- for this text's walks alone
set_option linter.unusedVariables false
set_option linter.unusedSimpArgs false
set_option maxHeartbeats 8000000
set_option maxRecDepth 100000

/-! ### spec_RuleOk: function 70 -/
mutual
def spec_RuleOk.l0 : Nat → Int → List (List Int) → Int → Option (Bool)
 | 0, _, _, _ => none
 | k + 1, x0, x1, x5 => if x5 < (x1.length : Int) then (if 0 ≤ x5 then (if ((rd_L2 x1 x5).length : Int) = x0 then (spec_RuleOk.l1 k x0 x1 x5 0) else (some false)) else (none)) else ((spec_l1In.f x0 1 3).bind fun aK => (if aK = true then (some ((x1.length : Int) == x0)) else (some false)))
def spec_RuleOk.l1 : Nat → Int → List (List Int) → Int → Int → Option (Bool)
 | 0, _, _, _, _ => none
 | k + 1, x0, x1, x5, x6 => if x6 < x0 then (if 0 ≤ x5 then (if x5 < (x1.length : Int) then (if 0 ≤ x6 then (if x6 < ((rd_L2 x1 x5).length : Int) then ((spec_l1In.f (rd (rd_L2 x1 x5) x6) 0 3).bind fun aL => (if aL = true then (spec_RuleOk.l1 k x0 x1 x5 (wrap64 (x6 + 1))) else (if (rd (rd_L2 x1 x5) x6) = (-1) then (if x6 = x5 then (spec_RuleOk.l1 k x0 x1 x5 (wrap64 (x6 + 1))) else (some false)) else (some false)))) else (none)) else (none)) else (none)) else (none)) else (spec_RuleOk.l0 k x0 x1 (wrap64 (x5 + 1)))
end
def spec_RuleOk.f (k : Nat) (a0 : Int) (l1 : List (List Int)) : Option (Bool) := spec_RuleOk.l0 k a0 l1 0
theorem spec_RuleOk.mono_l : ∀ k, (∀ y0 y1 y2, LeO (spec_RuleOk.l0 k y0 y1 y2) (spec_RuleOk.l0 (k + 1) y0 y1 y2)) ∧ (∀ y0 y1 y2 y3, LeO (spec_RuleOk.l1 k y0 y1 y2 y3) (spec_RuleOk.l1 (k + 1) y0 y1 y2 y3))
 | 0 => ⟨fun _ _ _ r h => by simp [spec_RuleOk.l0] at h, fun _ _ _ _ r h => by simp [spec_RuleOk.l1] at h⟩
 | k + 1 => by
  obtain ⟨ih0, ih1⟩ := spec_RuleOk.mono_l k
  refine ⟨?_, ?_⟩
  ·
   intro y0 y1 y2
   unfold spec_RuleOk.l0
   repeat' (with_reducible first | exact ih0 _ _ _ | exact ih1 _ _ _ _ | exact mr_ | exact mn_ | refine mi_ ?_ ?_ | refine mb_ ?_ (fun _ => ?_))
  ·
   intro y0 y1 y2 y3
   unfold spec_RuleOk.l1
   repeat' (with_reducible first | exact ih0 _ _ _ | exact ih1 _ _ _ _ | exact mr_ | exact mn_ | refine mi_ ?_ ?_ | refine mb_ ?_ (fun _ => ?_))
theorem spec_RuleOk.mono : ∀ a0 a1 k, LeO (spec_RuleOk.f k a0 a1) (spec_RuleOk.f (k + 1) a0 a1) := by
 intro a0 a1 k; obtain ⟨ih0, ih1⟩ := spec_RuleOk.mono_l k; unfold spec_RuleOk.f; repeat' (with_reducible first | exact ih0 _ _ _ | exact ih1 _ _ _ _ | exact mr_ | exact mn_ | refine mi_ ?_ ?_ | refine mb_ ?_ (fun _ => ?_))
theorem spec_RuleOk.calls (k : Nat) (a0 : Int) (A1 : Option Addr) (c1 : Nat) (l1 : List (List Int)) (r : Bool) (w : World) (hr1 : Kd.C (Kd.slice 3 (Kd.int .i64)) w A1 l1.length l1) (hc1 : l1.length ≤ c1) (h : spec_RuleOk.f k a0 l1 = some r) :
  Calls Tryz.prog 70 #[.int .i64 a0, .slice A1 l1.length c1] w fun e w' => e = .returned (.bool r) ∧ Drawn0 w w' := by
 have HR1 := A_ hr1; have HC1 := A_ hc1; clear hr1 hc1; have H : (spec_RuleOk.l0 k a0 l1 0) = some r := h; clear h; have H' := A_ H; clear H; go_enter Tryz.func70, Tryz.ntmps70; go_wp2
 go_loopg [5] k (fun kq v5 w' => ∃ (aa : Int), v5 = .int .i64 aa ∧ Aside0 (spec_RuleOk.l0 kq a0 l1 aa = some r) ∧ Aside0 (kq ≤ k) ∧ Drawn0 w w')
 case atStart => exact ⟨(0), tx_, H', ⟨Nat.le_refl _⟩, dz_⟩
 case round =>
  clear H'; obtain ⟨aa, rfl, HA, HK1, ⟨m1, rfl⟩⟩ := hrel
  cases gk with
  | zero => exact absurd HA.out (by simp [spec_RuleOk.l0])
  | succ k1 =>
   have H := HA.out; clear HA; simp only [spec_RuleOk.l0] at H; replace H := it_ H; rcases H with ⟨aE, H⟩ | ⟨aE, H⟩
   ·
    replace H := in_ H; obtain ⟨aX, H⟩ := H; by_cases c5 : ((rd_L2 l1 aa).length : Int) = a0
    ·
     rw [if_pos c5] at H; have av : (((rd_L2 l1 aa).length : Int) == a0) = true := beq_iff_eq.mpr c5; have aY : (((rd_L2 l1 aa).length : Int) != a0) = false := bne_eq_false_iff_eq.mpr c5; clear c5; have H' := A_ H; clear H; obtain ⟨p121, q121, ad121, aM, aN, e121, ao, hl121_0, hi121_0⟩ := a2_ (at_L2 HR1.out aa); cases e121; have aF := A_ hi121_0; have aG := A_ hl121_0; clear hi121_0 hl121_0; go_wp2
     go_loopg [6] k1 (fun kq v6 w' => ∃ (ab : Int), v6 = .int .i64 ab ∧ Aside0 (spec_RuleOk.l1 kq a0 l1 aa ab = some r) ∧ Aside0 (kq ≤ k1) ∧ Drawn0 w w')
     case atStart => exact ⟨(0), tx_, H', ⟨Nat.le_refl _⟩, dz_⟩
     case round =>
      clear H'; (try clear c3); (try clear aE); (try clear c4); (try clear aX); (try clear c5); (try clear av); (try clear aY); (try clear ao); (try clear p121); (try clear q121); obtain ⟨ab, rfl, HA, HK2, ⟨m2, rfl⟩⟩ := hrel
      cases gk with
      | zero => exact absurd HA.out (by simp [spec_RuleOk.l1])
      | succ k2 =>
       have H := HA.out; clear HA; simp only [spec_RuleOk.l1] at H; replace H := it_ H; rcases H with ⟨aH, H⟩ | ⟨aH, H⟩
       ·
        replace H := in_ H; obtain ⟨bc, H⟩ := H; replace H := in_ H; obtain ⟨aO, H⟩ := H; replace H := in_ H; obtain ⟨aZ, H⟩ := H; replace H := in_ H; obtain ⟨a3, H⟩ := H; obtain ⟨aL, A11, H⟩ := bnd_ H; (try dsimp only at H); by_cases c12 : aL = true
        ·
         subst c12; replace H : (spec_RuleOk.l1 k2 a0 l1 aa (wrap64 (ab + 1))) = some r := by rw [if_pos rfl] at H; exact H
         have H' := A_ H; clear H; have p122 : 0 ≤ (aa : Int) := od_; have q122 : aa < (l1.length : Int) := od_; obtain ⟨ad122, am, an, e122, af, hl122_0, hi122_0⟩ := at_L2 HR1.out aa p122 q122; obtain rfl : ad121 = ad122 := (by injection e122)
         have ad := A_ hi122_0; have aj := A_ hl122_0; clear hi122_0 hl122_0; replace p122 := eq_true p122; replace q122 := eq_true q122; obtain ⟨p123, q123, ad123, e123, ak⟩ := a2_ (Kd.at_int ad.out ab); cases e123; go_wp2_with (first | ((with_reducible refine gate_callee (f := 23) rfl ?_); refine gl_ (some 32) Tryz.func23 #[.int .i64 (rd (rd_L2 l1 aa) ab), .int .i64 0, .int .i64 3] ?_; (with_reducible refine (spec_l1In.calls (rd (rd_L2 l1 aa) ab) 0 3 true _ A11.out).mono ?_); rintro e w' ⟨rfl, ⟨nd, rfl⟩⟩; refine ⟨_, rfl, ?_⟩))
         go_roundg k2
         case measure => have := HK1.out; have := HK2.out; omega
         case rel => exact ⟨(wrap64 (ab + 1)), tx_, H', ⟨by have := HK1.out; have := HK2.out; omega⟩, dz_⟩
        ·
         replace c12 := Bool.eq_false_iff.mpr c12; subst c12; replace H : (if (rd (rd_L2 l1 aa) ab) = (-1) then (if ab = aa then (spec_RuleOk.l1 k2 a0 l1 aa (wrap64 (ab + 1))) else (some false)) else (some false)) = some r := by rw [if_neg (show ¬ (false = true) by decide)] at H; exact H
         by_cases c13 : (rd (rd_L2 l1 aa) ab) = (-1)
         ·
          rw [if_pos c13] at H; have a4 : ((rd (rd_L2 l1 aa) ab) == (-1)) = true := beq_iff_eq.mpr c13; have a5 : ((rd (rd_L2 l1 aa) ab) != (-1)) = false := bne_eq_false_iff_eq.mpr c13; clear c13; by_cases c14 : ab = aa
          ·
           rw [if_pos c14] at H; have a6 : (ab == aa) = true := beq_iff_eq.mpr c14; have a7 : (ab != aa) = false := bne_eq_false_iff_eq.mpr c14; clear c14; have H' := A_ H; clear H; have p122 : 0 ≤ (aa : Int) := od_; have q122 : aa < (l1.length : Int) := od_; obtain ⟨ad122, am, an, e122, af, hl122_0, hi122_0⟩ := at_L2 HR1.out aa p122 q122; obtain rfl : ad121 = ad122 := (by injection e122)
           have ad := A_ hi122_0; have aj := A_ hl122_0; clear hi122_0 hl122_0; replace p122 := eq_true p122; replace q122 := eq_true q122; obtain ⟨p123, q123, ad123, e123, ak⟩ := a2_ (Kd.at_int ad.out ab); cases e123; go_wp2_with (first | ((with_reducible refine gate_callee (f := 23) rfl ?_); refine gl_ (some 32) Tryz.func23 #[.int .i64 (rd (rd_L2 l1 aa) ab), .int .i64 0, .int .i64 3] ?_; (with_reducible refine (spec_l1In.calls (rd (rd_L2 l1 aa) ab) 0 3 false _ A11.out).mono ?_); rintro e w' ⟨rfl, ⟨nd, rfl⟩⟩; refine ⟨_, rfl, ?_⟩; have p125 : 0 ≤ (aa : Int) := od_; have q125 : aa < (l1.length : Int) := od_; obtain ⟨ad125, ay, az, e125, ag, hl125_0, hi125_0⟩ := at_L2 HR1.out aa p125 q125; obtain rfl : ad121 = ad125 := (by injection e125); have ah := A_ hi125_0; have ap := A_ hl125_0; clear hi125_0 hl125_0; replace p125 := eq_true p125; replace q125 := eq_true q125; have ea_ := Option.some.inj (af.symm.trans ag); injection ea_ with ea_ en_ ec_; subst ea_; subst ec_; clear en_; obtain ⟨p126, q126, ad126, e126, aq⟩ := a2_ (Kd.at_int ah.out ab); cases e126))
           go_roundg k2
           case measure => have := HK1.out; have := HK2.out; omega
           case rel => exact ⟨(wrap64 (ab + 1)), tx_, H', ⟨by have := HK1.out; have := HK2.out; omega⟩, dz_⟩
          ·
           rw [if_neg c14] at H; have a6 : (ab == aa) = false := beq_eq_false_iff_ne.mpr c14; have a7 : (ab != aa) = true := bne_iff_ne.mpr c14; obtain rfl := Option.some.inj H; have p122 : 0 ≤ (aa : Int) := od_; have q122 : aa < (l1.length : Int) := od_; obtain ⟨ad122, am, an, e122, af, hl122_0, hi122_0⟩ := at_L2 HR1.out aa p122 q122; obtain rfl : ad121 = ad122 := (by injection e122)
           have ad := A_ hi122_0; have aj := A_ hl122_0; clear hi122_0 hl122_0; replace p122 := eq_true p122; replace q122 := eq_true q122; obtain ⟨p123, q123, ad123, e123, ak⟩ := a2_ (Kd.at_int ad.out ab); cases e123; go_wp2_with (first | ((with_reducible refine gate_callee (f := 23) rfl ?_); refine gl_ (some 32) Tryz.func23 #[.int .i64 (rd (rd_L2 l1 aa) ab), .int .i64 0, .int .i64 3] ?_; (with_reducible refine (spec_l1In.calls (rd (rd_L2 l1 aa) ab) 0 3 false _ A11.out).mono ?_); rintro e w' ⟨rfl, ⟨nd, rfl⟩⟩; refine ⟨_, rfl, ?_⟩; have p125 : 0 ≤ (aa : Int) := od_; have q125 : aa < (l1.length : Int) := od_; obtain ⟨ad125, ay, az, e125, ag, hl125_0, hi125_0⟩ := at_L2 HR1.out aa p125 q125; obtain rfl : ad121 = ad125 := (by injection e125); have ah := A_ hi125_0; have ap := A_ hl125_0; clear hi125_0 hl125_0; replace p125 := eq_true p125; replace q125 := eq_true q125; have ea_ := Option.some.inj (af.symm.trans ag); injection ea_ with ea_ en_ ec_; subst ea_; subst ec_; clear en_; obtain ⟨p126, q126, ad126, e126, aq⟩ := a2_ (Kd.at_int ah.out ab); cases e126)); go_ret; exact ⟨tx_, dz_⟩
         ·
          rw [if_neg c13] at H; have a4 : ((rd (rd_L2 l1 aa) ab) == (-1)) = false := beq_eq_false_iff_ne.mpr c13; have a5 : ((rd (rd_L2 l1 aa) ab) != (-1)) = true := bne_iff_ne.mpr c13; obtain rfl := Option.some.inj H; have p122 : 0 ≤ (aa : Int) := od_; have q122 : aa < (l1.length : Int) := od_; obtain ⟨ad122, am, an, e122, af, hl122_0, hi122_0⟩ := at_L2 HR1.out aa p122 q122; obtain rfl : ad121 = ad122 := (by injection e122)
          have ad := A_ hi122_0; have aj := A_ hl122_0; clear hi122_0 hl122_0; replace p122 := eq_true p122; replace q122 := eq_true q122; obtain ⟨p123, q123, ad123, e123, ak⟩ := a2_ (Kd.at_int ad.out ab); cases e123; go_wp2_with (first | ((with_reducible refine gate_callee (f := 23) rfl ?_); refine gl_ (some 32) Tryz.func23 #[.int .i64 (rd (rd_L2 l1 aa) ab), .int .i64 0, .int .i64 3] ?_; (with_reducible refine (spec_l1In.calls (rd (rd_L2 l1 aa) ab) 0 3 false _ A11.out).mono ?_); rintro e w' ⟨rfl, ⟨nd, rfl⟩⟩; refine ⟨_, rfl, ?_⟩; have p125 : 0 ≤ (aa : Int) := od_; have q125 : aa < (l1.length : Int) := od_; obtain ⟨ad125, ay, az, e125, ag, hl125_0, hi125_0⟩ := at_L2 HR1.out aa p125 q125; obtain rfl : ad121 = ad125 := (by injection e125); have ah := A_ hi125_0; have ap := A_ hl125_0; clear hi125_0 hl125_0; replace p125 := eq_true p125; replace q125 := eq_true q125; have ea_ := Option.some.inj (af.symm.trans ag); injection ea_ with ea_ en_ ec_; subst ea_; subst ec_; clear en_; obtain ⟨p126, q126, ad126, e126, aq⟩ := a2_ (Kd.at_int ah.out ab); cases e126)); go_ret; exact ⟨tx_, dz_⟩
       ·
        have H' := A_ H; clear H; go_wp2
        go_roundg k2
        case measure => have := HK1.out; have := HK2.out; omega
        case rel => exact ⟨(wrap64 (aa + 1)), tx_, H', ⟨by have := HK1.out; have := HK2.out; omega⟩, dz_⟩
    ·
     rw [if_neg c5] at H; have av : (((rd_L2 l1 aa).length : Int) == a0) = false := beq_eq_false_iff_ne.mpr c5; have aY : (((rd_L2 l1 aa).length : Int) != a0) = true := bne_iff_ne.mpr c5; obtain rfl := Option.some.inj H; obtain ⟨p121, q121, ad121, aM, aN, e121, ao, hl121_0, hi121_0⟩ := a2_ (at_L2 HR1.out aa); cases e121; have aF := A_ hi121_0; have aG := A_ hl121_0; clear hi121_0 hl121_0; go_wp2; go_ret; exact ⟨tx_, dz_⟩
   ·
    obtain ⟨aK, A15, H⟩ := bnd_ H; (try dsimp only at H); by_cases c16 : aK = true
    ·
     subst c16; replace H : (some ((l1.length : Int) == a0)) = some r := by rw [if_pos rfl] at H; exact H
     obtain rfl := Option.some.inj H; go_wp2_with (first | ((with_reducible refine gate_callee (f := 23) rfl ?_); refine gl_ (some 51) Tryz.func23 #[.int .i64 a0, .int .i64 1, .int .i64 3] ?_; (with_reducible refine (spec_l1In.calls a0 1 3 true _ A15.out).mono ?_); rintro e w' ⟨rfl, ⟨nd, rfl⟩⟩; refine ⟨_, rfl, ?_⟩)); go_ret; exact ⟨tx_, dz_⟩
    ·
     replace c16 := Bool.eq_false_iff.mpr c16; subst c16; replace H : (some false) = some r := by rw [if_neg (show ¬ (false = true) by decide)] at H; exact H
     obtain rfl := Option.some.inj H; go_wp2_with (first | ((with_reducible refine gate_callee (f := 23) rfl ?_); refine gl_ (some 51) Tryz.func23 #[.int .i64 a0, .int .i64 1, .int .i64 3] ?_; (with_reducible refine (spec_l1In.calls a0 1 3 false _ A15.out).mono ?_); rintro e w' ⟨rfl, ⟨nd, rfl⟩⟩; refine ⟨_, rfl, ?_⟩)); go_ret; exact ⟨tx_, dz_⟩

/-! ### spec_WordOk: function 71 -/
def spec_WordOk.l0 : Nat → Int → List Int → Int → Option (Bool)
 | 0, _, _, _ => none
 | k + 1, x0, x1, x5 => if x5 < (x1.length : Int) then (if 0 ≤ x5 then (if (rd x1 x5) < 0 then (some false) else (if (rd x1 x5) ≥ x0 then (some false) else (spec_WordOk.l0 k x0 x1 (wrap64 (x5 + 1))))) else (none)) else ((spec_l1In.f x0 1 3).bind fun aP => (if aP = true then (some (decide ((x1.length : Int) ≤ 6))) else (some false)))
def spec_WordOk.f (k : Nat) (a0 : Int) (l1 : List Int) : Option (Bool) := spec_WordOk.l0 k a0 l1 0
theorem spec_WordOk.mono_l : ∀ k, (∀ y0 y1 y2, LeO (spec_WordOk.l0 k y0 y1 y2) (spec_WordOk.l0 (k + 1) y0 y1 y2))
 | 0 => fun _ _ _ r h => by simp [spec_WordOk.l0] at h
 | k + 1 => by
  have ih0 := spec_WordOk.mono_l k
  ·
   intro y0 y1 y2
   unfold spec_WordOk.l0
   repeat' (with_reducible first | exact ih0 _ _ _ | exact mr_ | exact mn_ | refine mi_ ?_ ?_ | refine mb_ ?_ (fun _ => ?_))
theorem spec_WordOk.mono : ∀ a0 a1 k, LeO (spec_WordOk.f k a0 a1) (spec_WordOk.f (k + 1) a0 a1) := by
 intro a0 a1 k; have ih0 := spec_WordOk.mono_l k; unfold spec_WordOk.f; repeat' (with_reducible first | exact ih0 _ _ _ | exact mr_ | exact mn_ | refine mi_ ?_ ?_ | refine mb_ ?_ (fun _ => ?_))
theorem spec_WordOk.calls (k : Nat) (a0 : Int) (A1 : Option Addr) (c1 : Nat) (l1 : List Int) (r : Bool) (w : World) (hr1 : Kd.C (Kd.int .i64) w A1 l1.length l1) (hc1 : l1.length ≤ c1) (h : spec_WordOk.f k a0 l1 = some r) :
  Calls Tryz.prog 71 #[.int .i64 a0, .slice A1 l1.length c1] w fun e w' => e = .returned (.bool r) ∧ Drawn0 w w' := by
 have HR1 := A_ hr1; have HC1 := A_ hc1; clear hr1 hc1; have H : (spec_WordOk.l0 k a0 l1 0) = some r := h; clear h; have H' := A_ H; clear H; go_enter Tryz.func71, Tryz.ntmps71; go_wp2
 go_loopg [5] k (fun kq v5 w' => ∃ (aa : Int), v5 = .int .i64 aa ∧ Aside0 (spec_WordOk.l0 kq a0 l1 aa = some r) ∧ Aside0 (kq ≤ k) ∧ Drawn0 w w')
 case atStart => exact ⟨(0), tx_, H', ⟨Nat.le_refl _⟩, dz_⟩
 case round =>
  clear H'; obtain ⟨aa, rfl, HA, HK1, ⟨m1, rfl⟩⟩ := hrel
  cases gk with
  | zero => exact absurd HA.out (by simp [spec_WordOk.l0])
  | succ k1 =>
   have H := HA.out; clear HA; simp only [spec_WordOk.l0] at H; replace H := it_ H; rcases H with ⟨aE, H⟩ | ⟨aE, H⟩
   ·
    replace H := in_ H; obtain ⟨aX, H⟩ := H; replace H := it_ H; rcases H with ⟨av, H⟩ | ⟨av, H⟩
    ·
     obtain rfl := Option.some.inj H; obtain ⟨p127, q127, ad127, e127, ar⟩ := a2_ (Kd.at_int HR1.out aa); cases e127; go_wp2; go_ret; exact ⟨tx_, dz_⟩
    ·
     replace H := ih_ H; rcases H with ⟨aH, H⟩ | ⟨aH, H⟩
     ·
      obtain rfl := Option.some.inj H; obtain ⟨p127, q127, ad127, e127, ar⟩ := a2_ (Kd.at_int HR1.out aa); cases e127; have p128 : 0 ≤ (aa : Int) := od_; have q128 : aa < (l1.length : Int) := od_; obtain ⟨ad128, e128, aI⟩ := Kd.at_int HR1.out aa p128 q128; obtain rfl : ad127 = ad128 := (by injection e128)
      replace p128 := eq_true p128; replace q128 := eq_true q128; go_wp2; go_ret; exact ⟨tx_, dz_⟩
     ·
      have H' := A_ H; clear H; obtain ⟨p127, q127, ad127, e127, ar⟩ := a2_ (Kd.at_int HR1.out aa); cases e127; have p128 : 0 ≤ (aa : Int) := od_; have q128 : aa < (l1.length : Int) := od_; obtain ⟨ad128, e128, aI⟩ := Kd.at_int HR1.out aa p128 q128; obtain rfl : ad127 = ad128 := (by injection e128)
      replace p128 := eq_true p128; replace q128 := eq_true q128; go_wp2
      go_roundg k1
      case measure => have := HK1.out; omega
      case rel => exact ⟨(wrap64 (aa + 1)), tx_, H', ⟨by have := HK1.out; omega⟩, dz_⟩
   ·
    obtain ⟨aP, A7, H⟩ := bnd_ H; (try dsimp only at H); by_cases c8 : aP = true
    ·
     subst c8; replace H : (some (decide ((l1.length : Int) ≤ 6))) = some r := by rw [if_pos rfl] at H; exact H
     obtain rfl := Option.some.inj H; go_wp2_with (first | ((with_reducible refine gate_callee (f := 23) rfl ?_); refine gl_ (some 26) Tryz.func23 #[.int .i64 a0, .int .i64 1, .int .i64 3] ?_; (with_reducible refine (spec_l1In.calls a0 1 3 true _ A7.out).mono ?_); rintro e w' ⟨rfl, ⟨nd, rfl⟩⟩; refine ⟨_, rfl, ?_⟩)); go_ret; exact ⟨tx_, dz_⟩
    ·
     replace c8 := Bool.eq_false_iff.mpr c8; subst c8; replace H : (some false) = some r := by rw [if_neg (show ¬ (false = true) by decide)] at H; exact H
     obtain rfl := Option.some.inj H; go_wp2_with (first | ((with_reducible refine gate_callee (f := 23) rfl ?_); refine gl_ (some 26) Tryz.func23 #[.int .i64 a0, .int .i64 1, .int .i64 3] ?_; (with_reducible refine (spec_l1In.calls a0 1 3 false _ A7.out).mono ?_); rintro e w' ⟨rfl, ⟨nd, rfl⟩⟩; refine ⟨_, rfl, ?_⟩)); go_ret; exact ⟨tx_, dz_⟩

/-! ### spec_l4After: function 72 -/
def spec_l4After.l0 : Nat → List Int → List (List Int) → Int → List Int → Int → Option (List Int)
 | 0, _, _, _, _, _ => none
 | k + 1, x0, x1, x2, x7, x8 => if x8 < (x0.length : Int) then (if 0 ≤ x8 then (if 0 ≤ x2 then (if x2 < (x1.length : Int) then (if x8 < ((rd_L2 x1 x2).length : Int) then (if x7.length < 17592186044416 then (spec_l4After.l0 k x0 x1 x2 (x7 ++ [wrap64 ((rd x0 x8) + (rd (rd_L2 x1 x2) x8))]) (wrap64 (x8 + 1))) else (none)) else (none)) else (none)) else (none)) else (none)) else (some x7)
def spec_l4After.f (k : Nat) (l0 : List Int) (l1 : List (List Int)) (a2 : Int) : Option (List Int) := spec_l4After.l0 k l0 l1 a2 (([] : List Int)) 0
theorem spec_l4After.mono_l : ∀ k, (∀ y0 y1 y2 y3 y4, LeO (spec_l4After.l0 k y0 y1 y2 y3 y4) (spec_l4After.l0 (k + 1) y0 y1 y2 y3 y4))
 | 0 => fun _ _ _ _ _ r h => by simp [spec_l4After.l0] at h
 | k + 1 => by
  have ih0 := spec_l4After.mono_l k
  ·
   intro y0 y1 y2 y3 y4
   unfold spec_l4After.l0
   repeat' (with_reducible first | exact ih0 _ _ _ _ _ | exact mr_ | exact mn_ | refine mi_ ?_ ?_ | refine mb_ ?_ (fun _ => ?_))
theorem spec_l4After.mono : ∀ a0 a1 a2 k, LeO (spec_l4After.f k a0 a1 a2) (spec_l4After.f (k + 1) a0 a1 a2) := by
 intro a0 a1 a2 k; have ih0 := spec_l4After.mono_l k; unfold spec_l4After.f; repeat' (with_reducible first | exact ih0 _ _ _ _ _ | exact mr_ | exact mn_ | refine mi_ ?_ ?_ | refine mb_ ?_ (fun _ => ?_))
def spec_l4After.T5 : Bool × List (List Nat × List Nat) := (true, [([], []), ([], []), ([], []), ([1, 2], [1, 2]), ([3], [3]), ([], []), ([], []), ([5, 6], [5, 6]), ([7], [7]), ([], []), ([8, 9], [8, 9]), ([10], [10]), ([4, 11], [4, 11]), ([12], [12]), ([0, 13], [0, 13]), ([14, 14, 0, 1, 2, 3, 4, 5, 6, 7, 8, 9, 10, 11, 12, 13, 14], [0, 14])])
def spec_l4After.B5 : List Nat := [0, 0, 0, 6, 14, 0, 0, 96, 224, 0, 992, 2016, 4094, 8190, 16383, 32767]
theorem spec_l4After.tab5 : rtab .any (opsOf Tryz.f72 5) = spec_l4After.T5 := by kernel_rfl
theorem spec_l4After.bits5 : waitsOk spec_l4After.T5.2 spec_l4After.B5 = true := by kernel_rfl
theorem spec_l4After.calls (k : Nat) (A0 : Option Addr) (c0 : Nat) (l0 : List Int) (A1 : Option Addr) (c1 : Nat) (l1 : List (List Int)) (a2 : Int) (r : List Int) (w : World) (hr0 : Kd.C (Kd.int .i64) w A0 l0.length l0) (hc0 : l0.length ≤ c0) (hr1 : Kd.C (Kd.slice 3 (Kd.int .i64)) w A1 l1.length l1) (hc1 : l1.length ≤ c1) (h : spec_l4After.f k l0 l1 a2 = some r) :
  Calls Tryz.prog 72 #[.slice A0 l0.length c0, .slice A1 l1.length c1, .int .i64 a2] w fun e w' => ∃ v0_ : Value, e = .returned (v0_) ∧ Kd.R (Kd.int .i64) 3 w' w.heap.size (fun _ => True) v0_ r ∧ Below w.heap.size w w' := by
 have st := ((ST.nil w).c hr0 hc0).c hr1 hc1; have s0 := st; have cl := cl_ st; have H := h; clear h; unfold spec_l4After.f at H; go_enter Tryz.func72, Tryz.ntmps72; have H' := A_ H; clear H; go_wp2_with (first | ((with_reducible refine gate_dst (N := 9) rfl ?_); refine nwl_ (Kd.int .i64) 3 (([] : List Int) : List Int) [] st ?_; clear st cl; intro B9_0 d9_0 w_ st; have cl := cl_ st))
 go_loopg [7, 8] k (fun kq v7 v8 w' => ∃ (al : List Int) (ac : Int) (aA : Option Addr) (aJ : Nat), v7 = .slice aA al.length aJ ∧ v8 = .int .i64 ac ∧ Aside0 (spec_l4After.l0 kq l0 l1 a2 al ac = some r) ∧ Aside0 (kq ≤ k) ∧ ST w [CA (Kd.int .i64) w A0 l0 c0, CA (Kd.slice 3 (Kd.int .i64)) w A1 l1 c1] [AR (Kd.int .i64) 3 w.heap.size (.slice aA al.length aJ) al] w')
 case atStart => exact ⟨(([] : List Int)), (0), B9_0, d9_0, tx_, tx_, H', ⟨Nat.le_refl _⟩, st.en⟩
 case round =>
  clear H' st cl; obtain ⟨al, ac, aA, aJ, rfl, rfl, HA, HK1, st⟩ := hrel; have cl := cl_ st
  cases gk with
  | zero => exact absurd HA.out (by simp [spec_l4After.l0])
  | succ k1 =>
   have H := HA.out; clear HA; simp only [spec_l4After.l0] at H; replace H := it_ H; rcases H with ⟨av, H⟩ | ⟨av, H⟩
   ·
    replace H := in_ H; obtain ⟨aH, H⟩ := H; replace H := in_ H; obtain ⟨bc, H⟩ := H; replace H := in_ H; obtain ⟨aO, H⟩ := H; replace H := in_ H; obtain ⟨aZ, H⟩ := H; replace H := il_ H; obtain ⟨a8, H⟩ := H; have H' := A_ H; clear H; (try go_wp2); (all_goals ((try clear ix_); obtain ⟨p_, q_, ad_, e_, aB⟩ := a2_ (Kd.at_int (gC_ s0 (Kd.int .i64) A0 l0) ac); have ix133 := ix1_ Tryz.underlying25 e_ p_ q_ (c := c0); clear e_; obtain ⟨p_, q_, ad_, aC, aQ, e_, aD, l0_, C0_⟩ := a2_ (at_L2 (gC_ s0 (Kd.slice 3 (Kd.int .i64)) A1 l1) a2); replace st := st.c C0_ l0_; have ix134 := ix1_ Tryz.underlying81 e_ p_ q_ (c := c1); clear e_; obtain ⟨p_, q_, ad_135, e_135, x0⟩ := a2_ (Kd.at_int (gC_ st (Kd.int .i64) aC (rd_L2 l1 a2)) ac); have ix135 := ix1_ Tryz.underlying25 e_135 p_ q_ (c := aQ); replace e_135 := A_ e_135; clear x0; refine rg_ st [] ?_; clear st cl; intro w_ st hs; have cl := cl_ st; refine with_tabW spec_l4After.tab5 spec_l4After.bits5 (fun HT_ HW_ => ?_); refine pv_ 0 ?_; refine pv_ 1 ?_; refine pv_ 2 ?_; refine pv_ 3 ?_; refine pv_ 5 ?_; refine pv_ 6 ?_; refine pv_ 7 ?_; refine pv_ 9 ?_; refine tu_ 4 ?_ (hy := by intro w' s_; have cl := cl_ s_; have y133_0 := cb_ s_ aB; have y134_0 := cb_ s_ aD; go_simp; first | with_reducible rfl | (rw [if_neg (by omega)]; done)); refine tu_ 8 ?_ (hy := by intro w' s_; have cl := cl_ s_; have y133_0 := cb_ s_ aB; have y134_0 := cb_ s_ aD; go_simp; first | with_reducible rfl | (rw [if_neg (by omega)]; done)); refine pv_ 10 ?_; refine tu_ 11 ?_ (hy := by intro w' s_; have cl := cl_ s_; obtain ⟨_, _, _, e_, x0⟩ := a2_ (Kd.at_int (gC_ s_ (Kd.int .i64) aC (rd_L2 l1 a2)) ac); rw [cq_ e_135.out e_] at x0; clear e_; go_simp; first | with_reducible rfl | (rw [if_neg (by omega)]; done)); refine pv_ 12 ?_; refine ov_ 13 (fun K hK => ?_); refine bs2_ st [.int .i64 (wrap64 ((rd l0 ac) + (rd (rd_L2 l1 a2) ac)))] 3 ?_; refine hK.out _ _ (st.ev (la_ (Below.refl _ _) _)).en (fun hs => ?_); clear hK K; refine nr_ 29 ?_; refine ov_ 14 (fun K hK => ?_); refine ap2_ aA al (wrap64 ((rd l0 ac) + (rd (rd_L2 l1 a2) ac))) [.int .i64 (wrap64 ((rd l0 ac) + (rd (rd_L2 l1 a2) ac)))] ((.int .i64 0)) 8 st Tryz.underlying25 ?_ (hl := by have := a8.out; omega); clear st cl; intro P30 q30 w_ st; have cl := cl_ st; refine hK.out _ _ st.en (fun hs => ?_); clear hK K; refine nr_ 30 ?_; refine pv_ 15 ?_; refine done_ (done_of HT_.out (by kernel_rfl)) ?_; clear ix133 ix134 ix135; all_goals (try go_wp2)))
    go_roundg k1
    case measure => have := HK1.out; omega
    case rel => exact ⟨((al ++ [wrap64 ((rd l0 ac) + (rd (rd_L2 l1 a2) ac))])), (wrap64 (ac + 1)), P30, q30, tx_, tx_, H', ⟨by have := HK1.out; omega⟩, st.en⟩
   ·
    obtain rfl := Option.some.inj H; go_wp2; go_ret; exact ⟨.slice aA al.length aJ, tw_, gtl_ st, st.b⟩

/-! ### spec_AfterWord: function 52 -/
mutual
def spec_AfterWord.j0 : Nat → List Int → List (List Int) → List Int → Bool → Option (List Int × Bool)
 | 0, _, _, _, _ => none
 | k + 1, x0, x1, x2, x26 => if x26 = true then (some ((([] : List Int)), false)) else ((some (([] : List Int) : List Int)).bind fun a9 => (if a9.length + x0.length < 17592186044416 then (spec_AfterWord.l0 k x1 x2 (a9 ++ x0) 0) else (none)))
def spec_AfterWord.l0 : Nat → List (List Int) → List Int → List Int → Int → Option (List Int × Bool)
 | 0, _, _, _, _ => none
 | k + 1, x1, x2, x8, x9 => if x9 < (x2.length : Int) then (if 0 ≤ x9 then (if 0 ≤ (rd x2 x9) then (if (rd x2 x9) < (x8.length : Int) then (if (rd x8 (rd x2 x9)) < 1 then (some ((([] : List Int)), false)) else ((spec_l4After.f k x8 x1 (rd x2 x9)).bind fun aR => (spec_AfterWord.l0 k x1 x2 aR (wrap64 (x9 + 1))))) else (none)) else (none)) else (none)) else (some (x8, true))
end
def spec_AfterWord.f (k : Nat) (l0 : List Int) (l1 : List (List Int)) (l2 : List Int) : Option (List Int × Bool) := (spec_StartOk.f k l0).bind fun aU => (if aU = true then ((spec_RuleOk.f k (l0.length : Int) l1).bind fun aV => (if aV = true then ((spec_WordOk.f k (l0.length : Int) l2).bind fun aW => (spec_AfterWord.j0 k l0 l1 l2 (!aW))) else (spec_AfterWord.j0 k l0 l1 l2 true))) else (spec_AfterWord.j0 k l0 l1 l2 true))
theorem spec_AfterWord.mono_l : ∀ k, (∀ y0 y1 y2 y3, LeO (spec_AfterWord.j0 k y0 y1 y2 y3) (spec_AfterWord.j0 (k + 1) y0 y1 y2 y3)) ∧ (∀ y0 y1 y2 y3, LeO (spec_AfterWord.l0 k y0 y1 y2 y3) (spec_AfterWord.l0 (k + 1) y0 y1 y2 y3))
 | 0 => ⟨fun _ _ _ _ r h => by simp [spec_AfterWord.j0] at h, fun _ _ _ _ r h => by simp [spec_AfterWord.l0] at h⟩
 | k + 1 => by
  obtain ⟨ih0, ih1⟩ := spec_AfterWord.mono_l k
  refine ⟨?_, ?_⟩
  ·
   intro y0 y1 y2 y3
   unfold spec_AfterWord.j0
   repeat' (with_reducible first | exact ih0 _ _ _ _ | exact ih1 _ _ _ _ | exact spec_RuleOk.mono _ _ _ | exact spec_StartOk.mono _ _ | exact spec_WordOk.mono _ _ _ | exact spec_l4After.mono _ _ _ _ | exact mr_ | exact mn_ | refine mi_ ?_ ?_ | refine mb_ ?_ (fun _ => ?_))
  ·
   intro y0 y1 y2 y3
   unfold spec_AfterWord.l0
   repeat' (with_reducible first | exact ih0 _ _ _ _ | exact ih1 _ _ _ _ | exact spec_RuleOk.mono _ _ _ | exact spec_StartOk.mono _ _ | exact spec_WordOk.mono _ _ _ | exact spec_l4After.mono _ _ _ _ | exact mr_ | exact mn_ | refine mi_ ?_ ?_ | refine mb_ ?_ (fun _ => ?_))
theorem spec_AfterWord.mono : ∀ a0 a1 a2 k, LeO (spec_AfterWord.f k a0 a1 a2) (spec_AfterWord.f (k + 1) a0 a1 a2) := by
 intro a0 a1 a2 k; obtain ⟨ih0, ih1⟩ := spec_AfterWord.mono_l k; unfold spec_AfterWord.f; repeat' (with_reducible first | exact ih0 _ _ _ _ | exact ih1 _ _ _ _ | exact spec_RuleOk.mono _ _ _ | exact spec_StartOk.mono _ _ | exact spec_WordOk.mono _ _ _ | exact spec_l4After.mono _ _ _ _ | exact mr_ | exact mn_ | refine mi_ ?_ ?_ | refine mb_ ?_ (fun _ => ?_))
theorem spec_AfterWord.z0 {P_ : Prop} (h_ : P_ := by go_wp2_with (first | ((with_reducible refine gate_callee (f := 51) rfl ?_); refine ca_ (some 11) Tryz.func51 _ (spec_StartOk.calls k A0 c0 _ _ _ (gt_ st) (gt_ st) A_11.out) ?_; rintro e w_ ⟨rfl, hb⟩; refine ⟨_, rfl, ?_⟩; replace hb := hb.below; replace st := st.ev hb; clear cl hb; have cl := cl_ st) | ((with_reducible refine gate_callee (f := 70) rfl ?_); refine gate_guard (by rfl) ?_; dsimp only; refine ca_ (some 17) Tryz.func70 _ (spec_RuleOk.calls k _ A1 c1 _ _ _ (gt_ st) (gt_ st) A_17.out) ?_; rintro e w_ ⟨rfl, hb⟩; refine ⟨_, rfl, ?_⟩; replace hb := hb.below; replace st := st.ev hb; clear cl hb; have cl := cl_ st) | ((with_reducible refine gate_callee (f := 71) rfl ?_); refine gate_guard (by rfl) ?_; dsimp only; refine ca_ (some 24) Tryz.func71 _ (spec_WordOk.calls k _ A2 c2 _ _ _ (gt_ st) (gt_ st) A_24.out) ?_; rintro e w_ ⟨rfl, hb⟩; refine ⟨_, rfl, ?_⟩; replace hb := hb.below; replace st := st.ev hb; clear cl hb; have cl := cl_ st)); first | (go_meet; (case rel => exact ⟨_, (!aW), tx_, H', ⟨by first | omega | exact Nat.le_refl _⟩, st.en⟩)) | (go_meet; (case rel => exact ⟨_, (true), tx_, H', ⟨by first | omega | exact Nat.le_refl _⟩, st.en⟩))) : P_ := h_
theorem spec_AfterWord.z1 {P_ : Prop} (h_ : P_ := by go_wp2_with (first | ((with_reducible refine gate_dst (N := 40) rfl ?_); obtain ⟨p_, q_, ad_, e_, x0⟩ := a2_ (Kd.at_int (gC_ st (Kd.int .i64) A2 l2) ae); have ix_ := ix1_ Tryz.underlying25 e_ p_ q_ (c := c2); clear e_; go_step) | ((with_reducible refine gate_dst (N := 42) rfl ?_); obtain ⟨p_, q_, ad_, e_, x0⟩ := a2_ (Kd.at_int (gC_ st (Kd.int .i64) aw ai) (rd l2 ae)); have ix_ := ix1_ Tryz.underlying25 e_ p_ q_ (c := ax); clear e_; go_step) | ((with_reducible refine gate_dst (N := 45) rfl ?_); refine nw_ (Kd.int .i64) 3 (([] : List Int) : List Int) [] st ?_; clear st cl; intro B45_0 d45_0 w_ st; have cl := cl_ st) | ((with_reducible refine gate_dst (N := 50) rfl ?_); obtain ⟨p_, q_, ad_, e_, x0⟩ := a2_ (Kd.at_int (gC_ st (Kd.int .i64) A2 l2) ae); have ix_ := ix1_ Tryz.underlying25 e_ p_ q_ (c := c2); clear e_; go_step) | ((with_reducible refine gate_callee (f := 72) rfl ?_); refine ca_ (some 52) Tryz.func72 _ (spec_l4After.calls k2 aw ax _ A1 c1 _ _ _ _ (gt_ st) (gt_ st) (gt_ st) (gt_ st) A_52.out) ?_; rintro e w_ ⟨v0, rfl, h0, hb⟩; refine ⟨_, rfl, ?_⟩; obtain ⟨B52_0, d52_0, rfl⟩ := Kd.R_slice h0; replace st := st.p1 hb (st.mr h0); clear cl hb h0; have cl := cl_ st)); first | (go_ret2; exact ⟨.slice B45_0 ([] : List Int).length d45_0, tw_, gt_ st, st.b⟩) | (go_roundg k2; (case measure => have := HJ4.out; have := HK2.out; omega); (case rel => exact ⟨(aR), (wrap64 (ae + 1)), B52_0, d52_0, tx_, tx_, H', ⟨by have := HJ4.out; have := HK2.out; omega⟩, st.en⟩)) | (go_ret2; exact ⟨.slice aw ai.length ax, tw_, gt_ st, st.b⟩)) : P_ := h_
theorem spec_AfterWord.calls (k : Nat) (A0 : Option Addr) (c0 : Nat) (l0 : List Int) (A1 : Option Addr) (c1 : Nat) (l1 : List (List Int)) (A2 : Option Addr) (c2 : Nat) (l2 : List Int) (r1 : List Int) (r2 : Bool) (w : World) (hr0 : Kd.C (Kd.int .i64) w A0 l0.length l0) (hc0 : l0.length ≤ c0) (hr1 : Kd.C (Kd.slice 3 (Kd.int .i64)) w A1 l1.length l1) (hc1 : l1.length ≤ c1) (hr2 : Kd.C (Kd.int .i64) w A2 l2.length l2) (hc2 : l2.length ≤ c2) (h : spec_AfterWord.f k l0 l1 l2 = some (r1, r2)) :
  Calls Tryz.prog 52 #[.slice A0 l0.length c0, .slice A1 l1.length c1, .slice A2 l2.length c2] w fun e w' => ∃ v0_ : Value, e = .returned (.tuple #[v0_, .bool r2]) ∧ Kd.R (Kd.int .i64) 3 w' w.heap.size (fun _ => True) v0_ r1 ∧ Below w.heap.size w w' := by
 have st := (((ST.nil w).c hr0 hc0).c hr1 hc1).c hr2 hc2; have s0 := st; have cl := cl_ st; have H := h; clear h; unfold spec_AfterWord.f at H; go_enter Tryz.func52, Tryz.ntmps52; have HC5 := A_ H; clear H
 go_upto_region 1 with (fail)
 go_cut [26] (fun bf wc => ∃ (kq : Nat) (au : Bool), bf = .bool au ∧ Aside0 (spec_AfterWord.j0 kq l0 l1 l2 au = some (r1, r2)) ∧ Aside0 (kq ≤ k) ∧ ST w [CA (Kd.int .i64) w A0 l0 c0, CA (Kd.slice 3 (Kd.int .i64)) w A1 l1 c1, CA (Kd.int .i64) w A2 l2 c2] [] wc)
 case first =>
  have H := HC5.out; clear HC5; obtain ⟨aU, A_11, H⟩ := bnd_ H; rcases bx_ aU with rfl | rfl
  ·
   replace H := bt_ H; obtain ⟨aV, A_17, H⟩ := bnd_ H; rcases bx_ aV with rfl | rfl
   ·
    replace H := bt_ H; obtain ⟨aW, A_24, H⟩ := bnd_ H; have H' := A_ H; clear H; exact spec_AfterWord.z0
   ·
    replace H := bf_ H; have H' := A_ H; clear H; exact spec_AfterWord.z0
  ·
   replace H := bf_ H; have H' := A_ H; clear H; exact spec_AfterWord.z0
 case rest =>
  clear HC5 st cl; obtain ⟨kq, au, rfl, HA, HJ4, st⟩ := hcut; have cl := cl_ st
  cases kq with
  | zero => exact absurd HA.out (by simp [spec_AfterWord.j0])
  | succ kj4 =>
   have H := HA.out; clear HA; simp only [spec_AfterWord.j0] at H; rcases bx_ au with rfl | rfl
   ·
    replace H := bt_ H; simp only [Option.some.injEq, Prod.mk.injEq] at H; obtain ⟨rfl, rfl⟩ := H; go_wp2_with (first | ((with_reducible refine gate_dst (N := 27) rfl ?_); refine nw_ (Kd.int .i64) 3 (([] : List Int) : List Int) [] st ?_; clear st cl; intro B27_0 d27_0 w_ st; have cl := cl_ st)); go_ret2; exact ⟨.slice B27_0 ([] : List Int).length d27_0, tw_, gt_ st, st.b⟩
   ·
    replace H := bf_ H; replace H := sm_ H; (try dsimp only at H); replace H := il_ H; obtain ⟨bd, H⟩ := H; (try simp only [List.nil_append] at H); have H' := A_ H; clear H; go_wp2_with (first | ((with_reducible refine gate_dst (N := 28) rfl ?_); refine nwl_ (Kd.int .i64) 3 (([] : List Int) : List Int) [] st ?_; clear st cl; intro B28_0 d28_0 w_ st; have cl := cl_ st) | ((with_reducible refine gate_dst (N := 30) rfl ?_); refine apr0_ B28_0 l0 A0 c0 ((.int .i64 0)) 8 st Tryz.underlying25 (gt_ st) ?_ (hl := by have := bd.out; simp only [List.length_nil] at this; omega); clear st cl; intro P30 q30 w_ st; have cl := cl_ st))
    go_loopg [8, 9] kj4 (fun kq v8 v9 w' => ∃ (ai : List Int) (ae : Int) (aw : Option Addr) (ax : Nat), v8 = .slice aw ai.length ax ∧ v9 = .int .i64 ae ∧ Aside0 (spec_AfterWord.l0 kq l1 l2 ai ae = some (r1, r2)) ∧ Aside0 (kq ≤ kj4) ∧ ST w [CA (Kd.slice 3 (Kd.int .i64)) w A1 l1 c1, CA (Kd.int .i64) w A2 l2 c2, AR (Kd.int .i64) 3 w.heap.size (.slice aw ai.length ax) ai] [] w')
    case atStart => exact ⟨(l0), (0), P30, q30, tx_, tx_, H', ⟨Nat.le_refl _⟩, (st.lp P30 l0).en⟩
    case round =>
     clear H' st cl; obtain ⟨ai, ae, aw, ax, rfl, rfl, HA, HK2, st⟩ := hrel; have cl := cl_ st
     cases gk with
     | zero => exact absurd HA.out (by simp [spec_AfterWord.l0])
     | succ k2 =>
      have H := HA.out; clear HA; simp only [spec_AfterWord.l0] at H; replace H := it_ H; rcases H with ⟨aO, H⟩ | ⟨aO, H⟩
      ·
       replace H := in_ H; obtain ⟨aZ, H⟩ := H; replace H := in_ H; obtain ⟨a3, H⟩ := H; replace H := in_ H; obtain ⟨be, H⟩ := H; replace H := it_ H; rcases H with ⟨bb, H⟩ | ⟨bb, H⟩
       ·
        simp only [Option.some.injEq, Prod.mk.injEq] at H; obtain ⟨rfl, rfl⟩ := H; exact spec_AfterWord.z1
       ·
        obtain ⟨aR, A_52, H⟩ := bnd_ H; have H' := A_ H; clear H; exact spec_AfterWord.z1
      ·
       simp only [Option.some.injEq, Prod.mk.injEq] at H; obtain ⟨rfl, rfl⟩ := H; exact spec_AfterWord.z1
end Go.Proofs.YtmodbemkflkbeaaGreatDoor.MFnExactStoreOpen
