/- For the law FnExactDeskRun: walks of the functions that it reaches: each call returns what the plain function beside it tells. The conditions stand in each statement. -/
import Derived.Test.YtmodbemkflkbeaaDoorV
import Derived.Test.YtmodbemkflkbeaaDoorMFnExactDeskRunx0
import Derived.Test.YtmodbemkflkbeaaDoorMFnExactDeskRunx3
namespace Go.Proofs.YtmodbemkflkbeaaDoor.MFnExactDeskRun
open Go.RowKit Go.Proofs.YtmodbemkflkbeaaDoorW.PrintWords Go.Proofs.YtmodbemkflkbeaaDoorW.PrintLast Go.Proofs.YtmodbemkflkbeaaDoorW.PrintMore
attribute [local go_sem] max2_int min2_int max_two min_two max_three min_three max_four min_four   -- for this text's walks alone
set_option linter.unusedVariables false
set_option linter.unusedSimpArgs false
set_option maxHeartbeats 8000000
set_option maxRecDepth 100000

/-! ### spec_StartOk: function 47 -/
def spec_StartOk.l0 : Nat → List Int → Int → Option (Bool)
 | 0, _, _ => none
 | k + 1, x0, x3 => if x3 < (x0.length : Int) then (if 0 ≤ x3 then (if (rd x0 x3) > 10 then (some false) else (spec_StartOk.l0 k x0 (wrap64 (x3 + 1)))) else (none)) else ((spec_UrnOk.f k x0).bind fun aI => (some aI))
def spec_StartOk.f (k : Nat) (l0 : List Int) : Option (Bool) := spec_StartOk.l0 k l0 0
theorem spec_StartOk.mono_l : ∀ k, (∀ y0 y1, LeO (spec_StartOk.l0 k y0 y1) (spec_StartOk.l0 (k + 1) y0 y1))
 | 0 => fun _ _ r h => by simp [spec_StartOk.l0] at h
 | k + 1 => by
  have ih0 := spec_StartOk.mono_l k
  ·
   intro y0 y1
   unfold spec_StartOk.l0
   repeat' (with_reducible first | exact ih0 _ _ | exact spec_UrnOk.mono _ _ | exact mr_ | exact mn_ | refine mi_ ?_ ?_ | refine mb_ ?_ (fun _ => ?_))
theorem spec_StartOk.mono : ∀ a0 k, LeO (spec_StartOk.f k a0) (spec_StartOk.f (k + 1) a0) := by
 intro a0 k; have ih0 := spec_StartOk.mono_l k; unfold spec_StartOk.f; repeat' (with_reducible first | exact ih0 _ _ | exact spec_UrnOk.mono _ _ | exact mr_ | exact mn_ | refine mi_ ?_ ?_ | refine mb_ ?_ (fun _ => ?_))
theorem spec_StartOk.calls (k : Nat) (A0 : Option Addr) (c0 : Nat) (l0 : List Int) (r : Bool) (w : World) (hr0 : Kd.C (Kd.int .i64) w A0 l0.length l0) (hc0 : l0.length ≤ c0) (h : spec_StartOk.f k l0 = some r) :
  Calls Tryd.prog 47 #[.slice A0 l0.length c0] w fun e w' => e = .returned (.bool r) ∧ Drawn0 w w' := by
 have HR0 := A_ hr0; have HC0 := A_ hc0; clear hr0 hc0; have H : (spec_StartOk.l0 k l0 0) = some r := h; clear h; have H' := A_ H; clear H; go_enter Tryd.func47, Tryd.ntmps47; go_wp2
 go_loopg [3] k (fun kq v3 w' => ∃ (ae : Int), v3 = .int .i64 ae ∧ Aside0 (spec_StartOk.l0 kq l0 ae = some r) ∧ Aside0 (kq ≤ k) ∧ Drawn0 w w')
 case atStart => exact ⟨(0), tx_, H', ⟨Nat.le_refl _⟩, dz_⟩
 case round =>
  clear H'; obtain ⟨ae, rfl, HA, HK1, ⟨m1, rfl⟩⟩ := hrel
  cases gk with
  | zero => exact absurd HA.out (by simp [spec_StartOk.l0])
  | succ k1 =>
   have H := HA.out; clear HA; simp only [spec_StartOk.l0] at H; replace H := it_ H; rcases H with ⟨aX, H⟩ | ⟨aX, H⟩
   ·
    replace H := in_ H; obtain ⟨au, H⟩ := H; replace H := ig_ H; rcases H with ⟨aB, H⟩ | ⟨aB, H⟩
    ·
     obtain rfl := Option.some.inj H; obtain ⟨p182, q182, ad182, e182, aC⟩ := a2_ (Kd.at_int HR0.out ae); cases e182; go_wp2; go_ret; exact ⟨tx_, dz_⟩
    ·
     have H' := A_ H; clear H; obtain ⟨p182, q182, ad182, e182, aC⟩ := a2_ (Kd.at_int HR0.out ae); cases e182; go_wp2
     go_roundg k1
     case measure => have := HK1.out; omega
     case rel => exact ⟨(wrap64 (ae + 1)), tx_, H', ⟨by have := HK1.out; omega⟩, dz_⟩
   ·
    obtain ⟨aI, A5, H⟩ := bnd_ H; (try dsimp only at H); obtain rfl := Option.some.inj H; go_wp2_with (first | ((with_reducible refine gate_callee (f := 65) rfl ?_); refine gl_ (some 16) Tryd.func65 #[.slice A0 l0.length c0] ?_; (with_reducible refine (spec_UrnOk.calls k1 _ _ l0 aI _ ?s1 ?s2 A5.out).mono ?_); (case s1 => exact td_); (case s2 => exact HC0.out); rintro e w' ⟨rfl, ⟨nd, rfl⟩⟩; refine ⟨_, rfl, ?_⟩)); go_ret; exact ⟨tx_, dz_⟩

/-! ### spec_RuleOk: function 66 -/
mutual
def spec_RuleOk.l0 : Nat → Int → List (List Int) → Int → Option (Bool)
 | 0, _, _, _ => none
 | k + 1, x0, x1, x5 => if x5 < (x1.length : Int) then (if 0 ≤ x5 then (if ((rd_L1 x1 x5).length : Int) = x0 then (spec_RuleOk.l1 k x0 x1 x5 0) else (some false)) else (none)) else ((spec_l1In.f x0 1 3).bind fun aJ => (if aJ = true then (some ((x1.length : Int) == x0)) else (some false)))
def spec_RuleOk.l1 : Nat → Int → List (List Int) → Int → Int → Option (Bool)
 | 0, _, _, _, _ => none
 | k + 1, x0, x1, x5, x6 => if x6 < x0 then (if 0 ≤ x5 then (if x5 < (x1.length : Int) then (if 0 ≤ x6 then (if x6 < ((rd_L1 x1 x5).length : Int) then ((spec_l1In.f (rd (rd_L1 x1 x5) x6) 0 3).bind fun aK => (if aK = true then (spec_RuleOk.l1 k x0 x1 x5 (wrap64 (x6 + 1))) else (if (rd (rd_L1 x1 x5) x6) = (-1) then (if x6 = x5 then (spec_RuleOk.l1 k x0 x1 x5 (wrap64 (x6 + 1))) else (some false)) else (some false)))) else (none)) else (none)) else (none)) else (none)) else (spec_RuleOk.l0 k x0 x1 (wrap64 (x5 + 1)))
end
def spec_RuleOk.f (k : Nat) (a0 : Int) (l1 : List (List Int)) : Option (Bool) := spec_RuleOk.l0 k a0 l1 0
theorem spec_RuleOk.mono_l : ∀ k, (∀ y0 y1 y2, LeO (spec_RuleOk.l0 k y0 y1 y2) (spec_RuleOk.l0 (k + 1) y0 y1 y2)) ∧ (∀ y0 y1 y2 y3, LeO (spec_RuleOk.l1 k y0 y1 y2 y3) (spec_RuleOk.l1 (k + 1) y0 y1 y2 y3))
 | 0 => ⟨fun _ _ _ r h => by simp [spec_RuleOk.l0] at h, fun _ _ _ _ r h => by simp [spec_RuleOk.l1] at h⟩
 | k + 1 => by
  obtain ⟨ih0, ih1⟩ := spec_RuleOk.mono_l k
  refine ⟨?_, ?_⟩
  ·
   intro y0 y1 y2
   unfold spec_RuleOk.l0
   repeat' (with_reducible first | exact ih0 _ _ _ | exact ih1 _ _ _ _ | exact mr_ | exact mn_ | refine mi_ ?_ ?_ | refine mb_ ?_ (fun _ => ?_))
  ·
   intro y0 y1 y2 y3
   unfold spec_RuleOk.l1
   repeat' (with_reducible first | exact ih0 _ _ _ | exact ih1 _ _ _ _ | exact mr_ | exact mn_ | refine mi_ ?_ ?_ | refine mb_ ?_ (fun _ => ?_))
theorem spec_RuleOk.mono : ∀ a0 a1 k, LeO (spec_RuleOk.f k a0 a1) (spec_RuleOk.f (k + 1) a0 a1) := by
 intro a0 a1 k; obtain ⟨ih0, ih1⟩ := spec_RuleOk.mono_l k; unfold spec_RuleOk.f; repeat' (with_reducible first | exact ih0 _ _ _ | exact ih1 _ _ _ _ | exact mr_ | exact mn_ | refine mi_ ?_ ?_ | refine mb_ ?_ (fun _ => ?_))
theorem spec_RuleOk.calls (k : Nat) (a0 : Int) (A1 : Option Addr) (c1 : Nat) (l1 : List (List Int)) (r : Bool) (w : World) (hr1 : Kd.C (Kd.slice 3 (Kd.int .i64)) w A1 l1.length l1) (hc1 : l1.length ≤ c1) (h : spec_RuleOk.f k a0 l1 = some r) :
  Calls Tryd.prog 66 #[.int .i64 a0, .slice A1 l1.length c1] w fun e w' => e = .returned (.bool r) ∧ Drawn0 w w' := by
 have HR1 := A_ hr1; have HC1 := A_ hc1; clear hr1 hc1; have H : (spec_RuleOk.l0 k a0 l1 0) = some r := h; clear h; have H' := A_ H; clear H; go_enter Tryd.func66, Tryd.ntmps66; go_wp2
 go_loopg [5] k (fun kq v5 w' => ∃ (aa : Int), v5 = .int .i64 aa ∧ Aside0 (spec_RuleOk.l0 kq a0 l1 aa = some r) ∧ Aside0 (kq ≤ k) ∧ Drawn0 w w')
 case atStart => exact ⟨(0), tx_, H', ⟨Nat.le_refl _⟩, dz_⟩
 case round =>
  clear H'; obtain ⟨aa, rfl, HA, HK1, ⟨m1, rfl⟩⟩ := hrel
  cases gk with
  | zero => exact absurd HA.out (by simp [spec_RuleOk.l0])
  | succ k1 =>
   have H := HA.out; clear HA; simp only [spec_RuleOk.l0] at H; replace H := it_ H; rcases H with ⟨au, H⟩ | ⟨au, H⟩
   ·
    replace H := in_ H; obtain ⟨aB, H⟩ := H; by_cases c5 : ((rd_L1 l1 aa).length : Int) = a0
    ·
     rw [if_pos c5] at H; have ar : (((rd_L1 l1 aa).length : Int) == a0) = true := beq_iff_eq.mpr c5; have aP : (((rd_L1 l1 aa).length : Int) != a0) = false := bne_eq_false_iff_eq.mpr c5; clear c5; have H' := A_ H; clear H; obtain ⟨p185, q185, ad185, aL, aM, e185, an, hl185_0, hi185_0⟩ := a2_ (at_L1 HR1.out aa); cases e185; have aD := A_ hi185_0; have aE := A_ hl185_0; clear hi185_0 hl185_0; go_wp2
     go_loopg [6] k1 (fun kq v6 w' => ∃ (ab : Int), v6 = .int .i64 ab ∧ Aside0 (spec_RuleOk.l1 kq a0 l1 aa ab = some r) ∧ Aside0 (kq ≤ k1) ∧ Drawn0 w w')
     case atStart => exact ⟨(0), tx_, H', ⟨Nat.le_refl _⟩, dz_⟩
     case round =>
      clear H'; (try clear c3); (try clear au); (try clear c4); (try clear aB); (try clear c5); (try clear ar); (try clear aP); (try clear an); (try clear p185); (try clear q185); obtain ⟨ab, rfl, HA, HK2, ⟨m2, rfl⟩⟩ := hrel
      cases gk with
      | zero => exact absurd HA.out (by simp [spec_RuleOk.l1])
      | succ k2 =>
       have H := HA.out; clear HA; simp only [spec_RuleOk.l1] at H; replace H := it_ H; rcases H with ⟨aF, H⟩ | ⟨aF, H⟩
       ·
        replace H := in_ H; obtain ⟨aY, H⟩ := H; replace H := in_ H; obtain ⟨aZ, H⟩ := H; replace H := in_ H; obtain ⟨a3, H⟩ := H; replace H := in_ H; obtain ⟨a4, H⟩ := H; obtain ⟨aK, A11, H⟩ := bnd_ H; (try dsimp only at H); by_cases c12 : aK = true
        ·
         subst c12; replace H : (spec_RuleOk.l1 k2 a0 l1 aa (wrap64 (ab + 1))) = some r := by rw [if_pos rfl] at H; exact H
         have H' := A_ H; clear H; have p186 : 0 ≤ (aa : Int) := od_; have q186 : aa < (l1.length : Int) := od_; obtain ⟨ad186, al, am, e186, af, hl186_0, hi186_0⟩ := at_L1 HR1.out aa p186 q186; obtain rfl : ad185 = ad186 := (by injection e186)
         have ad := A_ hi186_0; have ai := A_ hl186_0; clear hi186_0 hl186_0; replace p186 := eq_true p186; replace q186 := eq_true q186; obtain ⟨p187, q187, ad187, e187, aj⟩ := a2_ (Kd.at_int ad.out ab); cases e187; go_wp2_with (first | ((with_reducible refine gate_callee (f := 48) rfl ?_); refine gl_ (some 32) Tryd.func48 #[.int .i64 (rd (rd_L1 l1 aa) ab), .int .i64 0, .int .i64 3] ?_; (with_reducible refine (spec_l1In.calls (rd (rd_L1 l1 aa) ab) 0 3 true _ A11.out).mono ?_); rintro e w' ⟨rfl, ⟨nd, rfl⟩⟩; refine ⟨_, rfl, ?_⟩))
         go_roundg k2
         case measure => have := HK1.out; have := HK2.out; omega
         case rel => exact ⟨(wrap64 (ab + 1)), tx_, H', ⟨by have := HK1.out; have := HK2.out; omega⟩, dz_⟩
        ·
         replace c12 := Bool.eq_false_iff.mpr c12; subst c12; replace H : (if (rd (rd_L1 l1 aa) ab) = (-1) then (if ab = aa then (spec_RuleOk.l1 k2 a0 l1 aa (wrap64 (ab + 1))) else (some false)) else (some false)) = some r := by rw [if_neg (show ¬ (false = true) by decide)] at H; exact H
         by_cases c13 : (rd (rd_L1 l1 aa) ab) = (-1)
         ·
          rw [if_pos c13] at H; have aQ : ((rd (rd_L1 l1 aa) ab) == (-1)) = true := beq_iff_eq.mpr c13; have aR : ((rd (rd_L1 l1 aa) ab) != (-1)) = false := bne_eq_false_iff_eq.mpr c13; clear c13; by_cases c14 : ab = aa
          ·
           rw [if_pos c14] at H; have aU : (ab == aa) = true := beq_iff_eq.mpr c14; have aV : (ab != aa) = false := bne_eq_false_iff_eq.mpr c14; clear c14; have H' := A_ H; clear H; have p186 : 0 ≤ (aa : Int) := od_; have q186 : aa < (l1.length : Int) := od_; obtain ⟨ad186, al, am, e186, af, hl186_0, hi186_0⟩ := at_L1 HR1.out aa p186 q186; obtain rfl : ad185 = ad186 := (by injection e186)
           have ad := A_ hi186_0; have ai := A_ hl186_0; clear hi186_0 hl186_0; replace p186 := eq_true p186; replace q186 := eq_true q186; obtain ⟨p187, q187, ad187, e187, aj⟩ := a2_ (Kd.at_int ad.out ab); cases e187; go_wp2_with (first | ((with_reducible refine gate_callee (f := 48) rfl ?_); refine gl_ (some 32) Tryd.func48 #[.int .i64 (rd (rd_L1 l1 aa) ab), .int .i64 0, .int .i64 3] ?_; (with_reducible refine (spec_l1In.calls (rd (rd_L1 l1 aa) ab) 0 3 false _ A11.out).mono ?_); rintro e w' ⟨rfl, ⟨nd, rfl⟩⟩; refine ⟨_, rfl, ?_⟩; have p189 : 0 ≤ (aa : Int) := od_; have q189 : aa < (l1.length : Int) := od_; obtain ⟨ad189, av, aw, e189, ag, hl189_0, hi189_0⟩ := at_L1 HR1.out aa p189 q189; obtain rfl : ad185 = ad189 := (by injection e189); have ah := A_ hi189_0; have ao := A_ hl189_0; clear hi189_0 hl189_0; replace p189 := eq_true p189; replace q189 := eq_true q189; have ea_ := Option.some.inj (af.symm.trans ag); injection ea_ with ea_ en_ ec_; subst ea_; subst ec_; clear en_; obtain ⟨p190, q190, ad190, e190, ap⟩ := a2_ (Kd.at_int ah.out ab); cases e190))
           go_roundg k2
           case measure => have := HK1.out; have := HK2.out; omega
           case rel => exact ⟨(wrap64 (ab + 1)), tx_, H', ⟨by have := HK1.out; have := HK2.out; omega⟩, dz_⟩
          ·
           rw [if_neg c14] at H; have aU : (ab == aa) = false := beq_eq_false_iff_ne.mpr c14; have aV : (ab != aa) = true := bne_iff_ne.mpr c14; obtain rfl := Option.some.inj H; have p186 : 0 ≤ (aa : Int) := od_; have q186 : aa < (l1.length : Int) := od_; obtain ⟨ad186, al, am, e186, af, hl186_0, hi186_0⟩ := at_L1 HR1.out aa p186 q186; obtain rfl : ad185 = ad186 := (by injection e186)
           have ad := A_ hi186_0; have ai := A_ hl186_0; clear hi186_0 hl186_0; replace p186 := eq_true p186; replace q186 := eq_true q186; obtain ⟨p187, q187, ad187, e187, aj⟩ := a2_ (Kd.at_int ad.out ab); cases e187; go_wp2_with (first | ((with_reducible refine gate_callee (f := 48) rfl ?_); refine gl_ (some 32) Tryd.func48 #[.int .i64 (rd (rd_L1 l1 aa) ab), .int .i64 0, .int .i64 3] ?_; (with_reducible refine (spec_l1In.calls (rd (rd_L1 l1 aa) ab) 0 3 false _ A11.out).mono ?_); rintro e w' ⟨rfl, ⟨nd, rfl⟩⟩; refine ⟨_, rfl, ?_⟩; have p189 : 0 ≤ (aa : Int) := od_; have q189 : aa < (l1.length : Int) := od_; obtain ⟨ad189, av, aw, e189, ag, hl189_0, hi189_0⟩ := at_L1 HR1.out aa p189 q189; obtain rfl : ad185 = ad189 := (by injection e189); have ah := A_ hi189_0; have ao := A_ hl189_0; clear hi189_0 hl189_0; replace p189 := eq_true p189; replace q189 := eq_true q189; have ea_ := Option.some.inj (af.symm.trans ag); injection ea_ with ea_ en_ ec_; subst ea_; subst ec_; clear en_; obtain ⟨p190, q190, ad190, e190, ap⟩ := a2_ (Kd.at_int ah.out ab); cases e190)); go_ret; exact ⟨tx_, dz_⟩
         ·
          rw [if_neg c13] at H; have aQ : ((rd (rd_L1 l1 aa) ab) == (-1)) = false := beq_eq_false_iff_ne.mpr c13; have aR : ((rd (rd_L1 l1 aa) ab) != (-1)) = true := bne_iff_ne.mpr c13; obtain rfl := Option.some.inj H; have p186 : 0 ≤ (aa : Int) := od_; have q186 : aa < (l1.length : Int) := od_; obtain ⟨ad186, al, am, e186, af, hl186_0, hi186_0⟩ := at_L1 HR1.out aa p186 q186; obtain rfl : ad185 = ad186 := (by injection e186)
          have ad := A_ hi186_0; have ai := A_ hl186_0; clear hi186_0 hl186_0; replace p186 := eq_true p186; replace q186 := eq_true q186; obtain ⟨p187, q187, ad187, e187, aj⟩ := a2_ (Kd.at_int ad.out ab); cases e187; go_wp2_with (first | ((with_reducible refine gate_callee (f := 48) rfl ?_); refine gl_ (some 32) Tryd.func48 #[.int .i64 (rd (rd_L1 l1 aa) ab), .int .i64 0, .int .i64 3] ?_; (with_reducible refine (spec_l1In.calls (rd (rd_L1 l1 aa) ab) 0 3 false _ A11.out).mono ?_); rintro e w' ⟨rfl, ⟨nd, rfl⟩⟩; refine ⟨_, rfl, ?_⟩; have p189 : 0 ≤ (aa : Int) := od_; have q189 : aa < (l1.length : Int) := od_; obtain ⟨ad189, av, aw, e189, ag, hl189_0, hi189_0⟩ := at_L1 HR1.out aa p189 q189; obtain rfl : ad185 = ad189 := (by injection e189); have ah := A_ hi189_0; have ao := A_ hl189_0; clear hi189_0 hl189_0; replace p189 := eq_true p189; replace q189 := eq_true q189; have ea_ := Option.some.inj (af.symm.trans ag); injection ea_ with ea_ en_ ec_; subst ea_; subst ec_; clear en_; obtain ⟨p190, q190, ad190, e190, ap⟩ := a2_ (Kd.at_int ah.out ab); cases e190)); go_ret; exact ⟨tx_, dz_⟩
       ·
        have H' := A_ H; clear H; go_wp2
        go_roundg k2
        case measure => have := HK1.out; have := HK2.out; omega
        case rel => exact ⟨(wrap64 (aa + 1)), tx_, H', ⟨by have := HK1.out; have := HK2.out; omega⟩, dz_⟩
    ·
     rw [if_neg c5] at H; have ar : (((rd_L1 l1 aa).length : Int) == a0) = false := beq_eq_false_iff_ne.mpr c5; have aP : (((rd_L1 l1 aa).length : Int) != a0) = true := bne_iff_ne.mpr c5; obtain rfl := Option.some.inj H; obtain ⟨p185, q185, ad185, aL, aM, e185, an, hl185_0, hi185_0⟩ := a2_ (at_L1 HR1.out aa); cases e185; have aD := A_ hi185_0; have aE := A_ hl185_0; clear hi185_0 hl185_0; go_wp2; go_ret; exact ⟨tx_, dz_⟩
   ·
    obtain ⟨aJ, A15, H⟩ := bnd_ H; (try dsimp only at H); by_cases c16 : aJ = true
    ·
     subst c16; replace H : (some ((l1.length : Int) == a0)) = some r := by rw [if_pos rfl] at H; exact H
     obtain rfl := Option.some.inj H; go_wp2_with (first | ((with_reducible refine gate_callee (f := 48) rfl ?_); refine gl_ (some 51) Tryd.func48 #[.int .i64 a0, .int .i64 1, .int .i64 3] ?_; (with_reducible refine (spec_l1In.calls a0 1 3 true _ A15.out).mono ?_); rintro e w' ⟨rfl, ⟨nd, rfl⟩⟩; refine ⟨_, rfl, ?_⟩)); go_ret; exact ⟨tx_, dz_⟩
    ·
     replace c16 := Bool.eq_false_iff.mpr c16; subst c16; replace H : (some false) = some r := by rw [if_neg (show ¬ (false = true) by decide)] at H; exact H
     obtain rfl := Option.some.inj H; go_wp2_with (first | ((with_reducible refine gate_callee (f := 48) rfl ?_); refine gl_ (some 51) Tryd.func48 #[.int .i64 a0, .int .i64 1, .int .i64 3] ?_; (with_reducible refine (spec_l1In.calls a0 1 3 false _ A15.out).mono ?_); rintro e w' ⟨rfl, ⟨nd, rfl⟩⟩; refine ⟨_, rfl, ?_⟩)); go_ret; exact ⟨tx_, dz_⟩

/-! ### spec_WordOk: function 67 -/
def spec_WordOk.l0 : Nat → Int → List Int → Int → Option (Bool)
 | 0, _, _, _ => none
 | k + 1, x0, x1, x5 => if x5 < (x1.length : Int) then (if 0 ≤ x5 then (if (rd x1 x5) < 0 then (some false) else (if (rd x1 x5) ≥ x0 then (some false) else (spec_WordOk.l0 k x0 x1 (wrap64 (x5 + 1))))) else (none)) else ((spec_l1In.f x0 1 3).bind fun aN => (if aN = true then (some (decide ((x1.length : Int) ≤ 6))) else (some false)))
def spec_WordOk.f (k : Nat) (a0 : Int) (l1 : List Int) : Option (Bool) := spec_WordOk.l0 k a0 l1 0
theorem spec_WordOk.mono_l : ∀ k, (∀ y0 y1 y2, LeO (spec_WordOk.l0 k y0 y1 y2) (spec_WordOk.l0 (k + 1) y0 y1 y2))
 | 0 => fun _ _ _ r h => by simp [spec_WordOk.l0] at h
 | k + 1 => by
  have ih0 := spec_WordOk.mono_l k
  ·
   intro y0 y1 y2
   unfold spec_WordOk.l0
   repeat' (with_reducible first | exact ih0 _ _ _ | exact mr_ | exact mn_ | refine mi_ ?_ ?_ | refine mb_ ?_ (fun _ => ?_))
theorem spec_WordOk.mono : ∀ a0 a1 k, LeO (spec_WordOk.f k a0 a1) (spec_WordOk.f (k + 1) a0 a1) := by
 intro a0 a1 k; have ih0 := spec_WordOk.mono_l k; unfold spec_WordOk.f; repeat' (with_reducible first | exact ih0 _ _ _ | exact mr_ | exact mn_ | refine mi_ ?_ ?_ | refine mb_ ?_ (fun _ => ?_))
theorem spec_WordOk.calls (k : Nat) (a0 : Int) (A1 : Option Addr) (c1 : Nat) (l1 : List Int) (r : Bool) (w : World) (hr1 : Kd.C (Kd.int .i64) w A1 l1.length l1) (hc1 : l1.length ≤ c1) (h : spec_WordOk.f k a0 l1 = some r) :
  Calls Tryd.prog 67 #[.int .i64 a0, .slice A1 l1.length c1] w fun e w' => e = .returned (.bool r) ∧ Drawn0 w w' := by
 have HR1 := A_ hr1; have HC1 := A_ hc1; clear hr1 hc1; have H : (spec_WordOk.l0 k a0 l1 0) = some r := h; clear h; have H' := A_ H; clear H; go_enter Tryd.func67, Tryd.ntmps67; go_wp2
 go_loopg [5] k (fun kq v5 w' => ∃ (aa : Int), v5 = .int .i64 aa ∧ Aside0 (spec_WordOk.l0 kq a0 l1 aa = some r) ∧ Aside0 (kq ≤ k) ∧ Drawn0 w w')
 case atStart => exact ⟨(0), tx_, H', ⟨Nat.le_refl _⟩, dz_⟩
 case round =>
  clear H'; obtain ⟨aa, rfl, HA, HK1, ⟨m1, rfl⟩⟩ := hrel
  cases gk with
  | zero => exact absurd HA.out (by simp [spec_WordOk.l0])
  | succ k1 =>
   have H := HA.out; clear HA; simp only [spec_WordOk.l0] at H; replace H := it_ H; rcases H with ⟨au, H⟩ | ⟨au, H⟩
   ·
    replace H := in_ H; obtain ⟨aB, H⟩ := H; replace H := it_ H; rcases H with ⟨ar, H⟩ | ⟨ar, H⟩
    ·
     obtain rfl := Option.some.inj H; obtain ⟨p191, q191, ad191, e191, aq⟩ := a2_ (Kd.at_int HR1.out aa); cases e191; go_wp2; go_ret; exact ⟨tx_, dz_⟩
    ·
     replace H := ih_ H; rcases H with ⟨aF, H⟩ | ⟨aF, H⟩
     ·
      obtain rfl := Option.some.inj H; obtain ⟨p191, q191, ad191, e191, aq⟩ := a2_ (Kd.at_int HR1.out aa); cases e191; have p192 : 0 ≤ (aa : Int) := od_; have q192 : aa < (l1.length : Int) := od_; obtain ⟨ad192, e192, aG⟩ := Kd.at_int HR1.out aa p192 q192; obtain rfl : ad191 = ad192 := (by injection e192)
      replace p192 := eq_true p192; replace q192 := eq_true q192; go_wp2; go_ret; exact ⟨tx_, dz_⟩
     ·
      have H' := A_ H; clear H; obtain ⟨p191, q191, ad191, e191, aq⟩ := a2_ (Kd.at_int HR1.out aa); cases e191; have p192 : 0 ≤ (aa : Int) := od_; have q192 : aa < (l1.length : Int) := od_; obtain ⟨ad192, e192, aG⟩ := Kd.at_int HR1.out aa p192 q192; obtain rfl : ad191 = ad192 := (by injection e192)
      replace p192 := eq_true p192; replace q192 := eq_true q192; go_wp2
      go_roundg k1
      case measure => have := HK1.out; omega
      case rel => exact ⟨(wrap64 (aa + 1)), tx_, H', ⟨by have := HK1.out; omega⟩, dz_⟩
   ·
    obtain ⟨aN, A7, H⟩ := bnd_ H; (try dsimp only at H); by_cases c8 : aN = true
    ·
     subst c8; replace H : (some (decide ((l1.length : Int) ≤ 6))) = some r := by rw [if_pos rfl] at H; exact H
     obtain rfl := Option.some.inj H; go_wp2_with (first | ((with_reducible refine gate_callee (f := 48) rfl ?_); refine gl_ (some 26) Tryd.func48 #[.int .i64 a0, .int .i64 1, .int .i64 3] ?_; (with_reducible refine (spec_l1In.calls a0 1 3 true _ A7.out).mono ?_); rintro e w' ⟨rfl, ⟨nd, rfl⟩⟩; refine ⟨_, rfl, ?_⟩)); go_ret; exact ⟨tx_, dz_⟩
    ·
     replace c8 := Bool.eq_false_iff.mpr c8; subst c8; replace H : (some false) = some r := by rw [if_neg (show ¬ (false = true) by decide)] at H; exact H
     obtain rfl := Option.some.inj H; go_wp2_with (first | ((with_reducible refine gate_callee (f := 48) rfl ?_); refine gl_ (some 26) Tryd.func48 #[.int .i64 a0, .int .i64 1, .int .i64 3] ?_; (with_reducible refine (spec_l1In.calls a0 1 3 false _ A7.out).mono ?_); rintro e w' ⟨rfl, ⟨nd, rfl⟩⟩; refine ⟨_, rfl, ?_⟩)); go_ret; exact ⟨tx_, dz_⟩

/-! ### spec_l4After: function 68 -/
def spec_l4After.l0 : Nat → List Int → List (List Int) → Int → List Int → Int → Option (List Int)
 | 0, _, _, _, _, _ => none
 | k + 1, x0, x1, x2, x7, x8 => if x8 < (x0.length : Int) then (if 0 ≤ x8 then (if 0 ≤ x2 then (if x2 < (x1.length : Int) then (if x8 < ((rd_L1 x1 x2).length : Int) then (if x7.length < 17592186044416 then (spec_l4After.l0 k x0 x1 x2 (x7 ++ [wrap64 ((rd x0 x8) + (rd (rd_L1 x1 x2) x8))]) (wrap64 (x8 + 1))) else (none)) else (none)) else (none)) else (none)) else (none)) else (some x7)
def spec_l4After.f (k : Nat) (l0 : List Int) (l1 : List (List Int)) (a2 : Int) : Option (List Int) := spec_l4After.l0 k l0 l1 a2 (([] : List Int)) 0
theorem spec_l4After.mono_l : ∀ k, (∀ y0 y1 y2 y3 y4, LeO (spec_l4After.l0 k y0 y1 y2 y3 y4) (spec_l4After.l0 (k + 1) y0 y1 y2 y3 y4))
 | 0 => fun _ _ _ _ _ r h => by simp [spec_l4After.l0] at h
 | k + 1 => by
  have ih0 := spec_l4After.mono_l k
  ·
   intro y0 y1 y2 y3 y4
   unfold spec_l4After.l0
   repeat' (with_reducible first | exact ih0 _ _ _ _ _ | exact mr_ | exact mn_ | refine mi_ ?_ ?_ | refine mb_ ?_ (fun _ => ?_))
theorem spec_l4After.mono : ∀ a0 a1 a2 k, LeO (spec_l4After.f k a0 a1 a2) (spec_l4After.f (k + 1) a0 a1 a2) := by
 intro a0 a1 a2 k; have ih0 := spec_l4After.mono_l k; unfold spec_l4After.f; repeat' (with_reducible first | exact ih0 _ _ _ _ _ | exact mr_ | exact mn_ | refine mi_ ?_ ?_ | refine mb_ ?_ (fun _ => ?_))
def spec_l4After.T5 : Bool × List (List Nat × List Nat) := (true, [([], []), ([], []), ([], []), ([1, 2], [1, 2]), ([3], [3]), ([], []), ([], []), ([5, 6], [5, 6]), ([7], [7]), ([], []), ([8, 9], [8, 9]), ([10], [10]), ([4, 11], [4, 11]), ([12], [12]), ([0, 13], [0, 13]), ([14, 14, 0, 1, 2, 3, 4, 5, 6, 7, 8, 9, 10, 11, 12, 13, 14], [0, 14])])
def spec_l4After.B5 : List Nat := [0, 0, 0, 6, 14, 0, 0, 96, 224, 0, 992, 2016, 4094, 8190, 16383, 32767]
theorem spec_l4After.tab5 : rtab .any (opsOf Tryd.f68 5) = spec_l4After.T5 := by kernel_rfl
theorem spec_l4After.bits5 : waitsOk spec_l4After.T5.2 spec_l4After.B5 = true := by kernel_rfl
theorem spec_l4After.calls (k : Nat) (A0 : Option Addr) (c0 : Nat) (l0 : List Int) (A1 : Option Addr) (c1 : Nat) (l1 : List (List Int)) (a2 : Int) (r : List Int) (w : World) (hr0 : Kd.C (Kd.int .i64) w A0 l0.length l0) (hc0 : l0.length ≤ c0) (hr1 : Kd.C (Kd.slice 3 (Kd.int .i64)) w A1 l1.length l1) (hc1 : l1.length ≤ c1) (h : spec_l4After.f k l0 l1 a2 = some r) :
  Calls Tryd.prog 68 #[.slice A0 l0.length c0, .slice A1 l1.length c1, .int .i64 a2] w fun e w' => ∃ v0_ : Value, e = .returned (v0_) ∧ Kd.R (Kd.int .i64) 3 w' w.heap.size (fun _ => True) v0_ r ∧ Below w.heap.size w w' := by
 have st := ((ST.nil w).c hr0 hc0).c hr1 hc1; have s0 := st; have cl := cl_ st; have H := h; clear h; unfold spec_l4After.f at H; go_enter Tryd.func68, Tryd.ntmps68; have H' := A_ H; clear H; go_wp2_with (first | ((with_reducible refine gate_dst (N := 9) rfl ?_); refine nwl_ (Kd.int .i64) 3 (([] : List Int) : List Int) [] st ?_; clear st cl; intro B9_0 d9_0 w_ st; have cl := cl_ st))
 go_loopg [7, 8] k (fun kq v7 v8 w' => ∃ (ak : List Int) (ac : Int) (ax : Option Addr) (aH : Nat), v7 = .slice ax ak.length aH ∧ v8 = .int .i64 ac ∧ Aside0 (spec_l4After.l0 kq l0 l1 a2 ak ac = some r) ∧ Aside0 (kq ≤ k) ∧ ST w [CA (Kd.int .i64) w A0 l0 c0, CA (Kd.slice 3 (Kd.int .i64)) w A1 l1 c1] [AR (Kd.int .i64) 3 w.heap.size (.slice ax ak.length aH) ak] w')
 case atStart => exact ⟨(([] : List Int)), (0), B9_0, d9_0, tx_, tx_, H', ⟨Nat.le_refl _⟩, st.en⟩
 case round =>
  clear H' st cl; obtain ⟨ak, ac, ax, aH, rfl, rfl, HA, HK1, st⟩ := hrel; have cl := cl_ st
  cases gk with
  | zero => exact absurd HA.out (by simp [spec_l4After.l0])
  | succ k1 =>
   have H := HA.out; clear HA; simp only [spec_l4After.l0] at H; replace H := it_ H; rcases H with ⟨ar, H⟩ | ⟨ar, H⟩
   ·
    replace H := in_ H; obtain ⟨aF, H⟩ := H; replace H := in_ H; obtain ⟨aY, H⟩ := H; replace H := in_ H; obtain ⟨aZ, H⟩ := H; replace H := in_ H; obtain ⟨a3, H⟩ := H; replace H := il_ H; obtain ⟨aW, H⟩ := H; have H' := A_ H; clear H; (try go_wp2); (all_goals ((try clear ix_); obtain ⟨p_, q_, ad_, e_, ay⟩ := a2_ (Kd.at_int (gC_ s0 (Kd.int .i64) A0 l0) ac); have ix197 := ix1_ Tryd.underlying22 e_ p_ q_ (c := c0); clear e_; obtain ⟨p_, q_, ad_, az, aO, e_, aA, l0_, C0_⟩ := a2_ (at_L1 (gC_ s0 (Kd.slice 3 (Kd.int .i64)) A1 l1) a2); replace st := st.c C0_ l0_; have ix198 := ix1_ Tryd.underlying75 e_ p_ q_ (c := c1); clear e_; obtain ⟨p_, q_, ad_199, e_199, x0⟩ := a2_ (Kd.at_int (gC_ st (Kd.int .i64) az (rd_L1 l1 a2)) ac); have ix199 := ix1_ Tryd.underlying22 e_199 p_ q_ (c := aO); replace e_199 := A_ e_199; clear x0; refine rg_ st [] ?_; clear st cl; intro w_ st hs; have cl := cl_ st; refine with_tabW spec_l4After.tab5 spec_l4After.bits5 (fun HT_ HW_ => ?_); refine pv_ 0 ?_; refine pv_ 1 ?_; refine pv_ 2 ?_; refine pv_ 3 ?_; refine pv_ 5 ?_; refine pv_ 6 ?_; refine pv_ 7 ?_; refine pv_ 9 ?_; refine tu_ 4 ?_ (hy := by intro w' s_; have cl := cl_ s_; have y197_0 := cb_ s_ ay; have y198_0 := cb_ s_ aA; go_simp; first | with_reducible rfl | (rw [if_neg (by omega)]; done)); refine tu_ 8 ?_ (hy := by intro w' s_; have cl := cl_ s_; have y197_0 := cb_ s_ ay; have y198_0 := cb_ s_ aA; go_simp; first | with_reducible rfl | (rw [if_neg (by omega)]; done)); refine pv_ 10 ?_; refine tu_ 11 ?_ (hy := by intro w' s_; have cl := cl_ s_; obtain ⟨_, _, _, e_, x0⟩ := a2_ (Kd.at_int (gC_ s_ (Kd.int .i64) az (rd_L1 l1 a2)) ac); rw [cq_ e_199.out e_] at x0; clear e_; go_simp; first | with_reducible rfl | (rw [if_neg (by omega)]; done)); refine pv_ 12 ?_; refine ov_ 13 (fun K hK => ?_); refine bs2_ st [.int .i64 (wrap64 ((rd l0 ac) + (rd (rd_L1 l1 a2) ac)))] 3 ?_; refine hK.out _ _ (st.ev (la_ (Below.refl _ _) _)).en (fun hs => ?_); clear hK K; refine nr_ 29 ?_; refine ov_ 14 (fun K hK => ?_); refine ap2_ ax ak (wrap64 ((rd l0 ac) + (rd (rd_L1 l1 a2) ac))) [.int .i64 (wrap64 ((rd l0 ac) + (rd (rd_L1 l1 a2) ac)))] ((.int .i64 0)) 8 st Tryd.underlying22 ?_ (hl := by have := aW.out; omega); clear st cl; intro P30 q30 w_ st; have cl := cl_ st; refine hK.out _ _ st.en (fun hs => ?_); clear hK K; refine nr_ 30 ?_; refine pv_ 15 ?_; refine done_ (done_of HT_.out (by kernel_rfl)) ?_; clear ix197 ix198 ix199; all_goals (try go_wp2)))
    go_roundg k1
    case measure => have := HK1.out; omega
    case rel => exact ⟨((ak ++ [wrap64 ((rd l0 ac) + (rd (rd_L1 l1 a2) ac))])), (wrap64 (ac + 1)), P30, q30, tx_, tx_, H', ⟨by have := HK1.out; omega⟩, st.en⟩
   ·
    obtain rfl := Option.some.inj H; go_wp2; go_ret; exact ⟨.slice ax ak.length aH, tw_, gtl_ st, st.b⟩

end Go.Proofs.YtmodbemkflkbeaaDoor.MFnExactDeskRun
