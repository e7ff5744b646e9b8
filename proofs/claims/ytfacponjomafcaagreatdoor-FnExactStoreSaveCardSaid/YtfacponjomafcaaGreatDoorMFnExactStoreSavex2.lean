/- For the law FnExactStoreSave: walks of the functions that it reaches: each call returns what the plain function beside it tells. The conditions stand in each statement. -/
import Derived.Test.YtfacponjomafcaaGreatDoorV
import Derived.Test.YtfacponjomafcaaGreatDoorMFnExactStoreSavex0
namespace Go.Proofs.YtfacponjomafcaaGreatDoor.MFnExactStoreSave
open Go.RowKit Go.Proofs.YtfacponjomafcaaGreatDoorW.PrintWords Go.Proofs.YtfacponjomafcaaGreatDoorW.PrintLast Go.Proofs.YtfacponjomafcaaGreatDoorW.PrintMore
attribute [local go_sem] max2_int min2_int max_two min_two max_three min_three max_four min_four   -- for this text's walks alone
set_option linter.unusedVariables false
set_option linter.unusedSimpArgs false
set_option maxHeartbeats 8000000
set_option maxRecDepth 100000

/-! ### laws_szStore: function 13 -/
def laws_szStore.f (a0_0 : ByteArray) (a0_1 : ByteArray) (a0_2 : Int) (a1 : Int) : Option (Int) := if (wrap64 (a1 - (a0_0.size : Int))) < 0 then (some (-1)) else (if (wrap64 ((wrap64 (a1 - (a0_0.size : Int))) - (a0_1.size : Int))) < 0 then (some (-1)) else (some (wrap64 ((wrap64 (a1 - (a0_0.size : Int))) - (a0_1.size : Int)))))
theorem laws_szStore.calls (a0_0 : ByteArray) (a0_1 : ByteArray) (a0_2 : Int) (a1 : Int) (r : Int) (w : World) (h : laws_szStore.f a0_0 a0_1 a0_2 a1 = some r) :
  Calls Tryz.prog 13 #[.agg #[.string a0_0, .string a0_1, .int .i64 a0_2], .int .i64 a1] w fun e w' => e = .returned (.int .i64 r) ∧ Below w.heap.size w w' := by
 have hu41 := Tryz.underlying41; have HB := A_ (Below.refl w.heap.size w); have H : (if (wrap64 (a1 - (a0_0.size : Int))) < 0 then (some (-1)) else (if (wrap64 ((wrap64 (a1 - (a0_0.size : Int))) - (a0_1.size : Int))) < 0 then (some (-1)) else (some (wrap64 ((wrap64 (a1 - (a0_0.size : Int))) - (a0_1.size : Int)))))) = some r := h; clear h; replace H := it_ H; rcases H with ⟨ak, H⟩ | ⟨ak, H⟩
 ·
  obtain rfl := Option.some.inj H; go_enter Tryz.func13, Tryz.ntmps13; go_wp2_with (first | ((with_reducible refine gate_dst (N := 2) rfl ?_); refine be_ 2 #[.string a0_0, .string a0_1, .int .i64 a0_2] 41 ?_; intro aD hg w4 ad hb; have aE := gx_ HB hg; have aF := gx_ HB hg; replace HB := bs_ HB hb; clear hb hg; obtain ⟨a5, a6, a7, a8, a9, bb⟩ := cf3_ ad)); go_ret; exact ⟨tw_, (tb_ HB.out)⟩
 ·
  by_cases c6 : (wrap64 ((wrap64 (a1 - (a0_0.size : Int))) - (a0_1.size : Int))) < 0
  ·
   rw [if_pos c6] at H; have au : decide ((wrap64 ((wrap64 (a1 - (a0_0.size : Int))) - (a0_1.size : Int))) < 0) = true := decide_eq_true c6; have au_ := au; (try simp only [wwl_, wwr_] at au_); clear c6; obtain rfl := Option.some.inj H; go_enter Tryz.func13, Tryz.ntmps13; go_wp2_with (first | ((with_reducible refine gate_dst (N := 2) rfl ?_); refine be_ 2 #[.string a0_0, .string a0_1, .int .i64 a0_2] 41 ?_; intro aD hg w7 ad hb; have aE := gx_ HB hg; have aF := gx_ HB hg; replace HB := bs_ HB hb; clear hb hg; obtain ⟨bc, bd, be, bf, bg, bh⟩ := cf3_ ad)); go_ret; exact ⟨tw_, (tb_ HB.out)⟩
  ·
   rw [if_neg c6] at H; have au : decide ((wrap64 ((wrap64 (a1 - (a0_0.size : Int))) - (a0_1.size : Int))) < 0) = false := decide_eq_false c6; have au_ := au; (try simp only [wwl_, wwr_] at au_); clear c6; obtain rfl := Option.some.inj H; go_enter Tryz.func13, Tryz.ntmps13; go_wp2_with (first | ((with_reducible refine gate_dst (N := 2) rfl ?_); refine be_ 2 #[.string a0_0, .string a0_1, .int .i64 a0_2] 41 ?_; intro aD hg w9 ad hb; have aE := gx_ HB hg; have aF := gx_ HB hg; replace HB := bs_ HB hb; clear hb hg; obtain ⟨aW, aX, aY, aZ, a3, a4⟩ := cf3_ ad)); go_ret; exact ⟨tw_, (tb_ HB.out)⟩

/-! ### spec_l1In: function 40 -/
def spec_l1In.f (a0 : Int) (a1 : Int) (a2 : Int) : Option (Bool) := if a0 ≥ a1 then (some (decide (a0 ≤ a2))) else (some false)
theorem spec_l1In.calls (a0 : Int) (a1 : Int) (a2 : Int) (r : Bool) (w : World) (h : spec_l1In.f a0 a1 a2 = some r) :
  Calls Tryz.prog 40 #[.int .i64 a0, .int .i64 a1, .int .i64 a2] w fun e w' => e = .returned (.bool r) ∧ Drawn0 w w' := by
 have H : (if a0 ≥ a1 then (some (decide (a0 ≤ a2))) else (some false)) = some r := h; clear h; replace H := ih_ H; rcases H with ⟨ar, H⟩ | ⟨ar, H⟩
 ·
  obtain rfl := Option.some.inj H; go_enter Tryz.func40, Tryz.ntmps40; go_wp2; go_ret; exact ⟨tx_, dz_⟩
 ·
  obtain rfl := Option.some.inj H; go_enter Tryz.func40, Tryz.ntmps40; go_wp2; go_ret; exact ⟨tx_, dz_⟩

/-! ### spec_UrnOk: function 59 -/
def spec_UrnOk.l0 : Nat → List Int → Int → Option (Bool)
 | 0, _, _ => none
 | k + 1, x0, x3 => if x3 < (x0.length : Int) then (if 0 ≤ x3 then ((spec_l1In.f (rd x0 x3) 0 40).bind fun aG => (if aG = true then (spec_UrnOk.l0 k x0 (wrap64 (x3 + 1))) else (some false))) else (none)) else ((spec_l1In.f (x0.length : Int) 1 3).bind fun aH => (some aH))
def spec_UrnOk.f (k : Nat) (l0 : List Int) : Option (Bool) := spec_UrnOk.l0 k l0 0
theorem spec_UrnOk.calls (k : Nat) (A0 : Option Addr) (c0 : Nat) (l0 : List Int) (r : Bool) (w : World) (hr0 : Kd.C (Kd.int .i64) w A0 l0.length l0) (hc0 : l0.length ≤ c0) (h : spec_UrnOk.f k l0 = some r) :
  Calls Tryz.prog 59 #[.slice A0 l0.length c0] w fun e w' => e = .returned (.bool r) ∧ Drawn0 w w' := by
 have HR0 := A_ hr0; have HC0 := A_ hc0; clear hr0 hc0; have H : (spec_UrnOk.l0 k l0 0) = some r := h; clear h; have H' := A_ H; clear H; go_enter Tryz.func59, Tryz.ntmps59; go_wp2
 go_loopg [3] k (fun kq v3 w' => ∃ (ac : Int), v3 = .int .i64 ac ∧ Aside0 (spec_UrnOk.l0 kq l0 ac = some r) ∧ Aside0 (kq ≤ k) ∧ Drawn0 w w')
 case atStart => exact ⟨(0), tx_, H', ⟨Nat.le_refl _⟩, dz_⟩
 case round =>
  clear H'; obtain ⟨ac, rfl, HA, HK1, ⟨m1, rfl⟩⟩ := hrel
  cases gk with
  | zero => exact absurd HA.out (by simp [spec_UrnOk.l0])
  | succ k1 =>
   have H := HA.out; clear HA; simp only [spec_UrnOk.l0] at H; replace H := it_ H; rcases H with ⟨aI, H⟩ | ⟨aI, H⟩
   ·
    replace H := in_ H; obtain ⟨ak, H⟩ := H; obtain ⟨aG, A4, H⟩ := bnd_ H; (try dsimp only at H); by_cases c5 : aG = true
    ·
     subst c5; replace H : (spec_UrnOk.l0 k1 l0 (wrap64 (ac + 1))) = some r := by rw [if_pos rfl] at H; exact H
     have H' := A_ H; clear H; obtain ⟨p102, q102, ad102, e102, ax⟩ := a2_ (Kd.at_int HR0.out ac); cases e102; go_wp2_with (first | ((with_reducible refine gate_callee (f := 40) rfl ?_); refine gl_ (some 14) Tryz.func40 #[.int .i64 (rd l0 ac), .int .i64 0, .int .i64 40] ?_; (with_reducible refine (spec_l1In.calls (rd l0 ac) 0 40 true _ A4.out).mono ?_); rintro e w' ⟨rfl, ⟨nd, rfl⟩⟩; refine ⟨_, rfl, ?_⟩))
     go_roundg k1
     case measure => have := HK1.out; omega
     case rel => exact ⟨(wrap64 (ac + 1)), tx_, H', ⟨by have := HK1.out; omega⟩, dz_⟩
    ·
     replace c5 := Bool.eq_false_iff.mpr c5; subst c5; replace H : (some false) = some r := by rw [if_neg (show ¬ (false = true) by decide)] at H; exact H
     obtain rfl := Option.some.inj H; obtain ⟨p102, q102, ad102, e102, ax⟩ := a2_ (Kd.at_int HR0.out ac); cases e102; go_wp2_with (first | ((with_reducible refine gate_callee (f := 40) rfl ?_); refine gl_ (some 14) Tryz.func40 #[.int .i64 (rd l0 ac), .int .i64 0, .int .i64 40] ?_; (with_reducible refine (spec_l1In.calls (rd l0 ac) 0 40 false _ A4.out).mono ?_); rintro e w' ⟨rfl, ⟨nd, rfl⟩⟩; refine ⟨_, rfl, ?_⟩)); go_ret; exact ⟨tx_, dz_⟩
   ·
    obtain ⟨aH, A6, H⟩ := bnd_ H; (try dsimp only at H); obtain rfl := Option.some.inj H; go_wp2_with (first | ((with_reducible refine gate_callee (f := 40) rfl ?_); refine gl_ (some 18) Tryz.func40 #[.int .i64 (l0.length : Int), .int .i64 1, .int .i64 3] ?_; (with_reducible refine (spec_l1In.calls (l0.length : Int) 1 3 aH _ A6.out).mono ?_); rintro e w' ⟨rfl, ⟨nd, rfl⟩⟩; refine ⟨_, rfl, ?_⟩)); go_ret; exact ⟨tx_, dz_⟩

/-! ### spec_StartOk: function 39 -/
def spec_StartOk.l0 : Nat → List Int → Int → Option (Bool)
 | 0, _, _ => none
 | k + 1, x0, x3 => if x3 < (x0.length : Int) then (if 0 ≤ x3 then (if (rd x0 x3) > 10 then (some false) else (spec_StartOk.l0 k x0 (wrap64 (x3 + 1)))) else (none)) else ((spec_UrnOk.f k x0).bind fun aJ => (some aJ))
def spec_StartOk.f (k : Nat) (l0 : List Int) : Option (Bool) := spec_StartOk.l0 k l0 0
theorem spec_StartOk.calls (k : Nat) (A0 : Option Addr) (c0 : Nat) (l0 : List Int) (r : Bool) (w : World) (hr0 : Kd.C (Kd.int .i64) w A0 l0.length l0) (hc0 : l0.length ≤ c0) (h : spec_StartOk.f k l0 = some r) :
  Calls Tryz.prog 39 #[.slice A0 l0.length c0] w fun e w' => e = .returned (.bool r) ∧ Drawn0 w w' := by
 have HR0 := A_ hr0; have HC0 := A_ hc0; clear hr0 hc0; have H : (spec_StartOk.l0 k l0 0) = some r := h; clear h; have H' := A_ H; clear H; go_enter Tryz.func39, Tryz.ntmps39; go_wp2
 go_loopg [3] k (fun kq v3 w' => ∃ (ac : Int), v3 = .int .i64 ac ∧ Aside0 (spec_StartOk.l0 kq l0 ac = some r) ∧ Aside0 (kq ≤ k) ∧ Drawn0 w w')
 case atStart => exact ⟨(0), tx_, H', ⟨Nat.le_refl _⟩, dz_⟩
 case round =>
  clear H'; obtain ⟨ac, rfl, HA, HK1, ⟨m1, rfl⟩⟩ := hrel
  cases gk with
  | zero => exact absurd HA.out (by simp [spec_StartOk.l0])
  | succ k1 =>
   have H := HA.out; clear HA; simp only [spec_StartOk.l0] at H; replace H := it_ H; rcases H with ⟨aI, H⟩ | ⟨aI, H⟩
   ·
    replace H := in_ H; obtain ⟨ak, H⟩ := H; replace H := ig_ H; rcases H with ⟨ar, H⟩ | ⟨ar, H⟩
    ·
     obtain rfl := Option.some.inj H; obtain ⟨p105, q105, ad105, e105, ay⟩ := a2_ (Kd.at_int HR0.out ac); cases e105; go_wp2; go_ret; exact ⟨tx_, dz_⟩
    ·
     have H' := A_ H; clear H; obtain ⟨p105, q105, ad105, e105, ay⟩ := a2_ (Kd.at_int HR0.out ac); cases e105; go_wp2
     go_roundg k1
     case measure => have := HK1.out; omega
     case rel => exact ⟨(wrap64 (ac + 1)), tx_, H', ⟨by have := HK1.out; omega⟩, dz_⟩
   ·
    obtain ⟨aJ, A5, H⟩ := bnd_ H; (try dsimp only at H); obtain rfl := Option.some.inj H; go_wp2_with (first | ((with_reducible refine gate_callee (f := 59) rfl ?_); refine gl_ (some 16) Tryz.func59 #[.slice A0 l0.length c0] ?_; (with_reducible refine (spec_UrnOk.calls k1 _ _ l0 aJ _ ?s1 ?s2 A5.out).mono ?_); (case s1 => exact td_); (case s2 => exact HC0.out); rintro e w' ⟨rfl, ⟨nd, rfl⟩⟩; refine ⟨_, rfl, ?_⟩)); go_ret; exact ⟨tx_, dz_⟩

/-! ### spec_RuleOk: function 60 -/
mutual
def spec_RuleOk.l0 : Nat → Int → List (List Int) → Int → Option (Bool)
 | 0, _, _, _ => none
 | k + 1, x0, x1, x5 => if x5 < (x1.length : Int) then (if 0 ≤ x5 then (if ((rd_L1 x1 x5).length : Int) = x0 then (spec_RuleOk.l1 k x0 x1 x5 0) else (some false)) else (none)) else ((spec_l1In.f x0 1 3).bind fun aK => (if aK = true then (some ((x1.length : Int) == x0)) else (some false)))
def spec_RuleOk.l1 : Nat → Int → List (List Int) → Int → Int → Option (Bool)
 | 0, _, _, _, _ => none
 | k + 1, x0, x1, x5, x6 => if x6 < x0 then (if 0 ≤ x5 then (if x5 < (x1.length : Int) then (if 0 ≤ x6 then (if x6 < ((rd_L1 x1 x5).length : Int) then ((spec_l1In.f (rd (rd_L1 x1 x5) x6) 0 3).bind fun aL => (if aL = true then (spec_RuleOk.l1 k x0 x1 x5 (wrap64 (x6 + 1))) else (if (rd (rd_L1 x1 x5) x6) = (-1) then (if x6 = x5 then (spec_RuleOk.l1 k x0 x1 x5 (wrap64 (x6 + 1))) else (some false)) else (some false)))) else (none)) else (none)) else (none)) else (none)) else (spec_RuleOk.l0 k x0 x1 (wrap64 (x5 + 1)))
end
def spec_RuleOk.f (k : Nat) (a0 : Int) (l1 : List (List Int)) : Option (Bool) := spec_RuleOk.l0 k a0 l1 0
theorem spec_RuleOk.mono_l : ∀ k, (∀ y0 y1 y2, LeO (spec_RuleOk.l0 k y0 y1 y2) (spec_RuleOk.l0 (k + 1) y0 y1 y2)) ∧ (∀ y0 y1 y2 y3, LeO (spec_RuleOk.l1 k y0 y1 y2 y3) (spec_RuleOk.l1 (k + 1) y0 y1 y2 y3))
 | 0 => ⟨fun _ _ _ r h => by simp [spec_RuleOk.l0] at h, fun _ _ _ _ r h => by simp [spec_RuleOk.l1] at h⟩
 | k + 1 => by
  obtain ⟨ih0, ih1⟩ := spec_RuleOk.mono_l k
  refine ⟨?_, ?_⟩
  ·
   intro y0 y1 y2
   unfold spec_RuleOk.l0
   repeat' (with_reducible first | exact ih0 _ _ _ | exact ih1 _ _ _ _ | exact mr_ | exact mn_ | refine mi_ ?_ ?_ | refine mb_ ?_ (fun _ => ?_))
  ·
   intro y0 y1 y2 y3
   unfold spec_RuleOk.l1
   repeat' (with_reducible first | exact ih0 _ _ _ | exact ih1 _ _ _ _ | exact mr_ | exact mn_ | refine mi_ ?_ ?_ | refine mb_ ?_ (fun _ => ?_))
theorem spec_RuleOk.mono : ∀ a0 a1 k, LeO (spec_RuleOk.f k a0 a1) (spec_RuleOk.f (k + 1) a0 a1) := by
 intro a0 a1 k; obtain ⟨ih0, ih1⟩ := spec_RuleOk.mono_l k; unfold spec_RuleOk.f; repeat' (with_reducible first | exact ih0 _ _ _ | exact ih1 _ _ _ _ | exact mr_ | exact mn_ | refine mi_ ?_ ?_ | refine mb_ ?_ (fun _ => ?_))
theorem spec_RuleOk.calls (k : Nat) (a0 : Int) (A1 : Option Addr) (c1 : Nat) (l1 : List (List Int)) (r : Bool) (w : World) (hr1 : Kd.C (Kd.slice 3 (Kd.int .i64)) w A1 l1.length l1) (hc1 : l1.length ≤ c1) (h : spec_RuleOk.f k a0 l1 = some r) :
  Calls Tryz.prog 60 #[.int .i64 a0, .slice A1 l1.length c1] w fun e w' => e = .returned (.bool r) ∧ Drawn0 w w' := by
 have HR1 := A_ hr1; have HC1 := A_ hc1; clear hr1 hc1; have H : (spec_RuleOk.l0 k a0 l1 0) = some r := h; clear h; have H' := A_ H; clear H; go_enter Tryz.func60, Tryz.ntmps60; go_wp2
 go_loopg [5] k (fun kq v5 w' => ∃ (aa : Int), v5 = .int .i64 aa ∧ Aside0 (spec_RuleOk.l0 kq a0 l1 aa = some r) ∧ Aside0 (kq ≤ k) ∧ Drawn0 w w')
 case atStart => exact ⟨(0), tx_, H', ⟨Nat.le_refl _⟩, dz_⟩
 case round =>
  clear H'; obtain ⟨aa, rfl, HA, HK1, ⟨m1, rfl⟩⟩ := hrel
  cases gk with
  | zero => exact absurd HA.out (by simp [spec_RuleOk.l0])
  | succ k1 =>
   have H := HA.out; clear HA; simp only [spec_RuleOk.l0] at H; replace H := it_ H; rcases H with ⟨ak, H⟩ | ⟨ak, H⟩
   ·
    replace H := in_ H; obtain ⟨ar, H⟩ := H; by_cases c5 : ((rd_L1 l1 aa).length : Int) = a0
    ·
     rw [if_pos c5] at H; have az : (((rd_L1 l1 aa).length : Int) == a0) = true := beq_iff_eq.mpr c5; have aP : (((rd_L1 l1 aa).length : Int) != a0) = false := bne_eq_false_iff_eq.mpr c5; clear c5; have H' := A_ H; clear H; obtain ⟨p108, q108, ad108, aM, aN, e108, an, hl108_0, hi108_0⟩ := a2_ (at_L1 HR1.out aa); cases e108; have aA := A_ hi108_0; have aB := A_ hl108_0; clear hi108_0 hl108_0; go_wp2
     go_loopg [6] k1 (fun kq v6 w' => ∃ (ab : Int), v6 = .int .i64 ab ∧ Aside0 (spec_RuleOk.l1 kq a0 l1 aa ab = some r) ∧ Aside0 (kq ≤ k1) ∧ Drawn0 w w')
     case atStart => exact ⟨(0), tx_, H', ⟨Nat.le_refl _⟩, dz_⟩
     case round =>
      clear H'; (try clear c3); (try clear ak); (try clear c4); (try clear ar); (try clear c5); (try clear az); (try clear aP); (try clear an); (try clear p108); (try clear q108); obtain ⟨ab, rfl, HA, HK2, ⟨m2, rfl⟩⟩ := hrel
      cases gk with
      | zero => exact absurd HA.out (by simp [spec_RuleOk.l1])
      | succ k2 =>
       have H := HA.out; clear HA; simp only [spec_RuleOk.l1] at H; replace H := it_ H; rcases H with ⟨au, H⟩ | ⟨au, H⟩
       ·
        replace H := in_ H; obtain ⟨bj, H⟩ := H; replace H := in_ H; obtain ⟨bk, H⟩ := H; replace H := in_ H; obtain ⟨bl, H⟩ := H; replace H := in_ H; obtain ⟨bi, H⟩ := H; obtain ⟨aL, A11, H⟩ := bnd_ H; (try dsimp only at H); by_cases c12 : aL = true
        ·
         subst c12; replace H : (spec_RuleOk.l1 k2 a0 l1 aa (wrap64 (ab + 1))) = some r := by rw [if_pos rfl] at H; exact H
         have H' := A_ H; clear H; have p109 : 0 ≤ (aa : Int) := od_; have q109 : aa < (l1.length : Int) := od_; obtain ⟨ad109, al, am, e109, af, hl109_0, hi109_0⟩ := at_L1 HR1.out aa p109 q109; obtain rfl : ad108 = ad109 := (by injection e109)
         have ae := A_ hi109_0; have ai := A_ hl109_0; clear hi109_0 hl109_0; replace p109 := eq_true p109; replace q109 := eq_true q109; obtain ⟨p110, q110, ad110, e110, aj⟩ := a2_ (Kd.at_int ae.out ab); cases e110; go_wp2_with (first | ((with_reducible refine gate_callee (f := 40) rfl ?_); refine gl_ (some 32) Tryz.func40 #[.int .i64 (rd (rd_L1 l1 aa) ab), .int .i64 0, .int .i64 3] ?_; (with_reducible refine (spec_l1In.calls (rd (rd_L1 l1 aa) ab) 0 3 true _ A11.out).mono ?_); rintro e w' ⟨rfl, ⟨nd, rfl⟩⟩; refine ⟨_, rfl, ?_⟩))
         go_roundg k2
         case measure => have := HK1.out; have := HK2.out; omega
         case rel => exact ⟨(wrap64 (ab + 1)), tx_, H', ⟨by have := HK1.out; have := HK2.out; omega⟩, dz_⟩
        ·
         replace c12 := Bool.eq_false_iff.mpr c12; subst c12; replace H : (if (rd (rd_L1 l1 aa) ab) = (-1) then (if ab = aa then (spec_RuleOk.l1 k2 a0 l1 aa (wrap64 (ab + 1))) else (some false)) else (some false)) = some r := by rw [if_neg (show ¬ (false = true) by decide)] at H; exact H
         by_cases c13 : (rd (rd_L1 l1 aa) ab) = (-1)
         ·
          rw [if_pos c13] at H; have aQ : ((rd (rd_L1 l1 aa) ab) == (-1)) = true := beq_iff_eq.mpr c13; have aR : ((rd (rd_L1 l1 aa) ab) != (-1)) = false := bne_eq_false_iff_eq.mpr c13; clear c13; by_cases c14 : ab = aa
          ·
           rw [if_pos c14] at H; have aU : (ab == aa) = true := beq_iff_eq.mpr c14; have aV : (ab != aa) = false := bne_eq_false_iff_eq.mpr c14; clear c14; have H' := A_ H; clear H; have p109 : 0 ≤ (aa : Int) := od_; have q109 : aa < (l1.length : Int) := od_; obtain ⟨ad109, al, am, e109, af, hl109_0, hi109_0⟩ := at_L1 HR1.out aa p109 q109; obtain rfl : ad108 = ad109 := (by injection e109)
           have ae := A_ hi109_0; have ai := A_ hl109_0; clear hi109_0 hl109_0; replace p109 := eq_true p109; replace q109 := eq_true q109; obtain ⟨p110, q110, ad110, e110, aj⟩ := a2_ (Kd.at_int ae.out ab); cases e110; go_wp2_with (first | ((with_reducible refine gate_callee (f := 40) rfl ?_); refine gl_ (some 32) Tryz.func40 #[.int .i64 (rd (rd_L1 l1 aa) ab), .int .i64 0, .int .i64 3] ?_; (with_reducible refine (spec_l1In.calls (rd (rd_L1 l1 aa) ab) 0 3 false _ A11.out).mono ?_); rintro e w' ⟨rfl, ⟨nd, rfl⟩⟩; refine ⟨_, rfl, ?_⟩; have p112 : 0 ≤ (aa : Int) := od_; have q112 : aa < (l1.length : Int) := od_; obtain ⟨ad112, av, aw, e112, ag, hl112_0, hi112_0⟩ := at_L1 HR1.out aa p112 q112; obtain rfl : ad108 = ad112 := (by injection e112); have ah := A_ hi112_0; have ao := A_ hl112_0; clear hi112_0 hl112_0; replace p112 := eq_true p112; replace q112 := eq_true q112; have ea_ := Option.some.inj (af.symm.trans ag); injection ea_ with ea_ en_ ec_; subst ea_; subst ec_; clear en_; obtain ⟨p113, q113, ad113, e113, ap⟩ := a2_ (Kd.at_int ah.out ab); cases e113))
           go_roundg k2
           case measure => have := HK1.out; have := HK2.out; omega
           case rel => exact ⟨(wrap64 (ab + 1)), tx_, H', ⟨by have := HK1.out; have := HK2.out; omega⟩, dz_⟩
          ·
           rw [if_neg c14] at H; have aU : (ab == aa) = false := beq_eq_false_iff_ne.mpr c14; have aV : (ab != aa) = true := bne_iff_ne.mpr c14; obtain rfl := Option.some.inj H; have p109 : 0 ≤ (aa : Int) := od_; have q109 : aa < (l1.length : Int) := od_; obtain ⟨ad109, al, am, e109, af, hl109_0, hi109_0⟩ := at_L1 HR1.out aa p109 q109; obtain rfl : ad108 = ad109 := (by injection e109)
           have ae := A_ hi109_0; have ai := A_ hl109_0; clear hi109_0 hl109_0; replace p109 := eq_true p109; replace q109 := eq_true q109; obtain ⟨p110, q110, ad110, e110, aj⟩ := a2_ (Kd.at_int ae.out ab); cases e110; go_wp2_with (first | ((with_reducible refine gate_callee (f := 40) rfl ?_); refine gl_ (some 32) Tryz.func40 #[.int .i64 (rd (rd_L1 l1 aa) ab), .int .i64 0, .int .i64 3] ?_; (with_reducible refine (spec_l1In.calls (rd (rd_L1 l1 aa) ab) 0 3 false _ A11.out).mono ?_); rintro e w' ⟨rfl, ⟨nd, rfl⟩⟩; refine ⟨_, rfl, ?_⟩; have p112 : 0 ≤ (aa : Int) := od_; have q112 : aa < (l1.length : Int) := od_; obtain ⟨ad112, av, aw, e112, ag, hl112_0, hi112_0⟩ := at_L1 HR1.out aa p112 q112; obtain rfl : ad108 = ad112 := (by injection e112); have ah := A_ hi112_0; have ao := A_ hl112_0; clear hi112_0 hl112_0; replace p112 := eq_true p112; replace q112 := eq_true q112; have ea_ := Option.some.inj (af.symm.trans ag); injection ea_ with ea_ en_ ec_; subst ea_; subst ec_; clear en_; obtain ⟨p113, q113, ad113, e113, ap⟩ := a2_ (Kd.at_int ah.out ab); cases e113)); go_ret; exact ⟨tx_, dz_⟩
         ·
          rw [if_neg c13] at H; have aQ : ((rd (rd_L1 l1 aa) ab) == (-1)) = false := beq_eq_false_iff_ne.mpr c13; have aR : ((rd (rd_L1 l1 aa) ab) != (-1)) = true := bne_iff_ne.mpr c13; obtain rfl := Option.some.inj H; have p109 : 0 ≤ (aa : Int) := od_; have q109 : aa < (l1.length : Int) := od_; obtain ⟨ad109, al, am, e109, af, hl109_0, hi109_0⟩ := at_L1 HR1.out aa p109 q109; obtain rfl : ad108 = ad109 := (by injection e109)
          have ae := A_ hi109_0; have ai := A_ hl109_0; clear hi109_0 hl109_0; replace p109 := eq_true p109; replace q109 := eq_true q109; obtain ⟨p110, q110, ad110, e110, aj⟩ := a2_ (Kd.at_int ae.out ab); cases e110; go_wp2_with (first | ((with_reducible refine gate_callee (f := 40) rfl ?_); refine gl_ (some 32) Tryz.func40 #[.int .i64 (rd (rd_L1 l1 aa) ab), .int .i64 0, .int .i64 3] ?_; (with_reducible refine (spec_l1In.calls (rd (rd_L1 l1 aa) ab) 0 3 false _ A11.out).mono ?_); rintro e w' ⟨rfl, ⟨nd, rfl⟩⟩; refine ⟨_, rfl, ?_⟩; have p112 : 0 ≤ (aa : Int) := od_; have q112 : aa < (l1.length : Int) := od_; obtain ⟨ad112, av, aw, e112, ag, hl112_0, hi112_0⟩ := at_L1 HR1.out aa p112 q112; obtain rfl : ad108 = ad112 := (by injection e112); have ah := A_ hi112_0; have ao := A_ hl112_0; clear hi112_0 hl112_0; replace p112 := eq_true p112; replace q112 := eq_true q112; have ea_ := Option.some.inj (af.symm.trans ag); injection ea_ with ea_ en_ ec_; subst ea_; subst ec_; clear en_; obtain ⟨p113, q113, ad113, e113, ap⟩ := a2_ (Kd.at_int ah.out ab); cases e113)); go_ret; exact ⟨tx_, dz_⟩
       ·
        have H' := A_ H; clear H; go_wp2
        go_roundg k2
        case measure => have := HK1.out; have := HK2.out; omega
        case rel => exact ⟨(wrap64 (aa + 1)), tx_, H', ⟨by have := HK1.out; have := HK2.out; omega⟩, dz_⟩
    ·
     rw [if_neg c5] at H; have az : (((rd_L1 l1 aa).length : Int) == a0) = false := beq_eq_false_iff_ne.mpr c5; have aP : (((rd_L1 l1 aa).length : Int) != a0) = true := bne_iff_ne.mpr c5; obtain rfl := Option.some.inj H; obtain ⟨p108, q108, ad108, aM, aN, e108, an, hl108_0, hi108_0⟩ := a2_ (at_L1 HR1.out aa); cases e108; have aA := A_ hi108_0; have aB := A_ hl108_0; clear hi108_0 hl108_0; go_wp2; go_ret; exact ⟨tx_, dz_⟩
   ·
    obtain ⟨aK, A15, H⟩ := bnd_ H; (try dsimp only at H); by_cases c16 : aK = true
    ·
     subst c16; replace H : (some ((l1.length : Int) == a0)) = some r := by rw [if_pos rfl] at H; exact H
     obtain rfl := Option.some.inj H; go_wp2_with (first | ((with_reducible refine gate_callee (f := 40) rfl ?_); refine gl_ (some 51) Tryz.func40 #[.int .i64 a0, .int .i64 1, .int .i64 3] ?_; (with_reducible refine (spec_l1In.calls a0 1 3 true _ A15.out).mono ?_); rintro e w' ⟨rfl, ⟨nd, rfl⟩⟩; refine ⟨_, rfl, ?_⟩)); go_ret; exact ⟨tx_, dz_⟩
    ·
     replace c16 := Bool.eq_false_iff.mpr c16; subst c16; replace H : (some false) = some r := by rw [if_neg (show ¬ (false = true) by decide)] at H; exact H
     obtain rfl := Option.some.inj H; go_wp2_with (first | ((with_reducible refine gate_callee (f := 40) rfl ?_); refine gl_ (some 51) Tryz.func40 #[.int .i64 a0, .int .i64 1, .int .i64 3] ?_; (with_reducible refine (spec_l1In.calls a0 1 3 false _ A15.out).mono ?_); rintro e w' ⟨rfl, ⟨nd, rfl⟩⟩; refine ⟨_, rfl, ?_⟩)); go_ret; exact ⟨tx_, dz_⟩

/-! ### spec_WordOk: function 61 -/
def spec_WordOk.l0 : Nat → Int → List Int → Int → Option (Bool)
 | 0, _, _, _ => none
 | k + 1, x0, x1, x5 => if x5 < (x1.length : Int) then (if 0 ≤ x5 then (if (rd x1 x5) < 0 then (some false) else (if (rd x1 x5) ≥ x0 then (some false) else (spec_WordOk.l0 k x0 x1 (wrap64 (x5 + 1))))) else (none)) else ((spec_l1In.f x0 1 3).bind fun aO => (if aO = true then (some (decide ((x1.length : Int) ≤ 6))) else (some false)))
def spec_WordOk.f (k : Nat) (a0 : Int) (l1 : List Int) : Option (Bool) := spec_WordOk.l0 k a0 l1 0
theorem spec_WordOk.calls (k : Nat) (a0 : Int) (A1 : Option Addr) (c1 : Nat) (l1 : List Int) (r : Bool) (w : World) (hr1 : Kd.C (Kd.int .i64) w A1 l1.length l1) (hc1 : l1.length ≤ c1) (h : spec_WordOk.f k a0 l1 = some r) :
  Calls Tryz.prog 61 #[.int .i64 a0, .slice A1 l1.length c1] w fun e w' => e = .returned (.bool r) ∧ Drawn0 w w' := by
 have HR1 := A_ hr1; have HC1 := A_ hc1; clear hr1 hc1; have H : (spec_WordOk.l0 k a0 l1 0) = some r := h; clear h; have H' := A_ H; clear H; go_enter Tryz.func61, Tryz.ntmps61; go_wp2
 go_loopg [5] k (fun kq v5 w' => ∃ (aa : Int), v5 = .int .i64 aa ∧ Aside0 (spec_WordOk.l0 kq a0 l1 aa = some r) ∧ Aside0 (kq ≤ k) ∧ Drawn0 w w')
 case atStart => exact ⟨(0), tx_, H', ⟨Nat.le_refl _⟩, dz_⟩
 case round =>
  clear H'; obtain ⟨aa, rfl, HA, HK1, ⟨m1, rfl⟩⟩ := hrel
  cases gk with
  | zero => exact absurd HA.out (by simp [spec_WordOk.l0])
  | succ k1 =>
   have H := HA.out; clear HA; simp only [spec_WordOk.l0] at H; replace H := it_ H; rcases H with ⟨ak, H⟩ | ⟨ak, H⟩
   ·
    replace H := in_ H; obtain ⟨ar, H⟩ := H; replace H := it_ H; rcases H with ⟨az, H⟩ | ⟨az, H⟩
    ·
     obtain rfl := Option.some.inj H; obtain ⟨p114, q114, ad114, e114, aq⟩ := a2_ (Kd.at_int HR1.out aa); cases e114; go_wp2; go_ret; exact ⟨tx_, dz_⟩
    ·
     replace H := ih_ H; rcases H with ⟨au, H⟩ | ⟨au, H⟩
     ·
      obtain rfl := Option.some.inj H; obtain ⟨p114, q114, ad114, e114, aq⟩ := a2_ (Kd.at_int HR1.out aa); cases e114; have p115 : 0 ≤ (aa : Int) := od_; have q115 : aa < (l1.length : Int) := od_; obtain ⟨ad115, e115, aC⟩ := Kd.at_int HR1.out aa p115 q115; obtain rfl : ad114 = ad115 := (by injection e115)
      replace p115 := eq_true p115; replace q115 := eq_true q115; go_wp2; go_ret; exact ⟨tx_, dz_⟩
     ·
      have H' := A_ H; clear H; obtain ⟨p114, q114, ad114, e114, aq⟩ := a2_ (Kd.at_int HR1.out aa); cases e114; have p115 : 0 ≤ (aa : Int) := od_; have q115 : aa < (l1.length : Int) := od_; obtain ⟨ad115, e115, aC⟩ := Kd.at_int HR1.out aa p115 q115; obtain rfl : ad114 = ad115 := (by injection e115)
      replace p115 := eq_true p115; replace q115 := eq_true q115; go_wp2
      go_roundg k1
      case measure => have := HK1.out; omega
      case rel => exact ⟨(wrap64 (aa + 1)), tx_, H', ⟨by have := HK1.out; omega⟩, dz_⟩
   ·
    obtain ⟨aO, A7, H⟩ := bnd_ H; (try dsimp only at H); by_cases c8 : aO = true
    ·
     subst c8; replace H : (some (decide ((l1.length : Int) ≤ 6))) = some r := by rw [if_pos rfl] at H; exact H
     obtain rfl := Option.some.inj H; go_wp2_with (first | ((with_reducible refine gate_callee (f := 40) rfl ?_); refine gl_ (some 26) Tryz.func40 #[.int .i64 a0, .int .i64 1, .int .i64 3] ?_; (with_reducible refine (spec_l1In.calls a0 1 3 true _ A7.out).mono ?_); rintro e w' ⟨rfl, ⟨nd, rfl⟩⟩; refine ⟨_, rfl, ?_⟩)); go_ret; exact ⟨tx_, dz_⟩
    ·
     replace c8 := Bool.eq_false_iff.mpr c8; subst c8; replace H : (some false) = some r := by rw [if_neg (show ¬ (false = true) by decide)] at H; exact H
     obtain rfl := Option.some.inj H; go_wp2_with (first | ((with_reducible refine gate_callee (f := 40) rfl ?_); refine gl_ (some 26) Tryz.func40 #[.int .i64 a0, .int .i64 1, .int .i64 3] ?_; (with_reducible refine (spec_l1In.calls a0 1 3 false _ A7.out).mono ?_); rintro e w' ⟨rfl, ⟨nd, rfl⟩⟩; refine ⟨_, rfl, ?_⟩)); go_ret; exact ⟨tx_, dz_⟩

end Go.Proofs.YtfacponjomafcaaGreatDoor.MFnExactStoreSave
