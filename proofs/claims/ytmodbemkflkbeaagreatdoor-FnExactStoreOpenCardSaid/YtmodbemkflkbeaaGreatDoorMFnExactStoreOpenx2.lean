/- For the law FnExactStoreOpen: walks of the functions that it reaches: each call returns what the plain function beside it tells. The conditions stand in each statement. -/
import Derived.Test.YtmodbemkflkbeaaGreatDoorV
import Derived.Test.YtmodbemkflkbeaaGreatDoorMFnExactStoreOpenx0
namespace Go.Proofs.YtmodbemkflkbeaaGreatDoor.MFnExactStoreOpen
open Go.RowKit Go.Proofs.YtmodbemkflkbeaaGreatDoorW.PrintWords Go.Proofs.YtmodbemkflkbeaaGreatDoorW.PrintLast Go.Proofs.YtmodbemkflkbeaaGreatDoorW.PrintMore
attribute [local go_sem] max2_int min2_int max_two min_two max_three min_three max_four min_four   -- for this text's walks alone
set_option linter.unusedVariables false
set_option linter.unusedSimpArgs false
set_option maxHeartbeats 8000000
set_option maxRecDepth 100000

/-! ### laws_szStore: function 4 -/
def laws_szStore.f (a0_0 : ByteArray) (a0_1 : ByteArray) (a0_2 : Int) (a1 : Int) : Option (Int) := if (wrap64 (a1 - (a0_0.size : Int))) < 0 then (some (-1)) else (if (wrap64 ((wrap64 (a1 - (a0_0.size : Int))) - (a0_1.size : Int))) < 0 then (some (-1)) else (some (wrap64 ((wrap64 (a1 - (a0_0.size : Int))) - (a0_1.size : Int)))))
theorem laws_szStore.z0 {P_ : Prop} (h_ : P_ := by go_wp2_with (first | ((with_reducible refine gate_dst (N := 2) rfl ?_); refine al_ st ?_; clear st cl; intro g2 w_ st; have cl := cl_ st)); (go_ret; exact ⟨tw_, st.b⟩)) : P_ := h_
theorem laws_szStore.calls (a0_0 : ByteArray) (a0_1 : ByteArray) (a0_2 : Int) (a1 : Int) (r : Int) (w : World) (h : laws_szStore.f a0_0 a0_1 a0_2 a1 = some r) :
  Calls Tryz.prog 4 #[.agg #[.string a0_0, .string a0_1, .int .i64 a0_2], .int .i64 a1] w fun e w' => e = .returned (.int .i64 r) ∧ Below w.heap.size w w' := by
 have hu23 := Tryz.underlying23; have st := ST.nil w; have s0 := st; have cl := cl_ st; have H := h; clear h; unfold laws_szStore.f at H; go_enter Tryz.func4, Tryz.ntmps4; replace H := it_ H; rcases H with ⟨ag, H⟩ | ⟨ag, H⟩
 ·
  obtain rfl := Option.some.inj H; exact laws_szStore.z0
 ·
  by_cases c4 : (wrap64 ((wrap64 (a1 - (a0_0.size : Int))) - (a0_1.size : Int))) < 0
  ·
   rw [if_pos c4] at H; have ah : decide ((wrap64 ((wrap64 (a1 - (a0_0.size : Int))) - (a0_1.size : Int))) < 0) = true := decide_eq_true c4; have ah_ := ah; (try simp only [wwl_, wwr_] at ah_); clear c4; obtain rfl := Option.some.inj H; exact laws_szStore.z0
  ·
   rw [if_neg c4] at H; have ah : decide ((wrap64 ((wrap64 (a1 - (a0_0.size : Int))) - (a0_1.size : Int))) < 0) = false := decide_eq_false c4; have ah_ := ah; (try simp only [wwl_, wwr_] at ah_); clear c4; obtain rfl := Option.some.inj H; exact laws_szStore.z0

/-! ### spec_l1Cut: function 24 -/
def spec_l1Cut.l0 : Nat → ByteArray → Int → List ByteArray → Int → Int → Option (List ByteArray)
 | 0, _, _, _, _, _ => none
 | k + 1, x0, x1, x5, x6, x7 => if x7 < (x0.size : Int) then (if 0 ≤ x7 then (if (bt x0 x7) = x1 then (if 0 ≤ x6 then (if x6 ≤ x7 then (if x7 ≤ (x0.size : Int) then (if x5.length < 8796093022208 then (spec_l1Cut.l0 k x0 x1 (x5 ++ [x0.extract (x6 : Int).toNat (x7 : Int).toNat]) (wrap64 (x7 + 1)) (wrap64 (x7 + 1))) else (none)) else (none)) else (none)) else (none)) else (spec_l1Cut.l0 k x0 x1 x5 x6 (wrap64 (x7 + 1)))) else (none)) else (if 0 ≤ x6 then (if x6 ≤ (x0.size : Int) then (if x5.length < 8796093022208 then (some (x5 ++ [x0.extract (x6 : Int).toNat x0.size])) else (none)) else (none)) else (none))
def spec_l1Cut.f (k : Nat) (a0 : ByteArray) (a1 : Int) : Option (List ByteArray) := spec_l1Cut.l0 k a0 a1 (([] : List ByteArray)) 0 0
theorem spec_l1Cut.mono_l : ∀ k, (∀ y0 y1 y2 y3 y4, LeO (spec_l1Cut.l0 k y0 y1 y2 y3 y4) (spec_l1Cut.l0 (k + 1) y0 y1 y2 y3 y4))
 | 0 => fun _ _ _ _ _ r h => by simp [spec_l1Cut.l0] at h
 | k + 1 => by
  have ih0 := spec_l1Cut.mono_l k
  ·
   intro y0 y1 y2 y3 y4
   unfold spec_l1Cut.l0
   repeat' (with_reducible first | exact ih0 _ _ _ _ _ | exact mr_ | exact mn_ | refine mi_ ?_ ?_ | refine mb_ ?_ (fun _ => ?_))
theorem spec_l1Cut.mono : ∀ a0 a1 k, LeO (spec_l1Cut.f k a0 a1) (spec_l1Cut.f (k + 1) a0 a1) := by
 intro a0 a1 k; have ih0 := spec_l1Cut.mono_l k; unfold spec_l1Cut.f; repeat' (with_reducible first | exact ih0 _ _ _ _ _ | exact mr_ | exact mn_ | refine mi_ ?_ ?_ | refine mb_ ?_ (fun _ => ?_))
theorem spec_l1Cut.z0 {P_ : Prop} (h_ : P_ := by go_wp2_with (first | ((with_reducible refine gate_dst (N := 26) rfl ?_); refine ap_ al ae (a0.extract (ad : Int).toNat (ac : Int).toNat) [.string (a0.extract (ad : Int).toNat (ac : Int).toNat)] ((.string ⟨#[]⟩)) 16 st Tryz.underlying52 ?_ (hl := by have := aH.out; omega); clear st cl; intro P26 q26 w_ st; have cl := cl_ st) | ((with_reducible refine gate_dst (N := 34) rfl ?_); refine ap_ al ae (a0.extract (ad : Int).toNat a0.size) [.string (a0.extract (ad : Int).toNat a0.size)] ((.string ⟨#[]⟩)) 16 st Tryz.underlying52 ?_ (hl := by have := aI.out; omega); clear st cl; intro P34 q34 w_ st; have cl := cl_ st)); first | (go_roundg k1; (case measure => have := HK1.out; omega); (case rel => exact ⟨((ae ++ [a0.extract (ad : Int).toNat (ac : Int).toNat])), (wrap64 (ac + 1)), (wrap64 (ac + 1)), P26, q26, tx_, tx_, tx_, H', ⟨by have := HK1.out; omega⟩, st.en⟩)) | (go_roundg k1; (case measure => have := HK1.out; omega); (case rel => exact ⟨(ae), (ad), (wrap64 (ac + 1)), al, ar, tx_, tx_, tx_, H', ⟨by have := HK1.out; omega⟩, st.en⟩)) | (go_ret; exact ⟨.slice P34 (ae ++ [a0.extract (ad : Int).toNat a0.size]).length q34, tw_, gtl_ st, st.b⟩)) : P_ := h_
theorem spec_l1Cut.calls (k : Nat) (a0 : ByteArray) (a1 : Int) (r : List ByteArray) (w : World) (h : spec_l1Cut.f k a0 a1 = some r) :
  Calls Tryz.prog 24 #[.string a0, .int .u8 a1] w fun e w' => ∃ v0_ : Value, e = .returned (v0_) ∧ Kd.R Kd.string 9 w' w.heap.size (fun _ => True) v0_ r ∧ Below w.heap.size w w' := by
 have st := ST.nil w; have s0 := st; have cl := cl_ st; have H := h; clear h; unfold spec_l1Cut.f at H; go_enter Tryz.func24, Tryz.ntmps24; have H' := A_ H; clear H; go_wp2_with (first | ((with_reducible refine gate_dst (N := 8) rfl ?_); refine nwl_ Kd.string 9 (([] : List ByteArray) : List ByteArray) [] st ?_; clear st cl; intro B8_0 d8_0 w_ st; have cl := cl_ st))
 go_loopg [5, 6, 7] k (fun kq v5 v6 v7 w' => ∃ (ae : List ByteArray) (ad : Int) (ac : Int) (al : Option Addr) (ar : Nat), v5 = .slice al ae.length ar ∧ v6 = .int .i64 ad ∧ v7 = .int .i64 ac ∧ Aside0 (spec_l1Cut.l0 kq a0 a1 ae ad ac = some r) ∧ Aside0 (kq ≤ k) ∧ ST w [] [AR Kd.string 9 w.heap.size (.slice al ae.length ar) ae] w')
 case atStart => exact ⟨(([] : List ByteArray)), (0), (0), B8_0, d8_0, tx_, tx_, tx_, H', ⟨Nat.le_refl _⟩, st.en⟩
 case round =>
  clear H' st cl; obtain ⟨ae, ad, ac, al, ar, rfl, rfl, rfl, HA, HK1, st⟩ := hrel; have cl := cl_ st
  cases gk with
  | zero => exact absurd HA.out (by simp [spec_l1Cut.l0])
  | succ k1 =>
   have H := HA.out; clear HA; simp only [spec_l1Cut.l0] at H; replace H := it_ H; rcases H with ⟨ah, H⟩ | ⟨ah, H⟩
   ·
    replace H := in_ H; obtain ⟨ai, H⟩ := H; have y6a : (0 ≤ (ac : Int)) = True := eq_true (by first | exact od_ | omega); have y6b : ((ac : Int) < (a0.size : Int)) = True := eq_true (by first | exact od_ | omega); have y6x := bt_at a0 ac; by_cases c7 : (bt a0 ac) = a1
    ·
     rw [if_pos c7] at H; have aA : ((bt a0 ac) == a1) = true := beq_iff_eq.mpr c7; have aB : ((bt a0 ac) != a1) = false := bne_eq_false_iff_eq.mpr c7; clear c7; replace H := i0_ H; obtain ⟨c8, H⟩ := H; have aU := eq_true c8; have aV : decide (0 ≤ ad) = true := decide_eq_true c8; clear c8; replace H := i0_ H; obtain ⟨c9, H⟩ := H; have aJ := eq_true c9; have aW : decide (ad ≤ ac) = true := decide_eq_true c9; clear c9; replace H := i0_ H; obtain ⟨c10, H⟩ := H; have ax := eq_true c10; have aK : decide (ac ≤ (a0.size : Int)) = true := decide_eq_true c10; clear c10; replace H := il_ H; obtain ⟨aH, H⟩ := H; have H' := A_ H; clear H; exact spec_l1Cut.z0
    ·
     rw [if_neg c7] at H; have aA : ((bt a0 ac) == a1) = false := beq_eq_false_iff_ne.mpr c7; have aB : ((bt a0 ac) != a1) = true := bne_iff_ne.mpr c7; have H' := A_ H; clear H; exact spec_l1Cut.z0
   ·
    replace H := i0_ H; obtain ⟨c12, H⟩ := H; have ay := eq_true c12; have aO : decide (0 ≤ ad) = true := decide_eq_true c12; clear c12; replace H := i0_ H; obtain ⟨c13, H⟩ := H; have az := eq_true c13; have aP : decide (ad ≤ (a0.size : Int)) = true := decide_eq_true c13; clear c13; replace H := il_ H; obtain ⟨aI, H⟩ := H; obtain rfl := Option.some.inj H; exact spec_l1Cut.z0
/-! ### spec_l1In: function 23 -/
def spec_l1In.f (a0 : Int) (a1 : Int) (a2 : Int) : Option (Bool) := if a0 ≥ a1 then (some (decide (a0 ≤ a2))) else (some false)
theorem spec_l1In.calls (a0 : Int) (a1 : Int) (a2 : Int) (r : Bool) (w : World) (h : spec_l1In.f a0 a1 a2 = some r) :
  Calls Tryz.prog 23 #[.int .i64 a0, .int .i64 a1, .int .i64 a2] w fun e w' => e = .returned (.bool r) ∧ Drawn0 w w' := by
 have H : (if a0 ≥ a1 then (some (decide (a0 ≤ a2))) else (some false)) = some r := h; clear h; replace H := ih_ H; rcases H with ⟨ah, H⟩ | ⟨ah, H⟩
 ·
  obtain rfl := Option.some.inj H; go_enter Tryz.func23, Tryz.ntmps23; go_wp2; go_ret; exact ⟨tx_, dz_⟩
 ·
  obtain rfl := Option.some.inj H; go_enter Tryz.func23, Tryz.ntmps23; go_wp2; go_ret; exact ⟨tx_, dz_⟩

/-! ### spec_l1Digits: function 26 -/
mutual
def spec_l1Digits.j0 : Nat → ByteArray → Bool → Option (Int)
 | 0, _, _ => none
 | k + 1, x0, x18 => if x18 = true then (some (-1)) else (spec_l1Digits.l0 k x0 0 0)
def spec_l1Digits.l0 : Nat → ByteArray → Int → Int → Option (Int)
 | 0, _, _, _ => none
 | k + 1, x0, x3, x4 => if x4 < (x0.size : Int) then (if 0 ≤ x4 then (if (bt x0 x4) < 48 then (some (-1)) else (if (bt x0 x4) > 57 then (some (-1)) else (spec_l1Digits.l0 k x0 (wrap64 ((wrap64 (10 * x3)) + (((bt x0 x4) - 48) % 256))) (wrap64 (x4 + 1))))) else (none)) else (some x3)
end
def spec_l1Digits.f (k : Nat) (a0 : ByteArray) : Option (Int) := (spec_l1In.f (a0.size : Int) 1 6).bind fun an => (if an = true then (if (a0.size : Int) > 1 then (if 0 < (a0.size : Int) then (spec_l1Digits.j0 k a0 ((bt a0 0) == 48)) else (none)) else (spec_l1Digits.j0 k a0 false)) else (spec_l1Digits.j0 k a0 true))
theorem spec_l1Digits.mono_l : ∀ k, (∀ y0 y1, LeO (spec_l1Digits.j0 k y0 y1) (spec_l1Digits.j0 (k + 1) y0 y1)) ∧ (∀ y0 y1 y2, LeO (spec_l1Digits.l0 k y0 y1 y2) (spec_l1Digits.l0 (k + 1) y0 y1 y2))
 | 0 => ⟨fun _ _ r h => by simp [spec_l1Digits.j0] at h, fun _ _ _ r h => by simp [spec_l1Digits.l0] at h⟩
 | k + 1 => by
  obtain ⟨ih0, ih1⟩ := spec_l1Digits.mono_l k
  refine ⟨?_, ?_⟩
  ·
   intro y0 y1
   unfold spec_l1Digits.j0
   repeat' (with_reducible first | exact ih0 _ _ | exact ih1 _ _ _ | exact mr_ | exact mn_ | refine mi_ ?_ ?_ | refine mb_ ?_ (fun _ => ?_))
  ·
   intro y0 y1 y2
   unfold spec_l1Digits.l0
   repeat' (with_reducible first | exact ih0 _ _ | exact ih1 _ _ _ | exact mr_ | exact mn_ | refine mi_ ?_ ?_ | refine mb_ ?_ (fun _ => ?_))
theorem spec_l1Digits.mono : ∀ a0 k, LeO (spec_l1Digits.f k a0) (spec_l1Digits.f (k + 1) a0) := by
 intro a0 k; obtain ⟨ih0, ih1⟩ := spec_l1Digits.mono_l k; unfold spec_l1Digits.f; repeat' (with_reducible first | exact ih0 _ _ | exact ih1 _ _ _ | exact mr_ | exact mn_ | refine mi_ ?_ ?_ | refine mb_ ?_ (fun _ => ?_))
theorem spec_l1Digits.calls (k : Nat) (a0 : ByteArray) (r : Int) (w : World) (h : spec_l1Digits.f k a0 = some r) :
  Calls Tryz.prog 26 #[.string a0] w fun e w' => e = .returned (.int .i64 r) ∧ Drawn0 w w' := by
 have H : ((spec_l1In.f (a0.size : Int) 1 6).bind fun an => (if an = true then (if (a0.size : Int) > 1 then (if 0 < (a0.size : Int) then (spec_l1Digits.j0 k a0 ((bt a0 0) == 48)) else (none)) else (spec_l1Digits.j0 k a0 false)) else (spec_l1Digits.j0 k a0 true))) = some r := h; clear h; have HC2 := A_ H; clear H; go_enter Tryz.func26, Tryz.ntmps26
 go_upto_region 1 with (fail)
 go_cut [18] (fun aX wc => ∃ (kq : Nat) (aj : Bool), aX = .bool aj ∧ Aside0 (spec_l1Digits.j0 kq a0 aj = some r) ∧ Aside0 (kq ≤ k) ∧ Drawn0 w wc)
 case first =>
  have H := HC2.out; clear HC2; obtain ⟨an, A3, H⟩ := bnd_ H; (try dsimp only at H); by_cases c4 : an = true
  ·
   subst c4; replace H : (if (a0.size : Int) > 1 then (if 0 < (a0.size : Int) then (spec_l1Digits.j0 k a0 ((bt a0 0) == 48)) else (none)) else (spec_l1Digits.j0 k a0 false)) = some r := by rw [if_pos rfl] at H; exact H
   by_cases c5 : (a0.size : Int) > 1
   ·
    rw [if_pos c5] at H; have ai : decide (1 < (a0.size : Int)) = true := decide_eq_true c5; have aC : decide (1 < a0.size) = true := decide_eq_true (by omega); clear c5; (first | rw [ai] | (simp only [i64_w, i32_w]; rw [ai]) | skip); replace H := i0_ H; obtain ⟨c6, H⟩ := H; have ao : decide (0 < (a0.size : Int)) = true := decide_eq_true c6; have ap : decide (0 < a0.size) = true := decide_eq_true (by omega); clear c6; have H' := A_ H; clear H; go_wp2_with (first | ((with_reducible refine gate_callee (f := 23) rfl ?_); refine gl_ (some 7) Tryz.func23 #[.int .i64 (a0.size : Int), .int .i64 1, .int .i64 6] ?_; (with_reducible refine (spec_l1In.calls (a0.size : Int) 1 6 true _ A3.out).mono ?_); rintro e w' ⟨rfl, ⟨nd, rfl⟩⟩; refine ⟨_, rfl, ?_⟩; have p7 : 0 ≤ (0 : Int) := (by omega); have q7 : 0 < a0.size := (by have : (0 : Int) < (a0.size : Int) := od_; omega); have hx7 : ∀ h : 0 < a0.size, ((a0[0]'h).toNat : Int) = bt a0 0 := bt_at a0 0; clear p7; have aQ : (0 < (a0.size : Int)) = True := eq_true (od_); replace q7 := eq_true q7)); go_meet
    case rel => exact ⟨_, (((bt a0 0) == 48)), tx_, H', ⟨by first | omega | exact Nat.le_refl _⟩, dz_⟩
   ·
    rw [if_neg c5] at H; have ai : decide (1 < (a0.size : Int)) = false := decide_eq_false c5; have aC : decide (1 < a0.size) = false := decide_eq_false (by omega); clear c5; (first | rw [ai] | (simp only [i64_w, i32_w]; rw [ai]) | skip); have H' := A_ H; clear H; go_wp2_with (first | ((with_reducible refine gate_callee (f := 23) rfl ?_); refine gl_ (some 7) Tryz.func23 #[.int .i64 (a0.size : Int), .int .i64 1, .int .i64 6] ?_; (with_reducible refine (spec_l1In.calls (a0.size : Int) 1 6 true _ A3.out).mono ?_); rintro e w' ⟨rfl, ⟨nd, rfl⟩⟩; refine ⟨_, rfl, ?_⟩)); go_meet
    case rel => exact ⟨_, (false), tx_, H', ⟨by first | omega | exact Nat.le_refl _⟩, dz_⟩
  ·
   replace c4 := Bool.eq_false_iff.mpr c4; subst c4; replace H : (spec_l1Digits.j0 k a0 true) = some r := by rw [if_neg (show ¬ (false = true) by decide)] at H; exact H
   have H' := A_ H; clear H; go_wp2_with (first | ((with_reducible refine gate_callee (f := 23) rfl ?_); refine gl_ (some 7) Tryz.func23 #[.int .i64 (a0.size : Int), .int .i64 1, .int .i64 6] ?_; (with_reducible refine (spec_l1In.calls (a0.size : Int) 1 6 false _ A3.out).mono ?_); rintro e w' ⟨rfl, ⟨nd, rfl⟩⟩; refine ⟨_, rfl, ?_⟩)); go_meet
   case rel => exact ⟨_, (true), tx_, H', ⟨by first | omega | exact Nat.le_refl _⟩, dz_⟩
 case rest =>
  clear HC2; obtain ⟨kq, aj, rfl, HA, HJ1, ⟨mc1, rfl⟩⟩ := hcut
  cases kq with
  | zero => exact absurd HA.out (by simp [spec_l1Digits.j0])
  | succ kj1 =>
   have H := HA.out; clear HA; simp only [spec_l1Digits.j0] at H; by_cases c8 : aj = true
   ·
    subst c8; replace H : (some (-1)) = some r := by rw [if_pos rfl] at H; exact H
    obtain rfl := Option.some.inj H; go_wp2; go_ret; exact ⟨tx_, dz_⟩
   ·
    replace c8 := Bool.eq_false_iff.mpr c8; subst c8; replace H : (spec_l1Digits.l0 kj1 a0 0 0) = some r := by rw [if_neg (show ¬ (false = true) by decide)] at H; exact H
    have H' := A_ H; clear H; go_wp2
    go_loopg [3, 4] kj1 (fun kq v3 v4 w' => ∃ (au : Int) (ab : Int), v3 = .int .i64 au ∧ v4 = .int .i64 ab ∧ Aside0 (spec_l1Digits.l0 kq a0 au ab = some r) ∧ Aside0 (kq ≤ kj1) ∧ Drawn0 w w')
    case atStart => exact ⟨(0), (0), tx_, tx_, H', ⟨Nat.le_refl _⟩, dz_⟩
    case round =>
     clear H'; (try clear c8); obtain ⟨au, ab, rfl, rfl, HA, HK2, ⟨m2, rfl⟩⟩ := hrel
     cases gk with
     | zero => exact absurd HA.out (by simp [spec_l1Digits.l0])
     | succ k2 =>
      have H := HA.out; clear HA; simp only [spec_l1Digits.l0] at H; replace H := it_ H; rcases H with ⟨aJ, H⟩ | ⟨aJ, H⟩
      ·
       replace H := in_ H; obtain ⟨ax, H⟩ := H; replace H := it_ H; rcases H with ⟨ay, H⟩ | ⟨ay, H⟩
       ·
        obtain rfl := Option.some.inj H; have p11 : 0 ≤ (ab : Int) := od_; have q11 : ab < (a0.size : Int) := od_; have hx11 := bt_at a0 ab; replace p11 := eq_true p11; replace q11 := eq_true q11; go_wp2; go_ret; exact ⟨tx_, dz_⟩
       ·
        replace H := ig_ H; rcases H with ⟨aL, H⟩ | ⟨aL, H⟩
        ·
         obtain rfl := Option.some.inj H; have p11 : 0 ≤ (ab : Int) := od_; have q11 : ab < (a0.size : Int) := od_; have hx11 := bt_at a0 ab; replace p11 := eq_true p11; replace q11 := eq_true q11; have p13 : 0 ≤ (ab : Int) := od_; have q13 : ab < (a0.size : Int) := od_; have hx13 := bt_at a0 ab; replace p13 := eq_true p13; replace q13 := eq_true q13; go_wp2; go_ret; exact ⟨tx_, dz_⟩
        ·
         have H' := A_ H; clear H; have p11 : 0 ≤ (ab : Int) := od_; have q11 : ab < (a0.size : Int) := od_; have hx11 := bt_at a0 ab; replace p11 := eq_true p11; replace q11 := eq_true q11; have p13 : 0 ≤ (ab : Int) := od_; have q13 : ab < (a0.size : Int) := od_; have hx13 := bt_at a0 ab; replace p13 := eq_true p13; replace q13 := eq_true q13; have p15 : 0 ≤ (ab : Int) := od_; have q15 : ab < (a0.size : Int) := od_; have hx15 := bt_at a0 ab; replace p15 := eq_true p15; replace q15 := eq_true q15; go_wp2
         go_roundg k2
         case measure => have := HJ1.out; have := HK2.out; omega
         case rel => exact ⟨(wrap64 ((wrap64 (10 * au)) + (((bt a0 ab) - 48) % 256))), (wrap64 (ab + 1)), tx_, tx_, H', ⟨by have := HJ1.out; have := HK2.out; omega⟩, dz_⟩
      ·
       obtain rfl := Option.some.inj H; go_wp2; go_ret; exact ⟨tx_, dz_⟩

/-! ### spec_l15Signed: function 25 -/
def spec_l15Signed.j0 : Nat → ByteArray → Bool → Option (Int)
 | 0, _, _ => none
 | k + 1, x0, x17 => if x17 = true then (if 1 ≤ (x0.size : Int) then ((spec_l1Digits.f k (x0.extract 1 x0.size)).bind fun aq => (some (wrap64 (-aq)))) else (none)) else ((spec_l1Digits.f k x0).bind fun af => (if af < 0 then (some (-100)) else (some af)))
def spec_l15Signed.f (k : Nat) (a0 : ByteArray) : Option (Int) := if (a0.size : Int) > 1 then (if 0 < (a0.size : Int) then (if (bt a0 0) = 45 then (if 1 ≤ (a0.size : Int) then ((spec_l1Digits.f k (a0.extract 1 a0.size)).bind fun am => (spec_l15Signed.j0 k a0 (decide (am > 0)))) else (none)) else (spec_l15Signed.j0 k a0 false)) else (none)) else (spec_l15Signed.j0 k a0 false)
theorem spec_l15Signed.mono_l : ∀ k, (∀ y0 y1, LeO (spec_l15Signed.j0 k y0 y1) (spec_l15Signed.j0 (k + 1) y0 y1))
 | 0 => fun _ _ r h => by simp [spec_l15Signed.j0] at h
 | k + 1 => by
  have ih0 := spec_l15Signed.mono_l k
  ·
   intro y0 y1
   unfold spec_l15Signed.j0
   repeat' (with_reducible first | exact ih0 _ _ | exact spec_l1Digits.mono _ _ | exact mr_ | exact mn_ | refine mi_ ?_ ?_ | refine mb_ ?_ (fun _ => ?_))
theorem spec_l15Signed.mono : ∀ a0 k, LeO (spec_l15Signed.f k a0) (spec_l15Signed.f (k + 1) a0) := by
 intro a0 k; have ih0 := spec_l15Signed.mono_l k; unfold spec_l15Signed.f; repeat' (with_reducible first | exact ih0 _ _ | exact spec_l1Digits.mono _ _ | exact mr_ | exact mn_ | refine mi_ ?_ ?_ | refine mb_ ?_ (fun _ => ?_))
theorem spec_l15Signed.calls (k : Nat) (a0 : ByteArray) (r : Int) (w : World) (h : spec_l15Signed.f k a0 = some r) :
  Calls Tryz.prog 25 #[.string a0] w fun e w' => e = .returned (.int .i64 r) ∧ Drawn0 w w' := by
 have H : (if (a0.size : Int) > 1 then (if 0 < (a0.size : Int) then (if (bt a0 0) = 45 then (if 1 ≤ (a0.size : Int) then ((spec_l1Digits.f k (a0.extract 1 a0.size)).bind fun am => (spec_l15Signed.j0 k a0 (decide (am > 0)))) else (none)) else (spec_l15Signed.j0 k a0 false)) else (none)) else (spec_l15Signed.j0 k a0 false)) = some r := h; clear h; have HC2 := A_ H; clear H; go_enter Tryz.func25, Tryz.ntmps25
 go_upto_region 1 with (fail)
 go_cut [17] (fun aY wc => ∃ (kq : Nat) (ak : Bool), aY = .bool ak ∧ Aside0 (spec_l15Signed.j0 kq a0 ak = some r) ∧ Aside0 (kq ≤ k) ∧ Drawn0 w wc)
 case first =>
  have H := HC2.out; clear HC2; by_cases c3 : (a0.size : Int) > 1
  ·
   rw [if_pos c3] at H; have ag : decide (1 < (a0.size : Int)) = true := decide_eq_true c3; have aM : decide (1 < a0.size) = true := decide_eq_true (by omega); clear c3; (first | rw [ag] | (simp only [i64_w, i32_w]; rw [ag]) | skip); replace H := i0_ H; obtain ⟨c4, H⟩ := H; have ah : decide (0 < (a0.size : Int)) = true := decide_eq_true c4; have aN : decide (0 < a0.size) = true := decide_eq_true (by omega); clear c4; by_cases c6 : (bt a0 0) = 45
   ·
    rw [if_pos c6] at H; have ao : ((bt a0 0) == 45) = true := beq_iff_eq.mpr c6; have ap : ((bt a0 0) != 45) = false := bne_eq_false_iff_eq.mpr c6; clear c6; replace H := i0_ H; obtain ⟨c7, H⟩ := H; have aA := eq_true c7; have aB : decide (1 ≤ (a0.size : Int)) = true := decide_eq_true c7; clear c7; obtain ⟨am, A8, H⟩ := bnd_ H; (try dsimp only at H); have H' := A_ H; clear H; have p5 : 0 ≤ (0 : Int) := (by omega)
    have q5 : 0 < a0.size := (by have : (0 : Int) < (a0.size : Int) := od_; omega)
    have hx5 : ∀ h : 0 < a0.size, ((a0[0]'h).toNat : Int) = bt a0 0 := bt_at a0 0; clear p5; have aR : (0 < (a0.size : Int)) = True := eq_true (od_); replace q5 := eq_true q5; go_wp2_with (first | (go_at_call 26; (with_reducible refine (spec_l1Digits.calls k (a0.extract 1 a0.size) am _ A8.out).mono ?_); rintro e w' ⟨rfl, ⟨nd, rfl⟩⟩)); go_meet
    case rel => exact ⟨_, (decide (am > 0)), tx_, H', ⟨by first | omega | exact Nat.le_refl _⟩, dz_⟩
   ·
    rw [if_neg c6] at H; have ao : ((bt a0 0) == 45) = false := beq_eq_false_iff_ne.mpr c6; have ap : ((bt a0 0) != 45) = true := bne_iff_ne.mpr c6; have H' := A_ H; clear H; have p5 : 0 ≤ (0 : Int) := (by omega)
    have q5 : 0 < a0.size := (by have : (0 : Int) < (a0.size : Int) := od_; omega)
    have hx5 : ∀ h : 0 < a0.size, ((a0[0]'h).toNat : Int) = bt a0 0 := bt_at a0 0; clear p5; have aR : (0 < (a0.size : Int)) = True := eq_true (od_); replace q5 := eq_true q5; go_wp2; go_meet
    case rel => exact ⟨_, (false), tx_, H', ⟨by first | omega | exact Nat.le_refl _⟩, dz_⟩
  ·
   rw [if_neg c3] at H; have ag : decide (1 < (a0.size : Int)) = false := decide_eq_false c3; have aM : decide (1 < a0.size) = false := decide_eq_false (by omega); clear c3; (first | rw [ag] | (simp only [i64_w, i32_w]; rw [ag]) | skip); have H' := A_ H; clear H; go_wp2; go_meet
   case rel => exact ⟨_, (false), tx_, H', ⟨by first | omega | exact Nat.le_refl _⟩, dz_⟩
 case rest =>
  clear HC2; obtain ⟨kq, ak, rfl, HA, HJ1, ⟨mc1, rfl⟩⟩ := hcut
  cases kq with
  | zero => exact absurd HA.out (by simp [spec_l15Signed.j0])
  | succ kj1 =>
   have H := HA.out; clear HA; simp only [spec_l15Signed.j0] at H; by_cases c9 : ak = true
   ·
    subst c9; replace H : (if 1 ≤ (a0.size : Int) then ((spec_l1Digits.f kj1 (a0.extract 1 a0.size)).bind fun aq => (some (wrap64 (-aq)))) else (none)) = some r := by rw [if_pos rfl] at H; exact H
    replace H := i0_ H; obtain ⟨c10, H⟩ := H; have ax := eq_true c10; have aK : decide (1 ≤ (a0.size : Int)) = true := decide_eq_true c10; clear c10; obtain ⟨aq, A11, H⟩ := bnd_ H; (try dsimp only at H); obtain rfl := Option.some.inj H; go_wp2_with (first | ((with_reducible refine gate_callee (f := 26) rfl ?_); refine gl_ (some 20) Tryz.func26 #[.string (a0.extract 1 a0.size)] ?_; (with_reducible refine (spec_l1Digits.calls kj1 (a0.extract 1 a0.size) aq _ A11.out).mono ?_); rintro e w' ⟨rfl, ⟨nd, rfl⟩⟩; refine ⟨_, rfl, ?_⟩)); go_ret; exact ⟨tx_, dz_⟩
   ·
    replace c9 := Bool.eq_false_iff.mpr c9; subst c9; replace H : ((spec_l1Digits.f kj1 a0).bind fun af => (if af < 0 then (some (-100)) else (some af))) = some r := by rw [if_neg (show ¬ (false = true) by decide)] at H; exact H
    obtain ⟨af, A12, H⟩ := bnd_ H; (try dsimp only at H); replace H := it_ H; rcases H with ⟨az, H⟩ | ⟨az, H⟩
    ·
     obtain rfl := Option.some.inj H; go_wp2_with (first | ((with_reducible refine gate_callee (f := 26) rfl ?_); refine gl_ (some 23) Tryz.func26 #[.string a0] ?_; (with_reducible refine (spec_l1Digits.calls kj1 a0 af _ A12.out).mono ?_); rintro e w' ⟨rfl, ⟨nd, rfl⟩⟩; refine ⟨_, rfl, ?_⟩)); go_ret; exact ⟨tx_, dz_⟩
    ·
     obtain rfl := Option.some.inj H; go_wp2_with (first | ((with_reducible refine gate_callee (f := 26) rfl ?_); refine gl_ (some 23) Tryz.func26 #[.string a0] ?_; (with_reducible refine (spec_l1Digits.calls kj1 a0 af _ A12.out).mono ?_); rintro e w' ⟨rfl, ⟨nd, rfl⟩⟩; refine ⟨_, rfl, ?_⟩)); go_ret; exact ⟨tx_, dz_⟩

/-! ### spec_UrnOk: function 69 -/
def spec_UrnOk.l0 : Nat → List Int → Int → Option (Bool)
 | 0, _, _ => none
 | k + 1, x0, x3 => if x3 < (x0.length : Int) then (if 0 ≤ x3 then ((spec_l1In.f (rd x0 x3) 0 40).bind fun aD => (if aD = true then (spec_UrnOk.l0 k x0 (wrap64 (x3 + 1))) else (some false))) else (none)) else ((spec_l1In.f (x0.length : Int) 1 3).bind fun aE => (some aE))
def spec_UrnOk.f (k : Nat) (l0 : List Int) : Option (Bool) := spec_UrnOk.l0 k l0 0
theorem spec_UrnOk.mono_l : ∀ k, (∀ y0 y1, LeO (spec_UrnOk.l0 k y0 y1) (spec_UrnOk.l0 (k + 1) y0 y1))
 | 0 => fun _ _ r h => by simp [spec_UrnOk.l0] at h
 | k + 1 => by
  have ih0 := spec_UrnOk.mono_l k
  ·
   intro y0 y1
   unfold spec_UrnOk.l0
   repeat' (with_reducible first | exact ih0 _ _ | exact mr_ | exact mn_ | refine mi_ ?_ ?_ | refine mb_ ?_ (fun _ => ?_))
theorem spec_UrnOk.mono : ∀ a0 k, LeO (spec_UrnOk.f k a0) (spec_UrnOk.f (k + 1) a0) := by
 intro a0 k; have ih0 := spec_UrnOk.mono_l k; unfold spec_UrnOk.f; repeat' (with_reducible first | exact ih0 _ _ | exact mr_ | exact mn_ | refine mi_ ?_ ?_ | refine mb_ ?_ (fun _ => ?_))
theorem spec_UrnOk.calls (k : Nat) (A0 : Option Addr) (c0 : Nat) (l0 : List Int) (r : Bool) (w : World) (hr0 : Kd.C (Kd.int .i64) w A0 l0.length l0) (hc0 : l0.length ≤ c0) (h : spec_UrnOk.f k l0 = some r) :
  Calls Tryz.prog 69 #[.slice A0 l0.length c0] w fun e w' => e = .returned (.bool r) ∧ Drawn0 w w' := by
 have HR0 := A_ hr0; have HC0 := A_ hc0; clear hr0 hc0; have H : (spec_UrnOk.l0 k l0 0) = some r := h; clear h; have H' := A_ H; clear H; go_enter Tryz.func69, Tryz.ntmps69; go_wp2
 go_loopg [3] k (fun kq v3 w' => ∃ (aa : Int), v3 = .int .i64 aa ∧ Aside0 (spec_UrnOk.l0 kq l0 aa = some r) ∧ Aside0 (kq ≤ k) ∧ Drawn0 w w')
 case atStart => exact ⟨(0), tx_, H', ⟨Nat.le_refl _⟩, dz_⟩
 case round =>
  clear H'; obtain ⟨aa, rfl, HA, HK1, ⟨m1, rfl⟩⟩ := hrel
  cases gk with
  | zero => exact absurd HA.out (by simp [spec_UrnOk.l0])
  | succ k1 =>
   have H := HA.out; clear HA; simp only [spec_UrnOk.l0] at H; replace H := it_ H; rcases H with ⟨aF, H⟩ | ⟨aF, H⟩
   ·
    replace H := in_ H; obtain ⟨ag, H⟩ := H; obtain ⟨aD, A4, H⟩ := bnd_ H; (try dsimp only at H); by_cases c5 : aD = true
    ·
     subst c5; replace H : (spec_UrnOk.l0 k1 l0 (wrap64 (aa + 1))) = some r := by rw [if_pos rfl] at H; exact H
     have H' := A_ H; clear H; obtain ⟨p115, q115, ad115, e115, av⟩ := a2_ (Kd.at_int HR0.out aa); cases e115; go_wp2_with (first | ((with_reducible refine gate_callee (f := 23) rfl ?_); refine gl_ (some 14) Tryz.func23 #[.int .i64 (rd l0 aa), .int .i64 0, .int .i64 40] ?_; (with_reducible refine (spec_l1In.calls (rd l0 aa) 0 40 true _ A4.out).mono ?_); rintro e w' ⟨rfl, ⟨nd, rfl⟩⟩; refine ⟨_, rfl, ?_⟩))
     go_roundg k1
     case measure => have := HK1.out; omega
     case rel => exact ⟨(wrap64 (aa + 1)), tx_, H', ⟨by have := HK1.out; omega⟩, dz_⟩
    ·
     replace c5 := Bool.eq_false_iff.mpr c5; subst c5; replace H : (some false) = some r := by rw [if_neg (show ¬ (false = true) by decide)] at H; exact H
     obtain rfl := Option.some.inj H; obtain ⟨p115, q115, ad115, e115, av⟩ := a2_ (Kd.at_int HR0.out aa); cases e115; go_wp2_with (first | ((with_reducible refine gate_callee (f := 23) rfl ?_); refine gl_ (some 14) Tryz.func23 #[.int .i64 (rd l0 aa), .int .i64 0, .int .i64 40] ?_; (with_reducible refine (spec_l1In.calls (rd l0 aa) 0 40 false _ A4.out).mono ?_); rintro e w' ⟨rfl, ⟨nd, rfl⟩⟩; refine ⟨_, rfl, ?_⟩)); go_ret; exact ⟨tx_, dz_⟩
   ·
    obtain ⟨aE, A6, H⟩ := bnd_ H; (try dsimp only at H); obtain rfl := Option.some.inj H; go_wp2_with (first | ((with_reducible refine gate_callee (f := 23) rfl ?_); refine gl_ (some 18) Tryz.func23 #[.int .i64 (l0.length : Int), .int .i64 1, .int .i64 3] ?_; (with_reducible refine (spec_l1In.calls (l0.length : Int) 1 3 aE _ A6.out).mono ?_); rintro e w' ⟨rfl, ⟨nd, rfl⟩⟩; refine ⟨_, rfl, ?_⟩)); go_ret; exact ⟨tx_, dz_⟩

/-! ### spec_StartOk: function 51 -/
def spec_StartOk.l0 : Nat → List Int → Int → Option (Bool)
 | 0, _, _ => none
 | k + 1, x0, x3 => if x3 < (x0.length : Int) then (if 0 ≤ x3 then (if (rd x0 x3) > 10 then (some false) else (spec_StartOk.l0 k x0 (wrap64 (x3 + 1)))) else (none)) else ((spec_UrnOk.f k x0).bind fun aG => (some aG))
def spec_StartOk.f (k : Nat) (l0 : List Int) : Option (Bool) := spec_StartOk.l0 k l0 0
theorem spec_StartOk.mono_l : ∀ k, (∀ y0 y1, LeO (spec_StartOk.l0 k y0 y1) (spec_StartOk.l0 (k + 1) y0 y1))
 | 0 => fun _ _ r h => by simp [spec_StartOk.l0] at h
 | k + 1 => by
  have ih0 := spec_StartOk.mono_l k
  ·
   intro y0 y1
   unfold spec_StartOk.l0
   repeat' (with_reducible first | exact ih0 _ _ | exact spec_UrnOk.mono _ _ | exact mr_ | exact mn_ | refine mi_ ?_ ?_ | refine mb_ ?_ (fun _ => ?_))
theorem spec_StartOk.mono : ∀ a0 k, LeO (spec_StartOk.f k a0) (spec_StartOk.f (k + 1) a0) := by
 intro a0 k; have ih0 := spec_StartOk.mono_l k; unfold spec_StartOk.f; repeat' (with_reducible first | exact ih0 _ _ | exact spec_UrnOk.mono _ _ | exact mr_ | exact mn_ | refine mi_ ?_ ?_ | refine mb_ ?_ (fun _ => ?_))
theorem spec_StartOk.calls (k : Nat) (A0 : Option Addr) (c0 : Nat) (l0 : List Int) (r : Bool) (w : World) (hr0 : Kd.C (Kd.int .i64) w A0 l0.length l0) (hc0 : l0.length ≤ c0) (h : spec_StartOk.f k l0 = some r) :
  Calls Tryz.prog 51 #[.slice A0 l0.length c0] w fun e w' => e = .returned (.bool r) ∧ Drawn0 w w' := by
 have HR0 := A_ hr0; have HC0 := A_ hc0; clear hr0 hc0; have H : (spec_StartOk.l0 k l0 0) = some r := h; clear h; have H' := A_ H; clear H; go_enter Tryz.func51, Tryz.ntmps51; go_wp2
 go_loopg [3] k (fun kq v3 w' => ∃ (aa : Int), v3 = .int .i64 aa ∧ Aside0 (spec_StartOk.l0 kq l0 aa = some r) ∧ Aside0 (kq ≤ k) ∧ Drawn0 w w')
 case atStart => exact ⟨(0), tx_, H', ⟨Nat.le_refl _⟩, dz_⟩
 case round =>
  clear H'; obtain ⟨aa, rfl, HA, HK1, ⟨m1, rfl⟩⟩ := hrel
  cases gk with
  | zero => exact absurd HA.out (by simp [spec_StartOk.l0])
  | succ k1 =>
   have H := HA.out; clear HA; simp only [spec_StartOk.l0] at H; replace H := it_ H; rcases H with ⟨aF, H⟩ | ⟨aF, H⟩
   ·
    replace H := in_ H; obtain ⟨ag, H⟩ := H; replace H := ig_ H; rcases H with ⟨ah, H⟩ | ⟨ah, H⟩
    ·
     obtain rfl := Option.some.inj H; obtain ⟨p118, q118, ad118, e118, aw⟩ := a2_ (Kd.at_int HR0.out aa); cases e118; go_wp2; go_ret; exact ⟨tx_, dz_⟩
    ·
     have H' := A_ H; clear H; obtain ⟨p118, q118, ad118, e118, aw⟩ := a2_ (Kd.at_int HR0.out aa); cases e118; go_wp2
     go_roundg k1
     case measure => have := HK1.out; omega
     case rel => exact ⟨(wrap64 (aa + 1)), tx_, H', ⟨by have := HK1.out; omega⟩, dz_⟩
   ·
    obtain ⟨aG, A5, H⟩ := bnd_ H; (try dsimp only at H); obtain rfl := Option.some.inj H; go_wp2_with (first | ((with_reducible refine gate_callee (f := 69) rfl ?_); refine gl_ (some 16) Tryz.func69 #[.slice A0 l0.length c0] ?_; (with_reducible refine (spec_UrnOk.calls k1 _ _ l0 aG _ ?s1 ?s2 A5.out).mono ?_); (case s1 => exact td_); (case s2 => exact HC0.out); rintro e w' ⟨rfl, ⟨nd, rfl⟩⟩; refine ⟨_, rfl, ?_⟩)); go_ret; exact ⟨tx_, dz_⟩

end Go.Proofs.YtmodbemkflkbeaaGreatDoor.MFnExactStoreOpen
