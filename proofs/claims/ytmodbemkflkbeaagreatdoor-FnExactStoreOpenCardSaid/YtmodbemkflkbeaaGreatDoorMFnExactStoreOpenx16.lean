/- For the law FnExactStoreOpen: walks of the functions that it reaches: each call returns what the plain function beside it tells. The conditions stand in each statement. -/
import Derived.Test.YtmodbemkflkbeaaGreatDoorV
import Derived.Test.YtmodbemkflkbeaaGreatDoorMFnExactStoreOpenx0
import Derived.Test.YtmodbemkflkbeaaGreatDoorMFnExactStoreOpenx2
import Derived.Test.YtmodbemkflkbeaaGreatDoorMFnExactStoreOpenx9
import Derived.Test.YtmodbemkflkbeaaGreatDoorMFnExactStoreOpenx15
namespace Go.Proofs.YtmodbemkflkbeaaGreatDoor.MFnExactStoreOpen
open Go.RowKit Go.Proofs.YtmodbemkflkbeaaGreatDoorW.PrintWords Go.Proofs.YtmodbemkflkbeaaGreatDoorW.PrintLast Go.Proofs.YtmodbemkflkbeaaGreatDoorW.PrintMore
attribute [local go_sem] max2_int min2_int max_two min_two max_three min_three max_four min_four   -- for this text's walks alone
set_option linter.unusedVariables false
set_option linter.unusedSimpArgs false
set_option maxHeartbeats 8000000
set_option maxRecDepth 100000

/-! ### laws_heldIntS: function 36 -/
def laws_heldIntS.l0 : Nat → List Int → Int → Int → Option (Int)
 | 0, _, _, _ => none
 | k + 1, x0, x1, x5 => if x5 < (x0.length : Int) then (if 0 ≤ x5 then (if (rd x0 x5) = x1 then (laws_heldIntS.l0 k x0 (wrap64 (x1 + 1)) (wrap64 (x5 + 1))) else (some (-1))) else (none)) else (some x1)
def laws_heldIntS.f (k : Nat) (l0 : List Int) (a1 : Int) : Option (Int) := laws_heldIntS.l0 k l0 a1 0
theorem laws_heldIntS.mono_l : ∀ k, (∀ y0 y1 y2, LeO (laws_heldIntS.l0 k y0 y1 y2) (laws_heldIntS.l0 (k + 1) y0 y1 y2))
 | 0 => fun _ _ _ r h => by simp [laws_heldIntS.l0] at h
 | k + 1 => by
  have ih0 := laws_heldIntS.mono_l k
  ·
   intro y0 y1 y2
   unfold laws_heldIntS.l0
   repeat' (with_reducible first | exact ih0 _ _ _ | exact mr_ | exact mn_ | refine mi_ ?_ ?_ | refine mb_ ?_ (fun _ => ?_))
theorem laws_heldIntS.mono : ∀ a0 a1 k, LeO (laws_heldIntS.f k a0 a1) (laws_heldIntS.f (k + 1) a0 a1) := by
 intro a0 a1 k; have ih0 := laws_heldIntS.mono_l k; unfold laws_heldIntS.f; repeat' (with_reducible first | exact ih0 _ _ _ | exact mr_ | exact mn_ | refine mi_ ?_ ?_ | refine mb_ ?_ (fun _ => ?_))
theorem laws_heldIntS.calls (k : Nat) (A0 : Option Addr) (c0 : Nat) (l0 : List Int) (a1 : Int) (r : Int) (w : World) (hr0 : Kd.C (Kd.int .i64) w A0 l0.length l0) (hc0 : l0.length ≤ c0) (h : laws_heldIntS.f k l0 a1 = some r) :
  Calls Tryz.prog 36 #[.slice A0 l0.length c0, .int .i64 a1] w fun e w' => e = .returned (.int .i64 r) ∧ Drawn0 w w' := by
 have HR0 := A_ hr0; have HC0 := A_ hc0; clear hr0 hc0; have H : (laws_heldIntS.l0 k l0 a1 0) = some r := h; clear h; have H' := A_ H; clear H; go_enter Tryz.func36, Tryz.ntmps36; go_wp2
 go_loopg [1, 5] k (fun kq v1 v5 w' => ∃ (af : Int) (aa : Int), v1 = .int .i64 af ∧ v5 = .int .i64 aa ∧ Aside0 (laws_heldIntS.l0 kq l0 af aa = some r) ∧ Aside0 (kq ≤ k) ∧ Drawn0 w w')
 case atStart => exact ⟨(a1), (0), tx_, tx_, H', ⟨Nat.le_refl _⟩, dz_⟩
 case round =>
  clear H'; obtain ⟨af, aa, rfl, rfl, HA, HK1, ⟨m1, rfl⟩⟩ := hrel
  cases gk with
  | zero => exact absurd HA.out (by simp [laws_heldIntS.l0])
  | succ k1 =>
   have H := HA.out; clear HA; simp only [laws_heldIntS.l0] at H; replace H := it_ H; rcases H with ⟨aL, H⟩ | ⟨aL, H⟩
   ·
    replace H := in_ H; obtain ⟨bd, H⟩ := H; by_cases c5 : (rd l0 aa) = af
    ·
     rw [if_pos c5] at H; have bC : ((rd l0 aa) == af) = true := beq_iff_eq.mpr c5; have bW : ((rd l0 aa) != af) = false := bne_eq_false_iff_eq.mpr c5; clear c5; have H' := A_ H; clear H; obtain ⟨p800, q800, ad800, e800, bm⟩ := a2_ (Kd.at_int HR0.out aa); cases e800; go_wp2
     go_roundg k1
     case measure => have := HK1.out; omega
     case rel => exact ⟨(wrap64 (af + 1)), (wrap64 (aa + 1)), tx_, tx_, H', ⟨by have := HK1.out; omega⟩, dz_⟩
    ·
     rw [if_neg c5] at H; have bC : ((rd l0 aa) == af) = false := beq_eq_false_iff_ne.mpr c5; have bW : ((rd l0 aa) != af) = true := bne_iff_ne.mpr c5; obtain rfl := Option.some.inj H; obtain ⟨p800, q800, ad800, e800, bm⟩ := a2_ (Kd.at_int HR0.out aa); cases e800; go_wp2; go_ret; exact ⟨tx_, dz_⟩
   ·
    obtain rfl := Option.some.inj H; go_wp2; go_ret; exact ⟨tx_, dz_⟩

/-! ### laws_heldPlace: function 21 -/
def laws_heldPlace.f (k : Nat) (ak : List Int) (a0_1 : Int) (al : List Int) (a1 : Int) : Option (Int) := (laws_heldIntS.f k ak a1).bind fun a8 => (if a8 < 0 then (some (-1)) else ((laws_heldIntS.f k al a8).bind fun a9 => (if a9 < 0 then (some (-1)) else (some a9))))
theorem laws_heldPlace.mono : ∀ a0 a1 a2 a3 k, LeO (laws_heldPlace.f k a0 a1 a2 a3) (laws_heldPlace.f (k + 1) a0 a1 a2 a3) := by
 intro a0 a1 a2 a3 k; unfold laws_heldPlace.f; repeat' (with_reducible first | exact laws_heldIntS.mono _ _ _ | exact mr_ | exact mn_ | refine mi_ ?_ ?_ | refine mb_ ?_ (fun _ => ?_))
theorem laws_heldPlace.z0 {P_ : Prop} (h_ : P_ := by go_wp2_with (first | ((with_reducible refine gate_dst (N := 2) rfl ?_); refine al_ st ?_; clear st cl; intro g2 w_ st; have cl := cl_ st) | ((with_reducible refine gate_callee (f := 36) rfl ?_); refine ca_ (some 8) Tryz.func36 _ (laws_heldIntS.calls k aM aN _ _ _ _ (gt_ st) (gt_ st) A_8.out) ?_; rintro e w_ ⟨rfl, hb⟩; refine ⟨_, rfl, ?_⟩; replace hb := hb.below; replace st := st.ev hb; clear cl hb; have cl := cl_ st) | ((with_reducible refine gate_callee (f := 36) rfl ?_); refine ca_ (some 14) Tryz.func36 _ (laws_heldIntS.calls k aO aP _ _ _ _ (gt_ st) (gt_ st) A_14.out) ?_; rintro e w_ ⟨rfl, hb⟩; refine ⟨_, rfl, ?_⟩; replace hb := hb.below; replace st := st.ev hb; clear cl hb; have cl := cl_ st)); (go_ret; exact ⟨tw_, st.b⟩)) : P_ := h_
theorem laws_heldPlace.calls (k : Nat) (aM : Option Addr) (aN : Nat) (ak : List Int) (a0_1 : Int) (aO : Option Addr) (aP : Nat) (al : List Int) (a1 : Int) (r : Int) (w : World) (hr0_0 : Kd.C (Kd.int .i64) w aM ak.length ak) (hc0_0 : ak.length ≤ aN) (hr0_2 : Kd.C (Kd.int .i64) w aO al.length al) (hc0_2 : al.length ≤ aP) (h : laws_heldPlace.f k ak a0_1 al a1 = some r) :
  Calls Tryz.prog 21 #[.agg #[.slice aM ak.length aN, .int .i64 a0_1, .slice aO al.length aP], .int .i64 a1] w fun e w' => e = .returned (.int .i64 r) ∧ Below w.heap.size w w' := by
 have hu27 := Tryz.underlying27; have st := ((ST.nil w).c hr0_0 hc0_0).c hr0_2 hc0_2; have s0 := st; have cl := cl_ st; have H := h; clear h; unfold laws_heldPlace.f at H; go_enter Tryz.func21, Tryz.ntmps21; obtain ⟨a8, A_8, H⟩ := bnd_ H; replace H := it_ H; rcases H with ⟨aL, H⟩ | ⟨aL, H⟩
 ·
  obtain rfl := Option.some.inj H; exact laws_heldPlace.z0
 ·
  obtain ⟨a9, A_14, H⟩ := bnd_ H; replace H := it_ H; rcases H with ⟨bd, H⟩ | ⟨bd, H⟩
  ·
   obtain rfl := Option.some.inj H; exact laws_heldPlace.z0
  ·
   obtain rfl := Option.some.inj H; exact laws_heldPlace.z0

/-! ### laws_heldPlaceS: function 22 -/
def laws_heldPlaceS.l0 : Nat → List (S27) → Int → Int → Option (Int)
 | 0, _, _, _ => none
 | k + 1, x0, x1, x5 => if x5 < (x0.length : Int) then (if 0 ≤ x5 then ((laws_heldIntS.f k ((rd_T27 x0 x5).f0) x1).bind fun ag => (if ag < 0 then (some (-1)) else (if ((rd_T27 x0 x5).f1) = ag then ((laws_heldIntS.f k ((rd_T27 x0 x5).f2) (wrap64 (ag + 1))).bind fun aw => (if aw < 0 then (some (-1)) else (laws_heldPlaceS.l0 k x0 aw (wrap64 (x5 + 1))))) else (some (-1))))) else (none)) else (some x1)
def laws_heldPlaceS.f (k : Nat) (l0 : List (S27)) (a1 : Int) : Option (Int) := laws_heldPlaceS.l0 k l0 a1 0
theorem laws_heldPlaceS.mono_l : ∀ k, (∀ y0 y1 y2, LeO (laws_heldPlaceS.l0 k y0 y1 y2) (laws_heldPlaceS.l0 (k + 1) y0 y1 y2))
 | 0 => fun _ _ _ r h => by simp [laws_heldPlaceS.l0] at h
 | k + 1 => by
  have ih0 := laws_heldPlaceS.mono_l k
  ·
   intro y0 y1 y2
   unfold laws_heldPlaceS.l0
   repeat' (with_reducible first | exact ih0 _ _ _ | exact laws_heldIntS.mono _ _ _ | exact mr_ | exact mn_ | refine mi_ ?_ ?_ | refine mb_ ?_ (fun _ => ?_))
theorem laws_heldPlaceS.mono : ∀ a0 a1 k, LeO (laws_heldPlaceS.f k a0 a1) (laws_heldPlaceS.f (k + 1) a0 a1) := by
 intro a0 a1 k; have ih0 := laws_heldPlaceS.mono_l k; unfold laws_heldPlaceS.f; repeat' (with_reducible first | exact ih0 _ _ _ | exact laws_heldIntS.mono _ _ _ | exact mr_ | exact mn_ | refine mi_ ?_ ?_ | refine mb_ ?_ (fun _ => ?_))
theorem laws_heldPlaceS.calls (k : Nat) (A0 : Option Addr) (c0 : Nat) (l0 : List (S27)) (a1 : Int) (r : Int) (w : World) (hr0 : Kd.C k27 w A0 l0.length l0) (hc0 : l0.length ≤ c0) (h : laws_heldPlaceS.f k l0 a1 = some r) :
  Calls Tryz.prog 22 #[.slice A0 l0.length c0, .int .i64 a1] w fun e w' => e = .returned (.int .i64 r) ∧ Drawn0 w w' := by
 have HR0 := A_ hr0; have HC0 := A_ hc0; clear hr0 hc0; have H : (laws_heldPlaceS.l0 k l0 a1 0) = some r := h; clear h; have H' := A_ H; clear H; go_enter Tryz.func22, Tryz.ntmps22; go_wp2
 go_loopg [1, 5] k (fun kq v1 v5 w' => ∃ (af : Int) (aa : Int), v1 = .int .i64 af ∧ v5 = .int .i64 aa ∧ Aside0 (laws_heldPlaceS.l0 kq l0 af aa = some r) ∧ Aside0 (kq ≤ k) ∧ Drawn0 w w')
 case atStart => exact ⟨(a1), (0), tx_, tx_, H', ⟨Nat.le_refl _⟩, dz_⟩
 case round =>
  clear H'; obtain ⟨af, aa, rfl, rfl, HA, HK1, ⟨m1, rfl⟩⟩ := hrel
  cases gk with
  | zero => exact absurd HA.out (by simp [laws_heldPlaceS.l0])
  | succ k1 =>
   have H := HA.out; clear HA; simp only [laws_heldPlaceS.l0] at H; replace H := it_ H; rcases H with ⟨aL, H⟩ | ⟨aL, H⟩
   ·
    replace H := in_ H; obtain ⟨bd, H⟩ := H; obtain ⟨ag, A5, H⟩ := bnd_ H; (try dsimp only at H); replace H := it_ H; rcases H with ⟨bE, H⟩ | ⟨bE, H⟩
    ·
     obtain rfl := Option.some.inj H; have p804 : 0 ≤ (aa : Int) := od_; have q804 : aa < (l0.length : Int) := od_; obtain ⟨ad804, am, an, aq, ar, e804, ad, ax, ae, hl804_0, hi804_0, hl804_2, hi804_2⟩ := at_T27 HR0.out aa p804 q804; cases e804; have ay := A_ hi804_0; have ai := A_ hl804_0; clear hi804_0 hl804_0; have az := A_ hi804_2; have aA := A_ hl804_2; clear hi804_2 hl804_2; replace p804 := eq_true p804; replace q804 := eq_true q804; go_wp2_with (first | ((with_reducible refine gate_callee (f := 36) rfl ?_); refine gl_ (some 18) Tryz.func36 #[.slice am ((rd_T27 l0 aa).f0).length an, .int .i64 af] ?_; (with_reducible refine (laws_heldIntS.calls k1 _ _ ((rd_T27 l0 aa).f0) af ag _ ?s1 ?s2 A5.out).mono ?_); (case s1 => exact td_); (case s2 => exact ai.out); rintro e w' ⟨rfl, ⟨nd, rfl⟩⟩; refine ⟨_, rfl, ?_⟩)); go_ret; exact ⟨tx_, dz_⟩
    ·
     by_cases c7 : ((rd_T27 l0 aa).f1) = ag
     ·
      rw [if_pos c7] at H; have bX : (((rd_T27 l0 aa).f1) == ag) = true := beq_iff_eq.mpr c7; have bZ : (((rd_T27 l0 aa).f1) != ag) = false := bne_eq_false_iff_eq.mpr c7; clear c7; obtain ⟨aw, A8, H⟩ := bnd_ H; (try dsimp only at H); replace H := it_ H; rcases H with ⟨bF, H⟩ | ⟨bF, H⟩
      ·
       obtain rfl := Option.some.inj H; have p804 : 0 ≤ (aa : Int) := od_; have q804 : aa < (l0.length : Int) := od_; obtain ⟨ad804, am, an, aq, ar, e804, ad, ax, ae, hl804_0, hi804_0, hl804_2, hi804_2⟩ := at_T27 HR0.out aa p804 q804; cases e804; have ay := A_ hi804_0; have ai := A_ hl804_0; clear hi804_0 hl804_0; have az := A_ hi804_2; have aA := A_ hl804_2; clear hi804_2 hl804_2; replace p804 := eq_true p804; replace q804 := eq_true q804; go_wp2_with (first | ((with_reducible refine gate_callee (f := 36) rfl ?_); refine gl_ (some 18) Tryz.func36 #[.slice am ((rd_T27 l0 aa).f0).length an, .int .i64 af] ?_; (with_reducible refine (laws_heldIntS.calls k1 _ _ ((rd_T27 l0 aa).f0) af ag _ ?s1 ?s2 A5.out).mono ?_); (case s1 => exact td_); (case s2 => exact ai.out); rintro e w' ⟨rfl, ⟨nd, rfl⟩⟩; refine ⟨_, rfl, ?_⟩; have p806 : 0 ≤ (aa : Int) := od_; have q806 : aa < (l0.length : Int) := od_; obtain ⟨ad806, be, bf, bg, bh, e806, ao, aW, ap, hl806_0, hi806_0, hl806_2, hi806_2⟩ := at_T27 HR0.out aa p806 q806; obtain rfl : ad804 = ad806 := (by injection e806); have aX := A_ hi806_0; have aY := A_ hl806_0; clear hi806_0 hl806_0; have aZ := A_ hi806_2; have a5 := A_ hl806_2; clear hi806_2 hl806_2; replace p806 := eq_true p806; replace q806 := eq_true q806; have ea_ := Option.some.inj (ad.symm.trans ao); injection ea_ with ea_ en_ ec_; subst ea_; subst ec_; clear en_; have ea_ := Option.some.inj (ae.symm.trans ap); injection ea_ with ea_ en_ ec_; subst ea_; subst ec_; clear en_; have p807 : 0 ≤ (aa : Int) := od_; have q807 : aa < (l0.length : Int) := od_; obtain ⟨ad807, bG, bH, bI, bJ, e807, aB, bn, aC, hl807_0, hi807_0, hl807_2, hi807_2⟩ := at_T27 HR0.out aa p807 q807; obtain rfl : ad804 = ad807 := (by injection e807); have bo := A_ hi807_0; have bp := A_ hl807_0; clear hi807_0 hl807_0; have bq := A_ hi807_2; have aD := A_ hl807_2; clear hi807_2 hl807_2; replace p807 := eq_true p807; replace q807 := eq_true q807; have ea_ := Option.some.inj (ad.symm.trans aB); injection ea_ with ea_ en_ ec_; subst ea_; subst ec_; clear en_; have ea_ := Option.some.inj (ae.symm.trans aC); injection ea_ with ea_ en_ ec_; subst ea_; subst ec_; clear en_) | ((with_reducible refine gate_callee (f := 36) rfl ?_); refine gl_ (some 36) Tryz.func36 #[.slice aq ((rd_T27 l0 aa).f2).length ar, .int .i64 (wrap64 (ag + 1))] ?_; (with_reducible refine (laws_heldIntS.calls k1 _ _ ((rd_T27 l0 aa).f2) (wrap64 (ag + 1)) aw _ ?s1 ?s2 A8.out).mono ?_); (case s1 => exact td_); (case s2 => exact aD.out); rintro e w' ⟨rfl, ⟨nd, rfl⟩⟩; refine ⟨_, rfl, ?_⟩)); go_ret; exact ⟨tx_, dz_⟩
      ·
       have H' := A_ H; clear H; have p804 : 0 ≤ (aa : Int) := od_; have q804 : aa < (l0.length : Int) := od_; obtain ⟨ad804, am, an, aq, ar, e804, ad, ax, ae, hl804_0, hi804_0, hl804_2, hi804_2⟩ := at_T27 HR0.out aa p804 q804; cases e804; have ay := A_ hi804_0; have ai := A_ hl804_0; clear hi804_0 hl804_0; have az := A_ hi804_2; have aA := A_ hl804_2; clear hi804_2 hl804_2; replace p804 := eq_true p804; replace q804 := eq_true q804; go_wp2_with (first | ((with_reducible refine gate_callee (f := 36) rfl ?_); refine gl_ (some 18) Tryz.func36 #[.slice am ((rd_T27 l0 aa).f0).length an, .int .i64 af] ?_; (with_reducible refine (laws_heldIntS.calls k1 _ _ ((rd_T27 l0 aa).f0) af ag _ ?s1 ?s2 A5.out).mono ?_); (case s1 => exact td_); (case s2 => exact ai.out); rintro e w' ⟨rfl, ⟨nd, rfl⟩⟩; refine ⟨_, rfl, ?_⟩; have p806 : 0 ≤ (aa : Int) := od_; have q806 : aa < (l0.length : Int) := od_; obtain ⟨ad806, be, bf, bg, bh, e806, ao, aW, ap, hl806_0, hi806_0, hl806_2, hi806_2⟩ := at_T27 HR0.out aa p806 q806; obtain rfl : ad804 = ad806 := (by injection e806); have aX := A_ hi806_0; have aY := A_ hl806_0; clear hi806_0 hl806_0; have aZ := A_ hi806_2; have a5 := A_ hl806_2; clear hi806_2 hl806_2; replace p806 := eq_true p806; replace q806 := eq_true q806; have ea_ := Option.some.inj (ad.symm.trans ao); injection ea_ with ea_ en_ ec_; subst ea_; subst ec_; clear en_; have ea_ := Option.some.inj (ae.symm.trans ap); injection ea_ with ea_ en_ ec_; subst ea_; subst ec_; clear en_; have p807 : 0 ≤ (aa : Int) := od_; have q807 : aa < (l0.length : Int) := od_; obtain ⟨ad807, bG, bH, bI, bJ, e807, aB, bn, aC, hl807_0, hi807_0, hl807_2, hi807_2⟩ := at_T27 HR0.out aa p807 q807; obtain rfl : ad804 = ad807 := (by injection e807); have bo := A_ hi807_0; have bp := A_ hl807_0; clear hi807_0 hl807_0; have bq := A_ hi807_2; have aD := A_ hl807_2; clear hi807_2 hl807_2; replace p807 := eq_true p807; replace q807 := eq_true q807; have ea_ := Option.some.inj (ad.symm.trans aB); injection ea_ with ea_ en_ ec_; subst ea_; subst ec_; clear en_; have ea_ := Option.some.inj (ae.symm.trans aC); injection ea_ with ea_ en_ ec_; subst ea_; subst ec_; clear en_) | ((with_reducible refine gate_callee (f := 36) rfl ?_); refine gl_ (some 36) Tryz.func36 #[.slice aq ((rd_T27 l0 aa).f2).length ar, .int .i64 (wrap64 (ag + 1))] ?_; (with_reducible refine (laws_heldIntS.calls k1 _ _ ((rd_T27 l0 aa).f2) (wrap64 (ag + 1)) aw _ ?s1 ?s2 A8.out).mono ?_); (case s1 => exact td_); (case s2 => exact aD.out); rintro e w' ⟨rfl, ⟨nd, rfl⟩⟩; refine ⟨_, rfl, ?_⟩))
       go_roundg k1
       case measure => have := HK1.out; omega
       case rel => exact ⟨(aw), (wrap64 (aa + 1)), tx_, tx_, H', ⟨by have := HK1.out; omega⟩, dz_⟩
     ·
      rw [if_neg c7] at H; have bX : (((rd_T27 l0 aa).f1) == ag) = false := beq_eq_false_iff_ne.mpr c7; have bZ : (((rd_T27 l0 aa).f1) != ag) = true := bne_iff_ne.mpr c7; obtain rfl := Option.some.inj H; have p804 : 0 ≤ (aa : Int) := od_; have q804 : aa < (l0.length : Int) := od_; obtain ⟨ad804, am, an, aq, ar, e804, ad, ax, ae, hl804_0, hi804_0, hl804_2, hi804_2⟩ := at_T27 HR0.out aa p804 q804; cases e804; have ay := A_ hi804_0; have ai := A_ hl804_0; clear hi804_0 hl804_0; have az := A_ hi804_2; have aA := A_ hl804_2; clear hi804_2 hl804_2; replace p804 := eq_true p804; replace q804 := eq_true q804; go_wp2_with (first | ((with_reducible refine gate_callee (f := 36) rfl ?_); refine gl_ (some 18) Tryz.func36 #[.slice am ((rd_T27 l0 aa).f0).length an, .int .i64 af] ?_; (with_reducible refine (laws_heldIntS.calls k1 _ _ ((rd_T27 l0 aa).f0) af ag _ ?s1 ?s2 A5.out).mono ?_); (case s1 => exact td_); (case s2 => exact ai.out); rintro e w' ⟨rfl, ⟨nd, rfl⟩⟩; refine ⟨_, rfl, ?_⟩; have p806 : 0 ≤ (aa : Int) := od_; have q806 : aa < (l0.length : Int) := od_; obtain ⟨ad806, be, bf, bg, bh, e806, ao, aW, ap, hl806_0, hi806_0, hl806_2, hi806_2⟩ := at_T27 HR0.out aa p806 q806; obtain rfl : ad804 = ad806 := (by injection e806); have aX := A_ hi806_0; have aY := A_ hl806_0; clear hi806_0 hl806_0; have aZ := A_ hi806_2; have a5 := A_ hl806_2; clear hi806_2 hl806_2; replace p806 := eq_true p806; replace q806 := eq_true q806; have ea_ := Option.some.inj (ad.symm.trans ao); injection ea_ with ea_ en_ ec_; subst ea_; subst ec_; clear en_; have ea_ := Option.some.inj (ae.symm.trans ap); injection ea_ with ea_ en_ ec_; subst ea_; subst ec_; clear en_)); go_ret; exact ⟨tx_, dz_⟩
   ·
    obtain rfl := Option.some.inj H; go_wp2; go_ret; exact ⟨tx_, dz_⟩

/-! ### laws_heldDesk: function 10 -/
def laws_heldDesk.f (k : Nat) (ak : List Int) (a0_1 : Int) (al : List Int) (aQ : List (S27)) (a1 : Int) : Option (Int) := (laws_heldPlace.f k ak a0_1 al a1).bind fun bb => (if bb < 0 then (some (-1)) else ((laws_heldPlaceS.f k aQ bb).bind fun bc => (if bc < 0 then (some (-1)) else (some bc))))
theorem laws_heldDesk.mono : ∀ a0 a1 a2 a3 a4 k, LeO (laws_heldDesk.f k a0 a1 a2 a3 a4) (laws_heldDesk.f (k + 1) a0 a1 a2 a3 a4) := by
 intro a0 a1 a2 a3 a4 k; unfold laws_heldDesk.f; repeat' (with_reducible first | exact laws_heldPlace.mono _ _ _ _ _ | exact laws_heldPlaceS.mono _ _ _ | exact mr_ | exact mn_ | refine mi_ ?_ ?_ | refine mb_ ?_ (fun _ => ?_))
theorem laws_heldDesk.z0 {P_ : Prop} (h_ : P_ := by go_wp2_with (first | ((with_reducible refine gate_dst (N := 2) rfl ?_); refine al_ st ?_; clear st cl; intro g2 w_ st; have cl := cl_ st) | ((with_reducible refine gate_callee (f := 21) rfl ?_); refine ca_ (some 8) Tryz.func21 _ (laws_heldPlace.calls k aM aN _ _ aO aP _ _ _ _ (gt_ st) (gt_ st) (gt_ st) (gt_ st) A_8.out) ?_; rintro e w_ ⟨rfl, hb⟩; refine ⟨_, rfl, ?_⟩; replace st := st.ev hb; clear cl hb; have cl := cl_ st) | ((with_reducible refine gate_callee (f := 22) rfl ?_); refine ca_ (some 14) Tryz.func22 _ (laws_heldPlaceS.calls k bK bL _ _ _ _ (gt_ st) (gt_ st) A_14.out) ?_; rintro e w_ ⟨rfl, hb⟩; refine ⟨_, rfl, ?_⟩; replace hb := hb.below; replace st := st.ev hb; clear cl hb; have cl := cl_ st)); (go_ret; exact ⟨tw_, st.b⟩)) : P_ := h_
theorem laws_heldDesk.calls (k : Nat) (aM : Option Addr) (aN : Nat) (ak : List Int) (a0_1 : Int) (aO : Option Addr) (aP : Nat) (al : List Int) (bK : Option Addr) (bL : Nat) (aQ : List (S27)) (a1 : Int) (r : Int) (w : World) (hr0_0 : Kd.C (Kd.int .i64) w aM ak.length ak) (hc0_0 : ak.length ≤ aN) (hr0_2 : Kd.C (Kd.int .i64) w aO al.length al) (hc0_2 : al.length ≤ aP) (hr0_3 : Kd.C k27 w bK aQ.length aQ) (hc0_3 : aQ.length ≤ bL) (h : laws_heldDesk.f k ak a0_1 al aQ a1 = some r) :
  Calls Tryz.prog 10 #[.agg #[.slice aM ak.length aN, .int .i64 a0_1, .slice aO al.length aP, .slice bK aQ.length bL], .int .i64 a1] w fun e w' => e = .returned (.int .i64 r) ∧ Below w.heap.size w w' := by
 have hu30 := Tryz.underlying30; have hu27 := Tryz.underlying27; have st := (((ST.nil w).c hr0_0 hc0_0).c hr0_2 hc0_2).c hr0_3 hc0_3; have s0 := st; have cl := cl_ st; have H := h; clear h; unfold laws_heldDesk.f at H; go_enter Tryz.func10, Tryz.ntmps10; obtain ⟨bb, A_8, H⟩ := bnd_ H; replace H := it_ H; rcases H with ⟨aL, H⟩ | ⟨aL, H⟩
 ·
  obtain rfl := Option.some.inj H; exact laws_heldDesk.z0
 ·
  obtain ⟨bc, A_14, H⟩ := bnd_ H; replace H := it_ H; rcases H with ⟨bd, H⟩ | ⟨bd, H⟩
  ·
   obtain rfl := Option.some.inj H; exact laws_heldDesk.z0
  ·
   obtain rfl := Option.some.inj H; exact laws_heldDesk.z0

/-! ### laws_FnExactStoreOpen: function 3 -/
mutual
def laws_FnExactStoreOpen.j0 : Nat → Bool → Bool → ByteArray → ByteArray → Int → List Int → Int → List Int → List (S27) → List Int → Int → List Int → List (S27) → Option (Bool)
 | 0, _, _, _, _, _, _, _, _, _, _, _, _, _ => none
 | k + 1, x5, x37, br, bs, bu, bv, bw, bx, bz, aE, aj, aF, aG => if x37 = true then (some false) else ((laws_markDesk.f k aE aj aF aG 1).bind fun ab => ((laws_heldDesk.f k ab.2.1 aj ab.2.2.1 ab.2.2.2 1).bind fun au => (if au < 0 then (some false) else (if au = ab.1 then ((laws_toStore.f br bs bu).bind fun bi => ((impl_StoreOpen.f k bi.1 bi.2.1 bi.2.2).bind fun aK => ((laws_eqDesk.f k aK.1 aK.2.1 aK.2.2.1 aK.2.2.2.1 bv bw bx bz).bind fun bM => (if bM = true then (laws_FnExactStoreOpen.j1 k ab.1 (aK.2.2.2.2 != x5) ab.2.1 aj ab.2.2.1 ab.2.2.2) else (laws_FnExactStoreOpen.j1 k ab.1 true ab.2.1 aj ab.2.2.1 ab.2.2.2))))) else (some false)))))
def laws_FnExactStoreOpen.j1 : Nat → Int → Bool → List Int → Int → List Int → List (S27) → Option (Bool)
 | 0, _, _, _, _, _, _ => none
 | k + 1, x8, x63, aE, aj, aF, aG => if x63 = true then (some false) else ((laws_heldDesk.f k aE aj aF aG 1).bind fun av => (if av < 0 then (some false) else (if av = x8 then (some true) else (some false))))
end
def laws_FnExactStoreOpen.f (k : Nat) (a0_0 : ByteArray) (a0_1 : ByteArray) (a0_2 : Int) : Option (Bool) := (laws_szStore.f a0_0 a0_1 a0_2 1048576).bind fun bj => (if bj < 0 then (some true) else ((laws_toStore.f a0_0 a0_1 a0_2).bind fun bk => ((spec_StoreOpen.f k bk.1 bk.2.1 bk.2.2).bind fun ac => ((laws_toStore.f a0_0 a0_1 a0_2).bind fun bl => ((impl_StoreOpen.f k bl.1 bl.2.1 bl.2.2).bind fun ah => ((laws_eqDesk.f k ah.1 ah.2.1 ah.2.2.1 ah.2.2.2.1 ac.1 ac.2.1 ac.2.2.1 ac.2.2.2.1).bind fun bN => (if bN = true then (laws_FnExactStoreOpen.j0 k ac.2.2.2.2 (ah.2.2.2.2 != ac.2.2.2.2) a0_0 a0_1 a0_2 ac.1 ac.2.1 ac.2.2.1 ac.2.2.2.1 ah.1 ah.2.1 ah.2.2.1 ah.2.2.2.1) else (laws_FnExactStoreOpen.j0 k ac.2.2.2.2 true a0_0 a0_1 a0_2 ac.1 ac.2.1 ac.2.2.1 ac.2.2.2.1 ah.1 ah.2.1 ah.2.2.1 ah.2.2.2.1))))))))
theorem laws_FnExactStoreOpen.z0 {P_ : Prop} (h_ : P_ := by go_wp2_with (first | ((with_reducible refine gate_callee (f := 8) rfl ?_); refine ca_ (some 31) Tryz.func8 _ (laws_eqDesk.calls k B26_0 d26_0 _ _ B26_2 d26_2 _ B26_3 d26_3 _ B20_0 d20_0 _ _ B20_2 d20_2 _ B20_3 d20_3 _ _ _ (ga_ st) (ga_ st) (ga_ st) (ga_ st) (ga_ st) (ga_ st) (ga_ st) (ga_ st) (ga_ st) (ga_ st) (ga_ st) (ga_ st) A_31.out) ?_; rintro e w_ ⟨rfl, hb⟩; refine ⟨_, rfl, ?_⟩; replace st := st.ev hb; clear cl hb; have cl := cl_ st)); first | (go_meet; (case rel => exact ⟨_, ((b0 != bO)), tx_, H', ⟨by first | omega | exact Nat.le_refl _⟩, st.en⟩)) | (go_meet; (case rel => exact ⟨_, (true), tx_, H', ⟨by first | omega | exact Nat.le_refl _⟩, st.en⟩))) : P_ := h_
theorem laws_FnExactStoreOpen.z1 {P_ : Prop} (h_ : P_ := by go_wp2_with (first | ((with_reducible refine gate_callee (f := 8) rfl ?_); refine ca_ (some 57) Tryz.func8 _ (laws_eqDesk.calls kj3 B52_0 d52_0 _ _ B52_2 d52_2 _ B52_3 d52_3 _ B20_0 d20_0 _ _ B20_2 d20_2 _ B20_3 d20_3 _ _ _ (ga_ st) (ga_ st) (ga_ st) (ga_ st) (ga_ st) (ga_ st) (ga_ st) (ga_ st) (ga_ st) (ga_ st) (ga_ st) (ga_ st) A_57.out) ?_; rintro e w_ ⟨rfl, hb⟩; refine ⟨_, rfl, ?_⟩; replace st := st.ev hb; clear cl hb; have cl := cl_ st)); first | (go_meet; (case rel => exact ⟨_, ((b1 != bO)), tx_, H', ⟨by have := HJ3.out; first | omega | exact Nat.le_refl _⟩, st.en⟩)) | (go_meet; (case rel => exact ⟨_, (true), tx_, H', ⟨by have := HJ3.out; first | omega | exact Nat.le_refl _⟩, st.en⟩))) : P_ := h_
theorem laws_FnExactStoreOpen.z2 {P_ : Prop} (h_ : P_ := by go_wp2_with (first | ((with_reducible refine gate_callee (f := 10) rfl ?_); refine ca_ (some 66) Tryz.func10 _ (laws_heldDesk.calls kj7 B26_0 d26_0 _ _ B26_2 d26_2 _ B26_3 d26_3 _ _ _ _ (ga_ st) (ga_ st) (ga_ st) (ga_ st) (ga_ st) (ga_ st) A_66.out) ?_ (hargs := by ((try simp only [List.map_toArray, List.map_cons, List.map_nil]); first | done | rfl | (rw [← e40_0.out, ← e40_2.out, ← e40_3.out]; rfl))); rintro e w_ ⟨rfl, hb⟩; refine ⟨_, rfl, ?_⟩; replace st := st.ev hb; clear cl hb; have cl := cl_ st)); (go_ret; exact ⟨tw_, st.b⟩)) : P_ := h_
theorem laws_FnExactStoreOpen.z3 {P_ : Prop} (h_ : P_ := by go_wp2_with (first | ((with_reducible refine gate_callee (f := 9) rfl ?_); obtain ⟨B_, ha_, ht_⟩ := st.turn (A := AD k27 27 3 w.heap.size (.slice B26_0 aH.length d26_0) (.slice B26_2 aI.length d26_2) (.slice B26_3 aJ.length d26_3) aH aI aJ); refine ca_ (some 40) Tryz.func9 _ (laws_markDesk.calls _ B_ _ _ _ _ _ _ _ _ _ _ _ _ _ _ _ w _ st.b ha_ A_40.out) ?_; rintro e w_ ⟨rfl, ⟨e_0, e_2, e_3, hd_⟩, hb, hk⟩; refine ⟨_, rfl, ?_⟩; replace st := ht_ hb hk hd_; have e40_0 := A_ e_0; have e40_2 := A_ e_2; have e40_3 := A_ e_3; clear cl ha_ ht_ hd_ hb hk e_0 e_2 e_3; have cl := cl_ st) | ((with_reducible refine gate_callee (f := 10) rfl ?_); refine ca_ (some 43) Tryz.func10 _ (laws_heldDesk.calls kj3 B26_0 d26_0 _ _ B26_2 d26_2 _ B26_3 d26_3 _ _ _ _ (ga_ st) (ga_ st) (ga_ st) (ga_ st) (ga_ st) (ga_ st) A_43.out) ?_ (hargs := by ((try simp only [List.map_toArray, List.map_cons, List.map_nil]); first | done | rfl | (rw [← e40_0.out, ← e40_2.out, ← e40_3.out]; rfl))); rintro e w_ ⟨rfl, hb⟩; refine ⟨_, rfl, ?_⟩; replace st := st.ev hb; clear cl hb; have cl := cl_ st)); (go_ret; exact ⟨tw_, st.b⟩)) : P_ := h_
theorem laws_FnExactStoreOpen.calls (k : Nat) (a0_0 : ByteArray) (a0_1 : ByteArray) (a0_2 : Int) (r : Bool) (w : World) (hG : GWb w) (h : laws_FnExactStoreOpen.f k a0_0 a0_1 a0_2 = some r) :
  Calls Tryz.prog 3 #[.agg #[.string a0_0, .string a0_1, .int .i64 a0_2]] w fun e w' => e = .returned (.bool r) ∧ Below w.heap.size w w' := by
 have HG := A_ hG; clear hG; have hu23 := Tryz.underlying23; have hu30 := Tryz.underlying30; have st := ST.nil w; have s0 := st; have cl := cl_ st; have H := h; clear h; unfold laws_FnExactStoreOpen.f at H; go_enter Tryz.func3, Tryz.ntmps3; obtain ⟨bj, A_14, H⟩ := bnd_ H; replace H := it_ H; rcases H with ⟨b2, H⟩ | ⟨b2, H⟩
 ·
  obtain rfl := Option.some.inj H; go_wp2_with (first | ((with_reducible refine gate_dst (N := 1) rfl ?_); refine al_ st ?_; clear st cl; intro g1 w_ st; have cl := cl_ st) | ((with_reducible refine gate_callee (f := 4) rfl ?_); refine ca_ (some 14) Tryz.func4 _ (laws_szStore.calls _ _ _ _ _ _ A_14.out) ?_; rintro e w_ ⟨rfl, hb⟩; refine ⟨_, rfl, ?_⟩; replace st := st.ev hb; clear cl hb; have cl := cl_ st)); go_ret; exact ⟨tw_, st.b⟩
 ·
  obtain ⟨⟨b5, b6, b7⟩, A_19, H⟩ := bnd_ H; (try dsimp only at H); obtain ⟨⟨aR, bP, aU, aV, bO⟩, A_20, H⟩ := bnd_ H; (try dsimp only at H); obtain ⟨⟨b8, b9, ca⟩, A_25, H⟩ := bnd_ H; (try dsimp only at H); obtain ⟨⟨aH, bB, aI, aJ, b0⟩, A_26, H⟩ := bnd_ H; (try dsimp only at H); have HC4 := A_ H; clear H
  go_upto_region 7 with (first | ((with_reducible refine gate_dst (N := 1) rfl ?_); refine al_ st ?_; clear st cl; intro g1 w_ st; have cl := cl_ st) | ((with_reducible refine gate_callee (f := 4) rfl ?_); refine ca_ (some 14) Tryz.func4 _ (laws_szStore.calls _ _ _ _ _ _ A_14.out) ?_; rintro e w_ ⟨rfl, hb⟩; refine ⟨_, rfl, ?_⟩; replace st := st.ev hb; clear cl hb; have cl := cl_ st) | ((with_reducible refine gate_callee (f := 6) rfl ?_); refine ca_ (some 19) Tryz.func6 _ (laws_toStore.calls _ _ _ _ _ _ _ A_19.out) ?_; rintro e w_ ⟨rfl, hb⟩; refine ⟨_, rfl, ?_⟩; replace st := st.ev hb; clear cl hb; have cl := cl_ st) | ((with_reducible refine gate_callee (f := 5) rfl ?_); refine ca_ (some 20) Tryz.func5 _ (spec_StoreOpen.calls k _ _ _ _ _ _ _ _ _ A_20.out) ?_; rintro e w_ ⟨v0, v1, v2, rfl, h0, h1, h2, hb⟩; refine ⟨_, rfl, ?_⟩; obtain ⟨B20_0, d20_0, rfl⟩ := Kd.R_slice h0; obtain ⟨B20_2, d20_2, rfl⟩ := Kd.R_slice h1; obtain ⟨B20_3, d20_3, rfl, _⟩ := Kd.Q_slice h2; replace st := st.p3 hb (st.mr h0) (st.mr h1) (st.mq h2); clear cl hb h0 h1 h2; have cl := cl_ st) | ((with_reducible refine gate_dst (N := 4) rfl ?_); refine al_ st ?_; clear st cl; intro g4 w_ st; have cl := cl_ st) | ((with_reducible refine gate_store (p := 4) rfl ?_); refine so4_ st ?_; clear st cl; intro w_ st; have cl := cl_ st) | ((with_reducible refine gate_callee (f := 6) rfl ?_); refine ca_ (some 25) Tryz.func6 _ (laws_toStore.calls _ _ _ _ _ _ _ A_25.out) ?_; rintro e w_ ⟨rfl, hb⟩; refine ⟨_, rfl, ?_⟩; replace st := st.ev hb; clear cl hb; have cl := cl_ st) | ((with_reducible refine gate_callee (f := 7) rfl ?_); refine ca_ (some 26) Tryz.func7 _ (impl_StoreOpen.calls k _ _ _ _ _ _ _ _ _ (GWb.below HG.out st.b) A_26.out) ?_; rintro e w_ ⟨v0, v1, v2, rfl, h0, h1, h2, hb⟩; refine ⟨_, rfl, ?_⟩; obtain ⟨B26_0, d26_0, rfl⟩ := Kd.R_slice h0; obtain ⟨B26_2, d26_2, rfl⟩ := Kd.R_slice h1; obtain ⟨B26_3, d26_3, rfl⟩ := Kd.Sc_slice h2; replace st := st.bD hb h0 h1 h2; clear cl hb h0 h1 h2; have cl := cl_ st) | ((with_reducible refine gate_dst (N := 6) rfl ?_); refine al_ st ?_; clear st cl; intro g6 w_ st; have cl := cl_ st) | ((with_reducible refine gate_store (p := 6) rfl ?_); refine so4_ st ?_; clear st cl; intro w_ st; have cl := cl_ st))
  (try simp only [Act.put, sa_, sb_, sc_])
  go_cut [37] (fun cb wc => ∃ (kq : Nat) (a6 : Bool), cb = .bool a6 ∧ Aside0 (laws_FnExactStoreOpen.j0 kq bO a6 a0_0 a0_1 a0_2 aR bP aU aV aH bB aI aJ = some r) ∧ Aside0 (kq ≤ k) ∧ ST w [AR (Kd.int .i64) 3 w.heap.size (.slice B20_0 aR.length d20_0) aR, AR (Kd.int .i64) 3 w.heap.size (.slice B20_2 aU.length d20_2) aU, AQ k27 27 w.heap.size (.slice B20_3 aV.length d20_3) aV] [AD k27 27 3 w.heap.size (.slice B26_0 aH.length d26_0) (.slice B26_2 aI.length d26_2) (.slice B26_3 aJ.length d26_3) aH aI aJ, Bx g1 #[.string a0_0, .string a0_1, .int .i64 a0_2] 23, Bx g4 #[.slice B20_0 aR.length d20_0, .int .i64 bP, .slice B20_2 aU.length d20_2, .slice B20_3 aV.length d20_3] 30, Bx g6 #[.slice B26_0 aH.length d26_0, .int .i64 bB, .slice B26_2 aI.length d26_2, .slice B26_3 aJ.length d26_3] 30] wc)
  case first =>
   have H := HC4.out; clear HC4; obtain ⟨bN, A_31, H⟩ := bnd_ H; rcases bx_ bN with rfl | rfl
   ·
    replace H := bt_ H; have H' := A_ H; clear H; exact laws_FnExactStoreOpen.z0
   ·
    replace H := bf_ H; have H' := A_ H; clear H; exact laws_FnExactStoreOpen.z0
  case rest =>
   clear HC4 st cl; obtain ⟨kq, a6, rfl, HA, HJ3, st⟩ := hcut; have cl := cl_ st
   cases kq with
   | zero => exact absurd HA.out (by simp [laws_FnExactStoreOpen.j0])
   | succ kj3 =>
    have H := HA.out; clear HA; simp only [laws_FnExactStoreOpen.j0] at H; rcases bx_ a6 with rfl | rfl
    ·
     replace H := bt_ H; obtain rfl := Option.some.inj H; exact laws_FnExactStoreOpen.z3
    ·
     replace H := bf_ H; obtain ⟨⟨ab, mt845_0, mt845_2, mt845_3⟩, A_40, H⟩ := bnd_ H; (try dsimp only at H); obtain ⟨au, A_43, H⟩ := bnd_ H; replace H := it_ H; rcases H with ⟨bC, H⟩ | ⟨bC, H⟩
     ·
      obtain rfl := Option.some.inj H; exact laws_FnExactStoreOpen.z3
     ·
      by_cases c6 : au = ab
      ·
       rw [if_pos c6] at H; have bE : (au == ab) = true := beq_iff_eq.mpr c6; have b3 : (au != ab) = false := bne_eq_false_iff_eq.mpr c6; clear c6; obtain ⟨⟨cc, cd, ce⟩, A_51, H⟩ := bnd_ H; (try dsimp only at H); obtain ⟨⟨bQ, b4, bR, bS, b1⟩, A_52, H⟩ := bnd_ H; (try dsimp only at H); have HC8 := A_ H; clear H
       go_upto_region 18 with (first | ((with_reducible refine gate_callee (f := 9) rfl ?_); obtain ⟨B_, ha_, ht_⟩ := st.turn (A := AD k27 27 3 w.heap.size (.slice B26_0 aH.length d26_0) (.slice B26_2 aI.length d26_2) (.slice B26_3 aJ.length d26_3) aH aI aJ); refine ca_ (some 40) Tryz.func9 _ (laws_markDesk.calls _ B_ _ _ _ _ _ _ _ _ _ _ _ _ _ _ _ w _ st.b ha_ A_40.out) ?_; rintro e w_ ⟨rfl, ⟨e_0, e_2, e_3, hd_⟩, hb, hk⟩; refine ⟨_, rfl, ?_⟩; replace st := ht_ hb hk hd_; have e40_0 := A_ e_0; have e40_2 := A_ e_2; have e40_3 := A_ e_3; clear cl ha_ ht_ hd_ hb hk e_0 e_2 e_3; have cl := cl_ st) | ((with_reducible refine gate_callee (f := 10) rfl ?_); refine ca_ (some 43) Tryz.func10 _ (laws_heldDesk.calls kj3 B26_0 d26_0 _ _ B26_2 d26_2 _ B26_3 d26_3 _ _ _ _ (ga_ st) (ga_ st) (ga_ st) (ga_ st) (ga_ st) (ga_ st) A_43.out) ?_ (hargs := by ((try simp only [List.map_toArray, List.map_cons, List.map_nil]); first | done | rfl | (rw [← e40_0.out, ← e40_2.out, ← e40_3.out]; rfl))); rintro e w_ ⟨rfl, hb⟩; refine ⟨_, rfl, ?_⟩; replace st := st.ev hb; clear cl hb; have cl := cl_ st) | ((with_reducible refine gate_callee (f := 6) rfl ?_); refine ca_ (some 51) Tryz.func6 _ (laws_toStore.calls _ _ _ _ _ _ _ A_51.out) ?_; rintro e w_ ⟨rfl, hb⟩; refine ⟨_, rfl, ?_⟩; replace st := st.ev hb; clear cl hb; have cl := cl_ st) | ((with_reducible refine gate_callee (f := 7) rfl ?_); refine ca_ (some 52) Tryz.func7 _ (impl_StoreOpen.calls kj3 _ _ _ _ _ _ _ _ _ (GWb.below HG.out st.b) A_52.out) ?_; rintro e w_ ⟨v0, v1, v2, rfl, h0, h1, h2, hb⟩; refine ⟨_, rfl, ?_⟩; obtain ⟨B52_0, d52_0, rfl⟩ := Kd.R_slice h0; obtain ⟨B52_2, d52_2, rfl⟩ := Kd.R_slice h1; obtain ⟨B52_3, d52_3, rfl⟩ := Kd.Sc_slice h2; replace st := st.p3 hb (st.mr h0) (st.mr h1) (st.msc h2); clear cl hb h0 h1 h2; have cl := cl_ st) | ((with_reducible refine gate_dst (N := 10) rfl ?_); refine al_ st ?_; clear st cl; intro g10 w_ st; have cl := cl_ st) | ((with_reducible refine gate_store (p := 10) rfl ?_); refine so4_ st ?_; clear st cl; intro w_ st; have cl := cl_ st))
       (try simp only [Act.put, sa_, sb_, sc_])
       go_cut [63] (fun cf wc => ∃ (kq : Nat) (a7 : Bool), cf = .bool a7 ∧ Aside0 (laws_FnExactStoreOpen.j1 kq ab a7 mt845_0 bB mt845_2 mt845_3 = some r) ∧ Aside0 (kq ≤ kj3) ∧ ST w [AR (Kd.int .i64) 3 w.heap.size (.slice B20_0 aR.length d20_0) aR, AR (Kd.int .i64) 3 w.heap.size (.slice B20_2 aU.length d20_2) aU, AQ k27 27 w.heap.size (.slice B20_3 aV.length d20_3) aV, AR (Kd.int .i64) 3 w.heap.size (.slice B52_0 bQ.length d52_0) bQ, AR (Kd.int .i64) 3 w.heap.size (.slice B52_2 bR.length d52_2) bR, AV k27 27 w.heap.size (.slice B52_3 bS.length d52_3) bS] [AD k27 27 3 w.heap.size (.slice B26_0 mt845_0.length d26_0) (.slice B26_2 mt845_2.length d26_2) (.slice B26_3 mt845_3.length d26_3) mt845_0 mt845_2 mt845_3, Bx g1 #[.string a0_0, .string a0_1, .int .i64 a0_2] 23, Bx g4 #[.slice B20_0 aR.length d20_0, .int .i64 bP, .slice B20_2 aU.length d20_2, .slice B20_3 aV.length d20_3] 30, Bx g6 #[.slice B26_0 aH.length d26_0, .int .i64 bB, .slice B26_2 aI.length d26_2, .slice B26_3 aJ.length d26_3] 30, Bx g10 #[.slice B52_0 bQ.length d52_0, .int .i64 b4, .slice B52_2 bR.length d52_2, .slice B52_3 bS.length d52_3] 30] wc)
       case first =>
        have H := HC8.out; clear HC8; obtain ⟨bM, A_57, H⟩ := bnd_ H; rcases bx_ bM with rfl | rfl
        ·
         replace H := bt_ H; have H' := A_ H; clear H; exact laws_FnExactStoreOpen.z1
        ·
         replace H := bf_ H; have H' := A_ H; clear H; exact laws_FnExactStoreOpen.z1
       case rest =>
        clear HC8 st cl; obtain ⟨kq, a7, rfl, HA, HJ7, st⟩ := hcut; have cl := cl_ st
        cases kq with
        | zero => exact absurd HA.out (by simp [laws_FnExactStoreOpen.j1])
        | succ kj7 =>
         have H := HA.out; clear HA; simp only [laws_FnExactStoreOpen.j1] at H; rcases bx_ a7 with rfl | rfl
         ·
          replace H := bt_ H; obtain rfl := Option.some.inj H; exact laws_FnExactStoreOpen.z2
         ·
          replace H := bf_ H; obtain ⟨av, A_66, H⟩ := bnd_ H; replace H := it_ H; rcases H with ⟨bF, H⟩ | ⟨bF, H⟩
          ·
           obtain rfl := Option.some.inj H; exact laws_FnExactStoreOpen.z2
          ·
           by_cases c10 : av = ab
           ·
            rw [if_pos c10] at H; have bU : (av == ab) = true := beq_iff_eq.mpr c10; have bV : (av != ab) = false := bne_eq_false_iff_eq.mpr c10; clear c10; obtain rfl := Option.some.inj H; exact laws_FnExactStoreOpen.z2
           ·
            rw [if_neg c10] at H; have bU : (av == ab) = false := beq_eq_false_iff_ne.mpr c10; have bV : (av != ab) = true := bne_iff_ne.mpr c10; obtain rfl := Option.some.inj H; exact laws_FnExactStoreOpen.z2
      ·
       rw [if_neg c6] at H; have bE : (au == ab) = false := beq_eq_false_iff_ne.mpr c6; have b3 : (au != ab) = true := bne_iff_ne.mpr c6; obtain rfl := Option.some.inj H; exact laws_FnExactStoreOpen.z3

end Go.Proofs.YtmodbemkflkbeaaGreatDoor.MFnExactStoreOpen
