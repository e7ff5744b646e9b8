/- For the law FnExactDeskNew: walks of the functions that it reaches: each call returns what the plain function beside it tells. The conditions stand in each statement. -/
import Derived.Test.YtncgleffkbegjaaV
import Derived.Test.YtncgleffkbegjaaMFnExactDeskNewx0
namespace Go.Proofs.Ytncgleffkbegjaa.MFnExactDeskNew
open Go.RowKit Go.Proofs.YtncgleffkbegjaaW.PrintWords Go.Proofs.YtncgleffkbegjaaW.PrintLast Go.Proofs.YtncgleffkbegjaaW.PrintMore
attribute [local go_sem] max2_int min2_int max_two min_two max_three min_three max_four min_four   -- for this text's walks alone
set_option linter.unusedVariables false
set_option linter.unusedSimpArgs false

/-! ### laws_heldIntS: function 42 -/
def laws_heldIntS.l0 : Nat → List Int → Int → Int → Option (Int)
 | 0, _, _, _ => none
 | k + 1, x0, x1, x5 => if x5 < (x0.length : Int) then (if 0 ≤ x5 then (if (rd x0 x5) = x1 then (laws_heldIntS.l0 k x0 (wrap64 (x1 + 1)) (wrap64 (x5 + 1))) else (some (-1))) else (none)) else (some x1)
def laws_heldIntS.f (k : Nat) (l0 : List Int) (a1 : Int) : Option (Int) := laws_heldIntS.l0 k l0 a1 0
theorem laws_heldIntS.mono_l : ∀ k, (∀ y0 y1 y2, LeO (laws_heldIntS.l0 k y0 y1 y2) (laws_heldIntS.l0 (k + 1) y0 y1 y2))
 | 0 => fun _ _ _ r h => by simp [laws_heldIntS.l0] at h
 | k + 1 => by
  have ih0 := laws_heldIntS.mono_l k
  ·
   intro y0 y1 y2
   unfold laws_heldIntS.l0
   repeat' (with_reducible first | exact ih0 _ _ _ | exact mr_ | exact mn_ | refine mi_ ?_ ?_ | refine mb_ ?_ (fun _ => ?_))
theorem laws_heldIntS.mono : ∀ a0 a1 k, LeO (laws_heldIntS.f k a0 a1) (laws_heldIntS.f (k + 1) a0 a1) := by
 intro a0 a1 k; have ih0 := laws_heldIntS.mono_l k; unfold laws_heldIntS.f; repeat' (with_reducible first | exact ih0 _ _ _ | exact mr_ | exact mn_ | refine mi_ ?_ ?_ | refine mb_ ?_ (fun _ => ?_))
set_option maxHeartbeats 8000000 in
set_option maxRecDepth 100000 in
theorem laws_heldIntS.calls (k : Nat) (A0 : Option Addr) (c0 : Nat) (l0 : List Int) (a1 : Int) (r : Int) (w : World) (hr0 : Kd.C (Kd.int .i64) w A0 l0.length l0) (hc0 : l0.length ≤ c0) (h : laws_heldIntS.f k l0 a1 = some r) :
  Calls Try.prog 42 #[.slice A0 l0.length c0, .int .i64 a1] w fun e w' => e = .returned (.int .i64 r) ∧ Drawn0 w w' := by
 have HR0 := A_ hr0; have HC0 := A_ hc0; clear hr0 hc0; have H : (laws_heldIntS.l0 k l0 a1 0) = some r := h; clear h; have H' := A_ H; clear H; go_enter Try.func42, Try.ntmps42; go_wp2
 go_loopg [1, 5] k (fun kq v1 v5 w' => ∃ (ah : Int) (aa : Int), v1 = .int .i64 ah ∧ v5 = .int .i64 aa ∧ Aside0 (laws_heldIntS.l0 kq l0 ah aa = some r) ∧ Aside0 (kq ≤ k) ∧ Drawn0 w w')
 case atStart => exact ⟨(a1), (0), tx_, tx_, H', ⟨Nat.le_refl _⟩, by repeat (first | exact Drawn0.refl _ | apply Drawn0.step)⟩
 case round =>
  clear H'; (try clear p2); obtain ⟨ah, aa, rfl, rfl, HA, HK1, ⟨m1, rfl⟩⟩ := hrel
  cases gk with
  | zero => exact absurd HA.out (by simp [laws_heldIntS.l0])
  | succ k1 =>
   have H := HA.out; clear HA; simp only [laws_heldIntS.l0] at H; by_cases c3 : aa < (l0.length : Int)
   ·
    rw [if_pos c3] at H; have bi : decide (aa < (l0.length : Int)) = true := decide_eq_true c3; clear c3; by_cases c4 : 0 ≤ aa
    ·
     rw [if_pos c4] at H; have aU : decide (0 ≤ aa) = true := decide_eq_true c4; clear c4; by_cases c5 : (rd l0 aa) = ah
     ·
      rw [if_pos c5] at H; have ci : ((rd l0 aa) == ah) = true := beq_iff_eq.mpr c5; have cj : ((rd l0 aa) != ah) = false := bne_eq_false_iff_eq.mpr c5; clear c5; have H' := A_ H; clear H; have p296 : 0 ≤ (aa : Int) := od_; have q296 : aa < (l0.length : Int) := od_; obtain ⟨ad296, e296, a5⟩ := Kd.at_int HR0.out aa p296 q296; cases e296; replace p296 := eq_true p296; replace q296 := eq_true q296; go_wp2
      go_roundg k1
      case measure => have := HK1.out; omega
      case rel => exact ⟨(wrap64 (ah + 1)), (wrap64 (aa + 1)), tx_, tx_, H', ⟨by have := HK1.out; omega⟩, by repeat (first | exact Drawn0.refl _ | apply Drawn0.step)⟩
     ·
      rw [if_neg c5] at H; have ci : ((rd l0 aa) == ah) = false := beq_eq_false_iff_ne.mpr c5; have cj : ((rd l0 aa) != ah) = true := bne_iff_ne.mpr c5; obtain rfl := Option.some.inj H; have p296 : 0 ≤ (aa : Int) := od_; have q296 : aa < (l0.length : Int) := od_; obtain ⟨ad296, e296, a5⟩ := Kd.at_int HR0.out aa p296 q296; cases e296; replace p296 := eq_true p296; replace q296 := eq_true q296; go_wp2; go_ret; exact ⟨tx_, by repeat (first | exact Drawn0.refl _ | apply Drawn0.step)⟩
    ·
     rw [if_neg c4] at H; exact absurd H (by simp)
   ·
    rw [if_neg c3] at H; have bi : decide (aa < (l0.length : Int)) = false := decide_eq_false c3; clear c3; obtain rfl := Option.some.inj H; go_wp2; go_ret; exact ⟨tx_, by repeat (first | exact Drawn0.refl _ | apply Drawn0.step)⟩

/-! ### laws_heldPlace: function 28 -/
def laws_heldPlace.f (k : Nat) (ac : List Int) (a0_1 : Int) (ad : List Int) (a1 : Int) : Option (Int) := (laws_heldIntS.f k ac a1).bind fun am => (if am < 0 then (some (-1)) else ((laws_heldIntS.f k ad am).bind fun ax => (if ax < 0 then (some (-1)) else (some ax))))
theorem laws_heldPlace.mono : ∀ a0 a1 a2 a3 k, LeO (laws_heldPlace.f k a0 a1 a2 a3) (laws_heldPlace.f (k + 1) a0 a1 a2 a3) := by
 intro a0 a1 a2 a3 k; unfold laws_heldPlace.f; repeat' (with_reducible first | exact laws_heldIntS.mono _ _ _ | exact mr_ | exact mn_ | refine mi_ ?_ ?_ | refine mb_ ?_ (fun _ => ?_))
set_option maxHeartbeats 8000000 in
set_option maxRecDepth 100000 in
theorem laws_heldPlace.calls (k : Nat) (ak : Option Addr) (al : Nat) (ac : List Int) (a0_1 : Int) (an : Option Addr) (ao : Nat) (ad : List Int) (a1 : Int) (r : Int) (w : World) (hr0_0 : Kd.C (Kd.int .i64) w ak ac.length ac) (hc0_0 : ac.length ≤ al) (hr0_2 : Kd.C (Kd.int .i64) w an ad.length ad) (hc0_2 : ad.length ≤ ao) (h : laws_heldPlace.f k ac a0_1 ad a1 = some r) :
  Calls Try.prog 28 #[.agg #[.slice ak ac.length al, .int .i64 a0_1, .slice an ad.length ao], .int .i64 a1] w fun e w' => e = .returned (.int .i64 r) ∧ Below w.heap.size w w' := by
 have hu26 := Try.underlying26; have bv := A_ hr0_0; have ay := A_ hc0_0; clear hr0_0 hc0_0; have aV := A_ hr0_2; have aC := A_ hc0_2; clear hr0_2 hc0_2; have HB := A_ (Below.refl w.heap.size w); have H : ((laws_heldIntS.f k ac a1).bind fun am => (if am < 0 then (some (-1)) else ((laws_heldIntS.f k ad am).bind fun ax => (if ax < 0 then (some (-1)) else (some ax))))) = some r := h; clear h; obtain ⟨am, A3, H⟩ := bnd_ H; (try dsimp only at H); by_cases c4 : am < 0
 ·
  rw [if_pos c4] at H; have aU : decide (am < 0) = true := decide_eq_true c4; clear c4; obtain rfl := Option.some.inj H; go_enter Try.func28, Try.ntmps28; go_wp2_with (first | ((with_reducible refine gate_dst (N := 2) rfl ?_); refine be_ 2 #[.slice ak ac.length al, .int .i64 a0_1, .slice an ad.length ao] 26 ?_; intro bb hg w5 ae hb; have bc := gx_ HB hg; have bd := gx_ HB hg; replace HB := bs_ HB hb; clear hb hg; obtain ⟨bj, bk, bl, bm, bn, bo⟩ := cf3_ ae) | ((with_reducible refine gate_callee (f := 42) rfl ?_); refine gl_ (some 8) Try.func42 #[.slice ak ac.length al, .int .i64 a1] ?_; (with_reducible refine (laws_heldIntS.calls k _ _ ac a1 am _ ?s1 ?s2 A3.out).mono ?_); (case s1 => exact tD_); (case s2 => exact ay.out); rintro e w' ⟨rfl, ⟨nd, rfl⟩⟩; refine ⟨_, rfl, ?_⟩)); go_ret; exact ⟨tw_, (tb_ HB.out)⟩
 ·
  rw [if_neg c4] at H; have aU : decide (am < 0) = false := decide_eq_false c4; clear c4; obtain ⟨ax, A7, H⟩ := bnd_ H; (try dsimp only at H); by_cases c8 : ax < 0
  ·
   rw [if_pos c8] at H; have ck : decide (ax < 0) = true := decide_eq_true c8; clear c8; obtain rfl := Option.some.inj H; go_enter Try.func28, Try.ntmps28; go_wp2_with (first | ((with_reducible refine gate_dst (N := 2) rfl ?_); refine be_ 2 #[.slice ak ac.length al, .int .i64 a0_1, .slice an ad.length ao] 26 ?_; intro bb hg w9 ae hb; have bc := gx_ HB hg; have bd := gx_ HB hg; replace HB := bs_ HB hb; clear hb hg; obtain ⟨bw, bx, bz, bB, bC, bD⟩ := cf3_ ae) | ((with_reducible refine gate_callee (f := 42) rfl ?_); refine gl_ (some 8) Try.func42 #[.slice ak ac.length al, .int .i64 a1] ?_; (with_reducible refine (laws_heldIntS.calls k _ _ ac a1 am _ ?s1 ?s2 A3.out).mono ?_); (case s1 => exact tD_); (case s2 => exact ay.out); rintro e w' ⟨rfl, ⟨nd, rfl⟩⟩; refine ⟨_, rfl, ?_⟩) | ((with_reducible refine gate_callee (f := 42) rfl ?_); refine gl_ (some 14) Try.func42 #[.slice an ad.length ao, .int .i64 am] ?_; (with_reducible refine (laws_heldIntS.calls k _ _ ad am ax _ ?s1 ?s2 A7.out).mono ?_); (case s1 => repeat (first | exact (Kd.C_below aV.out (tb_ HB.out)) | (with_reducible refine Kd.C_alloc ?_ _) | (with_reducible refine Kd.C_drewN ?_ _) | (with_reducible refine Kd.C_drew ?_))); (case s2 => exact aC.out); rintro e w' ⟨rfl, ⟨nd, rfl⟩⟩; refine ⟨_, rfl, ?_⟩)); go_ret; exact ⟨tw_, (tb_ HB.out)⟩
  ·
   rw [if_neg c8] at H; have ck : decide (ax < 0) = false := decide_eq_false c8; clear c8; obtain rfl := Option.some.inj H; go_enter Try.func28, Try.ntmps28; go_wp2_with (first | ((with_reducible refine gate_dst (N := 2) rfl ?_); refine be_ 2 #[.slice ak ac.length al, .int .i64 a0_1, .slice an ad.length ao] 26 ?_; intro bb hg cr ae hb; have bc := gx_ HB hg; have bd := gx_ HB hg; replace HB := bs_ HB hb; clear hb hg; obtain ⟨bE, bF, bG, bH, bI, bJ⟩ := cf3_ ae) | ((with_reducible refine gate_callee (f := 42) rfl ?_); refine gl_ (some 8) Try.func42 #[.slice ak ac.length al, .int .i64 a1] ?_; (with_reducible refine (laws_heldIntS.calls k _ _ ac a1 am _ ?s1 ?s2 A3.out).mono ?_); (case s1 => exact tD_); (case s2 => exact ay.out); rintro e w' ⟨rfl, ⟨nd, rfl⟩⟩; refine ⟨_, rfl, ?_⟩) | ((with_reducible refine gate_callee (f := 42) rfl ?_); refine gl_ (some 14) Try.func42 #[.slice an ad.length ao, .int .i64 am] ?_; (with_reducible refine (laws_heldIntS.calls k _ _ ad am ax _ ?s1 ?s2 A7.out).mono ?_); (case s1 => repeat (first | exact (Kd.C_below aV.out (tb_ HB.out)) | (with_reducible refine Kd.C_alloc ?_ _) | (with_reducible refine Kd.C_drewN ?_ _) | (with_reducible refine Kd.C_drew ?_))); (case s2 => exact aC.out); rintro e w' ⟨rfl, ⟨nd, rfl⟩⟩; refine ⟨_, rfl, ?_⟩)); go_ret; exact ⟨tw_, (tb_ HB.out)⟩

/-! ### laws_heldPlaceS: function 29 -/
def laws_heldPlaceS.l0 : Nat → List (S26) → Int → Int → Option (Int)
 | 0, _, _, _ => none
 | k + 1, x0, x1, x5 => if x5 < (x0.length : Int) then (if 0 ≤ x5 then ((laws_heldIntS.f k ((rd_T26 x0 x5).f0) x1).bind fun ai => (if ai < 0 then (some (-1)) else (if ((rd_T26 x0 x5).f1) = ai then ((laws_heldIntS.f k ((rd_T26 x0 x5).f2) (wrap64 (ai + 1))).bind fun aD => (if aD < 0 then (some (-1)) else (laws_heldPlaceS.l0 k x0 aD (wrap64 (x5 + 1))))) else (some (-1))))) else (none)) else (some x1)
def laws_heldPlaceS.f (k : Nat) (l0 : List (S26)) (a1 : Int) : Option (Int) := laws_heldPlaceS.l0 k l0 a1 0
theorem laws_heldPlaceS.mono_l : ∀ k, (∀ y0 y1 y2, LeO (laws_heldPlaceS.l0 k y0 y1 y2) (laws_heldPlaceS.l0 (k + 1) y0 y1 y2))
 | 0 => fun _ _ _ r h => by simp [laws_heldPlaceS.l0] at h
 | k + 1 => by
  have ih0 := laws_heldPlaceS.mono_l k
  ·
   intro y0 y1 y2
   unfold laws_heldPlaceS.l0
   repeat' (with_reducible first | exact ih0 _ _ _ | exact laws_heldIntS.mono _ _ _ | exact mr_ | exact mn_ | refine mi_ ?_ ?_ | refine mb_ ?_ (fun _ => ?_))
theorem laws_heldPlaceS.mono : ∀ a0 a1 k, LeO (laws_heldPlaceS.f k a0 a1) (laws_heldPlaceS.f (k + 1) a0 a1) := by
 intro a0 a1 k; have ih0 := laws_heldPlaceS.mono_l k; unfold laws_heldPlaceS.f; repeat' (with_reducible first | exact ih0 _ _ _ | exact laws_heldIntS.mono _ _ _ | exact mr_ | exact mn_ | refine mi_ ?_ ?_ | refine mb_ ?_ (fun _ => ?_))
set_option maxHeartbeats 8000000 in
set_option maxRecDepth 100000 in
theorem laws_heldPlaceS.calls (k : Nat) (A0 : Option Addr) (c0 : Nat) (l0 : List (S26)) (a1 : Int) (r : Int) (w : World) (hr0 : Kd.C k26 w A0 l0.length l0) (hc0 : l0.length ≤ c0) (h : laws_heldPlaceS.f k l0 a1 = some r) :
  Calls Try.prog 29 #[.slice A0 l0.length c0, .int .i64 a1] w fun e w' => e = .returned (.int .i64 r) ∧ Drawn0 w w' := by
 have HR0 := A_ hr0; have HC0 := A_ hc0; clear hr0 hc0; have H : (laws_heldPlaceS.l0 k l0 a1 0) = some r := h; clear h; have H' := A_ H; clear H; go_enter Try.func29, Try.ntmps29; go_wp2
 go_loopg [1, 5] k (fun kq v1 v5 w' => ∃ (ah : Int) (aa : Int), v1 = .int .i64 ah ∧ v5 = .int .i64 aa ∧ Aside0 (laws_heldPlaceS.l0 kq l0 ah aa = some r) ∧ Aside0 (kq ≤ k) ∧ Drawn0 w w')
 case atStart => exact ⟨(a1), (0), tx_, tx_, H', ⟨Nat.le_refl _⟩, by repeat (first | exact Drawn0.refl _ | apply Drawn0.step)⟩
 case round =>
  clear H'; (try clear c2); (try clear p2); obtain ⟨ah, aa, rfl, rfl, HA, HK1, ⟨m1, rfl⟩⟩ := hrel
  cases gk with
  | zero => exact absurd HA.out (by simp [laws_heldPlaceS.l0])
  | succ k1 =>
   have H := HA.out; clear HA; simp only [laws_heldPlaceS.l0] at H; by_cases c3 : aa < (l0.length : Int)
   ·
    rw [if_pos c3] at H; have bi : decide (aa < (l0.length : Int)) = true := decide_eq_true c3; clear c3; by_cases c4 : 0 ≤ aa
    ·
     rw [if_pos c4] at H; have aU : decide (0 ≤ aa) = true := decide_eq_true c4; clear c4; obtain ⟨ai, A5, H⟩ := bnd_ H; (try dsimp only at H); by_cases c6 : ai < 0
     ·
      rw [if_pos c6] at H; have cl : decide (ai < 0) = true := decide_eq_true c6; clear c6; obtain rfl := Option.some.inj H; have p300 : 0 ≤ (aa : Int) := od_; have q300 : aa < (l0.length : Int) := od_; obtain ⟨ad300, aq, ar, az, aA, e300, af, aE, ag, hl300_0, hi300_0, hl300_2, hi300_2⟩ := at_T26 HR0.out aa p300 q300; cases e300; have aF := A_ hi300_0; have aj := A_ hl300_0; clear hi300_0 hl300_0; have aG := A_ hi300_2; have aH := A_ hl300_2; clear hi300_2 hl300_2; replace p300 := eq_true p300; replace q300 := eq_true q300; go_wp2_with (first | ((with_reducible refine gate_callee (f := 42) rfl ?_); refine gl_ (some 18) Try.func42 #[.slice aq ((rd_T26 l0 aa).f0).length ar, .int .i64 ah] ?_; (with_reducible refine (laws_heldIntS.calls k1 _ _ ((rd_T26 l0 aa).f0) ah ai _ ?s1 ?s2 A5.out).mono ?_); (case s1 => exact td_); (case s2 => exact aj.out); rintro e w' ⟨rfl, ⟨nd, rfl⟩⟩; refine ⟨_, rfl, ?_⟩)); go_ret; exact ⟨tx_, by repeat (first | exact Drawn0.refl _ | apply Drawn0.step)⟩
     ·
      rw [if_neg c6] at H; have cl : decide (ai < 0) = false := decide_eq_false c6; clear c6; by_cases c7 : ((rd_T26 l0 aa).f1) = ai
      ·
       rw [if_pos c7] at H; have cm : (((rd_T26 l0 aa).f1) == ai) = true := beq_iff_eq.mpr c7; have cn : (((rd_T26 l0 aa).f1) != ai) = false := bne_eq_false_iff_eq.mpr c7; clear c7; obtain ⟨aD, A8, H⟩ := bnd_ H; (try dsimp only at H); by_cases c9 : aD < 0
       ·
        rw [if_pos c9] at H; have bp : decide (aD < 0) = true := decide_eq_true c9; clear c9; obtain rfl := Option.some.inj H; have p300 : 0 ≤ (aa : Int) := od_; have q300 : aa < (l0.length : Int) := od_; obtain ⟨ad300, aq, ar, az, aA, e300, af, aE, ag, hl300_0, hi300_0, hl300_2, hi300_2⟩ := at_T26 HR0.out aa p300 q300; cases e300; have aF := A_ hi300_0; have aj := A_ hl300_0; clear hi300_0 hl300_0; have aG := A_ hi300_2; have aH := A_ hl300_2; clear hi300_2 hl300_2; replace p300 := eq_true p300; replace q300 := eq_true q300; go_wp2_with (first | ((with_reducible refine gate_callee (f := 42) rfl ?_); refine gl_ (some 18) Try.func42 #[.slice aq ((rd_T26 l0 aa).f0).length ar, .int .i64 ah] ?_; (with_reducible refine (laws_heldIntS.calls k1 _ _ ((rd_T26 l0 aa).f0) ah ai _ ?s1 ?s2 A5.out).mono ?_); (case s1 => exact td_); (case s2 => exact aj.out); rintro e w' ⟨rfl, ⟨nd, rfl⟩⟩; refine ⟨_, rfl, ?_⟩; have p302 : 0 ≤ (aa : Int) := od_; have q302 : aa < (l0.length : Int) := od_; obtain ⟨ad302, aW, aX, aY, aZ, e302, av, aN, aw, hl302_0, hi302_0, hl302_2, hi302_2⟩ := at_T26 HR0.out aa p302 q302; obtain rfl : ad300 = ad302 := (by injection e302); have aO := A_ hi302_0; have aP := A_ hl302_0; clear hi302_0 hl302_0; have aQ := A_ hi302_2; have aR := A_ hl302_2; clear hi302_2 hl302_2; replace p302 := eq_true p302; replace q302 := eq_true q302; have ea_ := Option.some.inj (af.symm.trans av); injection ea_ with ea_ en_ ec_; subst ea_; subst ec_; clear en_; have ea_ := Option.some.inj (ag.symm.trans aw); injection ea_ with ea_ en_ ec_; subst ea_; subst ec_; clear en_; have p303 : 0 ≤ (aa : Int) := od_; have q303 : aa < (l0.length : Int) := od_; obtain ⟨ad303, bq, br, bs, bu, e303, aI, a6, aJ, hl303_0, hi303_0, hl303_2, hi303_2⟩ := at_T26 HR0.out aa p303 q303; obtain rfl : ad300 = ad303 := (by injection e303); have a7 := A_ hi303_0; have a8 := A_ hl303_0; clear hi303_0 hl303_0; have a9 := A_ hi303_2; have aK := A_ hl303_2; clear hi303_2 hl303_2; replace p303 := eq_true p303; replace q303 := eq_true q303; have ea_ := Option.some.inj (af.symm.trans aI); injection ea_ with ea_ en_ ec_; subst ea_; subst ec_; clear en_; have ea_ := Option.some.inj (ag.symm.trans aJ); injection ea_ with ea_ en_ ec_; subst ea_; subst ec_; clear en_) | ((with_reducible refine gate_callee (f := 42) rfl ?_); refine gl_ (some 36) Try.func42 #[.slice az ((rd_T26 l0 aa).f2).length aA, .int .i64 (wrap64 (ai + 1))] ?_; (with_reducible refine (laws_heldIntS.calls k1 _ _ ((rd_T26 l0 aa).f2) (wrap64 (ai + 1)) aD _ ?s1 ?s2 A8.out).mono ?_); (case s1 => exact td_); (case s2 => exact aK.out); rintro e w' ⟨rfl, ⟨nd, rfl⟩⟩; refine ⟨_, rfl, ?_⟩)); go_ret; exact ⟨tx_, by repeat (first | exact Drawn0.refl _ | apply Drawn0.step)⟩
       ·
        rw [if_neg c9] at H; have bp : decide (aD < 0) = false := decide_eq_false c9; clear c9; have H' := A_ H; clear H; have p300 : 0 ≤ (aa : Int) := od_; have q300 : aa < (l0.length : Int) := od_; obtain ⟨ad300, aq, ar, az, aA, e300, af, aE, ag, hl300_0, hi300_0, hl300_2, hi300_2⟩ := at_T26 HR0.out aa p300 q300; cases e300; have aF := A_ hi300_0; have aj := A_ hl300_0; clear hi300_0 hl300_0; have aG := A_ hi300_2; have aH := A_ hl300_2; clear hi300_2 hl300_2; replace p300 := eq_true p300; replace q300 := eq_true q300; go_wp2_with (first | ((with_reducible refine gate_callee (f := 42) rfl ?_); refine gl_ (some 18) Try.func42 #[.slice aq ((rd_T26 l0 aa).f0).length ar, .int .i64 ah] ?_; (with_reducible refine (laws_heldIntS.calls k1 _ _ ((rd_T26 l0 aa).f0) ah ai _ ?s1 ?s2 A5.out).mono ?_); (case s1 => exact td_); (case s2 => exact aj.out); rintro e w' ⟨rfl, ⟨nd, rfl⟩⟩; refine ⟨_, rfl, ?_⟩; have p302 : 0 ≤ (aa : Int) := od_; have q302 : aa < (l0.length : Int) := od_; obtain ⟨ad302, aW, aX, aY, aZ, e302, av, aN, aw, hl302_0, hi302_0, hl302_2, hi302_2⟩ := at_T26 HR0.out aa p302 q302; obtain rfl : ad300 = ad302 := (by injection e302); have aO := A_ hi302_0; have aP := A_ hl302_0; clear hi302_0 hl302_0; have aQ := A_ hi302_2; have aR := A_ hl302_2; clear hi302_2 hl302_2; replace p302 := eq_true p302; replace q302 := eq_true q302; have ea_ := Option.some.inj (af.symm.trans av); injection ea_ with ea_ en_ ec_; subst ea_; subst ec_; clear en_; have ea_ := Option.some.inj (ag.symm.trans aw); injection ea_ with ea_ en_ ec_; subst ea_; subst ec_; clear en_; have p303 : 0 ≤ (aa : Int) := od_; have q303 : aa < (l0.length : Int) := od_; obtain ⟨ad303, bq, br, bs, bu, e303, aI, a6, aJ, hl303_0, hi303_0, hl303_2, hi303_2⟩ := at_T26 HR0.out aa p303 q303; obtain rfl : ad300 = ad303 := (by injection e303); have a7 := A_ hi303_0; have a8 := A_ hl303_0; clear hi303_0 hl303_0; have a9 := A_ hi303_2; have aK := A_ hl303_2; clear hi303_2 hl303_2; replace p303 := eq_true p303; replace q303 := eq_true q303; have ea_ := Option.some.inj (af.symm.trans aI); injection ea_ with ea_ en_ ec_; subst ea_; subst ec_; clear en_; have ea_ := Option.some.inj (ag.symm.trans aJ); injection ea_ with ea_ en_ ec_; subst ea_; subst ec_; clear en_) | ((with_reducible refine gate_callee (f := 42) rfl ?_); refine gl_ (some 36) Try.func42 #[.slice az ((rd_T26 l0 aa).f2).length aA, .int .i64 (wrap64 (ai + 1))] ?_; (with_reducible refine (laws_heldIntS.calls k1 _ _ ((rd_T26 l0 aa).f2) (wrap64 (ai + 1)) aD _ ?s1 ?s2 A8.out).mono ?_); (case s1 => exact td_); (case s2 => exact aK.out); rintro e w' ⟨rfl, ⟨nd, rfl⟩⟩; refine ⟨_, rfl, ?_⟩))
        go_roundg k1
        case measure => have := HK1.out; omega
        case rel => exact ⟨(aD), (wrap64 (aa + 1)), tx_, tx_, H', ⟨by have := HK1.out; omega⟩, by repeat (first | exact Drawn0.refl _ | apply Drawn0.step)⟩
      ·
       rw [if_neg c7] at H; have cm : (((rd_T26 l0 aa).f1) == ai) = false := beq_eq_false_iff_ne.mpr c7; have cn : (((rd_T26 l0 aa).f1) != ai) = true := bne_iff_ne.mpr c7; obtain rfl := Option.some.inj H; have p300 : 0 ≤ (aa : Int) := od_; have q300 : aa < (l0.length : Int) := od_; obtain ⟨ad300, aq, ar, az, aA, e300, af, aE, ag, hl300_0, hi300_0, hl300_2, hi300_2⟩ := at_T26 HR0.out aa p300 q300; cases e300; have aF := A_ hi300_0; have aj := A_ hl300_0; clear hi300_0 hl300_0; have aG := A_ hi300_2; have aH := A_ hl300_2; clear hi300_2 hl300_2; replace p300 := eq_true p300; replace q300 := eq_true q300; go_wp2_with (first | ((with_reducible refine gate_callee (f := 42) rfl ?_); refine gl_ (some 18) Try.func42 #[.slice aq ((rd_T26 l0 aa).f0).length ar, .int .i64 ah] ?_; (with_reducible refine (laws_heldIntS.calls k1 _ _ ((rd_T26 l0 aa).f0) ah ai _ ?s1 ?s2 A5.out).mono ?_); (case s1 => exact td_); (case s2 => exact aj.out); rintro e w' ⟨rfl, ⟨nd, rfl⟩⟩; refine ⟨_, rfl, ?_⟩; have p302 : 0 ≤ (aa : Int) := od_; have q302 : aa < (l0.length : Int) := od_; obtain ⟨ad302, aW, aX, aY, aZ, e302, av, aN, aw, hl302_0, hi302_0, hl302_2, hi302_2⟩ := at_T26 HR0.out aa p302 q302; obtain rfl : ad300 = ad302 := (by injection e302); have aO := A_ hi302_0; have aP := A_ hl302_0; clear hi302_0 hl302_0; have aQ := A_ hi302_2; have aR := A_ hl302_2; clear hi302_2 hl302_2; replace p302 := eq_true p302; replace q302 := eq_true q302; have ea_ := Option.some.inj (af.symm.trans av); injection ea_ with ea_ en_ ec_; subst ea_; subst ec_; clear en_; have ea_ := Option.some.inj (ag.symm.trans aw); injection ea_ with ea_ en_ ec_; subst ea_; subst ec_; clear en_)); go_ret; exact ⟨tx_, by repeat (first | exact Drawn0.refl _ | apply Drawn0.step)⟩
    ·
     rw [if_neg c4] at H; exact absurd H (by simp)
   ·
    rw [if_neg c3] at H; have bi : decide (aa < (l0.length : Int)) = false := decide_eq_false c3; clear c3; obtain rfl := Option.some.inj H; go_wp2; go_ret; exact ⟨tx_, by repeat (first | exact Drawn0.refl _ | apply Drawn0.step)⟩

/-! ### laws_heldDesk: function 13 -/
def laws_heldDesk.f (k : Nat) (ac : List Int) (a0_1 : Int) (ad : List Int) (au : List (S26)) (a1 : Int) : Option (Int) := (laws_heldPlace.f k ac a0_1 ad a1).bind fun ap => (if ap < 0 then (some (-1)) else ((laws_heldPlaceS.f k au ap).bind fun aB => (if aB < 0 then (some (-1)) else (some aB))))
theorem laws_heldDesk.mono : ∀ a0 a1 a2 a3 a4 k, LeO (laws_heldDesk.f k a0 a1 a2 a3 a4) (laws_heldDesk.f (k + 1) a0 a1 a2 a3 a4) := by
 intro a0 a1 a2 a3 a4 k; unfold laws_heldDesk.f; repeat' (with_reducible first | exact laws_heldPlace.mono _ _ _ _ _ | exact laws_heldPlaceS.mono _ _ _ | exact mr_ | exact mn_ | refine mi_ ?_ ?_ | refine mb_ ?_ (fun _ => ?_))
set_option maxHeartbeats 8000000 in
set_option maxRecDepth 100000 in
theorem laws_heldDesk.calls (k : Nat) (ak : Option Addr) (al : Nat) (ac : List Int) (a0_1 : Int) (an : Option Addr) (ao : Nat) (ad : List Int) (aL : Option Addr) (aM : Nat) (au : List (S26)) (a1 : Int) (r : Int) (w : World) (hr0_0 : Kd.C (Kd.int .i64) w ak ac.length ac) (hc0_0 : ac.length ≤ al) (hr0_2 : Kd.C (Kd.int .i64) w an ad.length ad) (hc0_2 : ad.length ≤ ao) (hr0_3 : Kd.C k26 w aL au.length au) (hc0_3 : au.length ≤ aM) (h : laws_heldDesk.f k ac a0_1 ad au a1 = some r) :
  Calls Try.prog 13 #[.agg #[.slice ak ac.length al, .int .i64 a0_1, .slice an ad.length ao, .slice aL au.length aM], .int .i64 a1] w fun e w' => e = .returned (.int .i64 r) ∧ Below w.heap.size w w' := by
 have hu29 := Try.underlying29; have hu26 := Try.underlying26; have bv := A_ hr0_0; have ay := A_ hc0_0; clear hr0_0 hc0_0; have aV := A_ hr0_2; have aC := A_ hc0_2; clear hr0_2 hc0_2; have cq := A_ hr0_3; have be := A_ hc0_3; clear hr0_3 hc0_3; have HB := A_ (Below.refl w.heap.size w); have H : ((laws_heldPlace.f k ac a0_1 ad a1).bind fun ap => (if ap < 0 then (some (-1)) else ((laws_heldPlaceS.f k au ap).bind fun aB => (if aB < 0 then (some (-1)) else (some aB))))) = some r := h; clear h; obtain ⟨ap, A3, H⟩ := bnd_ H; (try dsimp only at H); by_cases c4 : ap < 0
 ·
  rw [if_pos c4] at H; have aU : decide (ap < 0) = true := decide_eq_true c4; clear c4; obtain rfl := Option.some.inj H; go_enter Try.func13, Try.ntmps13; go_wp2_with (first | ((with_reducible refine gate_dst (N := 2) rfl ?_); refine be_ 2 #[.slice ak ac.length al, .int .i64 a0_1, .slice an ad.length ao, .slice aL au.length aM] 29 ?_; intro bf hg w5 ab hb; have bg := gx_ HB hg; have bh := gx_ HB hg; replace HB := bs_ HB hb; clear hb hg; obtain ⟨bj, bk, bl, co, bm, bn, bo, cp⟩ := cf4_ ab) | ((with_reducible refine gate_callee (f := 28) rfl ?_); refine gl_ (some 8) Try.func28 #[.agg #[.slice ak ac.length al, .int .i64 a0_1, .slice an ad.length ao], .int .i64 a1] ?_; (with_reducible refine (laws_heldPlace.calls k _ _ ac a0_1 _ _ ad a1 ap _ ?s1 ?s2 ?s3 ?s4 A3.out).mono ?_); (case s1 => exact tD_); (case s2 => exact ay.out); (case s3 => exact tD_); (case s4 => exact aC.out); rintro e w7 ⟨rfl, hb⟩; refine ⟨_, rfl, ?_⟩; replace ab := bb_ ab hb; replace HB := bs_ HB hb; (try clear hb))); go_ret; exact ⟨tw_, (tb_ HB.out)⟩
 ·
  rw [if_neg c4] at H; have aU : decide (ap < 0) = false := decide_eq_false c4; clear c4; obtain ⟨aB, A8, H⟩ := bnd_ H; (try dsimp only at H); by_cases c9 : aB < 0
  ·
   rw [if_pos c9] at H; have bp : decide (aB < 0) = true := decide_eq_true c9; clear c9; obtain rfl := Option.some.inj H; go_enter Try.func13, Try.ntmps13; go_wp2_with (first | ((with_reducible refine gate_dst (N := 2) rfl ?_); refine be_ 2 #[.slice ak ac.length al, .int .i64 a0_1, .slice an ad.length ao, .slice aL au.length aM] 29 ?_; intro bf hg ct ab hb; have bg := gx_ HB hg; have bh := gx_ HB hg; replace HB := bs_ HB hb; clear hb hg; obtain ⟨bK, bL, bM, bN, bO, bP, bQ, bR⟩ := cf4_ ab) | ((with_reducible refine gate_callee (f := 28) rfl ?_); refine gl_ (some 8) Try.func28 #[.agg #[.slice ak ac.length al, .int .i64 a0_1, .slice an ad.length ao], .int .i64 a1] ?_; (with_reducible refine (laws_heldPlace.calls k _ _ ac a0_1 _ _ ad a1 ap _ ?s1 ?s2 ?s3 ?s4 A3.out).mono ?_); (case s1 => exact tD_); (case s2 => exact ay.out); (case s3 => exact tD_); (case s4 => exact aC.out); rintro e cu ⟨rfl, hb⟩; refine ⟨_, rfl, ?_⟩; replace ab := bb_ ab hb; replace HB := bs_ HB hb; (try clear hb); obtain ⟨bS, bU, bV, bW, bX, bZ, b0, b1⟩ := cf4_ ab) | ((with_reducible refine gate_callee (f := 29) rfl ?_); refine gl_ (some 14) Try.func29 #[.slice aL au.length aM, .int .i64 ap] ?_; (with_reducible refine (laws_heldPlaceS.calls k _ _ au ap aB _ ?s1 ?s2 A8.out).mono ?_); (case s1 => exact tD_); (case s2 => exact be.out); rintro e w' ⟨rfl, ⟨nd, rfl⟩⟩; refine ⟨_, rfl, ?_⟩)); go_ret; exact ⟨tw_, (tb_ HB.out)⟩
  ·
   rw [if_neg c9] at H; have bp : decide (aB < 0) = false := decide_eq_false c9; clear c9; obtain rfl := Option.some.inj H; go_enter Try.func13, Try.ntmps13; go_wp2_with (first | ((with_reducible refine gate_dst (N := 2) rfl ?_); refine be_ 2 #[.slice ak ac.length al, .int .i64 a0_1, .slice an ad.length ao, .slice aL au.length aM] 29 ?_; intro bf hg cv ab hb; have bg := gx_ HB hg; have bh := gx_ HB hg; replace HB := bs_ HB hb; clear hb hg; obtain ⟨b2, b3, b4, b5, b6, b7, b8, b9⟩ := cf4_ ab) | ((with_reducible refine gate_callee (f := 28) rfl ?_); refine gl_ (some 8) Try.func28 #[.agg #[.slice ak ac.length al, .int .i64 a0_1, .slice an ad.length ao], .int .i64 a1] ?_; (with_reducible refine (laws_heldPlace.calls k _ _ ac a0_1 _ _ ad a1 ap _ ?s1 ?s2 ?s3 ?s4 A3.out).mono ?_); (case s1 => exact tD_); (case s2 => exact ay.out); (case s3 => exact tD_); (case s4 => exact aC.out); rintro e cw ⟨rfl, hb⟩; refine ⟨_, rfl, ?_⟩; replace ab := bb_ ab hb; replace HB := bs_ HB hb; (try clear hb); obtain ⟨ca, cb, cc, cd, ce, cf, cg, ch⟩ := cf4_ ab) | ((with_reducible refine gate_callee (f := 29) rfl ?_); refine gl_ (some 14) Try.func29 #[.slice aL au.length aM, .int .i64 ap] ?_; (with_reducible refine (laws_heldPlaceS.calls k _ _ au ap aB _ ?s1 ?s2 A8.out).mono ?_); (case s1 => exact tD_); (case s2 => exact be.out); rintro e w' ⟨rfl, ⟨nd, rfl⟩⟩; refine ⟨_, rfl, ?_⟩)); go_ret; exact ⟨tw_, (tb_ HB.out)⟩

end Go.Proofs.Ytncgleffkbegjaa.MFnExactDeskNew
