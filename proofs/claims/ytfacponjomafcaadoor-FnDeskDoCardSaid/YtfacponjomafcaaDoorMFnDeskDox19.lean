/- For the law FnDeskDo: walks of the functions that it reaches: each call returns what the plain function beside it tells. The conditions stand in each statement. -/
import Derived.Test.YtfacponjomafcaaDoorV
import Derived.Test.YtfacponjomafcaaDoorMFnDeskDox0
import Derived.Test.YtfacponjomafcaaDoorMFnDeskDox14
import Derived.Test.YtfacponjomafcaaDoorMFnDeskDox15
namespace Go.Proofs.YtfacponjomafcaaDoor.MFnDeskDo
open Go.RowKit Go.Proofs.YtfacponjomafcaaDoorW.PrintWords Go.Proofs.YtfacponjomafcaaDoorW.PrintLast Go.Proofs.YtfacponjomafcaaDoorW.PrintMore
attribute [local go_sem] max2_int min2_int max_two min_two max_three min_three max_four min_four   -- for this text's walks alone
set_option linter.unusedVariables false
set_option linter.unusedSimpArgs false
set_option maxHeartbeats 8000000
set_option maxRecDepth 100000

/-! ### laws_sameInts: function 58 -/
def laws_sameInts.l0 : Nat → List Int → List Int → Int → Option (Bool)
 | 0, _, _, _ => none
 | k + 1, x0, x1, x5 => if x5 < (x0.length : Int) then (if 0 ≤ x5 then (if x5 < (x1.length : Int) then (if (rd x0 x5) = (rd x1 x5) then (laws_sameInts.l0 k x0 x1 (wrap64 (x5 + 1))) else (some false)) else (none)) else (none)) else (some true)
def laws_sameInts.f (k : Nat) (l0 : List Int) (l1 : List Int) : Option (Bool) := if (l0.length : Int) = (l1.length : Int) then (laws_sameInts.l0 k l0 l1 0) else (some false)
theorem laws_sameInts.mono_l : ∀ k, (∀ y0 y1 y2, LeO (laws_sameInts.l0 k y0 y1 y2) (laws_sameInts.l0 (k + 1) y0 y1 y2))
 | 0 => fun _ _ _ r h => by simp [laws_sameInts.l0] at h
 | k + 1 => by
  have ih0 := laws_sameInts.mono_l k
  ·
   intro y0 y1 y2
   unfold laws_sameInts.l0
   repeat' (with_reducible first | exact ih0 _ _ _ | exact mr_ | exact mn_ | refine mi_ ?_ ?_ | refine mb_ ?_ (fun _ => ?_))
theorem laws_sameInts.mono : ∀ a0 a1 k, LeO (laws_sameInts.f k a0 a1) (laws_sameInts.f (k + 1) a0 a1) := by
 intro a0 a1 k; have ih0 := laws_sameInts.mono_l k; unfold laws_sameInts.f; repeat' (with_reducible first | exact ih0 _ _ _ | exact mr_ | exact mn_ | refine mi_ ?_ ?_ | refine mb_ ?_ (fun _ => ?_))
theorem laws_sameInts.calls (k : Nat) (A0 : Option Addr) (c0 : Nat) (l0 : List Int) (A1 : Option Addr) (c1 : Nat) (l1 : List Int) (r : Bool) (w : World) (hr0 : Kd.C (Kd.int .i64) w A0 l0.length l0) (hc0 : l0.length ≤ c0) (hr1 : Kd.C (Kd.int .i64) w A1 l1.length l1) (hc1 : l1.length ≤ c1) (h : laws_sameInts.f k l0 l1 = some r) :
  Calls Tryd.prog 58 #[.slice A0 l0.length c0, .slice A1 l1.length c1] w fun e w' => e = .returned (.bool r) ∧ Drawn0 w w' := by
 have HR0 := A_ hr0; have HC0 := A_ hc0; clear hr0 hc0; have HR1 := A_ hr1; have HC1 := A_ hc1; clear hr1 hc1; have H : (if (l0.length : Int) = (l1.length : Int) then (laws_sameInts.l0 k l0 l1 0) else (some false)) = some r := h; clear h; by_cases c3 : (l0.length : Int) = (l1.length : Int)
 ·
  rw [if_pos c3] at H; have aO : ((l0.length : Int) == (l1.length : Int)) = true := beq_iff_eq.mpr c3; have bf : ((l0.length : Int) != (l1.length : Int)) = false := bne_eq_false_iff_eq.mpr c3; have bx : (l0.length == l1.length) = true := by first | simpa using c3 | (simp at c3 ⊢; omega)
  clear c3; have H' := A_ H; clear H; go_enter Tryd.func58, Tryd.ntmps58; go_wp2; repeat (go_quiet (fail); try go_wp2)
  go_loopg [5] k (fun kq v5 w' => ∃ (ac : Int), v5 = .int .i64 ac ∧ Aside0 (laws_sameInts.l0 kq l0 l1 ac = some r) ∧ Aside0 (kq ≤ k) ∧ Drawn0 w w')
  case atStart => exact ⟨(0), tx_, H', ⟨Nat.le_refl _⟩, dz_⟩
  case round =>
   clear H'; (try clear c3); (try clear aO); (try clear bf); (try clear bx); obtain ⟨ac, rfl, HA, HK1, ⟨m1, rfl⟩⟩ := hrel
   cases gk with
   | zero => exact absurd HA.out (by simp [laws_sameInts.l0])
   | succ k1 =>
    have H := HA.out; clear HA; simp only [laws_sameInts.l0] at H; replace H := it_ H; rcases H with ⟨bc, H⟩ | ⟨bc, H⟩
    ·
     replace H := in_ H; obtain ⟨bz, H⟩ := H; replace H := in_ H; obtain ⟨bd, H⟩ := H; by_cases c7 : (rd l0 ac) = (rd l1 ac)
     ·
      rw [if_pos c7] at H; have bg : ((rd l0 ac) == (rd l1 ac)) = true := beq_iff_eq.mpr c7; have bL : ((rd l0 ac) != (rd l1 ac)) = false := bne_eq_false_iff_eq.mpr c7; clear c7; have H' := A_ H; clear H; obtain ⟨p662, q662, ad662, e662, bh⟩ := a2_ (Kd.at_int HR0.out ac); cases e662; obtain ⟨p663, q663, ad663, e663, bi⟩ := a2_ (Kd.at_int HR1.out ac); cases e663; go_wp2; repeat (go_quiet (fail); try go_wp2)
      go_roundg k1
      case measure => have := HK1.out; omega
      case rel => exact ⟨(wrap64 (ac + 1)), tx_, H', ⟨by have := HK1.out; omega⟩, dz_⟩
     ·
      rw [if_neg c7] at H; have bg : ((rd l0 ac) == (rd l1 ac)) = false := beq_eq_false_iff_ne.mpr c7; have bL : ((rd l0 ac) != (rd l1 ac)) = true := bne_iff_ne.mpr c7; obtain rfl := Option.some.inj H; obtain ⟨p662, q662, ad662, e662, bh⟩ := a2_ (Kd.at_int HR0.out ac); cases e662; obtain ⟨p663, q663, ad663, e663, bi⟩ := a2_ (Kd.at_int HR1.out ac); cases e663; go_wp2; repeat (go_quiet (fail); try go_wp2)
      go_ret; exact ⟨tx_, dz_⟩
    ·
     obtain rfl := Option.some.inj H; go_wp2; repeat (go_quiet (fail); try go_wp2)
     go_ret; exact ⟨tx_, dz_⟩
 ·
  rw [if_neg c3] at H; have aO : ((l0.length : Int) == (l1.length : Int)) = false := beq_eq_false_iff_ne.mpr c3; have bf : ((l0.length : Int) != (l1.length : Int)) = true := bne_iff_ne.mpr c3; have bx : (l0.length == l1.length) = false := by first | simpa using c3 | (simp at c3 ⊢; omega)
  obtain rfl := Option.some.inj H; go_enter Tryd.func58, Tryd.ntmps58; go_wp2; repeat (go_quiet (fail); try go_wp2)
  go_ret; exact ⟨tx_, dz_⟩

/-! ### laws_samePlace: function 32 -/
def laws_samePlace.f (k : Nat) (ad : List Int) (a0_1 : Int) (ae : List Int) (af : List Int) (a1_1 : Int) (ag : List Int) : Option (Bool) := (laws_sameInts.f k ad af).bind fun bk => (if bk = true then (if a0_1 = a1_1 then ((laws_sameInts.f k ae ag).bind fun bB => (some bB)) else (some false)) else (some false))
theorem laws_samePlace.mono : ∀ a0 a1 a2 a3 a4 a5 k, LeO (laws_samePlace.f k a0 a1 a2 a3 a4 a5) (laws_samePlace.f (k + 1) a0 a1 a2 a3 a4 a5) := by
 intro a0 a1 a2 a3 a4 a5 k; unfold laws_samePlace.f; repeat' (with_reducible first | exact laws_sameInts.mono _ _ _ | exact mr_ | exact mn_ | refine mi_ ?_ ?_ | refine mb_ ?_ (fun _ => ?_))
theorem laws_samePlace.z0 {P_ : Prop} (h_ : P_ := by go_wp2_with (first | ((with_reducible refine gate_dst (N := 2) rfl ?_); refine al_ st ?_; clear st cl; intro g2 w_ st; have cl := cl_ st) | ((with_reducible refine gate_dst (N := 3) rfl ?_); refine al_ st ?_; clear st cl; intro g3 w_ st; have cl := cl_ st) | ((with_reducible refine gate_callee (f := 58) rfl ?_); refine ca_ (some 9) Tryd.func58 _ (laws_sameInts.calls k aw ax _ ay az _ _ _ (gt_ st) (gt_ st) (gt_ st) (gt_ st) A_9.out) ?_; rintro e w_ ⟨rfl, hb⟩; refine ⟨_, rfl, ?_⟩; replace hb := hb.below; replace st := st.ev hb; clear cl hb; have cl := cl_ st) | ((with_reducible refine gate_callee (f := 58) rfl ?_); refine gate_guard (by rfl) ?_; dsimp only; refine ca_ (some 22) Tryd.func58 _ (laws_sameInts.calls k aA aB _ aC aD _ _ _ (gt_ st) (gt_ st) (gt_ st) (gt_ st) A_22.out) ?_; rintro e w_ ⟨rfl, hb⟩; refine ⟨_, rfl, ?_⟩; replace hb := hb.below; replace st := st.ev hb; clear cl hb; have cl := cl_ st)); (go_ret; exact ⟨tw_, st.b⟩)) : P_ := h_
theorem laws_samePlace.calls (k : Nat) (aw : Option Addr) (ax : Nat) (ad : List Int) (a0_1 : Int) (aA : Option Addr) (aB : Nat) (ae : List Int) (ay : Option Addr) (az : Nat) (af : List Int) (a1_1 : Int) (aC : Option Addr) (aD : Nat) (ag : List Int) (r : Bool) (w : World) (hr0_0 : Kd.C (Kd.int .i64) w aw ad.length ad) (hc0_0 : ad.length ≤ ax) (hr0_2 : Kd.C (Kd.int .i64) w aA ae.length ae) (hc0_2 : ae.length ≤ aB) (hr1_0 : Kd.C (Kd.int .i64) w ay af.length af) (hc1_0 : af.length ≤ az) (hr1_2 : Kd.C (Kd.int .i64) w aC ag.length ag) (hc1_2 : ag.length ≤ aD) (h : laws_samePlace.f k ad a0_1 ae af a1_1 ag = some r) :
  Calls Tryd.prog 32 #[.agg #[.slice aw ad.length ax, .int .i64 a0_1, .slice aA ae.length aB], .agg #[.slice ay af.length az, .int .i64 a1_1, .slice aC ag.length aD]] w fun e w' => e = .returned (.bool r) ∧ Below w.heap.size w w' := by
 have hu25 := Tryd.underlying25; have st := ((((ST.nil w).c hr0_0 hc0_0).c hr0_2 hc0_2).c hr1_0 hc1_0).c hr1_2 hc1_2; have s0 := st; have cl := cl_ st; have H := h; clear h; unfold laws_samePlace.f at H; go_enter Tryd.func32, Tryd.ntmps32; obtain ⟨bk, A_9, H⟩ := bnd_ H; rcases bx_ bk with rfl | rfl
 ·
  replace H := bt_ H; by_cases c3 : a0_1 = a1_1
  ·
   rw [if_pos c3] at H; have aO : (a0_1 == a1_1) = true := beq_iff_eq.mpr c3; have bf : (a0_1 != a1_1) = false := bne_eq_false_iff_eq.mpr c3; clear c3; obtain ⟨bB, A_22, H⟩ := bnd_ H; obtain rfl := Option.some.inj H; exact laws_samePlace.z0
  ·
   rw [if_neg c3] at H; have aO : (a0_1 == a1_1) = false := beq_eq_false_iff_ne.mpr c3; have bf : (a0_1 != a1_1) = true := bne_iff_ne.mpr c3; obtain rfl := Option.some.inj H; exact laws_samePlace.z0
 ·
  replace H := bf_ H; obtain rfl := Option.some.inj H; exact laws_samePlace.z0

/-! ### laws_sameDesk: function 8 -/
mutual
def laws_sameDesk.j0 : Nat → Bool → List Int → Int → List Int → List (S25) → List Int → Int → List Int → List (S25) → Option (Bool)
 | 0, _, _, _, _, _, _, _, _, _ => none
 | k + 1, x20, aE, aF, aG, aj, aH, aI, aJ, ak => if x20 = true then (some false) else (laws_sameDesk.l0 k 0 aE aF aG aj aH aI aJ ak)
def laws_sameDesk.l0 : Nat → Int → List Int → Int → List Int → List (S25) → List Int → Int → List Int → List (S25) → Option (Bool)
 | 0, _, _, _, _, _, _, _, _, _ => none
 | k + 1, x5, aE, aF, aG, aj, aH, aI, aJ, ak => if x5 < (aj.length : Int) then (if 0 ≤ x5 then (if x5 < (ak.length : Int) then ((laws_samePlace.f k ((rd_T25 aj x5).f0) ((rd_T25 aj x5).f1) ((rd_T25 aj x5).f2) ((rd_T25 ak x5).f0) ((rd_T25 ak x5).f1) ((rd_T25 ak x5).f2)).bind fun bl => (if bl = true then (laws_sameDesk.l0 k (wrap64 (x5 + 1)) aE aF aG aj aH aI aJ ak) else (some false))) else (none)) else (none)) else (some true)
end
def laws_sameDesk.f (k : Nat) (ad : List Int) (a0_1 : Int) (ae : List Int) (ah : List (S25)) (af : List Int) (a1_1 : Int) (ag : List Int) (ai : List (S25)) : Option (Bool) := (laws_samePlace.f k ad a0_1 ae af a1_1 ag).bind fun bm => (if bm = true then (laws_sameDesk.j0 k ((ah.length : Int) != (ai.length : Int)) ad a0_1 ae ah af a1_1 ag ai) else (laws_sameDesk.j0 k true ad a0_1 ae ah af a1_1 ag ai))
theorem laws_sameDesk.mono_l : ∀ k, (∀ y0 y1 y2 y3 y4 y5 y6 y7 y8, LeO (laws_sameDesk.j0 k y0 y1 y2 y3 y4 y5 y6 y7 y8) (laws_sameDesk.j0 (k + 1) y0 y1 y2 y3 y4 y5 y6 y7 y8)) ∧ (∀ y0 y1 y2 y3 y4 y5 y6 y7 y8, LeO (laws_sameDesk.l0 k y0 y1 y2 y3 y4 y5 y6 y7 y8) (laws_sameDesk.l0 (k + 1) y0 y1 y2 y3 y4 y5 y6 y7 y8))
 | 0 => ⟨fun _ _ _ _ _ _ _ _ _ r h => by simp [laws_sameDesk.j0] at h, fun _ _ _ _ _ _ _ _ _ r h => by simp [laws_sameDesk.l0] at h⟩
 | k + 1 => by
  obtain ⟨ih0, ih1⟩ := laws_sameDesk.mono_l k
  refine ⟨?_, ?_⟩
  ·
   intro y0 y1 y2 y3 y4 y5 y6 y7 y8
   unfold laws_sameDesk.j0
   repeat' (with_reducible first | exact ih0 _ _ _ _ _ _ _ _ _ | exact ih1 _ _ _ _ _ _ _ _ _ | exact laws_samePlace.mono _ _ _ _ _ _ _ | exact mr_ | exact mn_ | refine mi_ ?_ ?_ | refine mb_ ?_ (fun _ => ?_))
  ·
   intro y0 y1 y2 y3 y4 y5 y6 y7 y8
   unfold laws_sameDesk.l0
   repeat' (with_reducible first | exact ih0 _ _ _ _ _ _ _ _ _ | exact ih1 _ _ _ _ _ _ _ _ _ | exact laws_samePlace.mono _ _ _ _ _ _ _ | exact mr_ | exact mn_ | refine mi_ ?_ ?_ | refine mb_ ?_ (fun _ => ?_))
theorem laws_sameDesk.mono : ∀ a0 a1 a2 a3 a4 a5 a6 a7 k, LeO (laws_sameDesk.f k a0 a1 a2 a3 a4 a5 a6 a7) (laws_sameDesk.f (k + 1) a0 a1 a2 a3 a4 a5 a6 a7) := by
 intro a0 a1 a2 a3 a4 a5 a6 a7 k; obtain ⟨ih0, ih1⟩ := laws_sameDesk.mono_l k; unfold laws_sameDesk.f; repeat' (with_reducible first | exact ih0 _ _ _ _ _ _ _ _ _ | exact ih1 _ _ _ _ _ _ _ _ _ | exact laws_samePlace.mono _ _ _ _ _ _ _ | exact mr_ | exact mn_ | refine mi_ ?_ ?_ | refine mb_ ?_ (fun _ => ?_))
def laws_sameDesk.T6 : Bool × List (List Nat × List Nat) := (true, [([], []), ([0], [0]), ([], []), ([1, 2], [1, 2]), ([3], [3]), ([], []), ([5], [5]), ([], []), ([6, 7], [6, 7]), ([8], [8]), ([4, 9], [4, 9]), ([10], [10])])
def laws_sameDesk.B6 : List Nat := [0, 1, 0, 7, 15, 0, 32, 0, 224, 480, 1023, 2047]
theorem laws_sameDesk.tab6 : rtab .any (opsOf Tryd.f8 6) = laws_sameDesk.T6 := by kernel_rfl
theorem laws_sameDesk.bits6 : waitsOk laws_sameDesk.T6.2 laws_sameDesk.B6 = true := by kernel_rfl
theorem laws_sameDesk.z0 {P_ : Prop} (h_ : P_ := by go_wp2_with (first | ((with_reducible refine gate_callee (f := 32) rfl ?_); refine ca_ (some 10) Tryd.func32 _ (laws_samePlace.calls k aw ax _ _ aA aB _ ay az _ _ aC aD _ _ _ (gt_ st) (gt_ st) (gt_ st) (gt_ st) (gt_ st) (gt_ st) (gt_ st) (gt_ st) A_10.out) ?_; rintro e w_ ⟨rfl, hb⟩; refine ⟨_, rfl, ?_⟩; replace st := st.ev hb; clear cl hb; have cl := cl_ st)); first | (go_meet; (case rel => exact ⟨_, (((ah.length : Int) != (ai.length : Int))), tx_, H', ⟨by first | omega | exact Nat.le_refl _⟩, st.en⟩)) | (go_meet; (case rel => exact ⟨_, (true), tx_, H', ⟨by first | omega | exact Nat.le_refl _⟩, st.en⟩))) : P_ := h_
theorem laws_sameDesk.calls (k : Nat) (aw : Option Addr) (ax : Nat) (ad : List Int) (a0_1 : Int) (aA : Option Addr) (aB : Nat) (ae : List Int) (aK : Option Addr) (aL : Nat) (ah : List (S25)) (ay : Option Addr) (az : Nat) (af : List Int) (a1_1 : Int) (aC : Option Addr) (aD : Nat) (ag : List Int) (aM : Option Addr) (aN : Nat) (ai : List (S25)) (r : Bool) (w : World) (hr0_0 : Kd.C (Kd.int .i64) w aw ad.length ad) (hc0_0 : ad.length ≤ ax) (hr0_2 : Kd.C (Kd.int .i64) w aA ae.length ae) (hc0_2 : ae.length ≤ aB) (hr0_3 : Kd.C k25 w aK ah.length ah) (hc0_3 : ah.length ≤ aL) (hr1_0 : Kd.C (Kd.int .i64) w ay af.length af) (hc1_0 : af.length ≤ az) (hr1_2 : Kd.C (Kd.int .i64) w aC ag.length ag) (hc1_2 : ag.length ≤ aD) (hr1_3 : Kd.C k25 w aM ai.length ai) (hc1_3 : ai.length ≤ aN) (h : laws_sameDesk.f k ad a0_1 ae ah af a1_1 ag ai = some r) :
  Calls Tryd.prog 8 #[.agg #[.slice aw ad.length ax, .int .i64 a0_1, .slice aA ae.length aB, .slice aK ah.length aL], .agg #[.slice ay af.length az, .int .i64 a1_1, .slice aC ag.length aD, .slice aM ai.length aN]] w fun e w' => e = .returned (.bool r) ∧ Below w.heap.size w w' := by
 have hu28 := Tryd.underlying28; have hu25 := Tryd.underlying25; have st := ((((((ST.nil w).c hr0_0 hc0_0).c hr0_2 hc0_2).c hr0_3 hc0_3).c hr1_0 hc1_0).c hr1_2 hc1_2).c hr1_3 hc1_3; have s0 := st; have cl := cl_ st; have H := h; clear h; unfold laws_sameDesk.f at H; go_enter Tryd.func8, Tryd.ntmps8; have HC4 := A_ H; clear H
 go_upto_region 1 with (first | ((with_reducible refine gate_dst (N := 2) rfl ?_); refine al_ st ?_; clear st cl; intro g2 w_ st; have cl := cl_ st) | ((with_reducible refine gate_dst (N := 3) rfl ?_); refine al_ st ?_; clear st cl; intro g3 w_ st; have cl := cl_ st))
 (try simp only [Act.put, sa_, sb_, sc_])
 go_cut [20] (fun bO wc => ∃ (kq : Nat) (a9 : Bool), bO = .bool a9 ∧ Aside0 (laws_sameDesk.j0 kq a9 ad a0_1 ae ah af a1_1 ag ai = some r) ∧ Aside0 (kq ≤ k) ∧ ST w [CA (Kd.int .i64) w aw ad ax, CA (Kd.int .i64) w aA ae aB, CA k25 w aK ah aL, CA (Kd.int .i64) w ay af az, CA (Kd.int .i64) w aC ag aD, CA k25 w aM ai aN] [Bx g2 #[.slice aw ad.length ax, .int .i64 a0_1, .slice aA ae.length aB, .slice aK ah.length aL] 28, Bx g3 #[.slice ay af.length az, .int .i64 a1_1, .slice aC ag.length aD, .slice aM ai.length aN] 28] wc)
 case first =>
  have H := HC4.out; clear HC4; obtain ⟨bm, A_10, H⟩ := bnd_ H; rcases bx_ bm with rfl | rfl
  ·
   replace H := bt_ H; have H' := A_ H; clear H; exact laws_sameDesk.z0
  ·
   replace H := bf_ H; have H' := A_ H; clear H; exact laws_sameDesk.z0
 case rest =>
  clear HC4 st cl; obtain ⟨kq, a9, rfl, HA, HJ3, st⟩ := hcut; have cl := cl_ st
  cases kq with
  | zero => exact absurd HA.out (by simp [laws_sameDesk.j0])
  | succ kj3 =>
   have H := HA.out; clear HA; simp only [laws_sameDesk.j0] at H; rcases bx_ a9 with rfl | rfl
   ·
    replace H := bt_ H; obtain rfl := Option.some.inj H; go_wp2; go_ret; exact ⟨tw_, st.b⟩
   ·
    replace H := bf_ H; have H' := A_ H; clear H; go_wp2
    go_loopg [5] kj3 (fun kq v5 w' => ∃ (au : Int), v5 = .int .i64 au ∧ Aside0 (laws_sameDesk.l0 kq au ad a0_1 ae ah af a1_1 ag ai = some r) ∧ Aside0 (kq ≤ kj3) ∧ ST w [CA (Kd.int .i64) w aw ad ax, CA (Kd.int .i64) w aA ae aB, CA k25 w aK ah aL, CA (Kd.int .i64) w ay af az, CA (Kd.int .i64) w aC ag aD, CA k25 w aM ai aN] [Bx g2 #[.slice aw ad.length ax, .int .i64 a0_1, .slice aA ae.length aB, .slice aK ah.length aL] 28, Bx g3 #[.slice ay af.length az, .int .i64 a1_1, .slice aC ag.length aD, .slice aM ai.length aN] 28] w')
    case atStart => exact ⟨(0), tx_, H', ⟨Nat.le_refl _⟩, st.en⟩
    case round =>
     clear H' st cl; obtain ⟨au, rfl, HA, HK2, st⟩ := hrel; have cl := cl_ st
     cases gk with
     | zero => exact absurd HA.out (by simp [laws_sameDesk.l0])
     | succ k2 =>
      have H := HA.out; clear HA; simp only [laws_sameDesk.l0] at H; replace H := it_ H; rcases H with ⟨bd, H⟩ | ⟨bd, H⟩
      ·
       replace H := in_ H; obtain ⟨bg, H⟩ := H; replace H := in_ H; obtain ⟨bM, H⟩ := H; obtain ⟨bl, A_38, H⟩ := bnd_ H; rcases bx_ bl with rfl | rfl
       ·
        replace H := bt_ H; have H' := A_ H; clear H; (try go_wp2); (all_goals (obtain ⟨p_, q_, ad_, aP, aQ, aR, aU, e_, al, am, an, l0_, C0_, l2_, C2_⟩ := a2_ (at_T25 (gC_ s0 k25 aK ah) au); replace st := st.c C0_ l0_; replace st := st.c C2_ l2_; have ix671 := ix3_ Tryd.underlying26 e_ p_ q_ (c := aL); clear e_; obtain ⟨p_, q_, ad_, aV, aW, aX, aY, e_, ao, ap, aq, l0_, C0_, l2_, C2_⟩ := a2_ (at_T25 (gC_ s0 k25 aM ai) au); replace st := st.c C0_ l0_; replace st := st.c C2_ l2_; have ix672 := ix3_ Tryd.underlying26 e_ p_ q_ (c := aN); clear e_; refine rg_ st [] ?_; clear st cl; intro w_ st hs; have cl := cl_ st; refine with_tabW laws_sameDesk.tab6 laws_sameDesk.bits6 (fun HT_ HW_ => ?_); refine pv_ 0 ?_; refine pv_ 2 ?_; refine pv_ 5 ?_; refine pv_ 7 ?_; refine tu_ 1 ?_ (hy := by intro w' s_; have cl := cl_ s_; have y671_0 := cb_ s_ al; have y671_1 := cb_ s_ am; have y671_2 := cb_ s_ an; have y672_0 := cb_ s_ ao; have y672_1 := cb_ s_ ap; have y672_2 := cb_ s_ aq; go_simp; first | with_reducible rfl | (rw [if_neg (by omega)]; done)); refine tu_ 6 ?_ (hy := by intro w' s_; have cl := cl_ s_; have y671_0 := cb_ s_ al; have y671_1 := cb_ s_ am; have y671_2 := cb_ s_ an; have y672_0 := cb_ s_ ao; have y672_1 := cb_ s_ ap; have y672_2 := cb_ s_ aq; go_simp; first | with_reducible rfl | (rw [if_neg (by omega)]; done)); refine pv_ 3 ?_; refine pv_ 8 ?_; refine tu_ 4 ?_ (hy := by intro w' s_; have cl := cl_ s_; have y671_0 := cb_ s_ al; have y671_1 := cb_ s_ am; have y671_2 := cb_ s_ an; have y672_0 := cb_ s_ ao; have y672_1 := cb_ s_ ap; have y672_2 := cb_ s_ aq; go_simp; first | with_reducible rfl | (rw [if_neg (by omega)]; done)); refine tu_ 9 ?_ (hy := by intro w' s_; have cl := cl_ s_; have y671_0 := cb_ s_ al; have y671_1 := cb_ s_ am; have y671_2 := cb_ s_ an; have y672_0 := cb_ s_ ao; have y672_1 := cb_ s_ ap; have y672_2 := cb_ s_ aq; go_simp; first | with_reducible rfl | (rw [if_neg (by omega)]; done)); refine ov_ 10 (fun K hK => ?_); refine ca2_ (some 38) Tryd.func32 _ (laws_samePlace.calls k2 aP aQ _ _ aR aU _ aV aW _ _ aX aY _ _ _ (gt_ st) (gt_ st) (gt_ st) (gt_ st) (gt_ st) (gt_ st) (gt_ st) (gt_ st) A_38.out) ?_; rintro e w_ ⟨rfl, hb⟩; refine ⟨_, rfl, ?_⟩; replace st := st.ev hb; clear cl hb; have cl := cl_ st; refine hK.out _ _ st.en (fun hs => ?_); clear hK K; refine nr_ 38 ?_; refine pv_ 11 ?_; refine done_ (done_of HT_.out (by kernel_rfl)) ?_; all_goals (try go_wp2)))
        go_roundg k2
        case measure => have := HJ3.out; have := HK2.out; omega
        case rel => exact ⟨(wrap64 (au + 1)), tx_, H', ⟨by have := HJ3.out; have := HK2.out; omega⟩, st.en⟩
       ·
        replace H := bf_ H; obtain rfl := Option.some.inj H; (try go_wp2); (all_goals (obtain ⟨p_, q_, ad_, aP, aQ, aR, aU, e_, al, am, an, l0_, C0_, l2_, C2_⟩ := a2_ (at_T25 (gC_ s0 k25 aK ah) au); replace st := st.c C0_ l0_; replace st := st.c C2_ l2_; have ix671 := ix3_ Tryd.underlying26 e_ p_ q_ (c := aL); clear e_; obtain ⟨p_, q_, ad_, aV, aW, aX, aY, e_, ao, ap, aq, l0_, C0_, l2_, C2_⟩ := a2_ (at_T25 (gC_ s0 k25 aM ai) au); replace st := st.c C0_ l0_; replace st := st.c C2_ l2_; have ix672 := ix3_ Tryd.underlying26 e_ p_ q_ (c := aN); clear e_; refine rg_ st [] ?_; clear st cl; intro w_ st hs; have cl := cl_ st; refine with_tabW laws_sameDesk.tab6 laws_sameDesk.bits6 (fun HT_ HW_ => ?_); refine pv_ 0 ?_; refine pv_ 2 ?_; refine pv_ 5 ?_; refine pv_ 7 ?_; refine tu_ 1 ?_ (hy := by intro w' s_; have cl := cl_ s_; have y671_0 := cb_ s_ al; have y671_1 := cb_ s_ am; have y671_2 := cb_ s_ an; have y672_0 := cb_ s_ ao; have y672_1 := cb_ s_ ap; have y672_2 := cb_ s_ aq; go_simp; first | with_reducible rfl | (rw [if_neg (by omega)]; done)); refine tu_ 6 ?_ (hy := by intro w' s_; have cl := cl_ s_; have y671_0 := cb_ s_ al; have y671_1 := cb_ s_ am; have y671_2 := cb_ s_ an; have y672_0 := cb_ s_ ao; have y672_1 := cb_ s_ ap; have y672_2 := cb_ s_ aq; go_simp; first | with_reducible rfl | (rw [if_neg (by omega)]; done)); refine pv_ 3 ?_; refine pv_ 8 ?_; refine tu_ 4 ?_ (hy := by intro w' s_; have cl := cl_ s_; have y671_0 := cb_ s_ al; have y671_1 := cb_ s_ am; have y671_2 := cb_ s_ an; have y672_0 := cb_ s_ ao; have y672_1 := cb_ s_ ap; have y672_2 := cb_ s_ aq; go_simp; first | with_reducible rfl | (rw [if_neg (by omega)]; done)); refine tu_ 9 ?_ (hy := by intro w' s_; have cl := cl_ s_; have y671_0 := cb_ s_ al; have y671_1 := cb_ s_ am; have y671_2 := cb_ s_ an; have y672_0 := cb_ s_ ao; have y672_1 := cb_ s_ ap; have y672_2 := cb_ s_ aq; go_simp; first | with_reducible rfl | (rw [if_neg (by omega)]; done)); refine ov_ 10 (fun K hK => ?_); refine ca2_ (some 38) Tryd.func32 _ (laws_samePlace.calls k2 aP aQ _ _ aR aU _ aV aW _ _ aX aY _ _ _ (gt_ st) (gt_ st) (gt_ st) (gt_ st) (gt_ st) (gt_ st) (gt_ st) (gt_ st) A_38.out) ?_; rintro e w_ ⟨rfl, hb⟩; refine ⟨_, rfl, ?_⟩; replace st := st.ev hb; clear cl hb; have cl := cl_ st; refine hK.out _ _ st.en (fun hs => ?_); clear hK K; refine nr_ 38 ?_; refine pv_ 11 ?_; refine done_ (done_of HT_.out (by kernel_rfl)) ?_; all_goals (try go_wp2))); go_ret; exact ⟨tw_, st.b⟩
      ·
       obtain rfl := Option.some.inj H; go_wp2; go_ret; exact ⟨tw_, st.b⟩

/-! ### laws_alive: function 10 -/
def laws_alive.f (k : Nat)  : Option (Bool) := (impl_UrnOk.f k (([1] : List Int))).bind fun bn => (if bn = true then ((impl_UrnOk.f k (([] : List Int))).bind fun bC => (some (!bC))) else (some false))
theorem laws_alive.mono : ∀ k, LeO (laws_alive.f k ) (laws_alive.f (k + 1) ) := by
 intro  k; unfold laws_alive.f; repeat' (with_reducible first | exact impl_UrnOk.mono _ _ | exact mr_ | exact mn_ | refine mi_ ?_ ?_ | refine mb_ ?_ (fun _ => ?_))
theorem laws_alive.z0 {P_ : Prop} (h_ : P_ := by go_wp2_with (first | ((with_reducible refine gate_dst (N := 1) rfl ?_); refine nw_ (Kd.int .i64) 3 (([1] : List Int) : List Int) [.int .i64 1] st ?_; clear st cl; intro B1_0 d1_0 w_ st; have cl := cl_ st) | ((with_reducible refine gate_callee (f := 33) rfl ?_); refine ca_ (some 2) Tryd.func33 _ (impl_UrnOk.calls k B1_0 d1_0 _ _ _ (gt_ st) (gt_ st) A_2.out) ?_; rintro e w_ ⟨rfl, hb⟩; refine ⟨_, rfl, ?_⟩; replace hb := hb.below; replace st := st.ev hb; clear cl hb; have cl := cl_ st) | ((with_reducible refine gate_dst (N := 4) rfl ?_); refine gate_guard (by rfl) ?_; dsimp only; refine nw_ (Kd.int .i64) 3 (([] : List Int) : List Int) [] st ?_; clear st cl; intro B4_0 d4_0 w_ st; have cl := cl_ st) | ((with_reducible refine gate_callee (f := 33) rfl ?_); refine gate_guard (by rfl) ?_; dsimp only; refine ca_ (some 5) Tryd.func33 _ (impl_UrnOk.calls k B4_0 d4_0 _ _ _ (gt_ st) (gt_ st) A_5.out) ?_; rintro e w_ ⟨rfl, hb⟩; refine ⟨_, rfl, ?_⟩; replace hb := hb.below; replace st := st.ev hb; clear cl hb; have cl := cl_ st)); (go_ret; exact ⟨tw_, st.b⟩)) : P_ := h_
theorem laws_alive.calls (k : Nat)  (r : Bool) (w : World) (h : laws_alive.f k  = some r) :
  Calls Tryd.prog 10 #[] w fun e w' => e = .returned (.bool r) ∧ Below w.heap.size w w' := by
 have st := ST.nil w; have s0 := st; have cl := cl_ st; have H := h; clear h; unfold laws_alive.f at H; go_enter Tryd.func10, Tryd.ntmps10; obtain ⟨bn, A_2, H⟩ := bnd_ H; rcases bx_ bn with rfl | rfl
 ·
  replace H := bt_ H; obtain ⟨bC, A_5, H⟩ := bnd_ H; obtain rfl := Option.some.inj H; exact laws_alive.z0
 ·
  replace H := bf_ H; obtain rfl := Option.some.inj H; exact laws_alive.z0

/-! ### impl_RuleOk: function 59 -/
mutual
def impl_RuleOk.l0 : Nat → Int → List (List Int) → List (List Int) → Int → Int → Option (Bool)
 | 0, _, _, _, _, _ => none
 | k + 1, x0, x1, x9, x10, x11 => if x11 < x10 then (if 0 ≤ x11 then (if x11 < (x9.length : Int) then (if ((rd_L2 x9 x11).length : Int) = x0 then (impl_RuleOk.l1 k x0 x1 x11 x9 x10 x11 (rd_L2 x9 x11) ((rd_L2 x9 x11).length : Int) 0) else (some false)) else (none)) else (none)) else ((impl_coloursOk.f x0).bind fun bo => (if bo = true then (some ((x1.length : Int) == x0)) else (some false)))
def impl_RuleOk.l1 : Nat → Int → List (List Int) → Int → List (List Int) → Int → Int → List Int → Int → Int → Option (Bool)
 | 0, _, _, _, _, _, _, _, _, _ => none
 | k + 1, x0, x1, x5, x9, x10, x11, x20, x21, x22 => if x22 < x21 then (if 0 ≤ x22 then (if x22 < (x20.length : Int) then (if (rd x20 x22) > 3 then (some false) else (if (rd x20 x22) < (-1) then (some false) else (if (rd x20 x22) = (-1) then (if x5 = x22 then (impl_RuleOk.l1 k x0 x1 x5 x9 x10 x11 x20 x21 (wrap64 (x22 + 1))) else (some false)) else (impl_RuleOk.l1 k x0 x1 x5 x9 x10 x11 x20 x21 (wrap64 (x22 + 1)))))) else (none)) else (none)) else (impl_RuleOk.l0 k x0 x1 x9 x10 (wrap64 (x11 + 1)))
end
def impl_RuleOk.f (k : Nat) (a0 : Int) (l1 : List (List Int)) : Option (Bool) := impl_RuleOk.l0 k a0 l1 l1 (l1.length : Int) 0
theorem impl_RuleOk.mono_l : ∀ k, (∀ y0 y1 y2 y3 y4, LeO (impl_RuleOk.l0 k y0 y1 y2 y3 y4) (impl_RuleOk.l0 (k + 1) y0 y1 y2 y3 y4)) ∧ (∀ y0 y1 y2 y3 y4 y5 y6 y7 y8, LeO (impl_RuleOk.l1 k y0 y1 y2 y3 y4 y5 y6 y7 y8) (impl_RuleOk.l1 (k + 1) y0 y1 y2 y3 y4 y5 y6 y7 y8))
 | 0 => ⟨fun _ _ _ _ _ r h => by simp [impl_RuleOk.l0] at h, fun _ _ _ _ _ _ _ _ _ r h => by simp [impl_RuleOk.l1] at h⟩
 | k + 1 => by
  obtain ⟨ih0, ih1⟩ := impl_RuleOk.mono_l k
  refine ⟨?_, ?_⟩
  ·
   intro y0 y1 y2 y3 y4
   unfold impl_RuleOk.l0
   repeat' (with_reducible first | exact ih0 _ _ _ _ _ | exact ih1 _ _ _ _ _ _ _ _ _ | exact mr_ | exact mn_ | refine mi_ ?_ ?_ | refine mb_ ?_ (fun _ => ?_))
  ·
   intro y0 y1 y2 y3 y4 y5 y6 y7 y8
   unfold impl_RuleOk.l1
   repeat' (with_reducible first | exact ih0 _ _ _ _ _ | exact ih1 _ _ _ _ _ _ _ _ _ | exact mr_ | exact mn_ | refine mi_ ?_ ?_ | refine mb_ ?_ (fun _ => ?_))
theorem impl_RuleOk.mono : ∀ a0 a1 k, LeO (impl_RuleOk.f k a0 a1) (impl_RuleOk.f (k + 1) a0 a1) := by
 intro a0 a1 k; obtain ⟨ih0, ih1⟩ := impl_RuleOk.mono_l k; unfold impl_RuleOk.f; repeat' (with_reducible first | exact ih0 _ _ _ _ _ | exact ih1 _ _ _ _ _ _ _ _ _ | exact mr_ | exact mn_ | refine mi_ ?_ ?_ | refine mb_ ?_ (fun _ => ?_))
theorem impl_RuleOk.calls (k : Nat) (a0 : Int) (A1 : Option Addr) (c1 : Nat) (l1 : List (List Int)) (r : Bool) (w : World) (hr1 : Kd.C (Kd.slice 3 (Kd.int .i64)) w A1 l1.length l1) (hc1 : l1.length ≤ c1) (h : impl_RuleOk.f k a0 l1 = some r) :
  Calls Tryd.prog 59 #[.int .i64 a0, .slice A1 l1.length c1] w fun e w' => e = .returned (.bool r) ∧ Drawn0 w w' := by
 have HR1 := A_ hr1; have HC1 := A_ hc1; clear hr1 hc1; have H : (impl_RuleOk.l0 k a0 l1 l1 (l1.length : Int) 0) = some r := h; clear h; have H' := A_ H; clear H; go_enter Tryd.func59, Tryd.ntmps59; go_wp2
 go_loopg [11] k (fun kq bP w' => ∃ (aa : Int), bP = .int .i64 aa ∧ Aside0 (impl_RuleOk.l0 kq a0 l1 l1 (l1.length : Int) aa = some r) ∧ Aside0 (kq ≤ k) ∧ Drawn0 w w')
 case atStart => exact ⟨(0), tx_, H', ⟨Nat.le_refl _⟩, dz_⟩
 case round =>
  clear H'; obtain ⟨aa, rfl, HA, HK1, ⟨m1, rfl⟩⟩ := hrel
  cases gk with
  | zero => exact absurd HA.out (by simp [impl_RuleOk.l0])
  | succ k1 =>
   have H := HA.out; clear HA; simp only [impl_RuleOk.l0] at H; replace H := it_ H; rcases H with ⟨aO, H⟩ | ⟨aO, H⟩
   ·
    replace H := in_ H; obtain ⟨bc, H⟩ := H; replace H := in_ H; obtain ⟨bz, H⟩ := H; by_cases c6 : ((rd_L2 l1 aa).length : Int) = a0
    ·
     rw [if_pos c6] at H; have bd : (((rd_L2 l1 aa).length : Int) == a0) = true := beq_iff_eq.mpr c6; have bD : (((rd_L2 l1 aa).length : Int) != a0) = false := bne_eq_false_iff_eq.mpr c6; clear c6; have H' := A_ H; clear H; obtain ⟨p683, q683, ad683, bp, bq, e683, bb, hl683_0, hi683_0⟩ := a2_ (at_L2 HR1.out aa); cases e683; have ar := A_ hi683_0; have bj := A_ hl683_0; clear hi683_0 hl683_0; go_wp2
     go_loopg [22] k1 (fun kq bQ w' => ∃ (ab : Int), bQ = .int .i64 ab ∧ Aside0 (impl_RuleOk.l1 kq a0 l1 aa l1 (l1.length : Int) aa (rd_L2 l1 aa) ((rd_L2 l1 aa).length : Int) ab = some r) ∧ Aside0 (kq ≤ k1) ∧ Drawn0 w w')
     case atStart => exact ⟨(0), tx_, H', ⟨Nat.le_refl _⟩, dz_⟩
     case round =>
      clear H'; (try clear c3); (try clear aO); (try clear c4); (try clear bc); (try clear c5); (try clear bz); (try clear c6); (try clear bd); (try clear bD); (try clear bb); (try clear p683); (try clear q683); obtain ⟨ab, rfl, HA, HK2, ⟨m2, rfl⟩⟩ := hrel
      cases gk with
      | zero => exact absurd HA.out (by simp [impl_RuleOk.l1])
      | succ k2 =>
       have H := HA.out; clear HA; simp only [impl_RuleOk.l1] at H; replace H := it_ H; rcases H with ⟨bg, H⟩ | ⟨bg, H⟩
       ·
        replace H := in_ H; obtain ⟨bM, H⟩ := H; replace H := in_ H; obtain ⟨bR, H⟩ := H; replace H := ig_ H; rcases H with ⟨bE, H⟩ | ⟨bE, H⟩
        ·
         obtain rfl := Option.some.inj H; obtain ⟨p684, q684, ad684, e684, av⟩ := a2_ (Kd.at_int ar.out ab); cases e684; go_wp2; go_ret; exact ⟨tx_, dz_⟩
        ·
         replace H := it_ H; rcases H with ⟨bF, H⟩ | ⟨bF, H⟩
         ·
          obtain rfl := Option.some.inj H; obtain ⟨p684, q684, ad684, e684, av⟩ := a2_ (Kd.at_int ar.out ab); cases e684; go_wp2; go_ret; exact ⟨tx_, dz_⟩
         ·
          by_cases c12 : (rd (rd_L2 l1 aa) ab) = (-1)
          ·
           rw [if_pos c12] at H; have bG : ((rd (rd_L2 l1 aa) ab) == (-1)) = true := beq_iff_eq.mpr c12; have bH : ((rd (rd_L2 l1 aa) ab) != (-1)) = false := bne_eq_false_iff_eq.mpr c12; clear c12; by_cases c13 : aa = ab
           ·
            rw [if_pos c13] at H; have bI : (aa == ab) = true := beq_iff_eq.mpr c13; have bJ : (aa != ab) = false := bne_eq_false_iff_eq.mpr c13; clear c13; have H' := A_ H; clear H; obtain ⟨p684, q684, ad684, e684, av⟩ := a2_ (Kd.at_int ar.out ab); cases e684; go_wp2
            go_roundg k2
            case measure => have := HK1.out; have := HK2.out; omega
            case rel => exact ⟨(wrap64 (ab + 1)), tx_, H', ⟨by have := HK1.out; have := HK2.out; omega⟩, dz_⟩
           ·
            rw [if_neg c13] at H; have bI : (aa == ab) = false := beq_eq_false_iff_ne.mpr c13; have bJ : (aa != ab) = true := bne_iff_ne.mpr c13; obtain rfl := Option.some.inj H; obtain ⟨p684, q684, ad684, e684, av⟩ := a2_ (Kd.at_int ar.out ab); cases e684; go_wp2; go_ret; exact ⟨tx_, dz_⟩
          ·
           rw [if_neg c12] at H; have bG : ((rd (rd_L2 l1 aa) ab) == (-1)) = false := beq_eq_false_iff_ne.mpr c12; have bH : ((rd (rd_L2 l1 aa) ab) != (-1)) = true := bne_iff_ne.mpr c12; have H' := A_ H; clear H; obtain ⟨p684, q684, ad684, e684, av⟩ := a2_ (Kd.at_int ar.out ab); cases e684; go_wp2
           go_roundg k2
           case measure => have := HK1.out; have := HK2.out; omega
           case rel => exact ⟨(wrap64 (ab + 1)), tx_, H', ⟨by have := HK1.out; have := HK2.out; omega⟩, dz_⟩
       ·
        have H' := A_ H; clear H; go_wp2
        go_roundg k2
        case measure => have := HK1.out; have := HK2.out; omega
        case rel => exact ⟨(wrap64 (aa + 1)), tx_, H', ⟨by have := HK1.out; have := HK2.out; omega⟩, dz_⟩
    ·
     rw [if_neg c6] at H; have bd : (((rd_L2 l1 aa).length : Int) == a0) = false := beq_eq_false_iff_ne.mpr c6; have bD : (((rd_L2 l1 aa).length : Int) != a0) = true := bne_iff_ne.mpr c6; obtain rfl := Option.some.inj H; obtain ⟨p683, q683, ad683, bp, bq, e683, bb, hl683_0, hi683_0⟩ := a2_ (at_L2 HR1.out aa); cases e683; have ar := A_ hi683_0; have bj := A_ hl683_0; clear hi683_0 hl683_0; go_wp2; go_ret; exact ⟨tx_, dz_⟩
   ·
    obtain ⟨bo, A14, H⟩ := bnd_ H; (try dsimp only at H); by_cases c15 : bo = true
    ·
     subst c15; replace H : (some ((l1.length : Int) == a0)) = some r := by rw [if_pos rfl] at H; exact H
     obtain rfl := Option.some.inj H; go_wp2_with (first | ((with_reducible refine gate_callee (f := 34) rfl ?_); refine gl_ (some 45) Tryd.func34 #[.int .i64 a0] ?_; (with_reducible refine (impl_coloursOk.calls a0 true _ A14.out).mono ?_); rintro e w' ⟨rfl, ⟨nd, rfl⟩⟩; refine ⟨_, rfl, ?_⟩)); go_ret; exact ⟨tx_, dz_⟩
    ·
     replace c15 := Bool.eq_false_iff.mpr c15; subst c15; replace H : (some false) = some r := by rw [if_neg (show ¬ (false = true) by decide)] at H; exact H
     obtain rfl := Option.some.inj H; go_wp2_with (first | ((with_reducible refine gate_callee (f := 34) rfl ?_); refine gl_ (some 45) Tryd.func34 #[.int .i64 a0] ?_; (with_reducible refine (impl_coloursOk.calls a0 false _ A14.out).mono ?_); rintro e w' ⟨rfl, ⟨nd, rfl⟩⟩; refine ⟨_, rfl, ?_⟩)); go_ret; exact ⟨tx_, dz_⟩

/-! ### impl_ruleAsked: function 35 -/
def impl_ruleAsked.f (k : Nat) (l0 : List Int) (l1 : List (List Int)) : Option (Bool) := (impl_StartOk.f k l0).bind fun be => (if be = true then ((impl_RuleOk.f k (l0.length : Int) l1).bind fun aZ => (some aZ)) else (some false))
theorem impl_ruleAsked.mono : ∀ a0 a1 k, LeO (impl_ruleAsked.f k a0 a1) (impl_ruleAsked.f (k + 1) a0 a1) := by
 intro a0 a1 k; unfold impl_ruleAsked.f; repeat' (with_reducible first | exact impl_RuleOk.mono _ _ _ | exact impl_StartOk.mono _ _ | exact mr_ | exact mn_ | refine mi_ ?_ ?_ | refine mb_ ?_ (fun _ => ?_))
theorem impl_ruleAsked.calls (k : Nat) (A0 : Option Addr) (c0 : Nat) (l0 : List Int) (A1 : Option Addr) (c1 : Nat) (l1 : List (List Int)) (r : Bool) (w : World) (hr0 : Kd.C (Kd.int .i64) w A0 l0.length l0) (hc0 : l0.length ≤ c0) (hr1 : Kd.C (Kd.slice 3 (Kd.int .i64)) w A1 l1.length l1) (hc1 : l1.length ≤ c1) (h : impl_ruleAsked.f k l0 l1 = some r) :
  Calls Tryd.prog 35 #[.slice A0 l0.length c0, .slice A1 l1.length c1] w fun e w' => e = .returned (.bool r) ∧ Drawn0 w w' := by
 have HR0 := A_ hr0; have HC0 := A_ hc0; clear hr0 hc0; have HR1 := A_ hr1; have HC1 := A_ hc1; clear hr1 hc1; have H : ((impl_StartOk.f k l0).bind fun be => (if be = true then ((impl_RuleOk.f k (l0.length : Int) l1).bind fun aZ => (some aZ)) else (some false))) = some r := h; clear h; obtain ⟨be, A3, H⟩ := bnd_ H; (try dsimp only at H); by_cases c4 : be = true
 ·
  subst c4; replace H : ((impl_RuleOk.f k (l0.length : Int) l1).bind fun aZ => (some aZ)) = some r := by rw [if_pos rfl] at H; exact H
  obtain ⟨aZ, A5, H⟩ := bnd_ H; (try dsimp only at H); obtain rfl := Option.some.inj H; go_enter Tryd.func35, Tryd.ntmps35; go_wp2_with (first | ((with_reducible refine gate_callee (f := 47) rfl ?_); refine gl_ (some 6) Tryd.func47 #[.slice A0 l0.length c0] ?_; (with_reducible refine (impl_StartOk.calls k _ _ l0 true _ ?s1 ?s2 A3.out).mono ?_); (case s1 => exact td_); (case s2 => exact HC0.out); rintro e w' ⟨rfl, ⟨nd, rfl⟩⟩; refine ⟨_, rfl, ?_⟩) | (go_at_call 59; (with_reducible refine (impl_RuleOk.calls k (l0.length : Int) _ _ l1 aZ _ ?s1 ?s2 A5.out).mono ?_); (case s1 => exact td_); (case s2 => exact HC1.out); rintro e w' ⟨rfl, ⟨nd, rfl⟩⟩)); go_ret; exact ⟨tx_, dz_⟩
 ·
  replace c4 := Bool.eq_false_iff.mpr c4; subst c4; replace H : (some false) = some r := by rw [if_neg (show ¬ (false = true) by decide)] at H; exact H
  obtain rfl := Option.some.inj H; go_enter Tryd.func35, Tryd.ntmps35; go_wp2_with (first | ((with_reducible refine gate_callee (f := 47) rfl ?_); refine gl_ (some 6) Tryd.func47 #[.slice A0 l0.length c0] ?_; (with_reducible refine (impl_StartOk.calls k _ _ l0 false _ ?s1 ?s2 A3.out).mono ?_); (case s1 => exact td_); (case s2 => exact HC0.out); rintro e w' ⟨rfl, ⟨nd, rfl⟩⟩; refine ⟨_, rfl, ?_⟩)); go_ret; exact ⟨tx_, dz_⟩

/-! ### impl_AfterWord: function 12 -/
def impl_AfterWord.f (k : Nat) (l0 : List Int) (l1 : List (List Int)) (l2 : List Int) : Option (List Int × Bool) := (impl_ruleAsked.f k l0 l1).bind fun br => (if br = true then ((impl_WordOk.f k (l0.length : Int) l2).bind fun bs => (if bs = true then ((impl_ruleWays.f k l0 l1 l2).bind fun a8 => (if a8 = 0 then (some (([] : List Int), false)) else ((impl_after.f k l0 l1 l2).bind fun bu => (some (bu, true))))) else (some (([] : List Int), false)))) else (some (([] : List Int), false)))
theorem impl_AfterWord.mono : ∀ a0 a1 a2 k, LeO (impl_AfterWord.f k a0 a1 a2) (impl_AfterWord.f (k + 1) a0 a1 a2) := by
 intro a0 a1 a2 k; unfold impl_AfterWord.f; repeat' (with_reducible first | exact impl_WordOk.mono _ _ _ | exact impl_after.mono _ _ _ _ | exact impl_ruleAsked.mono _ _ _ | exact impl_ruleWays.mono _ _ _ _ | exact mr_ | exact mn_ | refine mi_ ?_ ?_ | refine mb_ ?_ (fun _ => ?_))
theorem impl_AfterWord.z0 {P_ : Prop} (h_ : P_ := by go_wp2_with (first | ((with_reducible refine gate_callee (f := 35) rfl ?_); refine ca_ (some 10) Tryd.func35 _ (impl_ruleAsked.calls k A0 c0 _ A1 c1 _ _ _ (gt_ st) (gt_ st) (gt_ st) (gt_ st) A_10.out) ?_; rintro e w_ ⟨rfl, hb⟩; refine ⟨_, rfl, ?_⟩; replace hb := hb.below; replace st := st.ev hb; clear cl hb; have cl := cl_ st) | ((with_reducible refine gate_callee (f := 36) rfl ?_); refine gate_guard (by rfl) ?_; dsimp only; refine ca_ (some 16) Tryd.func36 _ (impl_WordOk.calls k _ A2 c2 _ _ _ (gt_ st) (gt_ st) A_16.out) ?_; rintro e w_ ⟨rfl, hb⟩; refine ⟨_, rfl, ?_⟩; replace hb := hb.below; replace st := st.ev hb; clear cl hb; have cl := cl_ st) | ((with_reducible refine gate_callee (f := 37) rfl ?_); refine gate_guard (by rfl) ?_; dsimp only; refine ca_ (some 23) Tryd.func37 _ (impl_ruleWays.calls k A0 c0 _ A1 c1 _ A2 c2 _ _ _ (gt_ st) (gt_ st) (gt_ st) (gt_ st) (gt_ st) (gt_ st) A_23.out) ?_; rintro e w_ ⟨rfl, hb⟩; refine ⟨_, rfl, ?_⟩; replace st := st.ev hb; clear cl hb; have cl := cl_ st) | ((with_reducible refine gate_callee (f := 38) rfl ?_); refine ca_ (some 29) Tryd.func38 _ (impl_after.calls k A0 c0 _ A1 c1 _ A2 c2 _ _ _ (gt_ st) (gt_ st) (gt_ st) (gt_ st) (gt_ st) (gt_ st) A_29.out) ?_; rintro e w_ ⟨v0, rfl, h0, hb⟩; refine ⟨_, rfl, ?_⟩; obtain ⟨B29_0, d29_0, rfl⟩ := Kd.R_slice h0; replace st := st.p1 hb (st.mr h0); clear cl hb h0; have cl := cl_ st)); first | (go_ret2; exact ⟨.slice none 0 0, tw_, kn_, st.b⟩) | (go_ret2; exact ⟨.slice B29_0 bu.length d29_0, tw_, gt_ st, st.b⟩)) : P_ := h_
theorem impl_AfterWord.calls (k : Nat) (A0 : Option Addr) (c0 : Nat) (l0 : List Int) (A1 : Option Addr) (c1 : Nat) (l1 : List (List Int)) (A2 : Option Addr) (c2 : Nat) (l2 : List Int) (r1 : List Int) (r2 : Bool) (w : World) (hr0 : Kd.C (Kd.int .i64) w A0 l0.length l0) (hc0 : l0.length ≤ c0) (hr1 : Kd.C (Kd.slice 3 (Kd.int .i64)) w A1 l1.length l1) (hc1 : l1.length ≤ c1) (hr2 : Kd.C (Kd.int .i64) w A2 l2.length l2) (hc2 : l2.length ≤ c2) (h : impl_AfterWord.f k l0 l1 l2 = some (r1, r2)) :
  Calls Tryd.prog 12 #[.slice A0 l0.length c0, .slice A1 l1.length c1, .slice A2 l2.length c2] w fun e w' => ∃ v0_ : Value, e = .returned (.tuple #[v0_, .bool r2]) ∧ Kd.R (Kd.int .i64) 3 w' w.heap.size (fun _ => True) v0_ r1 ∧ Below w.heap.size w w' := by
 have st := (((ST.nil w).c hr0 hc0).c hr1 hc1).c hr2 hc2; have s0 := st; have cl := cl_ st; have H := h; clear h; unfold impl_AfterWord.f at H; go_enter Tryd.func12, Tryd.ntmps12; obtain ⟨br, A_10, H⟩ := bnd_ H; rcases bx_ br with rfl | rfl
 ·
  replace H := bt_ H; obtain ⟨bs, A_16, H⟩ := bnd_ H; rcases bx_ bs with rfl | rfl
  ·
   replace H := bt_ H; obtain ⟨a8, A_23, H⟩ := bnd_ H; by_cases c4 : a8 = 0
   ·
    rw [if_pos c4] at H; have bc : (a8 == 0) = true := beq_iff_eq.mpr c4; have bN : (a8 != 0) = false := bne_eq_false_iff_eq.mpr c4; clear c4; simp only [Option.some.injEq, Prod.mk.injEq] at H; obtain ⟨rfl, rfl⟩ := H; exact impl_AfterWord.z0
   ·
    rw [if_neg c4] at H; have bc : (a8 == 0) = false := beq_eq_false_iff_ne.mpr c4; have bN : (a8 != 0) = true := bne_iff_ne.mpr c4; obtain ⟨bu, A_29, H⟩ := bnd_ H; simp only [Option.some.injEq, Prod.mk.injEq] at H; obtain ⟨rfl, rfl⟩ := H; exact impl_AfterWord.z0
  ·
   replace H := bf_ H; simp only [Option.some.injEq, Prod.mk.injEq] at H; obtain ⟨rfl, rfl⟩ := H; exact impl_AfterWord.z0
 ·
  replace H := bf_ H; simp only [Option.some.injEq, Prod.mk.injEq] at H; obtain ⟨rfl, rfl⟩ := H; exact impl_AfterWord.z0

/-! ### impl_RuleWays: function 13 -/
def impl_RuleWays.f (k : Nat) (l0 : List Int) (l1 : List (List Int)) (l2 : List Int) : Option (Int) := (impl_ruleAsked.f k l0 l1).bind fun bv => (if bv = true then ((impl_WordOk.f k (l0.length : Int) l2).bind fun bw => (if bw = true then ((impl_ruleWays.f k l0 l1 l2).bind fun bK => (some bK)) else (some (-1)))) else (some (-1)))
theorem impl_RuleWays.mono : ∀ a0 a1 a2 k, LeO (impl_RuleWays.f k a0 a1 a2) (impl_RuleWays.f (k + 1) a0 a1 a2) := by
 intro a0 a1 a2 k; unfold impl_RuleWays.f; repeat' (with_reducible first | exact impl_WordOk.mono _ _ _ | exact impl_ruleAsked.mono _ _ _ | exact impl_ruleWays.mono _ _ _ _ | exact mr_ | exact mn_ | refine mi_ ?_ ?_ | refine mb_ ?_ (fun _ => ?_))
theorem impl_RuleWays.z0 {P_ : Prop} (h_ : P_ := by go_wp2_with (first | ((with_reducible refine gate_callee (f := 35) rfl ?_); refine ca_ (some 9) Tryd.func35 _ (impl_ruleAsked.calls k A0 c0 _ A1 c1 _ _ _ (gt_ st) (gt_ st) (gt_ st) (gt_ st) A_9.out) ?_; rintro e w_ ⟨rfl, hb⟩; refine ⟨_, rfl, ?_⟩; replace hb := hb.below; replace st := st.ev hb; clear cl hb; have cl := cl_ st) | ((with_reducible refine gate_callee (f := 36) rfl ?_); refine gate_guard (by rfl) ?_; dsimp only; refine ca_ (some 15) Tryd.func36 _ (impl_WordOk.calls k _ A2 c2 _ _ _ (gt_ st) (gt_ st) A_15.out) ?_; rintro e w_ ⟨rfl, hb⟩; refine ⟨_, rfl, ?_⟩; replace hb := hb.below; replace st := st.ev hb; clear cl hb; have cl := cl_ st) | ((with_reducible refine gate_callee (f := 37) rfl ?_); refine ca_ (some 21) Tryd.func37 _ (impl_ruleWays.calls k A0 c0 _ A1 c1 _ A2 c2 _ _ _ (gt_ st) (gt_ st) (gt_ st) (gt_ st) (gt_ st) (gt_ st) A_21.out) ?_; rintro e w_ ⟨rfl, hb⟩; refine ⟨_, rfl, ?_⟩; replace st := st.ev hb; clear cl hb; have cl := cl_ st)); (go_ret; exact ⟨tw_, st.b⟩)) : P_ := h_
theorem impl_RuleWays.calls (k : Nat) (A0 : Option Addr) (c0 : Nat) (l0 : List Int) (A1 : Option Addr) (c1 : Nat) (l1 : List (List Int)) (A2 : Option Addr) (c2 : Nat) (l2 : List Int) (r : Int) (w : World) (hr0 : Kd.C (Kd.int .i64) w A0 l0.length l0) (hc0 : l0.length ≤ c0) (hr1 : Kd.C (Kd.slice 3 (Kd.int .i64)) w A1 l1.length l1) (hc1 : l1.length ≤ c1) (hr2 : Kd.C (Kd.int .i64) w A2 l2.length l2) (hc2 : l2.length ≤ c2) (h : impl_RuleWays.f k l0 l1 l2 = some r) :
  Calls Tryd.prog 13 #[.slice A0 l0.length c0, .slice A1 l1.length c1, .slice A2 l2.length c2] w fun e w' => e = .returned (.int .i64 r) ∧ Below w.heap.size w w' := by
 have st := (((ST.nil w).c hr0 hc0).c hr1 hc1).c hr2 hc2; have s0 := st; have cl := cl_ st; have H := h; clear h; unfold impl_RuleWays.f at H; go_enter Tryd.func13, Tryd.ntmps13; obtain ⟨bv, A_9, H⟩ := bnd_ H; rcases bx_ bv with rfl | rfl
 ·
  replace H := bt_ H; obtain ⟨bw, A_15, H⟩ := bnd_ H; rcases bx_ bw with rfl | rfl
  ·
   replace H := bt_ H; obtain ⟨bK, A_21, H⟩ := bnd_ H; obtain rfl := Option.some.inj H; exact impl_RuleWays.z0
  ·
   replace H := bf_ H; obtain rfl := Option.some.inj H; exact impl_RuleWays.z0
 ·
  replace H := bf_ H; obtain rfl := Option.some.inj H; exact impl_RuleWays.z0

end Go.Proofs.YtfacponjomafcaaDoor.MFnDeskDo
