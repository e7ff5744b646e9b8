/- For the law FnDeskRun: walks of the functions that it reaches: each call returns what the plain function beside it tells. The conditions stand in each statement. -/
import Derived.Test.YtfacponjomafcaaDoorV
import Derived.Test.YtfacponjomafcaaDoorMFnDeskRunx0
namespace Go.Proofs.YtfacponjomafcaaDoor.MFnDeskRun
open Go.RowKit Go.Proofs.YtfacponjomafcaaDoorW.PrintWords Go.Proofs.YtfacponjomafcaaDoorW.PrintLast Go.Proofs.YtfacponjomafcaaDoorW.PrintMore
attribute [local go_sem] max2_int min2_int max_two min_two max_three min_three max_four min_four   -- for this text's walks alone
set_option linter.unusedVariables false
set_option linter.unusedSimpArgs false
set_option maxHeartbeats 8000000
set_option maxRecDepth 100000

/-! ### laws_sameInts: function 58 -/
def laws_sameInts.l0 : Nat → List Int → List Int → Int → Option (Bool)
 | 0, _, _, _ => none
 | k + 1, x0, x1, x5 => if x5 < (x0.length : Int) then (if 0 ≤ x5 then (if x5 < (x1.length : Int) then (if (rd x0 x5) = (rd x1 x5) then (laws_sameInts.l0 k x0 x1 (wrap64 (x5 + 1))) else (some false)) else (none)) else (none)) else (some true)
def laws_sameInts.f (k : Nat) (l0 : List Int) (l1 : List Int) : Option (Bool) := if (l0.length : Int) = (l1.length : Int) then (laws_sameInts.l0 k l0 l1 0) else (some false)
theorem laws_sameInts.mono_l : ∀ k, (∀ y0 y1 y2, LeO (laws_sameInts.l0 k y0 y1 y2) (laws_sameInts.l0 (k + 1) y0 y1 y2))
 | 0 => fun _ _ _ r h => by simp [laws_sameInts.l0] at h
 | k + 1 => by
  have ih0 := laws_sameInts.mono_l k
  ·
   intro y0 y1 y2
   unfold laws_sameInts.l0
   repeat' (with_reducible first | exact ih0 _ _ _ | exact mr_ | exact mn_ | refine mi_ ?_ ?_ | refine mb_ ?_ (fun _ => ?_))
theorem laws_sameInts.mono : ∀ a0 a1 k, LeO (laws_sameInts.f k a0 a1) (laws_sameInts.f (k + 1) a0 a1) := by
 intro a0 a1 k; have ih0 := laws_sameInts.mono_l k; unfold laws_sameInts.f; repeat' (with_reducible first | exact ih0 _ _ _ | exact mr_ | exact mn_ | refine mi_ ?_ ?_ | refine mb_ ?_ (fun _ => ?_))
theorem laws_sameInts.calls (k : Nat) (A0 : Option Addr) (c0 : Nat) (l0 : List Int) (A1 : Option Addr) (c1 : Nat) (l1 : List Int) (r : Bool) (w : World) (hr0 : Kd.C (Kd.int .i64) w A0 l0.length l0) (hc0 : l0.length ≤ c0) (hr1 : Kd.C (Kd.int .i64) w A1 l1.length l1) (hc1 : l1.length ≤ c1) (h : laws_sameInts.f k l0 l1 = some r) :
  Calls Tryd.prog 58 #[.slice A0 l0.length c0, .slice A1 l1.length c1] w fun e w' => e = .returned (.bool r) ∧ Drawn0 w w' := by
 have HR0 := A_ hr0; have HC0 := A_ hc0; clear hr0 hc0; have HR1 := A_ hr1; have HC1 := A_ hc1; clear hr1 hc1; have H : (if (l0.length : Int) = (l1.length : Int) then (laws_sameInts.l0 k l0 l1 0) else (some false)) = some r := h; clear h; by_cases c3 : (l0.length : Int) = (l1.length : Int)
 ·
  rw [if_pos c3] at H; have bi : ((l0.length : Int) == (l1.length : Int)) = true := beq_iff_eq.mpr c3; have bp : ((l0.length : Int) != (l1.length : Int)) = false := bne_eq_false_iff_eq.mpr c3; have bD : (l0.length == l1.length) = true := by first | simpa using c3 | (simp at c3 ⊢; omega)
  clear c3; have H' := A_ H; clear H; go_enter Tryd.func58, Tryd.ntmps58; go_wp2; repeat (go_quiet (fail); try go_wp2)
  go_loopg [5] k (fun kq v5 w' => ∃ (ab : Int), v5 = .int .i64 ab ∧ Aside0 (laws_sameInts.l0 kq l0 l1 ab = some r) ∧ Aside0 (kq ≤ k) ∧ Drawn0 w w')
  case atStart => exact ⟨(0), tx_, H', ⟨Nat.le_refl _⟩, dz_⟩
  case round =>
   clear H'; (try clear c3); (try clear bi); (try clear bp); (try clear bD); obtain ⟨ab, rfl, HA, HK1, ⟨m1, rfl⟩⟩ := hrel
   cases gk with
   | zero => exact absurd HA.out (by simp [laws_sameInts.l0])
   | succ k1 =>
    have H := HA.out; clear HA; simp only [laws_sameInts.l0] at H; replace H := it_ H; rcases H with ⟨bE, H⟩ | ⟨bE, H⟩
    ·
     replace H := in_ H; obtain ⟨bQ, H⟩ := H; replace H := in_ H; obtain ⟨ax, H⟩ := H; by_cases c7 : (rd l0 ab) = (rd l1 ab)
     ·
      rw [if_pos c7] at H; have bq : ((rd l0 ab) == (rd l1 ab)) = true := beq_iff_eq.mpr c7; have bR : ((rd l0 ab) != (rd l1 ab)) = false := bne_eq_false_iff_eq.mpr c7; clear c7; have H' := A_ H; clear H; obtain ⟨p101, q101, ad101, e101, br⟩ := a2_ (Kd.at_int HR0.out ab); cases e101; obtain ⟨p102, q102, ad102, e102, bs⟩ := a2_ (Kd.at_int HR1.out ab); cases e102; go_wp2; repeat (go_quiet (fail); try go_wp2)
      go_roundg k1
      case measure => have := HK1.out; omega
      case rel => exact ⟨(wrap64 (ab + 1)), tx_, H', ⟨by have := HK1.out; omega⟩, dz_⟩
     ·
      rw [if_neg c7] at H; have bq : ((rd l0 ab) == (rd l1 ab)) = false := beq_eq_false_iff_ne.mpr c7; have bR : ((rd l0 ab) != (rd l1 ab)) = true := bne_iff_ne.mpr c7; obtain rfl := Option.some.inj H; obtain ⟨p101, q101, ad101, e101, br⟩ := a2_ (Kd.at_int HR0.out ab); cases e101; obtain ⟨p102, q102, ad102, e102, bs⟩ := a2_ (Kd.at_int HR1.out ab); cases e102; go_wp2; repeat (go_quiet (fail); try go_wp2)
      go_ret; exact ⟨tx_, dz_⟩
    ·
     obtain rfl := Option.some.inj H; go_wp2; repeat (go_quiet (fail); try go_wp2)
     go_ret; exact ⟨tx_, dz_⟩
 ·
  rw [if_neg c3] at H; have bi : ((l0.length : Int) == (l1.length : Int)) = false := beq_eq_false_iff_ne.mpr c3; have bp : ((l0.length : Int) != (l1.length : Int)) = true := bne_iff_ne.mpr c3; have bD : (l0.length == l1.length) = false := by first | simpa using c3 | (simp at c3 ⊢; omega)
  obtain rfl := Option.some.inj H; go_enter Tryd.func58, Tryd.ntmps58; go_wp2; repeat (go_quiet (fail); try go_wp2)
  go_ret; exact ⟨tx_, dz_⟩

/-! ### laws_samePlace: function 32 -/
def laws_samePlace.f (k : Nat) (af : List Int) (a0_1 : Int) (ag : List Int) (ah : List Int) (a1_1 : Int) (ai : List Int) : Option (Bool) := (laws_sameInts.f k af ah).bind fun bx => (if bx = true then (if a0_1 = a1_1 then ((laws_sameInts.f k ag ai).bind fun bF => (some bF)) else (some false)) else (some false))
theorem laws_samePlace.mono : ∀ a0 a1 a2 a3 a4 a5 k, LeO (laws_samePlace.f k a0 a1 a2 a3 a4 a5) (laws_samePlace.f (k + 1) a0 a1 a2 a3 a4 a5) := by
 intro a0 a1 a2 a3 a4 a5 k; unfold laws_samePlace.f; repeat' (with_reducible first | exact laws_sameInts.mono _ _ _ | exact mr_ | exact mn_ | refine mi_ ?_ ?_ | refine mb_ ?_ (fun _ => ?_))
theorem laws_samePlace.z0 {P_ : Prop} (h_ : P_ := by go_wp2_with (first | ((with_reducible refine gate_dst (N := 2) rfl ?_); refine al_ st ?_; clear st cl; intro g2 w_ st; have cl := cl_ st) | ((with_reducible refine gate_dst (N := 3) rfl ?_); refine al_ st ?_; clear st cl; intro g3 w_ st; have cl := cl_ st) | ((with_reducible refine gate_callee (f := 58) rfl ?_); refine ca_ (some 9) Tryd.func58 _ (laws_sameInts.calls k ay az _ aA aC _ _ _ (gt_ st) (gt_ st) (gt_ st) (gt_ st) A_9.out) ?_; rintro e w_ ⟨rfl, hb⟩; refine ⟨_, rfl, ?_⟩; replace hb := hb.below; replace st := st.ev hb; clear cl hb; have cl := cl_ st) | ((with_reducible refine gate_callee (f := 58) rfl ?_); refine gate_guard (by rfl) ?_; dsimp only; refine ca_ (some 22) Tryd.func58 _ (laws_sameInts.calls k aD aE _ aG aH _ _ _ (gt_ st) (gt_ st) (gt_ st) (gt_ st) A_22.out) ?_; rintro e w_ ⟨rfl, hb⟩; refine ⟨_, rfl, ?_⟩; replace hb := hb.below; replace st := st.ev hb; clear cl hb; have cl := cl_ st)); (go_ret; exact ⟨tw_, st.b⟩)) : P_ := h_
theorem laws_samePlace.calls (k : Nat) (ay : Option Addr) (az : Nat) (af : List Int) (a0_1 : Int) (aD : Option Addr) (aE : Nat) (ag : List Int) (aA : Option Addr) (aC : Nat) (ah : List Int) (a1_1 : Int) (aG : Option Addr) (aH : Nat) (ai : List Int) (r : Bool) (w : World) (hr0_0 : Kd.C (Kd.int .i64) w ay af.length af) (hc0_0 : af.length ≤ az) (hr0_2 : Kd.C (Kd.int .i64) w aD ag.length ag) (hc0_2 : ag.length ≤ aE) (hr1_0 : Kd.C (Kd.int .i64) w aA ah.length ah) (hc1_0 : ah.length ≤ aC) (hr1_2 : Kd.C (Kd.int .i64) w aG ai.length ai) (hc1_2 : ai.length ≤ aH) (h : laws_samePlace.f k af a0_1 ag ah a1_1 ai = some r) :
  Calls Tryd.prog 32 #[.agg #[.slice ay af.length az, .int .i64 a0_1, .slice aD ag.length aE], .agg #[.slice aA ah.length aC, .int .i64 a1_1, .slice aG ai.length aH]] w fun e w' => e = .returned (.bool r) ∧ Below w.heap.size w w' := by
 have hu25 := Tryd.underlying25; have st := ((((ST.nil w).c hr0_0 hc0_0).c hr0_2 hc0_2).c hr1_0 hc1_0).c hr1_2 hc1_2; have s0 := st; have cl := cl_ st; have H := h; clear h; unfold laws_samePlace.f at H; go_enter Tryd.func32, Tryd.ntmps32; obtain ⟨bx, A_9, H⟩ := bnd_ H; rcases bx_ bx with rfl | rfl
 ·
  replace H := bt_ H; by_cases c3 : a0_1 = a1_1
  ·
   rw [if_pos c3] at H; have bi : (a0_1 == a1_1) = true := beq_iff_eq.mpr c3; have bp : (a0_1 != a1_1) = false := bne_eq_false_iff_eq.mpr c3; clear c3; obtain ⟨bF, A_22, H⟩ := bnd_ H; obtain rfl := Option.some.inj H; exact laws_samePlace.z0
  ·
   rw [if_neg c3] at H; have bi : (a0_1 == a1_1) = false := beq_eq_false_iff_ne.mpr c3; have bp : (a0_1 != a1_1) = true := bne_iff_ne.mpr c3; obtain rfl := Option.some.inj H; exact laws_samePlace.z0
 ·
  replace H := bf_ H; obtain rfl := Option.some.inj H; exact laws_samePlace.z0

/-! ### laws_sameDesk: function 8 -/
mutual
def laws_sameDesk.j0 : Nat → Bool → List Int → Int → List Int → List (S25) → List Int → Int → List Int → List (S25) → Option (Bool)
 | 0, _, _, _, _, _, _, _, _, _ => none
 | k + 1, x20, aI, aJ, aK, al, aM, aN, aQ, am => if x20 = true then (some false) else (laws_sameDesk.l0 k 0 aI aJ aK al aM aN aQ am)
def laws_sameDesk.l0 : Nat → Int → List Int → Int → List Int → List (S25) → List Int → Int → List Int → List (S25) → Option (Bool)
 | 0, _, _, _, _, _, _, _, _, _ => none
 | k + 1, x5, aI, aJ, aK, al, aM, aN, aQ, am => if x5 < (al.length : Int) then (if 0 ≤ x5 then (if x5 < (am.length : Int) then ((laws_samePlace.f k ((rd_T25 al x5).f0) ((rd_T25 al x5).f1) ((rd_T25 al x5).f2) ((rd_T25 am x5).f0) ((rd_T25 am x5).f1) ((rd_T25 am x5).f2)).bind fun bz => (if bz = true then (laws_sameDesk.l0 k (wrap64 (x5 + 1)) aI aJ aK al aM aN aQ am) else (some false))) else (none)) else (none)) else (some true)
end
def laws_sameDesk.f (k : Nat) (af : List Int) (a0_1 : Int) (ag : List Int) (aj : List (S25)) (ah : List Int) (a1_1 : Int) (ai : List Int) (ak : List (S25)) : Option (Bool) := (laws_samePlace.f k af a0_1 ag ah a1_1 ai).bind fun bB => (if bB = true then (laws_sameDesk.j0 k ((aj.length : Int) != (ak.length : Int)) af a0_1 ag aj ah a1_1 ai ak) else (laws_sameDesk.j0 k true af a0_1 ag aj ah a1_1 ai ak))
theorem laws_sameDesk.mono_l : ∀ k, (∀ y0 y1 y2 y3 y4 y5 y6 y7 y8, LeO (laws_sameDesk.j0 k y0 y1 y2 y3 y4 y5 y6 y7 y8) (laws_sameDesk.j0 (k + 1) y0 y1 y2 y3 y4 y5 y6 y7 y8)) ∧ (∀ y0 y1 y2 y3 y4 y5 y6 y7 y8, LeO (laws_sameDesk.l0 k y0 y1 y2 y3 y4 y5 y6 y7 y8) (laws_sameDesk.l0 (k + 1) y0 y1 y2 y3 y4 y5 y6 y7 y8))
 | 0 => ⟨fun _ _ _ _ _ _ _ _ _ r h => by simp [laws_sameDesk.j0] at h, fun _ _ _ _ _ _ _ _ _ r h => by simp [laws_sameDesk.l0] at h⟩
 | k + 1 => by
  obtain ⟨ih0, ih1⟩ := laws_sameDesk.mono_l k
  refine ⟨?_, ?_⟩
  ·
   intro y0 y1 y2 y3 y4 y5 y6 y7 y8
   unfold laws_sameDesk.j0
   repeat' (with_reducible first | exact ih0 _ _ _ _ _ _ _ _ _ | exact ih1 _ _ _ _ _ _ _ _ _ | exact laws_samePlace.mono _ _ _ _ _ _ _ | exact mr_ | exact mn_ | refine mi_ ?_ ?_ | refine mb_ ?_ (fun _ => ?_))
  ·
   intro y0 y1 y2 y3 y4 y5 y6 y7 y8
   unfold laws_sameDesk.l0
   repeat' (with_reducible first | exact ih0 _ _ _ _ _ _ _ _ _ | exact ih1 _ _ _ _ _ _ _ _ _ | exact laws_samePlace.mono _ _ _ _ _ _ _ | exact mr_ | exact mn_ | refine mi_ ?_ ?_ | refine mb_ ?_ (fun _ => ?_))
theorem laws_sameDesk.mono : ∀ a0 a1 a2 a3 a4 a5 a6 a7 k, LeO (laws_sameDesk.f k a0 a1 a2 a3 a4 a5 a6 a7) (laws_sameDesk.f (k + 1) a0 a1 a2 a3 a4 a5 a6 a7) := by
 intro a0 a1 a2 a3 a4 a5 a6 a7 k; obtain ⟨ih0, ih1⟩ := laws_sameDesk.mono_l k; unfold laws_sameDesk.f; repeat' (with_reducible first | exact ih0 _ _ _ _ _ _ _ _ _ | exact ih1 _ _ _ _ _ _ _ _ _ | exact laws_samePlace.mono _ _ _ _ _ _ _ | exact mr_ | exact mn_ | refine mi_ ?_ ?_ | refine mb_ ?_ (fun _ => ?_))
def laws_sameDesk.T6 : Bool × List (List Nat × List Nat) := (true, [([], []), ([0], [0]), ([], []), ([1, 2], [1, 2]), ([3], [3]), ([], []), ([5], [5]), ([], []), ([6, 7], [6, 7]), ([8], [8]), ([4, 9], [4, 9]), ([10], [10])])
def laws_sameDesk.B6 : List Nat := [0, 1, 0, 7, 15, 0, 32, 0, 224, 480, 1023, 2047]
theorem laws_sameDesk.tab6 : rtab .any (opsOf Tryd.f8 6) = laws_sameDesk.T6 := by kernel_rfl
theorem laws_sameDesk.bits6 : waitsOk laws_sameDesk.T6.2 laws_sameDesk.B6 = true := by kernel_rfl
theorem laws_sameDesk.z0 {P_ : Prop} (h_ : P_ := by go_wp2_with (first | ((with_reducible refine gate_callee (f := 32) rfl ?_); refine ca_ (some 10) Tryd.func32 _ (laws_samePlace.calls k ay az _ _ aD aE _ aA aC _ _ aG aH _ _ _ (gt_ st) (gt_ st) (gt_ st) (gt_ st) (gt_ st) (gt_ st) (gt_ st) (gt_ st) A_10.out) ?_; rintro e w_ ⟨rfl, hb⟩; refine ⟨_, rfl, ?_⟩; replace st := st.ev hb; clear cl hb; have cl := cl_ st)); first | (go_meet; (case rel => exact ⟨_, (((aj.length : Int) != (ak.length : Int))), tx_, H', ⟨by first | omega | exact Nat.le_refl _⟩, st.en⟩)) | (go_meet; (case rel => exact ⟨_, (true), tx_, H', ⟨by first | omega | exact Nat.le_refl _⟩, st.en⟩))) : P_ := h_
theorem laws_sameDesk.calls (k : Nat) (ay : Option Addr) (az : Nat) (af : List Int) (a0_1 : Int) (aD : Option Addr) (aE : Nat) (ag : List Int) (aU : Option Addr) (aV : Nat) (aj : List (S25)) (aA : Option Addr) (aC : Nat) (ah : List Int) (a1_1 : Int) (aG : Option Addr) (aH : Nat) (ai : List Int) (aW : Option Addr) (aX : Nat) (ak : List (S25)) (r : Bool) (w : World) (hr0_0 : Kd.C (Kd.int .i64) w ay af.length af) (hc0_0 : af.length ≤ az) (hr0_2 : Kd.C (Kd.int .i64) w aD ag.length ag) (hc0_2 : ag.length ≤ aE) (hr0_3 : Kd.C k25 w aU aj.length aj) (hc0_3 : aj.length ≤ aV) (hr1_0 : Kd.C (Kd.int .i64) w aA ah.length ah) (hc1_0 : ah.length ≤ aC) (hr1_2 : Kd.C (Kd.int .i64) w aG ai.length ai) (hc1_2 : ai.length ≤ aH) (hr1_3 : Kd.C k25 w aW ak.length ak) (hc1_3 : ak.length ≤ aX) (h : laws_sameDesk.f k af a0_1 ag aj ah a1_1 ai ak = some r) :
  Calls Tryd.prog 8 #[.agg #[.slice ay af.length az, .int .i64 a0_1, .slice aD ag.length aE, .slice aU aj.length aV], .agg #[.slice aA ah.length aC, .int .i64 a1_1, .slice aG ai.length aH, .slice aW ak.length aX]] w fun e w' => e = .returned (.bool r) ∧ Below w.heap.size w w' := by
 have hu28 := Tryd.underlying28; have hu25 := Tryd.underlying25; have st := ((((((ST.nil w).c hr0_0 hc0_0).c hr0_2 hc0_2).c hr0_3 hc0_3).c hr1_0 hc1_0).c hr1_2 hc1_2).c hr1_3 hc1_3; have s0 := st; have cl := cl_ st; have H := h; clear h; unfold laws_sameDesk.f at H; go_enter Tryd.func8, Tryd.ntmps8; have HC4 := A_ H; clear H
 go_upto_region 1 with (first | ((with_reducible refine gate_dst (N := 2) rfl ?_); refine al_ st ?_; clear st cl; intro g2 w_ st; have cl := cl_ st) | ((with_reducible refine gate_dst (N := 3) rfl ?_); refine al_ st ?_; clear st cl; intro g3 w_ st; have cl := cl_ st))
 (try simp only [Act.put, sa_, sb_, sc_])
 go_cut [20] (fun b4 wc => ∃ (kq : Nat) (bf : Bool), b4 = .bool bf ∧ Aside0 (laws_sameDesk.j0 kq bf af a0_1 ag aj ah a1_1 ai ak = some r) ∧ Aside0 (kq ≤ k) ∧ ST w [CA (Kd.int .i64) w ay af az, CA (Kd.int .i64) w aD ag aE, CA k25 w aU aj aV, CA (Kd.int .i64) w aA ah aC, CA (Kd.int .i64) w aG ai aH, CA k25 w aW ak aX] [Bx g2 #[.slice ay af.length az, .int .i64 a0_1, .slice aD ag.length aE, .slice aU aj.length aV] 28, Bx g3 #[.slice aA ah.length aC, .int .i64 a1_1, .slice aG ai.length aH, .slice aW ak.length aX] 28] wc)
 case first =>
  have H := HC4.out; clear HC4; obtain ⟨bB, A_10, H⟩ := bnd_ H; rcases bx_ bB with rfl | rfl
  ·
   replace H := bt_ H; have H' := A_ H; clear H; exact laws_sameDesk.z0
  ·
   replace H := bf_ H; have H' := A_ H; clear H; exact laws_sameDesk.z0
 case rest =>
  clear HC4 st cl; obtain ⟨kq, bf, rfl, HA, HJ3, st⟩ := hcut; have cl := cl_ st
  cases kq with
  | zero => exact absurd HA.out (by simp [laws_sameDesk.j0])
  | succ kj3 =>
   have H := HA.out; clear HA; simp only [laws_sameDesk.j0] at H; rcases bx_ bf with rfl | rfl
   ·
    replace H := bt_ H; obtain rfl := Option.some.inj H; go_wp2; go_ret; exact ⟨tw_, st.b⟩
   ·
    replace H := bf_ H; have H' := A_ H; clear H; go_wp2
    go_loopg [5] kj3 (fun kq v5 w' => ∃ (ac : Int), v5 = .int .i64 ac ∧ Aside0 (laws_sameDesk.l0 kq ac af a0_1 ag aj ah a1_1 ai ak = some r) ∧ Aside0 (kq ≤ kj3) ∧ ST w [CA (Kd.int .i64) w ay af az, CA (Kd.int .i64) w aD ag aE, CA k25 w aU aj aV, CA (Kd.int .i64) w aA ah aC, CA (Kd.int .i64) w aG ai aH, CA k25 w aW ak aX] [Bx g2 #[.slice ay af.length az, .int .i64 a0_1, .slice aD ag.length aE, .slice aU aj.length aV] 28, Bx g3 #[.slice aA ah.length aC, .int .i64 a1_1, .slice aG ai.length aH, .slice aW ak.length aX] 28] w')
    case atStart => exact ⟨(0), tx_, H', ⟨Nat.le_refl _⟩, st.en⟩
    case round =>
     clear H' st cl; obtain ⟨ac, rfl, HA, HK2, st⟩ := hrel; have cl := cl_ st
     cases gk with
     | zero => exact absurd HA.out (by simp [laws_sameDesk.l0])
     | succ k2 =>
      have H := HA.out; clear HA; simp only [laws_sameDesk.l0] at H; replace H := it_ H; rcases H with ⟨ax, H⟩ | ⟨ax, H⟩
      ·
       replace H := in_ H; obtain ⟨bq, H⟩ := H; replace H := in_ H; obtain ⟨b5, H⟩ := H; obtain ⟨bz, A_38, H⟩ := bnd_ H; rcases bx_ bz with rfl | rfl
       ·
        replace H := bt_ H; have H' := A_ H; clear H; (try go_wp2); (all_goals (obtain ⟨p_, q_, ad_, aY, aZ, a8, a9, e_, an, ao, ap, l0_, C0_, l2_, C2_⟩ := a2_ (at_T25 (gC_ s0 k25 aU aj) ac); replace st := st.c C0_ l0_; replace st := st.c C2_ l2_; have ix110 := ix3_ Tryd.underlying26 e_ p_ q_ (c := aV); clear e_; obtain ⟨p_, q_, ad_, bb, bc, bd, be, e_, aq, ar, au, l0_, C0_, l2_, C2_⟩ := a2_ (at_T25 (gC_ s0 k25 aW ak) ac); replace st := st.c C0_ l0_; replace st := st.c C2_ l2_; have ix111 := ix3_ Tryd.underlying26 e_ p_ q_ (c := aX); clear e_; refine rg_ st [] ?_; clear st cl; intro w_ st hs; have cl := cl_ st; refine with_tabW laws_sameDesk.tab6 laws_sameDesk.bits6 (fun HT_ HW_ => ?_); refine pv_ 0 ?_; refine pv_ 2 ?_; refine pv_ 5 ?_; refine pv_ 7 ?_; refine tu_ 1 ?_ (hy := by intro w' s_; have cl := cl_ s_; have y110_0 := cb_ s_ an; have y110_1 := cb_ s_ ao; have y110_2 := cb_ s_ ap; have y111_0 := cb_ s_ aq; have y111_1 := cb_ s_ ar; have y111_2 := cb_ s_ au; go_simp; first | with_reducible rfl | (rw [if_neg (by omega)]; done)); refine tu_ 6 ?_ (hy := by intro w' s_; have cl := cl_ s_; have y110_0 := cb_ s_ an; have y110_1 := cb_ s_ ao; have y110_2 := cb_ s_ ap; have y111_0 := cb_ s_ aq; have y111_1 := cb_ s_ ar; have y111_2 := cb_ s_ au; go_simp; first | with_reducible rfl | (rw [if_neg (by omega)]; done)); refine pv_ 3 ?_; refine pv_ 8 ?_; refine tu_ 4 ?_ (hy := by intro w' s_; have cl := cl_ s_; have y110_0 := cb_ s_ an; have y110_1 := cb_ s_ ao; have y110_2 := cb_ s_ ap; have y111_0 := cb_ s_ aq; have y111_1 := cb_ s_ ar; have y111_2 := cb_ s_ au; go_simp; first | with_reducible rfl | (rw [if_neg (by omega)]; done)); refine tu_ 9 ?_ (hy := by intro w' s_; have cl := cl_ s_; have y110_0 := cb_ s_ an; have y110_1 := cb_ s_ ao; have y110_2 := cb_ s_ ap; have y111_0 := cb_ s_ aq; have y111_1 := cb_ s_ ar; have y111_2 := cb_ s_ au; go_simp; first | with_reducible rfl | (rw [if_neg (by omega)]; done)); refine ov_ 10 (fun K hK => ?_); refine ca2_ (some 38) Tryd.func32 _ (laws_samePlace.calls k2 aY aZ _ _ a8 a9 _ bb bc _ _ bd be _ _ _ (gt_ st) (gt_ st) (gt_ st) (gt_ st) (gt_ st) (gt_ st) (gt_ st) (gt_ st) A_38.out) ?_; rintro e w_ ⟨rfl, hb⟩; refine ⟨_, rfl, ?_⟩; replace st := st.ev hb; clear cl hb; have cl := cl_ st; refine hK.out _ _ st.en (fun hs => ?_); clear hK K; refine nr_ 38 ?_; refine pv_ 11 ?_; refine done_ (done_of HT_.out (by kernel_rfl)) ?_; all_goals (try go_wp2)))
        go_roundg k2
        case measure => have := HJ3.out; have := HK2.out; omega
        case rel => exact ⟨(wrap64 (ac + 1)), tx_, H', ⟨by have := HJ3.out; have := HK2.out; omega⟩, st.en⟩
       ·
        replace H := bf_ H; obtain rfl := Option.some.inj H; (try go_wp2); (all_goals (obtain ⟨p_, q_, ad_, aY, aZ, a8, a9, e_, an, ao, ap, l0_, C0_, l2_, C2_⟩ := a2_ (at_T25 (gC_ s0 k25 aU aj) ac); replace st := st.c C0_ l0_; replace st := st.c C2_ l2_; have ix110 := ix3_ Tryd.underlying26 e_ p_ q_ (c := aV); clear e_; obtain ⟨p_, q_, ad_, bb, bc, bd, be, e_, aq, ar, au, l0_, C0_, l2_, C2_⟩ := a2_ (at_T25 (gC_ s0 k25 aW ak) ac); replace st := st.c C0_ l0_; replace st := st.c C2_ l2_; have ix111 := ix3_ Tryd.underlying26 e_ p_ q_ (c := aX); clear e_; refine rg_ st [] ?_; clear st cl; intro w_ st hs; have cl := cl_ st; refine with_tabW laws_sameDesk.tab6 laws_sameDesk.bits6 (fun HT_ HW_ => ?_); refine pv_ 0 ?_; refine pv_ 2 ?_; refine pv_ 5 ?_; refine pv_ 7 ?_; refine tu_ 1 ?_ (hy := by intro w' s_; have cl := cl_ s_; have y110_0 := cb_ s_ an; have y110_1 := cb_ s_ ao; have y110_2 := cb_ s_ ap; have y111_0 := cb_ s_ aq; have y111_1 := cb_ s_ ar; have y111_2 := cb_ s_ au; go_simp; first | with_reducible rfl | (rw [if_neg (by omega)]; done)); refine tu_ 6 ?_ (hy := by intro w' s_; have cl := cl_ s_; have y110_0 := cb_ s_ an; have y110_1 := cb_ s_ ao; have y110_2 := cb_ s_ ap; have y111_0 := cb_ s_ aq; have y111_1 := cb_ s_ ar; have y111_2 := cb_ s_ au; go_simp; first | with_reducible rfl | (rw [if_neg (by omega)]; done)); refine pv_ 3 ?_; refine pv_ 8 ?_; refine tu_ 4 ?_ (hy := by intro w' s_; have cl := cl_ s_; have y110_0 := cb_ s_ an; have y110_1 := cb_ s_ ao; have y110_2 := cb_ s_ ap; have y111_0 := cb_ s_ aq; have y111_1 := cb_ s_ ar; have y111_2 := cb_ s_ au; go_simp; first | with_reducible rfl | (rw [if_neg (by omega)]; done)); refine tu_ 9 ?_ (hy := by intro w' s_; have cl := cl_ s_; have y110_0 := cb_ s_ an; have y110_1 := cb_ s_ ao; have y110_2 := cb_ s_ ap; have y111_0 := cb_ s_ aq; have y111_1 := cb_ s_ ar; have y111_2 := cb_ s_ au; go_simp; first | with_reducible rfl | (rw [if_neg (by omega)]; done)); refine ov_ 10 (fun K hK => ?_); refine ca2_ (some 38) Tryd.func32 _ (laws_samePlace.calls k2 aY aZ _ _ a8 a9 _ bb bc _ _ bd be _ _ _ (gt_ st) (gt_ st) (gt_ st) (gt_ st) (gt_ st) (gt_ st) (gt_ st) (gt_ st) A_38.out) ?_; rintro e w_ ⟨rfl, hb⟩; refine ⟨_, rfl, ?_⟩; replace st := st.ev hb; clear cl hb; have cl := cl_ st; refine hK.out _ _ st.en (fun hs => ?_); clear hK K; refine nr_ 38 ?_; refine pv_ 11 ?_; refine done_ (done_of HT_.out (by kernel_rfl)) ?_; all_goals (try go_wp2))); go_ret; exact ⟨tw_, st.b⟩
      ·
       obtain rfl := Option.some.inj H; go_wp2; go_ret; exact ⟨tw_, st.b⟩

/-! ### impl_coloursOk: function 34 -/
def impl_coloursOk.f (a0 : Int) : Option (Bool) := if a0 ≥ 1 then (some (decide (a0 ≤ 3))) else (some false)
theorem impl_coloursOk.calls (a0 : Int) (r : Bool) (w : World) (h : impl_coloursOk.f a0 = some r) :
  Calls Tryd.prog 34 #[.int .i64 a0] w fun e w' => e = .returned (.bool r) ∧ Drawn0 w w' := by
 have H : (if a0 ≥ 1 then (some (decide (a0 ≤ 3))) else (some false)) = some r := h; clear h; replace H := ih_ H; rcases H with ⟨bS, H⟩ | ⟨bS, H⟩
 ·
  obtain rfl := Option.some.inj H; go_enter Tryd.func34, Tryd.ntmps34; go_wp2; go_ret; exact ⟨tx_, dz_⟩
 ·
  obtain rfl := Option.some.inj H; go_enter Tryd.func34, Tryd.ntmps34; go_wp2; go_ret; exact ⟨tx_, dz_⟩

/-! ### impl_SameRule: function 11 -/
mutual
def impl_SameRule.j0 : Nat → Int → Int → Bool → Option ((List (List Int)))
 | 0, _, _, _ => none
 | k + 1, x0, x1, x18 => if x18 = true then (some ([] : List (List Int))) else (impl_SameRule.l0 k x0 x1 (([] : List (List Int))) x0 0)
def impl_SameRule.l0 : Nat → Int → Int → List (List Int) → Int → Int → Option ((List (List Int)))
 | 0, _, _, _, _, _ => none
 | k + 1, x0, x1, x5, x20, x21 => if x21 < x20 then (if 0 ≤ x0 then (if (x0 : Int).toNat ≤ 35184372088832 then ((some (List.replicate (x0 : Int).toNat 0 : List Int)).bind fun av => (if 0 ≤ x21 then (if x21 < (av.length : Int) then (if x5.length < 5864062014805 then (impl_SameRule.l0 k x0 x1 (x5 ++ [(av.set (x21 : Int).toNat x1)]) x20 (wrap64 (x21 + 1))) else (none)) else (none)) else (none))) else (none)) else (none)) else (some x5)
end
def impl_SameRule.f (k : Nat) (a0 : Int) (a1 : Int) : Option ((List (List Int))) := (impl_coloursOk.f a0).bind fun bj => (if bj = true then (if a1 < (-1) then (impl_SameRule.j0 k a0 a1 true) else (impl_SameRule.j0 k a0 a1 (decide (a1 > 3)))) else (impl_SameRule.j0 k a0 a1 true))
theorem impl_SameRule.mono_l : ∀ k, (∀ y0 y1 y2, LeO (impl_SameRule.j0 k y0 y1 y2) (impl_SameRule.j0 (k + 1) y0 y1 y2)) ∧ (∀ y0 y1 y2 y3 y4, LeO (impl_SameRule.l0 k y0 y1 y2 y3 y4) (impl_SameRule.l0 (k + 1) y0 y1 y2 y3 y4))
 | 0 => ⟨fun _ _ _ r h => by simp [impl_SameRule.j0] at h, fun _ _ _ _ _ r h => by simp [impl_SameRule.l0] at h⟩
 | k + 1 => by
  obtain ⟨ih0, ih1⟩ := impl_SameRule.mono_l k
  refine ⟨?_, ?_⟩
  ·
   intro y0 y1 y2
   unfold impl_SameRule.j0
   repeat' (with_reducible first | exact ih0 _ _ _ | exact ih1 _ _ _ _ _ | exact mr_ | exact mn_ | refine mi_ ?_ ?_ | refine mb_ ?_ (fun _ => ?_))
  ·
   intro y0 y1 y2 y3 y4
   unfold impl_SameRule.l0
   repeat' (with_reducible first | exact ih0 _ _ _ | exact ih1 _ _ _ _ _ | exact mr_ | exact mn_ | refine mi_ ?_ ?_ | refine mb_ ?_ (fun _ => ?_))
theorem impl_SameRule.mono : ∀ a0 a1 k, LeO (impl_SameRule.f k a0 a1) (impl_SameRule.f (k + 1) a0 a1) := by
 intro a0 a1 k; obtain ⟨ih0, ih1⟩ := impl_SameRule.mono_l k; unfold impl_SameRule.f; repeat' (with_reducible first | exact ih0 _ _ _ | exact ih1 _ _ _ _ _ | exact mr_ | exact mn_ | refine mi_ ?_ ?_ | refine mb_ ?_ (fun _ => ?_))
theorem impl_SameRule.calls (k : Nat) (a0 : Int) (a1 : Int) (r : List (List Int)) (w : World) (h : impl_SameRule.f k a0 a1 = some r) :
  Calls Tryd.prog 11 #[.int .i64 a0, .int .i64 a1] w fun e w' => ∃ v0_ : Value, e = .returned (v0_) ∧ Kd.S (Kd.slice 3 (Kd.int .i64)) 23 w' w.heap.size (fun _ => True) v0_ r ∧ Below w.heap.size w w' := by
 have HB := A_ (Below.refl w.heap.size w); have H : ((impl_coloursOk.f a0).bind fun bj => (if bj = true then (if a1 < (-1) then (impl_SameRule.j0 k a0 a1 true) else (impl_SameRule.j0 k a0 a1 (decide (a1 > 3)))) else (impl_SameRule.j0 k a0 a1 true))) = some r := h; clear h; have HC3 := A_ H; clear H; go_enter Tryd.func11, Tryd.ntmps11
 go_upto_region 1 with (fail)
 go_cut [18] (fun b6 wc => ∃ (kq : Nat) (bg : Bool), b6 = .bool bg ∧ Aside0 (impl_SameRule.j0 kq a0 a1 bg = some r) ∧ Aside0 (kq ≤ k) ∧ Aside0 (Below w.heap.size w wc))
 case first =>
  have H := HC3.out; clear HC3; obtain ⟨bj, A4, H⟩ := bnd_ H; (try dsimp only at H); by_cases c5 : bj = true
  ·
   subst c5; replace H : (if a1 < (-1) then (impl_SameRule.j0 k a0 a1 true) else (impl_SameRule.j0 k a0 a1 (decide (a1 > 3)))) = some r := by rw [if_pos rfl] at H; exact H
   replace H := it_ H; rcases H with ⟨ax, H⟩ | ⟨ax, H⟩
   ·
    (first | rw [ax] | (simp only [i64_w, i32_w]; rw [ax]) | skip); have H' := A_ H; clear H; go_wp2_with (first | ((with_reducible refine gate_callee (f := 34) rfl ?_); refine gl_ (some 9) Tryd.func34 #[.int .i64 a0] ?_; (with_reducible refine (impl_coloursOk.calls a0 true _ A4.out).mono ?_); rintro e w' ⟨rfl, ⟨nd, rfl⟩⟩; refine ⟨_, rfl, ?_⟩)); go_meet
    case rel => exact ⟨_, (true), tx_, H', ⟨by first | omega | exact Nat.le_refl _⟩, ⟨(tb_ HB.out)⟩⟩
   ·
    (first | rw [ax] | (simp only [i64_w, i32_w]; rw [ax]) | skip); have H' := A_ H; clear H; go_wp2_with (first | ((with_reducible refine gate_callee (f := 34) rfl ?_); refine gl_ (some 9) Tryd.func34 #[.int .i64 a0] ?_; (with_reducible refine (impl_coloursOk.calls a0 true _ A4.out).mono ?_); rintro e w' ⟨rfl, ⟨nd, rfl⟩⟩; refine ⟨_, rfl, ?_⟩)); go_meet
    case rel => exact ⟨_, (decide (a1 > 3)), tx_, H', ⟨by first | omega | exact Nat.le_refl _⟩, ⟨(tb_ HB.out)⟩⟩
  ·
   replace c5 := Bool.eq_false_iff.mpr c5; subst c5; replace H : (impl_SameRule.j0 k a0 a1 true) = some r := by rw [if_neg (show ¬ (false = true) by decide)] at H; exact H
   have H' := A_ H; clear H; go_wp2_with (first | ((with_reducible refine gate_callee (f := 34) rfl ?_); refine gl_ (some 9) Tryd.func34 #[.int .i64 a0] ?_; (with_reducible refine (impl_coloursOk.calls a0 false _ A4.out).mono ?_); rintro e w' ⟨rfl, ⟨nd, rfl⟩⟩; refine ⟨_, rfl, ?_⟩)); go_meet
   case rel => exact ⟨_, (true), tx_, H', ⟨by first | omega | exact Nat.le_refl _⟩, ⟨(tb_ HB.out)⟩⟩
 case rest =>
  clear HC3; obtain ⟨kq, bg, rfl, HA, HJ2, HB⟩ := hcut
  cases kq with
  | zero => exact absurd HA.out (by simp [impl_SameRule.j0])
  | succ kj2 =>
   have H := HA.out; clear HA; simp only [impl_SameRule.j0] at H; by_cases c7 : bg = true
   ·
    subst c7; replace H : (some ([] : List (List Int))) = some r := by rw [if_pos rfl] at H; exact H
    obtain rfl := Option.some.inj H; go_wp2; go_ret; exact ⟨_, tw_, by first | exact Kd.S_nil _ _ _ _ _ | exact Kd.N_nil _ _ _ _ _ | exact Kd.V_nil _ _ _ _ _ | exact Kd.Q_nil _ _ _ _ _ | exact Kd.R_nil _ _ _ _ _, (tb_ HB.out)⟩
   ·
    replace c7 := Bool.eq_false_iff.mpr c7; subst c7; replace H : (impl_SameRule.l0 kj2 a0 a1 (([] : List (List Int))) a0 0) = some r := by rw [if_neg (show ¬ (false = true) by decide)] at H; exact H
    obtain ⟨bG, bk⟩ : ∃ y_ : List (List Int), y_ = (([] : List (List Int))) := ⟨_, rfl⟩
    replace H : (impl_SameRule.l0 kj2 a0 a1 bG a0 0) = some r := yq_ bk H; have bv := A_ bk; clear bk; have H' := A_ H; clear H; go_wp2_with (first | ((with_reducible refine gate_dst (N := 19) rfl ?_); refine Kd.S_lit (Kd.slice 3 (Kd.int .i64)) _ 23 ?hg (N := 19) ?hd (xs := ([] : List (List Int))) (inner := []) (ok := fun _ => True) (okp := fun _ => True) ?hr ?hp (fun _ hk => hk) trivial (Below.refl _ _) (Nat.le_refl _) (by simp) ?_; (case hd => rfl); (case hg => rfl); (case hr => first | (go_simp; done) | (go_simp; rfl)); (case hp => exact (Reps.none _ _)); intro b7 w8 ho9 hb hg_ hnew_; clear hg_ hnew_; (first | rw [← bv.out] at ho9 | (simp only [Int.reduceToNat] at ho9; rw [← bv.out] at ho9)); have bH := A_ (Kd.S_lower ho9 (below_size (tb_ HB.out))); replace HB := bs_ HB hb; clear hb ho9))
    go_loopg [5, 21] kj2 (fun kq v5 b8 w' => ∃ (ac : List (List Int)) (aa : Int), b8 = .int .i64 aa ∧ Aside0 (impl_SameRule.l0 kq a0 a1 ac a0 aa = some r) ∧ Aside0 (kq ≤ kj2) ∧ Aside0 (Kd.S (Kd.slice 3 (Kd.int .i64)) 23 w' w.heap.size (fun _ => True) v5 ac) ∧ Aside0 (Below w.heap.size w w'))
    case atStart => exact ⟨(bG), (0), tx_, H', ⟨Nat.le_refl _⟩, ⟨rS_ bH.out⟩, ⟨(tb_ HB.out)⟩⟩
    case round =>
     clear H'; (try clear c7); obtain ⟨ac, aa, rfl, HA, HK2, aR, HB⟩ := hrel
     cases gk with
     | zero => exact absurd HA.out (by simp [impl_SameRule.l0])
     | succ k2 =>
      have H := HA.out; clear HA; simp only [impl_SameRule.l0] at H; replace H := it_ H; rcases H with ⟨bI, H⟩ | ⟨bI, H⟩
      ·
       replace H := i0_ H; obtain ⟨c11, H⟩ := H; have bW := eq_true c11; have bX : decide (0 ≤ a0) = true := decide_eq_true c11; clear c11; replace H := i0_ H; obtain ⟨c12, H⟩ := H; have bZ := eq_true c12; have b0 : decide ((a0 : Int).toNat ≤ 35184372088832) = true := decide_eq_true c12; clear c12; obtain ⟨av, bl⟩ : ∃ y_ : List Int, y_ = (List.replicate (a0 : Int).toNat 0) := ⟨_, rfl⟩
       replace H : (if 0 ≤ aa then (if aa < (av.length : Int) then (if ac.length < 5864062014805 then (impl_SameRule.l0 k2 a0 a1 (ac ++ [(av.set (aa : Int).toNat a1)]) a0 (wrap64 (aa + 1))) else (none)) else (none)) else (none)) = some r := yq_ bl H; have bw := A_ bl; clear bl; replace H := in_ H; obtain ⟨b1, H⟩ := H; replace H := in_ H; obtain ⟨b2, H⟩ := H; obtain ⟨bu, bm⟩ : ∃ y_ : List Int, y_ = (av.set (aa : Int).toNat a1) := ⟨_, rfl⟩
       replace H : (if ac.length < 5864062014805 then (impl_SameRule.l0 k2 a0 a1 (ac ++ [bu]) a0 (wrap64 (aa + 1))) else (none)) = some r := yq_ bm H; have bJ := A_ bm; clear bm; replace H := il_ H; obtain ⟨bK, H⟩ := H; obtain ⟨bL, bn⟩ : ∃ y_ : List (List Int), y_ = (ac ++ [bu]) := ⟨_, rfl⟩
       replace H : (impl_SameRule.l0 k2 a0 a1 bL a0 (wrap64 (aa + 1))) = some r := yq_ bn H; have bM := A_ bn; clear bn; have H' := A_ H; clear H; go_wp2_with (first | ((with_reducible refine gate_dst (N := 25) rfl ?_); refine Kd.R_make (Kd.int .i64) _ 3 rfl (N := 25) rfl 23 _ _ rfl a0 rfl rfl Tryd.underlying23 (.int .i64 0) 8 info3 rfl (by decide) (by omega) 0 (ok := fun _ => True) (okp := fun _ => True) rfl (fun _ hk => hk) trivial (od_) (Nat.le_trans (Nat.mul_le_mul_right _ (od_ : a0.toNat ≤ 35184372088832)) (by omega)) (Below.refl _ _) (Nat.le_refl _) ?_; intro b9 b3 ho18 hb hg_ hnew_; clear hg_ hnew_; (first | rw [← bw.out] at ho18 | (simp only [Int.reduceToNat] at ho18; rw [← bw.out] at ho18)); replace aR := A_ (Kd.S_elder' (rS_ aR.out) (Kd.R_base ho18) hb); have aw := rx_ ho18 HB; replace HB := bs_ HB hb; clear hb ho18; have p15 : 0 ≤ (aa : Int) := od_; have q15 : (aa : Int) < ((av.length : Int) : Int) := od_; obtain ⟨go15, bo, bN, bO, gl15, cl15, HG15⟩ := Kd.R_form aw.out (by omega); (first | cases bN | (injection bN with ea_ en_ ec_; (first | subst ea_ | (injection ea_ with ea_; subst ea_)); subst ec_; clear en_)); have GB15 := A_ bO; have GG15 := A_ HG15; clear bO gl15 HG15; obtain ⟨bU, hf15_0⟩ := Kd.R_celln 0 aw.out (aa : Int) p15 q15; replace p15 := eq_true p15; replace q15 := eq_true q15; obtain ⟨hy19_, hz19_⟩ := Kd.R_celln 0 aw.out (aa : Int) (od_) (od_); have HP19 := Kd.R_putg aw.out (aa : Int) a1) | ((with_reducible refine gate_store (t := 3) (p := 29) rfl ?_); refine store_event (t := 3) (p := 29) (v := ?vo_w20) (w1 := (b3.setCell ⟨go15, (aa : Int).toNat, none⟩ (.int .i64 a1))) ?hg ?ho ?hn ?hr ?_; (case ho => rfl); (case hg => rfl); (case hn => rfl); (case hr => first | (go_simp; done) | (go_simp; rfl)); intro bV hw; have hg : b3.grownBy bV (some go15) := (by rw [hw]; exact HP19.2); have hp_ : Kd.R (Kd.int .i64) 3 bV w.heap.size (fun _ => True) (.slice (some ⟨go15, 0, none⟩) av.length bo) bu := (by rw [hw, bJ.out]; exact HP19.1); clear HP19; replace aR := A_ (Kd.S_after (v := (.slice (some ⟨go15, 0, none⟩) av.length bo)) (v1 := (.slice (some ⟨go15, 0, none⟩) av.length bo)) (ok := (fun _ => True)) (rS_ aR.out) hg (.inl rfl)); replace aw := A_ (hp_); replace HB := A_ ((by rw [hw]; exact below_set (HB.out) GB15.out : Below w.heap.size w bV)); clear hg hw hp_) | ((with_reducible refine gate_builtin (b := .append) (xs := #[.tmp 30, .tmp 32]) rfl ?_); at_builtin; refine Kd.S_append (Kd.slice 3 (Kd.int .i64)) (w0 := w) w.heap.size rfl (.tmp 30) (.tmp 32) 38 23 (.slice none 0 0) 24 rfl Tryd.underlying38 info23 rfl (by decide) (by omega) u5 ac bu [.slice (some ⟨go15, 0, none⟩) av.length bo] (fun _ => True) (fun k_ => some k_ = (.slice (some ⟨go15, 0, none⟩) av.length bo : Value).ownBlock) rfl rfl ?aP (fun k_ hk_ => ((Kd.R_mono (ok' := fun k_ => ((fun _ => True)) k_ ∧ some k_ ≠ (u5 : Value).ownBlock) (Kd.R_apart' (aw.out) (Kd.S_typed aR.out) (by decide)) (fun k_ hk => ⟨trivial, hk.2⟩))).1 k_ hk_.symm) ?aF ?aO ?aB ?aS ?aL ?_; (case aP => exact Kd.M_row (Kd.R_mono (Kd.R_tight rfl (Kd.R_mono (ok' := fun k_ => ((fun _ => True)) k_ ∧ some k_ ≠ (u5 : Value).ownBlock) (Kd.R_apart' (aw.out) (Kd.S_typed aR.out) (by decide)) (fun k_ hk => ⟨trivial, hk.2⟩))) (fun _ h_ => h_))); (case aB => exact (tb_ HB.out)); (case aF => exact (fun _ _ => trivial)); (case aO => exact (by refine qS_ ?_; exact Kd.S_mono aR.out (fun k_ hk => ⟨trivial, fun e_ => hk.2 e_⟩))); (case aS => exact (below_size (tb_ HB.out))); (case aL => have := bK.out; omega); intro ca cb ho hb hg hat; rw [← bM.out] at ho; replace HB := A_ (hb); have bP := A_ (ho); clear aR aw ho hb hg hat))
       go_roundg k2
       case measure => have := HJ2.out; have := HK2.out; omega
       case rel => exact ⟨(bL), (wrap64 (aa + 1)), tx_, H', ⟨by have := HJ2.out; have := HK2.out; omega⟩, ⟨rS_ bP.out⟩, ⟨(tb_ HB.out)⟩⟩
      ·
       obtain rfl := Option.some.inj H; go_wp2; go_ret; exact ⟨_, tw_, by refine qS_ ?_; exact aR.out, (tb_ HB.out)⟩

/-! ### impl_WordOk: function 36 -/
def impl_WordOk.l0 : Nat → Int → List Int → List Int → Int → Int → Option (Bool)
 | 0, _, _, _, _, _ => none
 | k + 1, x0, x1, x7, x8, x9 => if x9 < x8 then (if 0 ≤ x9 then (if x9 < (x7.length : Int) then (if (rd x7 x9) < 0 then (some false) else (if (rd x7 x9) ≥ x0 then (some false) else (impl_WordOk.l0 k x0 x1 x7 x8 (wrap64 (x9 + 1))))) else (none)) else (none)) else ((impl_coloursOk.f x0).bind fun bC => (if bC = true then (some (decide ((x1.length : Int) ≤ 6))) else (some false)))
def impl_WordOk.f (k : Nat) (a0 : Int) (l1 : List Int) : Option (Bool) := impl_WordOk.l0 k a0 l1 l1 (l1.length : Int) 0
theorem impl_WordOk.mono_l : ∀ k, (∀ y0 y1 y2 y3 y4, LeO (impl_WordOk.l0 k y0 y1 y2 y3 y4) (impl_WordOk.l0 (k + 1) y0 y1 y2 y3 y4))
 | 0 => fun _ _ _ _ _ r h => by simp [impl_WordOk.l0] at h
 | k + 1 => by
  have ih0 := impl_WordOk.mono_l k
  ·
   intro y0 y1 y2 y3 y4
   unfold impl_WordOk.l0
   repeat' (with_reducible first | exact ih0 _ _ _ _ _ | exact mr_ | exact mn_ | refine mi_ ?_ ?_ | refine mb_ ?_ (fun _ => ?_))
theorem impl_WordOk.mono : ∀ a0 a1 k, LeO (impl_WordOk.f k a0 a1) (impl_WordOk.f (k + 1) a0 a1) := by
 intro a0 a1 k; have ih0 := impl_WordOk.mono_l k; unfold impl_WordOk.f; repeat' (with_reducible first | exact ih0 _ _ _ _ _ | exact mr_ | exact mn_ | refine mi_ ?_ ?_ | refine mb_ ?_ (fun _ => ?_))
theorem impl_WordOk.calls (k : Nat) (a0 : Int) (A1 : Option Addr) (c1 : Nat) (l1 : List Int) (r : Bool) (w : World) (hr1 : Kd.C (Kd.int .i64) w A1 l1.length l1) (hc1 : l1.length ≤ c1) (h : impl_WordOk.f k a0 l1 = some r) :
  Calls Tryd.prog 36 #[.int .i64 a0, .slice A1 l1.length c1] w fun e w' => e = .returned (.bool r) ∧ Drawn0 w w' := by
 have HR1 := A_ hr1; have HC1 := A_ hc1; clear hr1 hc1; have H : (impl_WordOk.l0 k a0 l1 l1 (l1.length : Int) 0) = some r := h; clear h; have H' := A_ H; clear H; go_enter Tryd.func36, Tryd.ntmps36; go_wp2
 go_loopg [9] k (fun kq v9 w' => ∃ (ae : Int), v9 = .int .i64 ae ∧ Aside0 (impl_WordOk.l0 kq a0 l1 l1 (l1.length : Int) ae = some r) ∧ Aside0 (kq ≤ k) ∧ Drawn0 w w')
 case atStart => exact ⟨(0), tx_, H', ⟨Nat.le_refl _⟩, dz_⟩
 case round =>
  clear H'; obtain ⟨ae, rfl, HA, HK1, ⟨m1, rfl⟩⟩ := hrel
  cases gk with
  | zero => exact absurd HA.out (by simp [impl_WordOk.l0])
  | succ k1 =>
   have H := HA.out; clear HA; simp only [impl_WordOk.l0] at H; replace H := it_ H; rcases H with ⟨bi, H⟩ | ⟨bi, H⟩
   ·
    replace H := in_ H; obtain ⟨bE, H⟩ := H; replace H := in_ H; obtain ⟨bQ, H⟩ := H; replace H := it_ H; rcases H with ⟨ax, H⟩ | ⟨ax, H⟩
    ·
     obtain rfl := Option.some.inj H; obtain ⟨p124, q124, ad124, e124, bh⟩ := a2_ (Kd.at_int HR1.out ae); cases e124; go_wp2; go_ret; exact ⟨tx_, dz_⟩
    ·
     replace H := ih_ H; rcases H with ⟨bq, H⟩ | ⟨bq, H⟩
     ·
      obtain rfl := Option.some.inj H; obtain ⟨p124, q124, ad124, e124, bh⟩ := a2_ (Kd.at_int HR1.out ae); cases e124; go_wp2; go_ret; exact ⟨tx_, dz_⟩
     ·
      have H' := A_ H; clear H; obtain ⟨p124, q124, ad124, e124, bh⟩ := a2_ (Kd.at_int HR1.out ae); cases e124; go_wp2
      go_roundg k1
      case measure => have := HK1.out; omega
      case rel => exact ⟨(wrap64 (ae + 1)), tx_, H', ⟨by have := HK1.out; omega⟩, dz_⟩
   ·
    obtain ⟨bC, A8, H⟩ := bnd_ H; (try dsimp only at H); by_cases c9 : bC = true
    ·
     subst c9; replace H : (some (decide ((l1.length : Int) ≤ 6))) = some r := by rw [if_pos rfl] at H; exact H
     obtain rfl := Option.some.inj H; go_wp2_with (first | ((with_reducible refine gate_callee (f := 34) rfl ?_); refine gl_ (some 22) Tryd.func34 #[.int .i64 a0] ?_; (with_reducible refine (impl_coloursOk.calls a0 true _ A8.out).mono ?_); rintro e w' ⟨rfl, ⟨nd, rfl⟩⟩; refine ⟨_, rfl, ?_⟩)); go_ret; exact ⟨tx_, dz_⟩
    ·
     replace c9 := Bool.eq_false_iff.mpr c9; subst c9; replace H : (some false) = some r := by rw [if_neg (show ¬ (false = true) by decide)] at H; exact H
     obtain rfl := Option.some.inj H; go_wp2_with (first | ((with_reducible refine gate_callee (f := 34) rfl ?_); refine gl_ (some 22) Tryd.func34 #[.int .i64 a0] ?_; (with_reducible refine (impl_coloursOk.calls a0 false _ A8.out).mono ?_); rintro e w' ⟨rfl, ⟨nd, rfl⟩⟩; refine ⟨_, rfl, ?_⟩)); go_ret; exact ⟨tx_, dz_⟩

/-! ### slices_Clone_int_int: function 46 -/
def slices_Clone_int_int.f (l0 : List Int) : Option (List Int) := if l0.length * 8 ≤ 140737488355328 then some l0 else none
theorem slices_Clone_int_int.calls (A0 : Option Addr) (c0 : Nat) (l0 : List Int) (r : List Int) (w : World) (hr0 : Kd.C (Kd.int .i64) w A0 l0.length l0) (hc0 : l0.length ≤ c0) (h : slices_Clone_int_int.f l0 = some r) :
  Calls Tryd.prog 46 #[.slice A0 l0.length c0] w fun e w' => ∃ v0_ : Value, e = .returned (v0_) ∧ Kd.R (Kd.int .i64) 3 w' w.heap.size (fun _ => True) v0_ r ∧ Below w.heap.size w w' := by
 unfold slices_Clone_int_int.f at h; by_cases hl : l0.length * 8 ≤ 140737488355328
 ·
  rw [if_pos hl] at h; obtain rfl := Option.some.inj h; rcases Nat.eq_zero_or_pos l0.length with h0 | h0
  ·
   obtain rfl : l0 = [] := List.eq_nil_of_length_eq_zero h0
   cases A0 with
   | none => exact (Sh.Tryd.slices_Clone_int_nil 0 c0 w).mono fun e w' ⟨he, hw⟩ => ⟨.slice none 0 0, he, Kd.R_nil _ _ _ _ _, hw ▸ Below.refl _ _⟩
   | some ad => exact (Sh.Tryd.slices_Clone_int_zero ad c0 w).mono fun e w' ⟨v, he, ho, _, hb⟩ => ⟨v, he, Kd.R_of_own (xs := []) ho (fun _ _ => trivial), hb⟩
  ·
   obtain ⟨ad, rfl, hc⟩ := hr0.2.2 h0
   have hcell : ∀ j, j < l0.length → w.cell? (ad.add j) = some (.int .i64 (l0.getD j 0)) := by
    intro j hj; obtain ⟨c, hc1, hc2, hc3⟩ := hc j _ (List.getElem?_eq_getElem hj); have e1 : c = [.int .i64 l0[j]] := hc2; have := hc3 0 _ (by rw [e1]; rfl); rw [List.getD_eq_getElem?_getD, List.getElem?_eq_getElem hj]; simpa [Kd.int, Kd.scalar] using this
   have hs := hcell 0 h0
   have hsp : ad.spot = none := by
    cases hq : ad.spot with
    | none => rfl
    | some q => simp [World.cell?, Addr.add, hq] at hs; split at hs <;> simp at hs
   obtain ⟨b, o, sp⟩ := ad; simp only at hsp; subst hsp; refine (Sh.Tryd.slices_Clone_int b o l0.length c0 l0 w (Nat.le_refl _) hl (fun j hj => by have := hcell j hj; unfold Addr.add at this; split at this <;> simp_all)).mono fun e w' ⟨v, he, ho, _, hb⟩ => ⟨v, he, Kd.R_of_own (by rw [List.take_length] at ho; exact ho) (fun _ _ => trivial), hb⟩
 ·
  rw [if_neg hl] at h; exact absurd h (by simp)

end Go.Proofs.YtfacponjomafcaaDoor.MFnDeskRun
