/- For the law FnExactDeskRun: walks of the functions that it reaches: each call returns what the plain function beside it tells. The conditions stand in each statement. -/
import Derived.Test.YtmodbemkflkbeaaDoorV
import Derived.Test.YtmodbemkflkbeaaDoorMFnExactDeskRunx0
import Derived.Test.YtmodbemkflkbeaaDoorMFnExactDeskRunx2
namespace Go.Proofs.YtmodbemkflkbeaaDoor.MFnExactDeskRun
open Go.RowKit Go.Proofs.YtmodbemkflkbeaaDoorW.PrintWords Go.Proofs.YtmodbemkflkbeaaDoorW.PrintLast Go.Proofs.YtmodbemkflkbeaaDoorW.PrintMore
attribute [local go_sem] max2_int min2_int max_two min_two max_three min_three max_four min_four   -- for this text's walks alone
set_option linter.unusedVariables false
set_option linter.unusedSimpArgs false
set_option maxHeartbeats 8000000
set_option maxRecDepth 100000

/-! ### laws_eqPlaceS: function 36 -/
def laws_eqPlaceS.l0 : Nat → List (S31) → List (S31) → Int → Option (Bool)
 | 0, _, _, _ => none
 | k + 1, x0, x1, x5 => if x5 < (x0.length : Int) then (if 0 ≤ x5 then (if x5 < (x1.length : Int) then ((laws_eqPlace.f k ((rd_T31 x0 x5).f0) ((rd_T31 x0 x5).f1) ((rd_T31 x0 x5).f2) ((rd_T31 x1 x5).f0) ((rd_T31 x1 x5).f1) ((rd_T31 x1 x5).f2)).bind fun bI => (if bI = true then (laws_eqPlaceS.l0 k x0 x1 (wrap64 (x5 + 1))) else (some false))) else (none)) else (none)) else (some true)
def laws_eqPlaceS.f (k : Nat) (l0 : List (S31)) (l1 : List (S31)) : Option (Bool) := if (l0.length : Int) = (l1.length : Int) then (laws_eqPlaceS.l0 k l0 l1 0) else (some false)
theorem laws_eqPlaceS.mono_l : ∀ k, (∀ y0 y1 y2, LeO (laws_eqPlaceS.l0 k y0 y1 y2) (laws_eqPlaceS.l0 (k + 1) y0 y1 y2))
 | 0 => fun _ _ _ r h => by simp [laws_eqPlaceS.l0] at h
 | k + 1 => by
  have ih0 := laws_eqPlaceS.mono_l k
  ·
   intro y0 y1 y2
   unfold laws_eqPlaceS.l0
   repeat' (with_reducible first | exact ih0 _ _ _ | exact laws_eqPlace.mono _ _ _ _ _ _ _ | exact mr_ | exact mn_ | refine mi_ ?_ ?_ | refine mb_ ?_ (fun _ => ?_))
theorem laws_eqPlaceS.mono : ∀ a0 a1 k, LeO (laws_eqPlaceS.f k a0 a1) (laws_eqPlaceS.f (k + 1) a0 a1) := by
 intro a0 a1 k; have ih0 := laws_eqPlaceS.mono_l k; unfold laws_eqPlaceS.f; repeat' (with_reducible first | exact ih0 _ _ _ | exact laws_eqPlace.mono _ _ _ _ _ _ _ | exact mr_ | exact mn_ | refine mi_ ?_ ?_ | refine mb_ ?_ (fun _ => ?_))
def laws_eqPlaceS.T6 : Bool × List (List Nat × List Nat) := (true, [([], []), ([], []), ([0, 1], [0, 1]), ([2], [2]), ([], []), ([], []), ([4, 5], [4, 5]), ([6], [6]), ([3, 7], [3, 7]), ([8], [8])])
def laws_eqPlaceS.B6 : List Nat := [0, 0, 3, 7, 0, 0, 48, 112, 255, 511]
theorem laws_eqPlaceS.tab6 : rtab .any (opsOf Tryd.f36 6) = laws_eqPlaceS.T6 := by kernel_rfl
theorem laws_eqPlaceS.bits6 : waitsOk laws_eqPlaceS.T6.2 laws_eqPlaceS.B6 = true := by kernel_rfl
theorem laws_eqPlaceS.calls (k : Nat) (A0 : Option Addr) (c0 : Nat) (l0 : List (S31)) (A1 : Option Addr) (c1 : Nat) (l1 : List (S31)) (r : Bool) (w : World) (hr0 : Kd.C k31 w A0 l0.length l0) (hc0 : l0.length ≤ c0) (hr1 : Kd.C k31 w A1 l1.length l1) (hc1 : l1.length ≤ c1) (h : laws_eqPlaceS.f k l0 l1 = some r) :
  Calls Tryd.prog 36 #[.slice A0 l0.length c0, .slice A1 l1.length c1] w fun e w' => e = .returned (.bool r) ∧ Below w.heap.size w w' := by
 have hu31 := Tryd.underlying31; have st := ((ST.nil w).c hr0 hc0).c hr1 hc1; have s0 := st; have cl := cl_ st; have H := h; clear h; unfold laws_eqPlaceS.f at H; go_enter Tryd.func36, Tryd.ntmps36; by_cases c3 : (l0.length : Int) = (l1.length : Int)
 ·
  rw [if_pos c3] at H; have aq : ((l0.length : Int) == (l1.length : Int)) = true := beq_iff_eq.mpr c3; have cj : ((l0.length : Int) != (l1.length : Int)) = false := bne_eq_false_iff_eq.mpr c3; have ck : (l0.length == l1.length) = true := by first | simpa using c3 | (simp at c3 ⊢; omega)
  clear c3; have H' := A_ H; clear H; go_wp2
  go_loopg [5] k (fun kq v5 w' => ∃ (aa : Int), v5 = .int .i64 aa ∧ Aside0 (laws_eqPlaceS.l0 kq l0 l1 aa = some r) ∧ Aside0 (kq ≤ k) ∧ ST w [CA k31 w A0 l0 c0, CA k31 w A1 l1 c1] [] w')
  case atStart => exact ⟨(0), tx_, H', ⟨Nat.le_refl _⟩, st.en⟩
  case round =>
   clear H' st cl; obtain ⟨aa, rfl, HA, HK1, st⟩ := hrel; have cl := cl_ st
   cases gk with
   | zero => exact absurd HA.out (by simp [laws_eqPlaceS.l0])
   | succ k1 =>
    have H := HA.out; clear HA; simp only [laws_eqPlaceS.l0] at H; replace H := it_ H; rcases H with ⟨bJ, H⟩ | ⟨bJ, H⟩
    ·
     replace H := in_ H; obtain ⟨b5, H⟩ := H; replace H := in_ H; obtain ⟨b6, H⟩ := H; obtain ⟨bI, A_25, H⟩ := bnd_ H; rcases bx_ bI with rfl | rfl
     ·
      replace H := bt_ H; have H' := A_ H; clear H; (try go_wp2); (all_goals ((try clear ix_); obtain ⟨p_, q_, ad_, aW, aX, aY, aZ, e_, av, aw, ax, l0_, C0_, l2_, C2_⟩ := a2_ (at_T31 (gC_ s0 k31 A0 l0) aa); replace st := st.c C0_ l0_; replace st := st.c C2_ l2_; have ix154 := ix3_ Tryd.underlying32 e_ p_ q_ (c := c0); clear e_; obtain ⟨p_, q_, ad_, a8, a9, bb, bc, e_, ay, az, aA, l0_, C0_, l2_, C2_⟩ := a2_ (at_T31 (gC_ s0 k31 A1 l1) aa); replace st := st.c C0_ l0_; replace st := st.c C2_ l2_; have ix155 := ix3_ Tryd.underlying32 e_ p_ q_ (c := c1); clear e_; refine rg_ st [] ?_; clear st cl; intro w_ st hs; have cl := cl_ st; refine with_tabW laws_eqPlaceS.tab6 laws_eqPlaceS.bits6 (fun HT_ HW_ => ?_); refine pv_ 0 ?_; refine pv_ 1 ?_; refine pv_ 2 ?_; refine pv_ 4 ?_; refine pv_ 5 ?_; refine pv_ 6 ?_; refine tu_ 3 ?_ (hy := by intro w' s_; have cl := cl_ s_; have y154_0 := cb_ s_ av; have y154_1 := cb_ s_ aw; have y154_2 := cb_ s_ ax; have y155_0 := cb_ s_ ay; have y155_1 := cb_ s_ az; have y155_2 := cb_ s_ aA; go_simp; first | with_reducible rfl | (rw [if_neg (by omega)]; done)); refine tu_ 7 ?_ (hy := by intro w' s_; have cl := cl_ s_; have y154_0 := cb_ s_ av; have y154_1 := cb_ s_ aw; have y154_2 := cb_ s_ ax; have y155_0 := cb_ s_ ay; have y155_1 := cb_ s_ az; have y155_2 := cb_ s_ aA; go_simp; first | with_reducible rfl | (rw [if_neg (by omega)]; done)); refine ov_ 8 (fun K hK => ?_); refine ca2_ (some 25) Tryd.func35 _ (laws_eqPlace.calls k1 aW aX _ _ aY aZ _ a8 a9 _ _ bb bc _ _ _ (gt_ st) (gt_ st) (gt_ st) (gt_ st) (gt_ st) (gt_ st) (gt_ st) (gt_ st) A_25.out) ?_; rintro e w_ ⟨rfl, hb⟩; refine ⟨_, rfl, ?_⟩; replace st := st.ev hb; clear cl hb; have cl := cl_ st; refine hK.out _ _ st.en (fun hs => ?_); clear hK K; refine nr_ 25 ?_; refine pv_ 9 ?_; refine done_ (done_of HT_.out (by kernel_rfl)) ?_; clear ix154 ix155; all_goals (try go_wp2)))
      go_roundg k1
      case measure => have := HK1.out; omega
      case rel => exact ⟨(wrap64 (aa + 1)), tx_, H', ⟨by have := HK1.out; omega⟩, st.en⟩
     ·
      replace H := bf_ H; obtain rfl := Option.some.inj H; (try go_wp2); (all_goals ((try clear ix_); obtain ⟨p_, q_, ad_, aW, aX, aY, aZ, e_, av, aw, ax, l0_, C0_, l2_, C2_⟩ := a2_ (at_T31 (gC_ s0 k31 A0 l0) aa); replace st := st.c C0_ l0_; replace st := st.c C2_ l2_; have ix154 := ix3_ Tryd.underlying32 e_ p_ q_ (c := c0); clear e_; obtain ⟨p_, q_, ad_, a8, a9, bb, bc, e_, ay, az, aA, l0_, C0_, l2_, C2_⟩ := a2_ (at_T31 (gC_ s0 k31 A1 l1) aa); replace st := st.c C0_ l0_; replace st := st.c C2_ l2_; have ix155 := ix3_ Tryd.underlying32 e_ p_ q_ (c := c1); clear e_; refine rg_ st [] ?_; clear st cl; intro w_ st hs; have cl := cl_ st; refine with_tabW laws_eqPlaceS.tab6 laws_eqPlaceS.bits6 (fun HT_ HW_ => ?_); refine pv_ 0 ?_; refine pv_ 1 ?_; refine pv_ 2 ?_; refine pv_ 4 ?_; refine pv_ 5 ?_; refine pv_ 6 ?_; refine tu_ 3 ?_ (hy := by intro w' s_; have cl := cl_ s_; have y154_0 := cb_ s_ av; have y154_1 := cb_ s_ aw; have y154_2 := cb_ s_ ax; have y155_0 := cb_ s_ ay; have y155_1 := cb_ s_ az; have y155_2 := cb_ s_ aA; go_simp; first | with_reducible rfl | (rw [if_neg (by omega)]; done)); refine tu_ 7 ?_ (hy := by intro w' s_; have cl := cl_ s_; have y154_0 := cb_ s_ av; have y154_1 := cb_ s_ aw; have y154_2 := cb_ s_ ax; have y155_0 := cb_ s_ ay; have y155_1 := cb_ s_ az; have y155_2 := cb_ s_ aA; go_simp; first | with_reducible rfl | (rw [if_neg (by omega)]; done)); refine ov_ 8 (fun K hK => ?_); refine ca2_ (some 25) Tryd.func35 _ (laws_eqPlace.calls k1 aW aX _ _ aY aZ _ a8 a9 _ _ bb bc _ _ _ (gt_ st) (gt_ st) (gt_ st) (gt_ st) (gt_ st) (gt_ st) (gt_ st) (gt_ st) A_25.out) ?_; rintro e w_ ⟨rfl, hb⟩; refine ⟨_, rfl, ?_⟩; replace st := st.ev hb; clear cl hb; have cl := cl_ st; refine hK.out _ _ st.en (fun hs => ?_); clear hK K; refine nr_ 25 ?_; refine pv_ 9 ?_; refine done_ (done_of HT_.out (by kernel_rfl)) ?_; clear ix154 ix155; all_goals (try go_wp2))); go_ret; exact ⟨tw_, st.b⟩
    ·
     obtain rfl := Option.some.inj H; go_wp2; go_ret; exact ⟨tw_, st.b⟩
 ·
  rw [if_neg c3] at H; have aq : ((l0.length : Int) == (l1.length : Int)) = false := beq_eq_false_iff_ne.mpr c3; have cj : ((l0.length : Int) != (l1.length : Int)) = true := bne_iff_ne.mpr c3; have ck : (l0.length == l1.length) = false := by first | simpa using c3 | (simp at c3 ⊢; omega)
  obtain rfl := Option.some.inj H; go_wp2; go_ret; exact ⟨tw_, st.b⟩

/-! ### laws_eqDesk: function 10 -/
def laws_eqDesk.f (k : Nat) (ab : List Int) (a0_1 : Int) (ac : List Int) (am : List (S31)) (bd : List Int) (a1_1 : Int) (be : List Int) (bf : List (S31)) : Option (Bool) := (laws_eqPlace.f k ab a0_1 ac bd a1_1 be).bind fun bK => (if bK = true then ((laws_eqPlaceS.f k am bf).bind fun bL => (if bL = true then (some true) else (some false))) else (some false))
theorem laws_eqDesk.mono : ∀ a0 a1 a2 a3 a4 a5 a6 a7 k, LeO (laws_eqDesk.f k a0 a1 a2 a3 a4 a5 a6 a7) (laws_eqDesk.f (k + 1) a0 a1 a2 a3 a4 a5 a6 a7) := by
 intro a0 a1 a2 a3 a4 a5 a6 a7 k; unfold laws_eqDesk.f; repeat' (with_reducible first | exact laws_eqPlace.mono _ _ _ _ _ _ _ | exact laws_eqPlaceS.mono _ _ _ | exact mr_ | exact mn_ | refine mi_ ?_ ?_ | refine mb_ ?_ (fun _ => ?_))
theorem laws_eqDesk.z0 {P_ : Prop} (h_ : P_ := by go_wp2_with (first | ((with_reducible refine gate_dst (N := 2) rfl ?_); refine al_ st ?_; clear st cl; intro g2 w_ st; have cl := cl_ st) | ((with_reducible refine gate_dst (N := 3) rfl ?_); refine al_ st ?_; clear st cl; intro g3 w_ st; have cl := cl_ st) | ((with_reducible refine gate_callee (f := 35) rfl ?_); refine ca_ (some 9) Tryd.func35 _ (laws_eqPlace.calls k aB aC _ _ aD aE _ bM bN _ _ bO bP _ _ _ (gt_ st) (gt_ st) (gt_ st) (gt_ st) (gt_ st) (gt_ st) (gt_ st) (gt_ st) A_9.out) ?_; rintro e w_ ⟨rfl, hb⟩; refine ⟨_, rfl, ?_⟩; replace st := st.ev hb; clear cl hb; have cl := cl_ st) | ((with_reducible refine gate_callee (f := 36) rfl ?_); refine ca_ (some 15) Tryd.func36 _ (laws_eqPlaceS.calls k bg bh _ bQ bR _ _ _ (gt_ st) (gt_ st) (gt_ st) (gt_ st) A_15.out) ?_; rintro e w_ ⟨rfl, hb⟩; refine ⟨_, rfl, ?_⟩; replace st := st.ev hb; clear cl hb; have cl := cl_ st)); (go_ret; exact ⟨tw_, st.b⟩)) : P_ := h_
theorem laws_eqDesk.calls (k : Nat) (aB : Option Addr) (aC : Nat) (ab : List Int) (a0_1 : Int) (aD : Option Addr) (aE : Nat) (ac : List Int) (bg : Option Addr) (bh : Nat) (am : List (S31)) (bM : Option Addr) (bN : Nat) (bd : List Int) (a1_1 : Int) (bO : Option Addr) (bP : Nat) (be : List Int) (bQ : Option Addr) (bR : Nat) (bf : List (S31)) (r : Bool) (w : World) (hr0_0 : Kd.C (Kd.int .i64) w aB ab.length ab) (hc0_0 : ab.length ≤ aC) (hr0_2 : Kd.C (Kd.int .i64) w aD ac.length ac) (hc0_2 : ac.length ≤ aE) (hr0_3 : Kd.C k31 w bg am.length am) (hc0_3 : am.length ≤ bh) (hr1_0 : Kd.C (Kd.int .i64) w bM bd.length bd) (hc1_0 : bd.length ≤ bN) (hr1_2 : Kd.C (Kd.int .i64) w bO be.length be) (hc1_2 : be.length ≤ bP) (hr1_3 : Kd.C k31 w bQ bf.length bf) (hc1_3 : bf.length ≤ bR) (h : laws_eqDesk.f k ab a0_1 ac am bd a1_1 be bf = some r) :
  Calls Tryd.prog 10 #[.agg #[.slice aB ab.length aC, .int .i64 a0_1, .slice aD ac.length aE, .slice bg am.length bh], .agg #[.slice bM bd.length bN, .int .i64 a1_1, .slice bO be.length bP, .slice bQ bf.length bR]] w fun e w' => e = .returned (.bool r) ∧ Below w.heap.size w w' := by
 have hu34 := Tryd.underlying34; have hu31 := Tryd.underlying31; have st := ((((((ST.nil w).c hr0_0 hc0_0).c hr0_2 hc0_2).c hr0_3 hc0_3).c hr1_0 hc1_0).c hr1_2 hc1_2).c hr1_3 hc1_3; have s0 := st; have cl := cl_ st; have H := h; clear h; unfold laws_eqDesk.f at H; go_enter Tryd.func10, Tryd.ntmps10; obtain ⟨bK, A_9, H⟩ := bnd_ H; rcases bx_ bK with rfl | rfl
 ·
  replace H := bt_ H; obtain ⟨bL, A_15, H⟩ := bnd_ H; rcases bx_ bL with rfl | rfl
  ·
   replace H := bt_ H; obtain rfl := Option.some.inj H; exact laws_eqDesk.z0
  ·
   replace H := bf_ H; obtain rfl := Option.some.inj H; exact laws_eqDesk.z0
 ·
  replace H := bf_ H; obtain rfl := Option.some.inj H; exact laws_eqDesk.z0

/-! ### laws_markIntS: function 63 -/
def laws_markIntS.l0 : Nat → List Int → Int → Int → Option (Int × List Int)
 | 0, _, _, _ => none
 | k + 1, x0, x1, x5 => if x5 < (x0.length : Int) then (if 0 ≤ x5 then (laws_markIntS.l0 k (x0.set (x5 : Int).toNat x1) (wrap64 (x1 + 1)) (wrap64 (x5 + 1))) else (none)) else (some (x1, x0))
def laws_markIntS.f (k : Nat) (l0 : List Int) (a1 : Int) : Option (Int × List Int) := laws_markIntS.l0 k l0 a1 0
theorem laws_markIntS.mono_l : ∀ k, (∀ y0 y1 y2, LeO (laws_markIntS.l0 k y0 y1 y2) (laws_markIntS.l0 (k + 1) y0 y1 y2))
 | 0 => fun _ _ _ r h => by simp [laws_markIntS.l0] at h
 | k + 1 => by
  have ih0 := laws_markIntS.mono_l k
  ·
   intro y0 y1 y2
   unfold laws_markIntS.l0
   repeat' (with_reducible first | exact ih0 _ _ _ | exact mr_ | exact mn_ | refine mi_ ?_ ?_ | refine mb_ ?_ (fun _ => ?_))
theorem laws_markIntS.mono : ∀ a0 a1 k, LeO (laws_markIntS.f k a0 a1) (laws_markIntS.f (k + 1) a0 a1) := by
 intro a0 a1 k; have ih0 := laws_markIntS.mono_l k; unfold laws_markIntS.f; repeat' (with_reducible first | exact ih0 _ _ _ | exact mr_ | exact mn_ | refine mi_ ?_ ?_ | refine mb_ ?_ (fun _ => ?_))
theorem laws_markIntS.calls (k : Nat) (P0_ : Nat → Prop) (u9000_ : Value) (l0 : List Int) (a1 : Int) (r1 : Int) (r2 : List Int) (w0 w : World) (hB : Below w0.heap.size w0 w) (ho0 : Kd.R (Kd.int .i64) 3 w w0.heap.size P0_ u9000_ l0) (h : laws_markIntS.f k l0 a1 = some (r1, r2)) :
  Calls Tryd.prog 63 #[u9000_, .int .i64 a1] w fun e w' => e = .returned (.int .i64 r1) ∧ Kd.R (Kd.int .i64) 3 w' w0.heap.size (fun k_ => (P0_ k_ ∨ w.heap.size ≤ k_)) u9000_ r2 ∧ Below w0.heap.size w0 w' ∧ Kept w w' (fun k_ => P0_ k_) := by
 have cE := A_ (show Kd.R (Kd.int .i64) 3 w w0.heap.size (fun k_ => (P0_ k_ ∨ w.heap.size ≤ k_)) u9000_ l0 from Kd.R_mono ho0 (fun k_ hk => (.inl hk))); have HK := A_ (Kept.refl w (fun k_ => P0_ k_)); have HW0 := A_ hB.size; have HB := A_ hB; clear hB; have H : (laws_markIntS.l0 k l0 a1 0) = some (r1, r2) := h; clear h; have H' := A_ H; clear H; go_enter Tryd.func63, Tryd.ntmps63; go_wp2
 go_loopg [1, 5] k (fun kq v1 v5 w' => ∃ (aI : List Int) (ae : Int) (aa : Int), v1 = .int .i64 ae ∧ v5 = .int .i64 aa ∧ Aside0 (laws_markIntS.l0 kq aI ae aa = some (r1, r2)) ∧ Aside0 (kq ≤ k) ∧ Aside0 (Kd.R (Kd.int .i64) 3 w' w0.heap.size (fun k_ => (P0_ k_ ∨ w.heap.size ≤ k_)) u9000_ aI) ∧ Aside0 (Kept w w' (fun k_ => P0_ k_)) ∧ Aside0 (Below w0.heap.size w0 w'))
 case atStart => exact ⟨(l0), (a1), (0), tx_, tx_, H', ⟨Nat.le_refl _⟩, ⟨rR_ cE.out⟩, ⟨by repeat (first | (with_reducible first | exact HK.out | apply Kept.alloc | apply Kept.drewN | apply Kept.drew) | exact HK.out)⟩, ⟨(tb_ HB.out)⟩⟩
 case round =>
  clear H'; obtain ⟨aI, ae, aa, rfl, rfl, HA, HK1, aH, HK, HB⟩ := hrel
  cases gk with
  | zero => exact absurd HA.out (by simp [laws_markIntS.l0])
  | succ k1 =>
   have H := HA.out; clear HA; simp only [laws_markIntS.l0] at H; replace H := it_ H; rcases H with ⟨aq, H⟩ | ⟨aq, H⟩
   ·
    replace H := in_ H; obtain ⟨aR, H⟩ := H; obtain ⟨bS, bs⟩ : ∃ y_ : List Int, y_ = (aI.set (aa : Int).toNat ae) := ⟨_, rfl⟩
    replace H : (laws_markIntS.l0 k1 bS (wrap64 (ae + 1)) (wrap64 (aa + 1))) = some (r1, r2) := yq_ bs H; have b7 := A_ bs; clear bs; have H' := A_ H; clear H; obtain ⟨b4, co6, cm⟩ := Kd.R_slice aH.out; subst cm; have p5 : 0 ≤ (aa : Int) := od_; have q5 : (aa : Int) < ((aI.length : Int) : Int) := od_; obtain ⟨go5, co5, ca, cB, gl5, cl5, HG5⟩ := Kd.R_form aH.out (by omega); (first | cases ca | (injection ca with ea_ en_ ec_; (first | subst ea_ | (injection ea_ with ea_; subst ea_)); subst ec_; clear en_)); have GB5 := A_ cB; have GG5 := A_ HG5; clear cB gl5 HG5; have HMgo5 := A_ (show (P0_ go5 ∨ w.heap.size ≤ go5) from (aH.out.1 _ rfl)); obtain ⟨cC, hf5_0⟩ := Kd.R_celln 0 aH.out (aa : Int) p5 q5; replace p5 := eq_true p5; replace q5 := eq_true q5; have HP7 := Kd.R_putg aH.out (aa : Int) ae; go_wp2_with (first | ((with_reducible refine gate_store (t := 3) (p := 15) rfl ?_); refine store_event (t := 3) (p := 15) (v := ?vo_w8) (w1 := (wr.setCell ⟨go5, (aa : Int).toNat, none⟩ (.int .i64 ae))) ?hg ?ho ?hn ?hr ?_; (case ho => rfl); (case hg => rfl); (case hn => rfl); (case hr => first | (go_simp; done) | (go_simp; rfl)); intro w8 hw; have hg : wr.grownBy w8 (some go5) := (by rw [hw]; exact HP7.2); have hp_ : Kd.R (Kd.int .i64) 3 w8 w0.heap.size (fun k_ => (P0_ k_ ∨ w.heap.size ≤ k_)) (.slice (some ⟨go5, 0, none⟩) aI.length co6) bS := (by rw [hw, b7.out]; exact HP7.1); clear HP7; replace HB := A_ ((by rw [hw]; exact below_set (HB.out) GB5.out : Below w0.heap.size w0 w8)); replace HK := A_ (Kept.of_grown (S := (fun k_ => P0_ k_)) hg (by repeat (first | (with_reducible first | exact HK.out | apply Kept.alloc | apply Kept.drewN | apply Kept.drew) | exact HK.out)) (fun k_ e_ => (aH.out.1 k_ e_))); replace aH := A_ (hp_); clear hg hw hp_))
    go_roundg k1
    case measure => have := HK1.out; omega
    case rel => exact ⟨(bS), (wrap64 (ae + 1)), (wrap64 (aa + 1)), tx_, tx_, H', ⟨by have := HK1.out; omega⟩, ⟨rR_ aH.out⟩, ⟨by repeat (first | (with_reducible first | exact HK.out | apply Kept.alloc | apply Kept.drewN | apply Kept.drew) | exact HK.out)⟩, ⟨(tb_ HB.out)⟩⟩
   ·
    simp only [Option.some.injEq, Prod.mk.injEq] at H; obtain ⟨rfl, rfl⟩ := H; obtain ⟨cG, co9, cF⟩ := Kd.R_slice aH.out; subst cF; go_wp2; go_ret; exact ⟨tw_, by refine qR_ ?_; exact aH.out, (tb_ HB.out), by repeat (first | (with_reducible first | exact HK.out | apply Kept.alloc | apply Kept.drewN | apply Kept.drew) | exact HK.out)⟩

/-! ### laws_markPlace: function 37 -/
def laws_markPlace.f (k : Nat) (ab : List Int) (a0_1 : Int) (ac : List Int) (a1 : Int) : Option (Int × List Int × List Int) := (laws_markIntS.f k ab a1).bind fun aU => ((laws_markIntS.f k ac aU.1).bind fun aV => (some (aV.1, aU.2, aV.2)))
theorem laws_markPlace.mono : ∀ a0 a1 a2 a3 k, LeO (laws_markPlace.f k a0 a1 a2 a3) (laws_markPlace.f (k + 1) a0 a1 a2 a3) := by
 intro a0 a1 a2 a3 k; unfold laws_markPlace.f; repeat' (with_reducible first | exact laws_markIntS.mono _ _ _ | exact mr_ | exact mn_ | refine mi_ ?_ ?_ | refine mb_ ?_ (fun _ => ?_))
theorem laws_markPlace.calls (k : Nat) (P0_0_ : Nat → Prop) (u9000_ : Value) (ab : List Int) (a0_1 : Int) (P0_2_ : Nat → Prop) (u9001_ : Value) (ac : List Int) (a1 : Int) (r1 : Int) (r2 : List Int) (r3 : List Int) (w0 w : World) (hB : Below w0.heap.size w0 w) (ho0_0 : Kd.R (Kd.int .i64) 3 w w0.heap.size P0_0_ u9000_ ab) (hp0_0_0_2 : ∀ k_, P0_0_ k_ → ¬ P0_2_ k_) (ho0_2 : Kd.R (Kd.int .i64) 3 w w0.heap.size P0_2_ u9001_ ac) (hp0_2_0_0 : ∀ k_, P0_2_ k_ → ¬ P0_0_ k_) (h : laws_markPlace.f k ab a0_1 ac a1 = some (r1, r2, r3)) :
  Calls Tryd.prog 37 #[.agg #[u9000_, .int .i64 a0_1, u9001_], .int .i64 a1] w fun e w' => e = .returned (.int .i64 r1) ∧ Kd.R (Kd.int .i64) 3 w' w0.heap.size (fun k_ => ((P0_0_ k_ ∨ P0_2_ k_) ∨ w.heap.size ≤ k_)) u9000_ r2 ∧ Kd.R (Kd.int .i64) 3 w' w0.heap.size (fun k_ => ((P0_0_ k_ ∨ P0_2_ k_) ∨ w.heap.size ≤ k_)) u9001_ r3 ∧ Below w0.heap.size w0 w' ∧ Kept w w' (fun k_ => P0_0_ k_ ∨ P0_2_ k_) := by
 have hu31 := Tryd.underlying31; have HO0_0 := A_ (show Kd.R (Kd.int .i64) 3 w w0.heap.size (fun k_ => ((P0_0_ k_ ∨ P0_2_ k_) ∨ w.heap.size ≤ k_) ∧ some k_ ≠ (u9001_ : Value).ownBlock) u9000_ ab from Kd.R_mono ho0_0 (fun k_ hk => ⟨(.inl (.inl hk)), fun e_ => hp0_0_0_2 k_ hk (ho0_2.1 k_ e_.symm)⟩)); have HO0_2 := A_ (show Kd.R (Kd.int .i64) 3 w w0.heap.size (fun k_ => ((P0_0_ k_ ∨ P0_2_ k_) ∨ w.heap.size ≤ k_) ∧ some k_ ≠ (u9000_ : Value).ownBlock) u9001_ ac from Kd.R_mono ho0_2 (fun k_ hk => ⟨(.inl (.inr hk)), fun e_ => hp0_2_0_0 k_ hk (ho0_0.1 k_ e_.symm)⟩)); have HK := A_ (Kept.refl w (fun k_ => P0_0_ k_ ∨ P0_2_ k_)); have HW0 := A_ hB.size; have HB := A_ hB; clear hB; have H : ((laws_markIntS.f k ab a1).bind fun aU => ((laws_markIntS.f k ac aU.1).bind fun aV => (some (aV.1, aU.2, aV.2)))) = some (r1, r2, r3) := h; clear h; obtain ⟨⟨bU, cn⟩, A3, H⟩ := bnd_ H; (try dsimp only at H); obtain ⟨⟨co, cp⟩, A4, H⟩ := bnd_ H; (try dsimp only at H); simp only [Option.some.injEq, Prod.mk.injEq] at H; obtain ⟨rfl, rfl, rfl⟩ := H; obtain ⟨b8, co5, ca⟩ := Kd.R_slice HO0_0.out; subst ca; obtain ⟨b4, co6, cm⟩ := Kd.R_slice HO0_2.out; subst cm; go_enter Tryd.func37, Tryd.ntmps37; go_wp2_with (first | ((with_reducible refine gate_dst (N := 2) rfl ?_); refine be_ 2 #[.slice b8 ab.length co5, .int .i64 a0_1, .slice b4 ac.length co6] 31 ?_; intro bH hg w7 ag hb; replace HO0_0 := rb_ HO0_0 hb; replace HO0_2 := rb_ HO0_2 hb; have bu := A_ ((by rw [hg]; exact (by first | exact HK.out.1 | exact (show Kept w _ (fun k_ => P0_0_ k_ ∨ P0_2_ k_) from by repeat (first | (with_reducible first | exact HK.out | apply Kept.alloc | apply Kept.drewN | apply Kept.drew) | exact HK.out)).1) : w.heap.size ≤ bH)); replace HK := A_ (Kept.below (S := (fun k_ => P0_0_ k_ ∨ P0_2_ k_)) (by repeat (first | (with_reducible first | exact HK.out | apply Kept.alloc | apply Kept.drewN | apply Kept.drew) | exact HK.out)) hb); have cD := A_ ((by rw [hg]; exact (below_size (tb_ HB.out)) : w0.heap.size ≤ bH)); replace HB := bs_ HB hb; clear hb hg; obtain ⟨cq, cr, ct, cu, cv, cw⟩ := cf3_ ag) | ((with_reducible refine gate_callee (f := 63) rfl ?_); refine gl_ (some 8) Tryd.func63 #[.slice b8 ab.length co5, .int .i64 a1] ?_; (with_reducible refine (laws_markIntS.calls k (fun k_ => some k_ = (.slice b8 ab.length co5 : Value).ownBlock) (.slice b8 ab.length co5) ab a1 bU cn w0 _ ?s1 ?s2 A3.out).mono ?_); (case s1 => exact tb_ HB.out); (case s2 => exact Kd.R_tight rfl HO0_0.out); rintro e w9 ⟨rfl, b9, hb, hkp⟩; refine ⟨_, rfl, ?_⟩; replace HO0_2 := A_ (Kd.R_mono (ok' := fun k_ => ((P0_0_ k_ ∨ P0_2_ k_) ∨ w.heap.size ≤ k_) ∧ some k_ ≠ (.slice b8 ab.length co5 : Value).ownBlock) (Kd.R_keptB (HO0_2.out) hkp (fun k_ hk_ hs_ => (hk_.2) hs_)) (fun k_ hk_ => ⟨hk_.1.1, hk_.1.2⟩)); replace ag := A_ (blk_kept (tk_ ag.out) hkp (fun hs_ => (fun e_ => (Kd.R_ne HO0_0.out ag.out (by decide)) e_) hs_)); replace HK := A_ (Kept.then_ (S := (fun k_ => P0_0_ k_ ∨ P0_2_ k_)) (by repeat (first | (with_reducible first | exact HK.out | apply Kept.alloc | apply Kept.drewN | apply Kept.drew | refine Kept.setCell ?_ (.inr bu.out) _) | exact HK.out)) hkp (fun k_ hs_ => (fun e_ => (HO0_0.out.1 k_ e_.symm).1) hs_)); replace HO0_0 := A_ (Kd.R_reok rfl b9 (fun k_ e_ => HO0_0.out.1 k_ e_)); replace HB := A_ (hb); (try clear hb hkp b9); obtain ⟨cb, cc, cd, ce, cf, cg⟩ := cf3_ ag) | ((with_reducible refine gate_callee (f := 63) rfl ?_); refine gl_ (some 12) Tryd.func63 #[.slice b4 ac.length co6, .int .i64 bU] ?_; (with_reducible refine (laws_markIntS.calls k (fun k_ => some k_ = (.slice b4 ac.length co6 : Value).ownBlock) (.slice b4 ac.length co6) ac bU co cp w0 _ ?s1 ?s2 A4.out).mono ?_); (case s1 => exact tb_ HB.out); (case s2 => exact Kd.R_tight rfl HO0_2.out); rintro e ch ⟨rfl, b9, hb, hkp⟩; refine ⟨_, rfl, ?_⟩; replace HO0_0 := A_ (Kd.R_mono (ok' := fun k_ => ((P0_0_ k_ ∨ P0_2_ k_) ∨ w.heap.size ≤ k_) ∧ some k_ ≠ (.slice b4 ac.length co6 : Value).ownBlock) (Kd.R_keptB (HO0_0.out) hkp (fun k_ hk_ hs_ => (hk_.2) hs_)) (fun k_ hk_ => ⟨hk_.1.1, hk_.1.2⟩)); replace ag := A_ (blk_kept (tk_ ag.out) hkp (fun hs_ => (fun e_ => (Kd.R_ne HO0_2.out ag.out (by decide)) e_) hs_)); replace HK := A_ (Kept.then_ (S := (fun k_ => P0_0_ k_ ∨ P0_2_ k_)) (by repeat (first | (with_reducible first | exact HK.out | apply Kept.alloc | apply Kept.drewN | apply Kept.drew | refine Kept.setCell ?_ (.inr bu.out) _) | exact HK.out)) hkp (fun k_ hs_ => (fun e_ => (HO0_2.out.1 k_ e_.symm).1) hs_)); replace HO0_2 := A_ (Kd.R_reok rfl b9 (fun k_ e_ => HO0_2.out.1 k_ e_)); replace HB := A_ (hb); (try clear hb hkp b9))); go_ret; exact ⟨tw_, by refine qR_ ?_; exact Kd.R_mono HO0_0.out (fun _ hk => hk.1), by refine qR_ ?_; exact Kd.R_mono HO0_2.out (fun _ hk => hk.1), (tb_ HB.out), by repeat (first | (with_reducible first | exact HK.out | apply Kept.alloc | apply Kept.drewN | apply Kept.drew | refine Kept.setCell ?_ (.inr bu.out) _) | exact HK.out)⟩

/-! ### laws_markPlaceS: function 38 -/
theorem k31_some {W : World} {base : Nat} {P : Nat → Prop} {A : Option Addr} {n c : Nat} {xs : List S31} (h : Kd.Sc k31 31 W base P (.slice A n c) xs) (i : Int) (h0 : 0 ≤ i) (h1 : i < (n : Int)) : ∃ ad, A = some ad := by
 obtain ⟨g, _, _, hA, _⟩ := Kd.Sc_lend h z31 i h0 h1; exact ⟨_, hA⟩
theorem k31_lend {W : World} {base : Nat} {P : Nat → Prop} {ad : Addr} {n c : Nat} {xs : List S31} (h : Kd.Sc k31 31 W base P (.slice (some ad) n c) xs) (i : Int) (h0 : 0 ≤ i) (h1 : i < (n : Int)) :
  ∃ v0 v2 : Value, P (ad.add (i.toNat * 3)).block ∧ base ≤ (ad.add (i.toNat * 3)).block ∧ (∀ b, v0.ownBlock = some b → P b) ∧ (∀ b, v2.ownBlock = some b → P b) ∧
   W.cell? (ad.add (i.toNat * 3)) = some v0 ∧ W.cell? ⟨(ad.add (i.toNat * 3)).block, (ad.add (i.toNat * 3)).off + 2, none⟩ = some v2 ∧
   (W.cell? ⟨(ad.add (i.toNat * 3)).block, (ad.add (i.toNat * 3)).off + 1, none⟩ = some (.int .i64 (rd_T31 xs i).f1) ∧ W.frozen? ⟨(ad.add (i.toNat * 3)).block, (ad.add (i.toNat * 3)).off + 1, none⟩ = false) ∧
   (Kd.int .i64).R 3 W base (fun b => some b = v0.ownBlock) v0 (rd_T31 xs i).f0 ∧ (Kd.int .i64).R 3 W base (fun b => some b = v2.ownBlock) v2 (rd_T31 xs i).f2 ∧
   (∀ {W1 : World} {Q : Nat → Prop} {u : List Int}, Kept W W1 (fun b => some b = v0.ownBlock) → (Kd.int .i64).R 3 W1 base Q v0 u → Kd.Sc k31 31 W1 base P (.slice (some ad) n c) (xs.set i.toNat ⟨u, (rd_T31 xs i).f1, (rd_T31 xs i).f2⟩)) ∧
   (∀ m : Int, Kd.Sc k31 31 (W.setCell ⟨(ad.add (i.toNat * 3)).block, (ad.add (i.toNat * 3)).off + 1, none⟩ (.int .i64 m)) base P (.slice (some ad) n c) (xs.set i.toNat ⟨(rd_T31 xs i).f0, m, (rd_T31 xs i).f2⟩)) ∧
   (∀ {W1 : World} {Q : Nat → Prop} {u : List Int}, Kept W W1 (fun b => some b = v2.ownBlock) → (Kd.int .i64).R 3 W1 base Q v2 u → Kd.Sc k31 31 W1 base P (.slice (some ad) n c) (xs.set i.toNat ⟨(rd_T31 xs i).f0, (rd_T31 xs i).f1, u⟩)) := by
 obtain ⟨g, oki, cs, hA, hg, hM, hcc, hfr, hoki, hput, hst⟩ := Kd.Sc_lend (Kd.Sc_bound h) z31 i h0 h1; obtain rfl := Option.some.inj hA; obtain ⟨v0, v2, rfl, g0, g2⟩ := k31_openA hM; have e : (⟨g, 0, none⟩ : Addr).add (i.toNat * 3) = ⟨g, i.toNat * 3, none⟩ := by rw [add_at, Nat.zero_add]
 have ap : ∀ b, v0.ownBlock = some b → v2.ownBlock ≠ some b := fun b hb h2 => (g0.1 b hb).2 h2.symm; have bk : ∀ {w : World} {ys : List S31}, Kd.Sc k31 31 w base (fun k => P k ∧ base ≤ k ∧ k < W.heap.size) (.slice (some ⟨g, 0, none⟩) n c) ys → Kd.Sc k31 31 w base P (.slice (some ⟨g, 0, none⟩) n c) ys := fun h => Kd.Sc_mono h (fun _ hk => hk.1); rw [e]; refine ⟨v0, v2, hg.1, hg.2.1, fun b hb => (hoki b (g0.1 b hb).1).1.1, fun b hb => (hoki b (g2.1 b hb).1).1.1, hcc 0 _ rfl, hcc 2 _ rfl, ⟨hcc 1 _ rfl, hfr 1⟩, Kd.R_mono (Kd.R_ownI g0) (fun _ hk => hk.2), Kd.R_mono (Kd.R_ownI g2) (fun _ hk => hk.2), ?_, ?_, ?_⟩
 ·
  intro W1 Q u hk hr; refine bk (hput (fun k hlt hn => hk.2 k hlt (fun he => hn (g0.1 k he.symm).1)) (k31_mkM _ _ _ ⟨u, (rd_T31 xs i).f1, (rd_T31 xs i).f2⟩ (Kd.R_mono (Kd.R_ownI hr) (fun k hk2 => (g0.1 k hk2.2.symm).1)) (Kd.R_mono (Kd.R_step g2 (fun k hk2 hlt => hk.2 k hlt (fun he => hk2.2 he))) (fun _ hk2 => hk2.1)) ap))
 ·
  intro m; exact bk (hst (j := 1) (u := .int .i64 m) (by decide) (k31_mkM _ _ _ ⟨(rd_T31 xs i).f0, m, (rd_T31 xs i).f2⟩ (Kd.R_mono g0 (fun _ hk => hk.1)) (Kd.R_mono g2 (fun _ hk => hk.1)) ap))
 ·
  intro W1 Q u hk hr; refine bk (hput (fun k hlt hn => hk.2 k hlt (fun he => hn (g2.1 k he.symm).1)) (k31_mkM _ _ _ ⟨(rd_T31 xs i).f0, (rd_T31 xs i).f1, u⟩ (Kd.R_mono (Kd.R_step g0 (fun k hk2 hlt => hk.2 k hlt (fun he => hk2.2 he))) (fun _ hk2 => hk2.1)) (Kd.R_mono (Kd.R_ownI hr) (fun k hk2 => (g2.1 k hk2.2.symm).1)) ap))
def laws_markPlaceS.l0 : Nat → List S31 → Int → Int → Option (Int × List S31)
 | 0, _, _, _ => none
 | k + 1, xs, m, i => if i < (xs.length : Int) then (if 0 ≤ i then ((laws_markIntS.f k (rd_T31 xs i).f0 m).bind fun b => ((laws_markIntS.f k (rd_T31 xs i).f2 (wrap64 (b.1 + 1))).bind fun d => (laws_markPlaceS.l0 k (xs.set i.toNat ⟨b.2, b.1, d.2⟩) d.1 (wrap64 (i + 1))))) else (none)) else (some (m, xs))
def laws_markPlaceS.f (k : Nat) (l0 : List S31) (a1 : Int) : Option (Int × List S31) := laws_markPlaceS.l0 k l0 a1 0
theorem laws_markPlaceS.rd (xs : List S31) (i : Int) (y : S31) (h0 : 0 ≤ i) (h1 : i < (xs.length : Int)) : rd_T31 (xs.set i.toNat y) i = y := by
 unfold rd_T31; rw [List.getD_eq_getElem?_getD, List.getElem?_set_self (by omega)]; rfl
theorem laws_markPlaceS.calls (k : Nat) (P : Nat → Prop) (A : Option Addr) (c : Nat) (l0 : List S31) (a1 r1 : Int) (r2 : List S31) (w0 w : World) (hB : Below w0.heap.size w0 w) (ho : Kd.Sc k31 31 w w0.heap.size P (.slice A l0.length c) l0) (h : laws_markPlaceS.f k l0 a1 = some (r1, r2)) :
  Calls Tryd.prog 38 #[.slice A l0.length c, .int .i64 a1] w fun e w' => e = .returned (.int .i64 r1) ∧ Kd.Sc k31 31 w' w0.heap.size P (.slice A l0.length c) r2 ∧ Below w0.heap.size w0 w' ∧ Kept w w' P := by
 have hu := Tryd.underlying31; have HS := A_ ho; have HB := A_ hB; have HK := A_ (Kept.refl w P); clear ho hB; obtain ⟨n, hn⟩ : ∃ n, l0.length = n := ⟨_, rfl⟩
 have HN := A_ hn; rw [hn] at HS ⊢; have H' := A_ (show laws_markPlaceS.l0 k l0 a1 0 = some (r1, r2) from h); clear h hn; go_enter Tryd.func38, Tryd.ntmps38; go_wp2
 go_loopg [1, 5] k (fun kq v1 v5 w' => ∃ (xs : List S31) (m i : Int), v1 = .int .i64 m ∧ v5 = .int .i64 i ∧ Aside0 (laws_markPlaceS.l0 kq xs m i = some (r1, r2)) ∧ Aside0 (kq ≤ k) ∧ Aside0 (xs.length = n) ∧ Aside0 (Kd.Sc k31 31 w' w0.heap.size P (.slice A n c) xs) ∧ Aside0 (Kept w w' P) ∧ Aside0 (Below w0.heap.size w0 w'))
 case atStart => exact ⟨l0, a1, 0, tx_, tx_, H', ⟨Nat.le_refl _⟩, HN, HS, HK, HB⟩
 case round =>
  clear H' HS HK HB HN; obtain ⟨xs, m, i, rfl, rfl, HA, HK1, HN, HS, HK, HB⟩ := hrel
  cases gk with
  | zero => exact absurd HA.out (by simp [laws_markPlaceS.l0])
  | succ k1 =>
   have H := HA.out; clear HA; simp only [laws_markPlaceS.l0] at H; rw [HN.out] at H; by_cases c3 : i < (n : Int)
   case neg =>
    rw [if_neg c3] at H; have d3 : decide (i < (n : Int)) = false := decide_eq_false c3; clear c3; simp only [Option.some.injEq, Prod.mk.injEq] at H; obtain ⟨rfl, rfl⟩ := H; go_wp2; go_ret; exact ⟨tw_, HS.out, HB.out, HK.out⟩
   rw [if_pos c3] at H; by_cases c4 : 0 ≤ i
   case neg =>
    rw [if_neg c4] at H; cases H
   rw [if_pos c4] at H; obtain ⟨⟨m1, u1⟩, A18, H⟩ := bnd_ H; (try dsimp only at H); obtain ⟨⟨m2, u2⟩, A32, H⟩ := bnd_ H; (try dsimp only at H); have H' := A_ H; clear H; obtain ⟨ad, rfl⟩ := k31_some HS.out i c4 c3; have ci : i < (xs.length : Int) := by rw [HN.out]; exact c3
   have d3 : decide (i < (n : Int)) = true := decide_eq_true c3; have ix_ := ix3_ Tryd.underlying32 (rfl : (some ad : Option Addr) = some ad) (eq_true c4) (eq_true c3) (c := c); obtain ⟨v0, v2, hp, hb0, hp0, hp2, hx0, hx2, _, r0, _, p0, _, _⟩ := k31_lend HS.out i c4 c3; obtain ⟨B0, d0, rfl⟩ := Kd.R_slice r0; have HR := A_ r0; have HP0 := A_ hp0; have HPB := A_ (And.intro hp hb0); have HC4 := A_ c4; have HC3 := A_ c3; have HCI := A_ ci; clear hx2 hp2 r0 hp0 hp hb0 c4 c3 ci
   go_upto_region 5 with (first | ((with_reducible refine gate_callee (f := 63) rfl ?_); refine ca_ (some 18) Tryd.func63 _ (laws_markIntS.calls k1 _ _ _ _ _ _ w0 _ HB.out HR.out A18.out) ?_; rintro e w1 ⟨rfl, hr, hb, hk⟩; refine ⟨_, rfl, ?_⟩; have HS1 := A_ (p0 hk hr); have HK2 := A_ (HK.out.then_ hk (fun b hb2 => .inl (HP0.out b hb2.symm))); have HB2 := A_ hb; clear hr hk hb hx0 p0 HS HK HB HR))
   have e1 := laws_markPlaceS.rd xs i ⟨u1, (rd_T31 xs i).f1, (rd_T31 xs i).f2⟩ HC4.out HCI.out; obtain ⟨v0, v2, hp, hb0, hp0, hp2, hx0, hx2, hx1, r0, r2_, p0, p1, p2⟩ := k31_lend HS1.out i HC4.out HC3.out; rw [e1] at p1; obtain ⟨hx1, hf1⟩ := hx1; clear hx0 hx2 hp0 hp2 r0 r2_ p0 p2 hp hb0
   go_upto_region 6 with (fail)
   have HS2 := A_ (show Kd.Sc k31 31 (w1.setCell ⟨(ad.add (i.toNat * 3)).block, (ad.add (i.toNat * 3)).off + 1, none⟩ (.int .i64 m1)) w0.heap.size P (.slice (some ad) n c) ((xs.set i.toNat ⟨u1, (rd_T31 xs i).f1, (rd_T31 xs i).f2⟩).set i.toNat ⟨u1, m1, (rd_T31 xs i).f2⟩) from p1 m1); have HK3 := A_ (HK2.out.setCell (p := ⟨(ad.add (i.toNat * 3)).block, (ad.add (i.toNat * 3)).off + 1, none⟩) (.inl HPB.out.1) (.int .i64 m1)); have HB3 := A_ (below_set (g := (ad.add (i.toNat * 3)).block) (j := (ad.add (i.toNat * 3)).off + 1) (v := .int .i64 m1) HB2.out HPB.out.2); clear hx1 hf1 p1 HS1 HK2 HB2; generalize w1.setCell ⟨(ad.add (i.toNat * 3)).block, (ad.add (i.toNat * 3)).off + 1, none⟩ (.int .i64 m1) = w8 at HS2 HK3 HB3 ⊢; rw [List.set_set] at HS2; have e2 := laws_markPlaceS.rd xs i ⟨u1, m1, (rd_T31 xs i).f2⟩ HC4.out HCI.out; obtain ⟨v0, v2, hp, hb0, hp0, hp2, hx0, hx2, hx1, r0, r2_, p0, p1, p2⟩ := k31_lend HS2.out i HC4.out HC3.out; rw [e2] at p2 r2_; clear hx0 hx1 hp0 r0 p0 p1 hp hb0 e1 e2; obtain ⟨B2, d2, rfl⟩ := Kd.R_slice r2_; have HR := A_ r2_; have HP2 := A_ hp2; clear r2_ hp2; go_wp2_with (first | ((with_reducible refine gate_callee (f := 63) rfl ?_); refine ca_ (some 32) Tryd.func63 _ (laws_markIntS.calls k1 _ _ _ _ _ _ w0 _ HB3.out HR.out A32.out) ?_; rintro e w9 ⟨rfl, hr, hb, hk⟩; refine ⟨_, rfl, ?_⟩; have HS4 := A_ (p2 hk hr); have HK4 := A_ (HK3.out.then_ hk (fun b hb2 => .inl (HP2.out b hb2.symm))); have HB4 := A_ hb; clear hr hk hb hx2 p2 HS2 HK3 HB3 HR)); rw [List.set_set] at HS4
   go_roundg k1
   case measure => have := HK1.out; omega
   case rel => exact ⟨_, m2, (wrap64 (i + 1)), tx_, tx_, H', ⟨by have := HK1.out; omega⟩, ⟨by rw [List.length_set]; exact HN.out⟩, HS4, HK4, HB4⟩

/-! ### laws_markDesk: function 11 -/
def laws_markDesk.f (k : Nat) (ab : List Int) (a0_1 : Int) (ac : List Int) (am : List S31) (a1 : Int) : Option (Int × List Int × List Int × List S31) := (laws_markPlace.f k ab a0_1 ac a1).bind fun b => ((laws_markPlaceS.f k am b.1).bind fun d => some (d.1, b.2.1, b.2.2, d.2))
theorem laws_markDesk.calls (k : Nat) (B : Nat → Prop) (A0 : Option Addr) (c0 : Nat) (l0 : List Int) (a1 : Int) (A2 : Option Addr) (c2 : Nat) (l2 : List Int) (A3 : Option Addr) (c3 : Nat) (l3 : List S31) (m r1 : Int) (r2 r3 : List Int) (r4 : List S31) (w0 w : World) (hB : Below w0.heap.size w0 w)
  (ho : AD k31 31 3 w0.heap.size (.slice A0 l0.length c0) (.slice A2 l2.length c2) (.slice A3 l3.length c3) l0 l2 l3 w B) (h : laws_markDesk.f k l0 a1 l2 l3 m = some (r1, r2, r3, r4)) :
  Calls Tryd.prog 11 #[.agg #[.slice A0 l0.length c0, .int .i64 a1, .slice A2 l2.length c2, .slice A3 l3.length c3], .int .i64 m] w fun e w' => e = .returned (.int .i64 r1) ∧
   (l0.length = r2.length ∧ l2.length = r3.length ∧ l3.length = r4.length ∧ AD k31 31 3 w0.heap.size (.slice A0 r2.length c0) (.slice A2 r3.length c2) (.slice A3 r4.length c3) r2 r3 r4 w' B) ∧ Below w0.heap.size w0 w' ∧ Kept w w' B := by
 have hu34 := Tryd.underlying34; have hu31 := Tryd.underlying31; obtain ⟨h0, h2, h3⟩ := ho; have l1 := (Kd.R_bound h0).1; have l4 := (Kd.R_bound h2).1; have HO := A_ (And.intro h0 (And.intro h2 h3)); have HL0 := A_ l1; have HL2 := A_ l4; have HB := A_ hB; unfold laws_markDesk.f at h; obtain ⟨⟨m1, u1, u2⟩, A8, H⟩ := bnd_ h; (try dsimp only at H); obtain ⟨⟨m2, u3⟩, A12, H⟩ := bnd_ H; (try dsimp only at H); simp only [Option.some.injEq, Prod.mk.injEq] at H; obtain ⟨rfl, rfl, rfl, rfl⟩ := H; clear h hB h0 h2 h3 l1 l4; go_enter Tryd.func11, Tryd.ntmps11
 go_wp2_with (first
  | ((with_reducible refine gate_dst (N := 2) rfl ?_); refine be_ 2 #[.slice A0 l0.length c0, .int .i64 a1, .slice A2 l2.length c2, .slice A3 l3.length c3] 34 ?_; intro gb hg w7 af hb; have HG := A_ hg; have HBX := af; have HBW := A_ hb; obtain ⟨hc0, hc1, hc2, hc3, hf0, hf1, hf2, hf3⟩ := cf4_ af; clear hg af hb)
  | ((with_reducible refine gate_callee (f := 37) rfl ?_); refine ca_ (some 8) Tryd.func37 _ (laws_markPlace.calls k (fun b => some b = (Value.slice A0 l0.length c0).ownBlock) _ _ _ (fun b => some b = (Value.slice A2 l2.length c2).ownBlock) _ _ _ _ _ _ w0 _ (below_step HB.out HBW.out) (Kd.R_mono (Kd.R_below (Kd.R_ownI HO.out.1) HBW.out) (fun _ hk => hk.2)) (fun b e1 e2 => (HO.out.1.1 b e1.symm).2 e2) (Kd.R_mono (Kd.R_below (Kd.R_ownI HO.out.2.1) HBW.out) (fun _ hk => hk.2)) (fun b e1 e2 => (HO.out.2.1.1 b e1.symm).2 e2) A8.out) ?_; rintro e w9 ⟨rfl, g0, g2, hb, hk⟩; refine ⟨_, rfl, ?_⟩; have HR0 := A_ g0; have HR2 := A_ g2; have HB9 := A_ hb; have HK9 := A_ hk; clear hc0 hc1 hc2 hc3 hf0 hf1 hf2 hf3; obtain ⟨hc0, hc1, hc2, hc3, hf0, hf1, hf2, hf3⟩ := cf4_ (A_ (blk_kept HBX.out hk (fun h => h.elim (fun e_ => Nat.lt_irrefl _ (HG.out ▸ (HL0.out _ e_.symm).2.2.1)) (fun e_ => Nat.lt_irrefl _ (HG.out ▸ (HL2.out _ e_.symm).2.2.1))))); clear g0 g2 hb hk)
  | ((with_reducible refine gate_callee (f := 38) rfl ?_); refine ca_ (some 12) Tryd.func38 _ (laws_markPlaceS.calls k (fun b => B b ∧ some b ≠ (Value.slice A0 l0.length c0).ownBlock ∧ some b ≠ (Value.slice A2 l2.length c2).ownBlock) _ _ _ _ _ _ w0 _ HB9.out (Kd.Sc_step (Kd.Sc_step HO.out.2.2 (fun k _ hlt => HBW.out.block k hlt)) (fun k hk hlt => HK9.out.2 k hlt (fun he => he.elim hk.2.1 hk.2.2))) A12.out) ?_; rintro e ch ⟨rfl, g3, hb, hk⟩; refine ⟨_, rfl, ?_⟩; have HR3 := A_ g3; have HB11 := A_ hb; have HK11 := A_ hk; clear g3 hb hk))
 go_ret; have e0 := (Kd.R_reads' HR0.out).1; have e2 := (Kd.R_reads' HR2.out).1; have e3 := (Kd.Sc_reads' HR3.out).1; have b0 : ∀ b, some b = (Value.slice A0 l0.length c0).ownBlock → B b := fun b h => (HO.out.1.1 b h.symm).1; have b2 : ∀ b, some b = (Value.slice A2 l2.length c2).ownBlock → B b := fun b h => (HO.out.2.1.1 b h.symm).1; have hk : Kept w ch B := ((Kept.of_below HBW.out B).then_ HK9.out (fun b h => .inl (h.elim (b0 b) (b2 b)))).then_ HK11.out (fun b h => .inl h.1); have g0 := Kd.R_step (Kd.R_ownI HR0.out) (w1 := ch) (fun b h hlt => HK11.out.2 b hlt (fun h2 => h2.2.1 h.2)); have g2 := Kd.R_step (Kd.R_ownI HR2.out) (w1 := ch) (fun b h hlt => HK11.out.2 b hlt (fun h2 => h2.2.2 h.2)); refine ⟨tw_, ⟨e0, e2, e3, ?_⟩, HB11.out, hk⟩; rw [← e0, ← e2, ← e3]; exact ⟨Kd.R_mono g0 (fun b h => ⟨b0 b h.2, fun h2 => (HO.out.1.1 b h.2.symm).2 h2⟩), Kd.R_mono g2 (fun b h => ⟨b2 b h.2, fun h2 => (HO.out.2.1.1 b h.2.symm).2 h2⟩), HR3.out⟩

/-! ### laws_heldIntS: function 64 -/
def laws_heldIntS.l0 : Nat → List Int → Int → Int → Option (Int)
 | 0, _, _, _ => none
 | k + 1, x0, x1, x5 => if x5 < (x0.length : Int) then (if 0 ≤ x5 then (if (rd x0 x5) = x1 then (laws_heldIntS.l0 k x0 (wrap64 (x1 + 1)) (wrap64 (x5 + 1))) else (some (-1))) else (none)) else (some x1)
def laws_heldIntS.f (k : Nat) (l0 : List Int) (a1 : Int) : Option (Int) := laws_heldIntS.l0 k l0 a1 0
theorem laws_heldIntS.mono_l : ∀ k, (∀ y0 y1 y2, LeO (laws_heldIntS.l0 k y0 y1 y2) (laws_heldIntS.l0 (k + 1) y0 y1 y2))
 | 0 => fun _ _ _ r h => by simp [laws_heldIntS.l0] at h
 | k + 1 => by
  have ih0 := laws_heldIntS.mono_l k
  ·
   intro y0 y1 y2
   unfold laws_heldIntS.l0
   repeat' (with_reducible first | exact ih0 _ _ _ | exact mr_ | exact mn_ | refine mi_ ?_ ?_ | refine mb_ ?_ (fun _ => ?_))
theorem laws_heldIntS.mono : ∀ a0 a1 k, LeO (laws_heldIntS.f k a0 a1) (laws_heldIntS.f (k + 1) a0 a1) := by
 intro a0 a1 k; have ih0 := laws_heldIntS.mono_l k; unfold laws_heldIntS.f; repeat' (with_reducible first | exact ih0 _ _ _ | exact mr_ | exact mn_ | refine mi_ ?_ ?_ | refine mb_ ?_ (fun _ => ?_))
theorem laws_heldIntS.calls (k : Nat) (A0 : Option Addr) (c0 : Nat) (l0 : List Int) (a1 : Int) (r : Int) (w : World) (hr0 : Kd.C (Kd.int .i64) w A0 l0.length l0) (hc0 : l0.length ≤ c0) (h : laws_heldIntS.f k l0 a1 = some r) :
  Calls Tryd.prog 64 #[.slice A0 l0.length c0, .int .i64 a1] w fun e w' => e = .returned (.int .i64 r) ∧ Drawn0 w w' := by
 have HR0 := A_ hr0; have HC0 := A_ hc0; clear hr0 hc0; have H : (laws_heldIntS.l0 k l0 a1 0) = some r := h; clear h; have H' := A_ H; clear H; go_enter Tryd.func64, Tryd.ntmps64; go_wp2
 go_loopg [1, 5] k (fun kq v1 v5 w' => ∃ (ae : Int) (aa : Int), v1 = .int .i64 ae ∧ v5 = .int .i64 aa ∧ Aside0 (laws_heldIntS.l0 kq l0 ae aa = some r) ∧ Aside0 (kq ≤ k) ∧ Drawn0 w w')
 case atStart => exact ⟨(a1), (0), tx_, tx_, H', ⟨Nat.le_refl _⟩, dz_⟩
 case round =>
  clear H'; obtain ⟨ae, aa, rfl, rfl, HA, HK1, ⟨m1, rfl⟩⟩ := hrel
  cases gk with
  | zero => exact absurd HA.out (by simp [laws_heldIntS.l0])
  | succ k1 =>
   have H := HA.out; clear HA; simp only [laws_heldIntS.l0] at H; replace H := it_ H; rcases H with ⟨aq, H⟩ | ⟨aq, H⟩
   ·
    replace H := in_ H; obtain ⟨aR, H⟩ := H; by_cases c5 : (rd l0 aa) = ae
    ·
     rw [if_pos c5] at H; have bJ : ((rd l0 aa) == ae) = true := beq_iff_eq.mpr c5; have cx : ((rd l0 aa) != ae) = false := bne_eq_false_iff_eq.mpr c5; clear c5; have H' := A_ H; clear H; obtain ⟨p167, q167, ad167, e167, bB⟩ := a2_ (Kd.at_int HR0.out aa); cases e167; go_wp2
     go_roundg k1
     case measure => have := HK1.out; omega
     case rel => exact ⟨(wrap64 (ae + 1)), (wrap64 (aa + 1)), tx_, tx_, H', ⟨by have := HK1.out; omega⟩, dz_⟩
    ·
     rw [if_neg c5] at H; have bJ : ((rd l0 aa) == ae) = false := beq_eq_false_iff_ne.mpr c5; have cx : ((rd l0 aa) != ae) = true := bne_iff_ne.mpr c5; obtain rfl := Option.some.inj H; obtain ⟨p167, q167, ad167, e167, bB⟩ := a2_ (Kd.at_int HR0.out aa); cases e167; go_wp2; go_ret; exact ⟨tx_, dz_⟩
   ·
    obtain rfl := Option.some.inj H; go_wp2; go_ret; exact ⟨tx_, dz_⟩

/-! ### laws_heldPlace: function 39 -/
def laws_heldPlace.f (k : Nat) (ab : List Int) (a0_1 : Int) (ac : List Int) (a1 : Int) : Option (Int) := (laws_heldIntS.f k ab a1).bind fun bo => (if bo < 0 then (some (-1)) else ((laws_heldIntS.f k ac bo).bind fun bp => (if bp < 0 then (some (-1)) else (some bp))))
theorem laws_heldPlace.mono : ∀ a0 a1 a2 a3 k, LeO (laws_heldPlace.f k a0 a1 a2 a3) (laws_heldPlace.f (k + 1) a0 a1 a2 a3) := by
 intro a0 a1 a2 a3 k; unfold laws_heldPlace.f; repeat' (with_reducible first | exact laws_heldIntS.mono _ _ _ | exact mr_ | exact mn_ | refine mi_ ?_ ?_ | refine mb_ ?_ (fun _ => ?_))
theorem laws_heldPlace.z0 {P_ : Prop} (h_ : P_ := by go_wp2_with (first | ((with_reducible refine gate_dst (N := 2) rfl ?_); refine al_ st ?_; clear st cl; intro g2 w_ st; have cl := cl_ st) | ((with_reducible refine gate_callee (f := 64) rfl ?_); refine ca_ (some 8) Tryd.func64 _ (laws_heldIntS.calls k aB aC _ _ _ _ (gt_ st) (gt_ st) A_8.out) ?_; rintro e w_ ⟨rfl, hb⟩; refine ⟨_, rfl, ?_⟩; replace hb := hb.below; replace st := st.ev hb; clear cl hb; have cl := cl_ st) | ((with_reducible refine gate_callee (f := 64) rfl ?_); refine ca_ (some 14) Tryd.func64 _ (laws_heldIntS.calls k aD aE _ _ _ _ (gt_ st) (gt_ st) A_14.out) ?_; rintro e w_ ⟨rfl, hb⟩; refine ⟨_, rfl, ?_⟩; replace hb := hb.below; replace st := st.ev hb; clear cl hb; have cl := cl_ st)); (go_ret; exact ⟨tw_, st.b⟩)) : P_ := h_
theorem laws_heldPlace.calls (k : Nat) (aB : Option Addr) (aC : Nat) (ab : List Int) (a0_1 : Int) (aD : Option Addr) (aE : Nat) (ac : List Int) (a1 : Int) (r : Int) (w : World) (hr0_0 : Kd.C (Kd.int .i64) w aB ab.length ab) (hc0_0 : ab.length ≤ aC) (hr0_2 : Kd.C (Kd.int .i64) w aD ac.length ac) (hc0_2 : ac.length ≤ aE) (h : laws_heldPlace.f k ab a0_1 ac a1 = some r) :
  Calls Tryd.prog 39 #[.agg #[.slice aB ab.length aC, .int .i64 a0_1, .slice aD ac.length aE], .int .i64 a1] w fun e w' => e = .returned (.int .i64 r) ∧ Below w.heap.size w w' := by
 have hu31 := Tryd.underlying31; have st := ((ST.nil w).c hr0_0 hc0_0).c hr0_2 hc0_2; have s0 := st; have cl := cl_ st; have H := h; clear h; unfold laws_heldPlace.f at H; go_enter Tryd.func39, Tryd.ntmps39; obtain ⟨bo, A_8, H⟩ := bnd_ H; replace H := it_ H; rcases H with ⟨aq, H⟩ | ⟨aq, H⟩
 ·
  obtain rfl := Option.some.inj H; exact laws_heldPlace.z0
 ·
  obtain ⟨bp, A_14, H⟩ := bnd_ H; replace H := it_ H; rcases H with ⟨aR, H⟩ | ⟨aR, H⟩
  ·
   obtain rfl := Option.some.inj H; exact laws_heldPlace.z0
  ·
   obtain rfl := Option.some.inj H; exact laws_heldPlace.z0

/-! ### laws_heldPlaceS: function 40 -/
def laws_heldPlaceS.l0 : Nat → List (S31) → Int → Int → Option (Int)
 | 0, _, _, _ => none
 | k + 1, x0, x1, x5 => if x5 < (x0.length : Int) then (if 0 ≤ x5 then ((laws_heldIntS.f k ((rd_T31 x0 x5).f0) x1).bind fun aj => (if aj < 0 then (some (-1)) else (if ((rd_T31 x0 x5).f1) = aj then ((laws_heldIntS.f k ((rd_T31 x0 x5).f2) (wrap64 (aj + 1))).bind fun aJ => (if aJ < 0 then (some (-1)) else (laws_heldPlaceS.l0 k x0 aJ (wrap64 (x5 + 1))))) else (some (-1))))) else (none)) else (some x1)
def laws_heldPlaceS.f (k : Nat) (l0 : List (S31)) (a1 : Int) : Option (Int) := laws_heldPlaceS.l0 k l0 a1 0
theorem laws_heldPlaceS.mono_l : ∀ k, (∀ y0 y1 y2, LeO (laws_heldPlaceS.l0 k y0 y1 y2) (laws_heldPlaceS.l0 (k + 1) y0 y1 y2))
 | 0 => fun _ _ _ r h => by simp [laws_heldPlaceS.l0] at h
 | k + 1 => by
  have ih0 := laws_heldPlaceS.mono_l k
  ·
   intro y0 y1 y2
   unfold laws_heldPlaceS.l0
   repeat' (with_reducible first | exact ih0 _ _ _ | exact laws_heldIntS.mono _ _ _ | exact mr_ | exact mn_ | refine mi_ ?_ ?_ | refine mb_ ?_ (fun _ => ?_))
theorem laws_heldPlaceS.mono : ∀ a0 a1 k, LeO (laws_heldPlaceS.f k a0 a1) (laws_heldPlaceS.f (k + 1) a0 a1) := by
 intro a0 a1 k; have ih0 := laws_heldPlaceS.mono_l k; unfold laws_heldPlaceS.f; repeat' (with_reducible first | exact ih0 _ _ _ | exact laws_heldIntS.mono _ _ _ | exact mr_ | exact mn_ | refine mi_ ?_ ?_ | refine mb_ ?_ (fun _ => ?_))
theorem laws_heldPlaceS.calls (k : Nat) (A0 : Option Addr) (c0 : Nat) (l0 : List (S31)) (a1 : Int) (r : Int) (w : World) (hr0 : Kd.C k31 w A0 l0.length l0) (hc0 : l0.length ≤ c0) (h : laws_heldPlaceS.f k l0 a1 = some r) :
  Calls Tryd.prog 40 #[.slice A0 l0.length c0, .int .i64 a1] w fun e w' => e = .returned (.int .i64 r) ∧ Drawn0 w w' := by
 have HR0 := A_ hr0; have HC0 := A_ hc0; clear hr0 hc0; have H : (laws_heldPlaceS.l0 k l0 a1 0) = some r := h; clear h; have H' := A_ H; clear H; go_enter Tryd.func40, Tryd.ntmps40; go_wp2
 go_loopg [1, 5] k (fun kq v1 v5 w' => ∃ (ae : Int) (aa : Int), v1 = .int .i64 ae ∧ v5 = .int .i64 aa ∧ Aside0 (laws_heldPlaceS.l0 kq l0 ae aa = some r) ∧ Aside0 (kq ≤ k) ∧ Drawn0 w w')
 case atStart => exact ⟨(a1), (0), tx_, tx_, H', ⟨Nat.le_refl _⟩, dz_⟩
 case round =>
  clear H'; obtain ⟨ae, aa, rfl, rfl, HA, HK1, ⟨m1, rfl⟩⟩ := hrel
  cases gk with
  | zero => exact absurd HA.out (by simp [laws_heldPlaceS.l0])
  | succ k1 =>
   have H := HA.out; clear HA; simp only [laws_heldPlaceS.l0] at H; replace H := it_ H; rcases H with ⟨aq, H⟩ | ⟨aq, H⟩
   ·
    replace H := in_ H; obtain ⟨aR, H⟩ := H; obtain ⟨aj, A5, H⟩ := bnd_ H; (try dsimp only at H); replace H := it_ H; rcases H with ⟨b5, H⟩ | ⟨b5, H⟩
    ·
     obtain rfl := Option.some.inj H; have p171 : 0 ≤ (aa : Int) := od_; have q171 : aa < (l0.length : Int) := od_; obtain ⟨ad171, an, ao, aF, aG, e171, ah, aK, ai, hl171_0, hi171_0, hl171_2, hi171_2⟩ := at_T31 HR0.out aa p171 q171; cases e171; have aL := A_ hi171_0; have al := A_ hl171_0; clear hi171_0 hl171_0; have aM := A_ hi171_2; have aN := A_ hl171_2; clear hi171_2 hl171_2; replace p171 := eq_true p171; replace q171 := eq_true q171; go_wp2_with (first | ((with_reducible refine gate_callee (f := 64) rfl ?_); refine gl_ (some 18) Tryd.func64 #[.slice an ((rd_T31 l0 aa).f0).length ao, .int .i64 ae] ?_; (with_reducible refine (laws_heldIntS.calls k1 _ _ ((rd_T31 l0 aa).f0) ae aj _ ?s1 ?s2 A5.out).mono ?_); (case s1 => exact td_); (case s2 => exact al.out); rintro e w' ⟨rfl, ⟨nd, rfl⟩⟩; refine ⟨_, rfl, ?_⟩)); go_ret; exact ⟨tx_, dz_⟩
    ·
     by_cases c7 : ((rd_T31 l0 aa).f1) = aj
     ·
      rw [if_pos c7] at H; have b6 : (((rd_T31 l0 aa).f1) == aj) = true := beq_iff_eq.mpr c7; have cy : (((rd_T31 l0 aa).f1) != aj) = false := bne_eq_false_iff_eq.mpr c7; clear c7; obtain ⟨aJ, A8, H⟩ := bnd_ H; (try dsimp only at H); replace H := it_ H; rcases H with ⟨cz, H⟩ | ⟨cz, H⟩
      ·
       obtain rfl := Option.some.inj H; have p171 : 0 ≤ (aa : Int) := od_; have q171 : aa < (l0.length : Int) := od_; obtain ⟨ad171, an, ao, aF, aG, e171, ah, aK, ai, hl171_0, hi171_0, hl171_2, hi171_2⟩ := at_T31 HR0.out aa p171 q171; cases e171; have aL := A_ hi171_0; have al := A_ hl171_0; clear hi171_0 hl171_0; have aM := A_ hi171_2; have aN := A_ hl171_2; clear hi171_2 hl171_2; replace p171 := eq_true p171; replace q171 := eq_true q171; go_wp2_with (first | ((with_reducible refine gate_callee (f := 64) rfl ?_); refine gl_ (some 18) Tryd.func64 #[.slice an ((rd_T31 l0 aa).f0).length ao, .int .i64 ae] ?_; (with_reducible refine (laws_heldIntS.calls k1 _ _ ((rd_T31 l0 aa).f0) ae aj _ ?s1 ?s2 A5.out).mono ?_); (case s1 => exact td_); (case s2 => exact al.out); rintro e w' ⟨rfl, ⟨nd, rfl⟩⟩; refine ⟨_, rfl, ?_⟩; have p173 : 0 ≤ (aa : Int) := od_; have q173 : aa < (l0.length : Int) := od_; obtain ⟨ad173, bv, bw, bx, bz, e173, ar, bi, au, hl173_0, hi173_0, hl173_2, hi173_2⟩ := at_T31 HR0.out aa p173 q173; obtain rfl : ad171 = ad173 := (by injection e173); have bj := A_ hi173_0; have bl := A_ hl173_0; clear hi173_0 hl173_0; have bm := A_ hi173_2; have bn := A_ hl173_2; clear hi173_2 hl173_2; replace p173 := eq_true p173; replace q173 := eq_true q173; have ea_ := Option.some.inj (ah.symm.trans ar); injection ea_ with ea_ en_ ec_; subst ea_; subst ec_; clear en_; have ea_ := Option.some.inj (ai.symm.trans au); injection ea_ with ea_ en_ ec_; subst ea_; subst ec_; clear en_; have p174 : 0 ≤ (aa : Int) := od_; have q174 : aa < (l0.length : Int) := od_; obtain ⟨ad174, bV, bW, bX, bZ, e174, aO, bC, aP, hl174_0, hi174_0, hl174_2, hi174_2⟩ := at_T31 HR0.out aa p174 q174; obtain rfl : ad171 = ad174 := (by injection e174); have bD := A_ hi174_0; have bE := A_ hl174_0; clear hi174_0 hl174_0; have bF := A_ hi174_2; have aQ := A_ hl174_2; clear hi174_2 hl174_2; replace p174 := eq_true p174; replace q174 := eq_true q174; have ea_ := Option.some.inj (ah.symm.trans aO); injection ea_ with ea_ en_ ec_; subst ea_; subst ec_; clear en_; have ea_ := Option.some.inj (ai.symm.trans aP); injection ea_ with ea_ en_ ec_; subst ea_; subst ec_; clear en_) | ((with_reducible refine gate_callee (f := 64) rfl ?_); refine gl_ (some 36) Tryd.func64 #[.slice aF ((rd_T31 l0 aa).f2).length aG, .int .i64 (wrap64 (aj + 1))] ?_; (with_reducible refine (laws_heldIntS.calls k1 _ _ ((rd_T31 l0 aa).f2) (wrap64 (aj + 1)) aJ _ ?s1 ?s2 A8.out).mono ?_); (case s1 => exact td_); (case s2 => exact aQ.out); rintro e w' ⟨rfl, ⟨nd, rfl⟩⟩; refine ⟨_, rfl, ?_⟩)); go_ret; exact ⟨tx_, dz_⟩
      ·
       have H' := A_ H; clear H; have p171 : 0 ≤ (aa : Int) := od_; have q171 : aa < (l0.length : Int) := od_; obtain ⟨ad171, an, ao, aF, aG, e171, ah, aK, ai, hl171_0, hi171_0, hl171_2, hi171_2⟩ := at_T31 HR0.out aa p171 q171; cases e171; have aL := A_ hi171_0; have al := A_ hl171_0; clear hi171_0 hl171_0; have aM := A_ hi171_2; have aN := A_ hl171_2; clear hi171_2 hl171_2; replace p171 := eq_true p171; replace q171 := eq_true q171; go_wp2_with (first | ((with_reducible refine gate_callee (f := 64) rfl ?_); refine gl_ (some 18) Tryd.func64 #[.slice an ((rd_T31 l0 aa).f0).length ao, .int .i64 ae] ?_; (with_reducible refine (laws_heldIntS.calls k1 _ _ ((rd_T31 l0 aa).f0) ae aj _ ?s1 ?s2 A5.out).mono ?_); (case s1 => exact td_); (case s2 => exact al.out); rintro e w' ⟨rfl, ⟨nd, rfl⟩⟩; refine ⟨_, rfl, ?_⟩; have p173 : 0 ≤ (aa : Int) := od_; have q173 : aa < (l0.length : Int) := od_; obtain ⟨ad173, bv, bw, bx, bz, e173, ar, bi, au, hl173_0, hi173_0, hl173_2, hi173_2⟩ := at_T31 HR0.out aa p173 q173; obtain rfl : ad171 = ad173 := (by injection e173); have bj := A_ hi173_0; have bl := A_ hl173_0; clear hi173_0 hl173_0; have bm := A_ hi173_2; have bn := A_ hl173_2; clear hi173_2 hl173_2; replace p173 := eq_true p173; replace q173 := eq_true q173; have ea_ := Option.some.inj (ah.symm.trans ar); injection ea_ with ea_ en_ ec_; subst ea_; subst ec_; clear en_; have ea_ := Option.some.inj (ai.symm.trans au); injection ea_ with ea_ en_ ec_; subst ea_; subst ec_; clear en_; have p174 : 0 ≤ (aa : Int) := od_; have q174 : aa < (l0.length : Int) := od_; obtain ⟨ad174, bV, bW, bX, bZ, e174, aO, bC, aP, hl174_0, hi174_0, hl174_2, hi174_2⟩ := at_T31 HR0.out aa p174 q174; obtain rfl : ad171 = ad174 := (by injection e174); have bD := A_ hi174_0; have bE := A_ hl174_0; clear hi174_0 hl174_0; have bF := A_ hi174_2; have aQ := A_ hl174_2; clear hi174_2 hl174_2; replace p174 := eq_true p174; replace q174 := eq_true q174; have ea_ := Option.some.inj (ah.symm.trans aO); injection ea_ with ea_ en_ ec_; subst ea_; subst ec_; clear en_; have ea_ := Option.some.inj (ai.symm.trans aP); injection ea_ with ea_ en_ ec_; subst ea_; subst ec_; clear en_) | ((with_reducible refine gate_callee (f := 64) rfl ?_); refine gl_ (some 36) Tryd.func64 #[.slice aF ((rd_T31 l0 aa).f2).length aG, .int .i64 (wrap64 (aj + 1))] ?_; (with_reducible refine (laws_heldIntS.calls k1 _ _ ((rd_T31 l0 aa).f2) (wrap64 (aj + 1)) aJ _ ?s1 ?s2 A8.out).mono ?_); (case s1 => exact td_); (case s2 => exact aQ.out); rintro e w' ⟨rfl, ⟨nd, rfl⟩⟩; refine ⟨_, rfl, ?_⟩))
       go_roundg k1
       case measure => have := HK1.out; omega
       case rel => exact ⟨(aJ), (wrap64 (aa + 1)), tx_, tx_, H', ⟨by have := HK1.out; omega⟩, dz_⟩
     ·
      rw [if_neg c7] at H; have b6 : (((rd_T31 l0 aa).f1) == aj) = false := beq_eq_false_iff_ne.mpr c7; have cy : (((rd_T31 l0 aa).f1) != aj) = true := bne_iff_ne.mpr c7; obtain rfl := Option.some.inj H; have p171 : 0 ≤ (aa : Int) := od_; have q171 : aa < (l0.length : Int) := od_; obtain ⟨ad171, an, ao, aF, aG, e171, ah, aK, ai, hl171_0, hi171_0, hl171_2, hi171_2⟩ := at_T31 HR0.out aa p171 q171; cases e171; have aL := A_ hi171_0; have al := A_ hl171_0; clear hi171_0 hl171_0; have aM := A_ hi171_2; have aN := A_ hl171_2; clear hi171_2 hl171_2; replace p171 := eq_true p171; replace q171 := eq_true q171; go_wp2_with (first | ((with_reducible refine gate_callee (f := 64) rfl ?_); refine gl_ (some 18) Tryd.func64 #[.slice an ((rd_T31 l0 aa).f0).length ao, .int .i64 ae] ?_; (with_reducible refine (laws_heldIntS.calls k1 _ _ ((rd_T31 l0 aa).f0) ae aj _ ?s1 ?s2 A5.out).mono ?_); (case s1 => exact td_); (case s2 => exact al.out); rintro e w' ⟨rfl, ⟨nd, rfl⟩⟩; refine ⟨_, rfl, ?_⟩; have p173 : 0 ≤ (aa : Int) := od_; have q173 : aa < (l0.length : Int) := od_; obtain ⟨ad173, bv, bw, bx, bz, e173, ar, bi, au, hl173_0, hi173_0, hl173_2, hi173_2⟩ := at_T31 HR0.out aa p173 q173; obtain rfl : ad171 = ad173 := (by injection e173); have bj := A_ hi173_0; have bl := A_ hl173_0; clear hi173_0 hl173_0; have bm := A_ hi173_2; have bn := A_ hl173_2; clear hi173_2 hl173_2; replace p173 := eq_true p173; replace q173 := eq_true q173; have ea_ := Option.some.inj (ah.symm.trans ar); injection ea_ with ea_ en_ ec_; subst ea_; subst ec_; clear en_; have ea_ := Option.some.inj (ai.symm.trans au); injection ea_ with ea_ en_ ec_; subst ea_; subst ec_; clear en_)); go_ret; exact ⟨tx_, dz_⟩
   ·
    obtain rfl := Option.some.inj H; go_wp2; go_ret; exact ⟨tx_, dz_⟩

/-! ### laws_heldDesk: function 12 -/
def laws_heldDesk.f (k : Nat) (ab : List Int) (a0_1 : Int) (ac : List Int) (am : List (S31)) (a1 : Int) : Option (Int) := (laws_heldPlace.f k ab a0_1 ac a1).bind fun bq => (if bq < 0 then (some (-1)) else ((laws_heldPlaceS.f k am bq).bind fun br => (if br < 0 then (some (-1)) else (some br))))
theorem laws_heldDesk.mono : ∀ a0 a1 a2 a3 a4 k, LeO (laws_heldDesk.f k a0 a1 a2 a3 a4) (laws_heldDesk.f (k + 1) a0 a1 a2 a3 a4) := by
 intro a0 a1 a2 a3 a4 k; unfold laws_heldDesk.f; repeat' (with_reducible first | exact laws_heldPlace.mono _ _ _ _ _ | exact laws_heldPlaceS.mono _ _ _ | exact mr_ | exact mn_ | refine mi_ ?_ ?_ | refine mb_ ?_ (fun _ => ?_))
theorem laws_heldDesk.z0 {P_ : Prop} (h_ : P_ := by go_wp2_with (first | ((with_reducible refine gate_dst (N := 2) rfl ?_); refine al_ st ?_; clear st cl; intro g2 w_ st; have cl := cl_ st) | ((with_reducible refine gate_callee (f := 39) rfl ?_); refine ca_ (some 8) Tryd.func39 _ (laws_heldPlace.calls k aB aC _ _ aD aE _ _ _ _ (gt_ st) (gt_ st) (gt_ st) (gt_ st) A_8.out) ?_; rintro e w_ ⟨rfl, hb⟩; refine ⟨_, rfl, ?_⟩; replace st := st.ev hb; clear cl hb; have cl := cl_ st) | ((with_reducible refine gate_callee (f := 40) rfl ?_); refine ca_ (some 14) Tryd.func40 _ (laws_heldPlaceS.calls k bg bh _ _ _ _ (gt_ st) (gt_ st) A_14.out) ?_; rintro e w_ ⟨rfl, hb⟩; refine ⟨_, rfl, ?_⟩; replace hb := hb.below; replace st := st.ev hb; clear cl hb; have cl := cl_ st)); (go_ret; exact ⟨tw_, st.b⟩)) : P_ := h_
theorem laws_heldDesk.calls (k : Nat) (aB : Option Addr) (aC : Nat) (ab : List Int) (a0_1 : Int) (aD : Option Addr) (aE : Nat) (ac : List Int) (bg : Option Addr) (bh : Nat) (am : List (S31)) (a1 : Int) (r : Int) (w : World) (hr0_0 : Kd.C (Kd.int .i64) w aB ab.length ab) (hc0_0 : ab.length ≤ aC) (hr0_2 : Kd.C (Kd.int .i64) w aD ac.length ac) (hc0_2 : ac.length ≤ aE) (hr0_3 : Kd.C k31 w bg am.length am) (hc0_3 : am.length ≤ bh) (h : laws_heldDesk.f k ab a0_1 ac am a1 = some r) :
  Calls Tryd.prog 12 #[.agg #[.slice aB ab.length aC, .int .i64 a0_1, .slice aD ac.length aE, .slice bg am.length bh], .int .i64 a1] w fun e w' => e = .returned (.int .i64 r) ∧ Below w.heap.size w w' := by
 have hu34 := Tryd.underlying34; have hu31 := Tryd.underlying31; have st := (((ST.nil w).c hr0_0 hc0_0).c hr0_2 hc0_2).c hr0_3 hc0_3; have s0 := st; have cl := cl_ st; have H := h; clear h; unfold laws_heldDesk.f at H; go_enter Tryd.func12, Tryd.ntmps12; obtain ⟨bq, A_8, H⟩ := bnd_ H; replace H := it_ H; rcases H with ⟨aq, H⟩ | ⟨aq, H⟩
 ·
  obtain rfl := Option.some.inj H; exact laws_heldDesk.z0
 ·
  obtain ⟨br, A_14, H⟩ := bnd_ H; replace H := it_ H; rcases H with ⟨aR, H⟩ | ⟨aR, H⟩
  ·
   obtain rfl := Option.some.inj H; exact laws_heldDesk.z0
  ·
   obtain rfl := Option.some.inj H; exact laws_heldDesk.z0

/-! ### laws_szDeedS: function 13 -/
def laws_szDeedS.f (l0 : List (S29)) (a1 : Int) : Option (Int) := if (wrap64 (a1 - (l0.length : Int))) < 0 then (some (-1)) else (some (wrap64 (a1 - (l0.length : Int))))
theorem laws_szDeedS.calls (A0 : Option Addr) (c0 : Nat) (l0 : List (S29)) (a1 : Int) (r : Int) (w : World) (hr0 : Kd.C k29 w A0 l0.length l0) (hc0 : l0.length ≤ c0) (h : laws_szDeedS.f l0 a1 = some r) :
  Calls Tryd.prog 13 #[.slice A0 l0.length c0, .int .i64 a1] w fun e w' => e = .returned (.int .i64 r) ∧ Drawn0 w w' := by
 have HR0 := A_ hr0; have HC0 := A_ hc0; clear hr0 hc0; have H : (if (wrap64 (a1 - (l0.length : Int))) < 0 then (some (-1)) else (some (wrap64 (a1 - (l0.length : Int))))) = some r := h; clear h; replace H := it_ H; rcases H with ⟨aq, H⟩ | ⟨aq, H⟩
 ·
  obtain rfl := Option.some.inj H; go_enter Tryd.func13, Tryd.ntmps13; go_wp2; go_ret; exact ⟨tx_, dz_⟩
 ·
  obtain rfl := Option.some.inj H; go_enter Tryd.func13, Tryd.ntmps13; go_wp2; go_ret; exact ⟨tx_, dz_⟩

/-! ### spec_l1In: function 48 -/
def spec_l1In.f (a0 : Int) (a1 : Int) (a2 : Int) : Option (Bool) := if a0 ≥ a1 then (some (decide (a0 ≤ a2))) else (some false)
theorem spec_l1In.calls (a0 : Int) (a1 : Int) (a2 : Int) (r : Bool) (w : World) (h : spec_l1In.f a0 a1 a2 = some r) :
  Calls Tryd.prog 48 #[.int .i64 a0, .int .i64 a1, .int .i64 a2] w fun e w' => e = .returned (.bool r) ∧ Drawn0 w w' := by
 have H : (if a0 ≥ a1 then (some (decide (a0 ≤ a2))) else (some false)) = some r := h; clear h; replace H := ih_ H; rcases H with ⟨aR, H⟩ | ⟨aR, H⟩
 ·
  obtain rfl := Option.some.inj H; go_enter Tryd.func48, Tryd.ntmps48; go_wp2; go_ret; exact ⟨tx_, dz_⟩
 ·
  obtain rfl := Option.some.inj H; go_enter Tryd.func48, Tryd.ntmps48; go_wp2; go_ret; exact ⟨tx_, dz_⟩

/-! ### spec_UrnOk: function 65 -/
def spec_UrnOk.l0 : Nat → List Int → Int → Option (Bool)
 | 0, _, _ => none
 | k + 1, x0, x3 => if x3 < (x0.length : Int) then (if 0 ≤ x3 then ((spec_l1In.f (rd x0 x3) 0 40).bind fun b1 => (if b1 = true then (spec_UrnOk.l0 k x0 (wrap64 (x3 + 1))) else (some false))) else (none)) else ((spec_l1In.f (x0.length : Int) 1 3).bind fun b3 => (some b3))
def spec_UrnOk.f (k : Nat) (l0 : List Int) : Option (Bool) := spec_UrnOk.l0 k l0 0
theorem spec_UrnOk.mono_l : ∀ k, (∀ y0 y1, LeO (spec_UrnOk.l0 k y0 y1) (spec_UrnOk.l0 (k + 1) y0 y1))
 | 0 => fun _ _ r h => by simp [spec_UrnOk.l0] at h
 | k + 1 => by
  have ih0 := spec_UrnOk.mono_l k
  ·
   intro y0 y1
   unfold spec_UrnOk.l0
   repeat' (with_reducible first | exact ih0 _ _ | exact mr_ | exact mn_ | refine mi_ ?_ ?_ | refine mb_ ?_ (fun _ => ?_))
theorem spec_UrnOk.mono : ∀ a0 k, LeO (spec_UrnOk.f k a0) (spec_UrnOk.f (k + 1) a0) := by
 intro a0 k; have ih0 := spec_UrnOk.mono_l k; unfold spec_UrnOk.f; repeat' (with_reducible first | exact ih0 _ _ | exact mr_ | exact mn_ | refine mi_ ?_ ?_ | refine mb_ ?_ (fun _ => ?_))
theorem spec_UrnOk.calls (k : Nat) (A0 : Option Addr) (c0 : Nat) (l0 : List Int) (r : Bool) (w : World) (hr0 : Kd.C (Kd.int .i64) w A0 l0.length l0) (hc0 : l0.length ≤ c0) (h : spec_UrnOk.f k l0 = some r) :
  Calls Tryd.prog 65 #[.slice A0 l0.length c0] w fun e w' => e = .returned (.bool r) ∧ Drawn0 w w' := by
 have HR0 := A_ hr0; have HC0 := A_ hc0; clear hr0 hc0; have H : (spec_UrnOk.l0 k l0 0) = some r := h; clear h; have H' := A_ H; clear H; go_enter Tryd.func65, Tryd.ntmps65; go_wp2
 go_loopg [3] k (fun kq v3 w' => ∃ (ak : Int), v3 = .int .i64 ak ∧ Aside0 (spec_UrnOk.l0 kq l0 ak = some r) ∧ Aside0 (kq ≤ k) ∧ Drawn0 w w')
 case atStart => exact ⟨(0), tx_, H', ⟨Nat.le_refl _⟩, dz_⟩
 case round =>
  clear H'; obtain ⟨ak, rfl, HA, HK1, ⟨m1, rfl⟩⟩ := hrel
  cases gk with
  | zero => exact absurd HA.out (by simp [spec_UrnOk.l0])
  | succ k1 =>
   have H := HA.out; clear HA; simp only [spec_UrnOk.l0] at H; replace H := it_ H; rcases H with ⟨cA, H⟩ | ⟨cA, H⟩
   ·
    replace H := in_ H; obtain ⟨aq, H⟩ := H; obtain ⟨b1, A4, H⟩ := bnd_ H; (try dsimp only at H); by_cases c5 : b1 = true
    ·
     subst c5; replace H : (spec_UrnOk.l0 k1 l0 (wrap64 (ak + 1))) = some r := by rw [if_pos rfl] at H; exact H
     have H' := A_ H; clear H; obtain ⟨p179, q179, ad179, e179, bG⟩ := a2_ (Kd.at_int HR0.out ak); cases e179; go_wp2_with (first | ((with_reducible refine gate_callee (f := 48) rfl ?_); refine gl_ (some 14) Tryd.func48 #[.int .i64 (rd l0 ak), .int .i64 0, .int .i64 40] ?_; (with_reducible refine (spec_l1In.calls (rd l0 ak) 0 40 true _ A4.out).mono ?_); rintro e w' ⟨rfl, ⟨nd, rfl⟩⟩; refine ⟨_, rfl, ?_⟩))
     go_roundg k1
     case measure => have := HK1.out; omega
     case rel => exact ⟨(wrap64 (ak + 1)), tx_, H', ⟨by have := HK1.out; omega⟩, dz_⟩
    ·
     replace c5 := Bool.eq_false_iff.mpr c5; subst c5; replace H : (some false) = some r := by rw [if_neg (show ¬ (false = true) by decide)] at H; exact H
     obtain rfl := Option.some.inj H; obtain ⟨p179, q179, ad179, e179, bG⟩ := a2_ (Kd.at_int HR0.out ak); cases e179; go_wp2_with (first | ((with_reducible refine gate_callee (f := 48) rfl ?_); refine gl_ (some 14) Tryd.func48 #[.int .i64 (rd l0 ak), .int .i64 0, .int .i64 40] ?_; (with_reducible refine (spec_l1In.calls (rd l0 ak) 0 40 false _ A4.out).mono ?_); rintro e w' ⟨rfl, ⟨nd, rfl⟩⟩; refine ⟨_, rfl, ?_⟩)); go_ret; exact ⟨tx_, dz_⟩
   ·
    obtain ⟨b3, A6, H⟩ := bnd_ H; (try dsimp only at H); obtain rfl := Option.some.inj H; go_wp2_with (first | ((with_reducible refine gate_callee (f := 48) rfl ?_); refine gl_ (some 18) Tryd.func48 #[.int .i64 (l0.length : Int), .int .i64 1, .int .i64 3] ?_; (with_reducible refine (spec_l1In.calls (l0.length : Int) 1 3 b3 _ A6.out).mono ?_); rintro e w' ⟨rfl, ⟨nd, rfl⟩⟩; refine ⟨_, rfl, ?_⟩)); go_ret; exact ⟨tx_, dz_⟩

end Go.Proofs.YtmodbemkflkbeaaDoor.MFnExactDeskRun
