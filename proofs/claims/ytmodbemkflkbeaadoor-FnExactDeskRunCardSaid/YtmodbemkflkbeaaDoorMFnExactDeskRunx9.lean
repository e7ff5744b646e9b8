/- For the law FnExactDeskRun: walks of the functions that it reaches: each call returns what the plain function beside it tells. The conditions stand in each statement. -/
import Derived.Test.YtmodbemkflkbeaaDoorV
import Derived.Test.YtmodbemkflkbeaaDoorMFnExactDeskRunx0
import Derived.Test.YtmodbemkflkbeaaDoorMFnExactDeskRunx5
import Derived.Test.YtmodbemkflkbeaaDoorMFnExactDeskRunx6
import Derived.Test.YtmodbemkflkbeaaDoorMFnExactDeskRunx8
namespace Go.Proofs.YtmodbemkflkbeaaDoor.MFnExactDeskRun
open Go.RowKit Go.Proofs.YtmodbemkflkbeaaDoorW.PrintWords Go.Proofs.YtmodbemkflkbeaaDoorW.PrintLast Go.Proofs.YtmodbemkflkbeaaDoorW.PrintMore
attribute [local go_sem] max2_int min2_int max_two min_two max_three min_three max_four min_four   -- for this text's walks alone
set_option linter.unusedVariables false
set_option linter.unusedSimpArgs false
set_option maxHeartbeats 8000000
set_option maxRecDepth 100000

/-! ### spec_l15Run: function 41 -/
def spec_l15Run.l0 : Nat → List (S38) → Int → Int → List Int → Int → List Int → List (S31) → Option (List Int × Int × List Int × (List (S31)) × Int)
 | 0, _, _, _, _, _, _, _ => none
 | k + 1, x1, x7, x8, aE, aF, aG, aH => if x8 < (x1.length : Int) then (if 0 ≤ x8 then ((spec_DeskDo.f k aE aF aG aH ((rd_T38 x1 x8).f0) ((rd_T38 x1 x8).f1) ((rd_T38 x1 x8).f2)).bind fun aM => (if aM.2.2.2.2 = true then (spec_l15Run.l0 k x1 (wrap64 (x7 + 1)) (wrap64 (x8 + 1)) aM.1 aM.2.1 aM.2.2.1 aM.2.2.2.1) else (spec_l15Run.l0 k x1 x7 (wrap64 (x8 + 1)) aE aF aG aH))) else (none)) else (some (aE, aF, aG, aH, x7))
def spec_l15Run.f (k : Nat) (ap : List Int) (a0_1 : Int) (aq : List Int) (ar : List (S31)) (l1 : List (S38)) : Option (List Int × Int × List Int × (List (S31)) × Int) := (spec_l15Copy.f k ap a0_1 aq ar).bind fun aQ => (spec_l15Run.l0 k l1 0 0 aQ.1 aQ.2.1 aQ.2.2.1 aQ.2.2.2)
theorem spec_l15Run.mono_l : ∀ k, (∀ y0 y1 y2 y3 y4 y5 y6, LeO (spec_l15Run.l0 k y0 y1 y2 y3 y4 y5 y6) (spec_l15Run.l0 (k + 1) y0 y1 y2 y3 y4 y5 y6))
 | 0 => fun _ _ _ _ _ _ _ r h => by simp [spec_l15Run.l0] at h
 | k + 1 => by
  have ih0 := spec_l15Run.mono_l k
  ·
   intro y0 y1 y2 y3 y4 y5 y6
   unfold spec_l15Run.l0
   repeat' (with_reducible first | exact ih0 _ _ _ _ _ _ _ | exact spec_DeskDo.mono _ _ _ _ _ _ _ _ | exact spec_l15Copy.mono _ _ _ _ _ | exact mr_ | exact mn_ | refine mi_ ?_ ?_ | refine mb_ ?_ (fun _ => ?_))
theorem spec_l15Run.mono : ∀ a0 a1 a2 a3 a4 k, LeO (spec_l15Run.f k a0 a1 a2 a3 a4) (spec_l15Run.f (k + 1) a0 a1 a2 a3 a4) := by
 intro a0 a1 a2 a3 a4 k; have ih0 := spec_l15Run.mono_l k; unfold spec_l15Run.f; repeat' (with_reducible first | exact ih0 _ _ _ _ _ _ _ | exact spec_DeskDo.mono _ _ _ _ _ _ _ _ | exact spec_l15Copy.mono _ _ _ _ _ | exact mr_ | exact mn_ | refine mi_ ?_ ?_ | refine mb_ ?_ (fun _ => ?_))
def spec_l15Run.T6 : Bool × List (List Nat × List Nat) := (true, [([], []), ([], []), ([], []), ([1, 2], [1, 2]), ([3], [3]), ([0, 4], [0, 4]), ([5], [5]), ([6], [6]), ([6], [6]), ([], []), ([9, 7, 5, 0, 1, 2, 3, 4, 5, 6, 7, 9], [7, 9]), ([8, 10, 0, 1, 2, 3, 4, 5, 6, 7, 8, 9, 10], [8])])
def spec_l15Run.B6 : List Nat := [0, 0, 0, 6, 14, 31, 63, 127, 127, 0, 767, 2047]
theorem spec_l15Run.tab6 : rtab .any (opsOf Tryd.f41 6) = spec_l15Run.T6 := by kernel_rfl
theorem spec_l15Run.bits6 : waitsOk spec_l15Run.T6.2 spec_l15Run.B6 = true := by kernel_rfl
theorem spec_l15Run.n0 {P_ : Prop} (h_ : P_ := by refine lv_ 10 (fun K hK => ?_); refine sp4_ st ?_; clear st cl; intro w_ st; have cl := cl_ st; refine hK.out _ _ ?_; clear hK K; refine pv_ 11 ?_; refine done_ (done_of HT_.out (by kernel_rfl)) ?_; clear ix391; (try go_wp2_with (first | ((with_reducible refine gate_store (p := 6) rfl ?_); refine so4_ st ?_; clear st cl; intro w_ st; have cl := cl_ st) | ((with_reducible refine gate_store (p := 4) rfl ?_); refine so4_ st ?_; clear st cl; intro w_ st; have cl := cl_ st))); (first | (go_roundg k1; (case measure => have := HK1.out; omega); (case rel => exact ⟨(wrap64 (aa + 1)), (wrap64 (av + 1)), (bq), (br), (bs), (bu), B25_0, d25_0, B25_2, d25_2, B25_3, d25_3, tx_, tx_, H', ⟨by have := HK1.out; omega⟩, st.en⟩)) | (go_roundg k1; (case measure => have := HK1.out; omega); (case rel => exact ⟨(aa), (wrap64 (av + 1)), (ae), (ao), (af), (ag), ah, ai, aj, ak, al, am, tx_, tx_, H', ⟨by have := HK1.out; omega⟩, st.en⟩)) | (refine bodyPost_ret (rct_ st Tryd.underlying34) rfl ?_; exact ⟨.slice ah ae.length ai, .slice aj af.length ak, .slice al ag.length am, tw_, gt_ st, gt_ st, gt_ st, st.b⟩))) : P_ := h_
theorem spec_l15Run.z0 {P_ : Prop} (h_ : P_ := by (try go_wp2_with (first | ((with_reducible refine gate_store (p := 6) rfl ?_); refine so4_ st ?_; clear st cl; intro w_ st; have cl := cl_ st) | ((with_reducible refine gate_store (p := 4) rfl ?_); refine so4_ st ?_; clear st cl; intro w_ st; have cl := cl_ st))); (first | ((try clear ix_); obtain ⟨p_, q_, ad_, e_, a6, a7, a8⟩ := a2_ (at_T38 (gC_ s0 k38 A1 l1) av); have ix391 := ix3_ Tryd.underlying47 e_ p_ q_ (c := c1); clear e_; refine rg_ st [10] ?_; clear st cl; intro w_ st hs; have cl := cl_ st; refine with_tabW spec_l15Run.tab6 spec_l15Run.bits6 (fun HT_ HW_ => ?_); refine pv_ 1 ?_; refine pv_ 2 ?_; refine pv_ 3 ?_; refine tu_ 0 ?_ (hy := by intro w' s_; have cl := cl_ s_; have y391_0 := cb_ s_ a6; have y391_1 := cb_ s_ a7; have y391_2 := cb_ s_ a8; go_simp; first | with_reducible rfl | (rw [if_neg (by omega)]; done)); refine tu_ 4 ?_ (hy := by intro w' s_; have cl := cl_ s_; have y391_0 := cb_ s_ a6; have y391_1 := cb_ s_ a7; have y391_2 := cb_ s_ a8; go_simp; first | with_reducible rfl | (rw [if_neg (by omega)]; done)); refine wv_ 5 9 (fun K hK => ?_) (fun K hK => ?_); refine ca2_ (some 25) Tryd.func6 _ (spec_DeskDo.calls k1 ah ai _ _ aj ak _ al am _ _ _ _ _ _ _ _ _ _ (gt_ st) (gt_ st) (gt_ st) (gt_ st) (gt_ st) (gt_ st) A_25.out) ?_; rintro e w_ ⟨v0, v1, v2, rfl, h0, h1, h2, hb⟩; refine ⟨_, rfl, ?_⟩; obtain ⟨B25_0, d25_0, rfl⟩ := Kd.R_slice h0; obtain ⟨B25_2, d25_2, rfl⟩ := Kd.R_slice h1; obtain ⟨B25_3, d25_3, rfl, _⟩ := Kd.Q_slice h2; replace st := st.p3 hb (st.mr h0) (st.mr h1) (st.mq h2); clear cl hb h0 h1 h2; have cl := cl_ st; refine hK.out _ _ st.en (fun hs => ?_); clear hK K; refine nr_ 25 ?_; refine pv_ 6 ?_; refine pv_ 7 ?_; refine pv_ 8 ?_; refine ov_ 9 (fun K hK => ?_); refine al2_ st ?_; clear st cl; intro g9 w_ st; have cl := cl_ st; refine hK.out _ _ st.en (fun hs => ?_); clear hK K; refine nr_ 9 ?_; exact spec_l15Run.n0; refine al2_ st ?_; clear st cl; intro g9 w_ st; have cl := cl_ st; refine hK.out _ _ st.en (fun hs => ?_); clear hK K; refine nr_ 9 ?_; refine ov_ 5 (fun K hK => ?_); refine ca2_ (some 25) Tryd.func6 _ (spec_DeskDo.calls k1 ah ai _ _ aj ak _ al am _ _ _ _ _ _ _ _ _ _ (gt_ st) (gt_ st) (gt_ st) (gt_ st) (gt_ st) (gt_ st) A_25.out) ?_; rintro e w_ ⟨v0, v1, v2, rfl, h0, h1, h2, hb⟩; refine ⟨_, rfl, ?_⟩; obtain ⟨B25_0, d25_0, rfl⟩ := Kd.R_slice h0; obtain ⟨B25_2, d25_2, rfl⟩ := Kd.R_slice h1; obtain ⟨B25_3, d25_3, rfl, _⟩ := Kd.Q_slice h2; replace st := st.p3 hb (st.mr h0) (st.mr h1) (st.mq h2); clear cl hb h0 h1 h2; have cl := cl_ st; refine hK.out _ _ st.en (fun hs => ?_); clear hK K; refine nr_ 25 ?_; refine pv_ 6 ?_; refine pv_ 7 ?_; refine pv_ 8 ?_; exact spec_l15Run.n0) | (go_roundg k1; (case measure => have := HK1.out; omega); (case rel => exact ⟨(wrap64 (aa + 1)), (wrap64 (av + 1)), (bq), (br), (bs), (bu), B25_0, d25_0, B25_2, d25_2, B25_3, d25_3, tx_, tx_, H', ⟨by have := HK1.out; omega⟩, st.en⟩)) | (go_roundg k1; (case measure => have := HK1.out; omega); (case rel => exact ⟨(aa), (wrap64 (av + 1)), (ae), (ao), (af), (ag), ah, ai, aj, ak, al, am, tx_, tx_, H', ⟨by have := HK1.out; omega⟩, st.en⟩)) | (refine bodyPost_ret (rct_ st Tryd.underlying34) rfl ?_; exact ⟨.slice ah ae.length ai, .slice aj af.length ak, .slice al ag.length am, tw_, gt_ st, gt_ st, gt_ st, st.b⟩))) : P_ := h_
theorem spec_l15Run.calls (k : Nat) (ax : Option Addr) (ay : Nat) (ap : List Int) (a0_1 : Int) (az : Option Addr) (aA : Nat) (aq : List Int) (aB : Option Addr) (aC : Nat) (ar : List (S31)) (A1 : Option Addr) (c1 : Nat) (l1 : List (S38)) (r1 : List Int) (r2 : Int) (r3 : List Int) (r4 : List (S31)) (r5 : Int) (w : World) (hr0_0 : Kd.C (Kd.int .i64) w ax ap.length ap) (hc0_0 : ap.length ≤ ay) (hr0_2 : Kd.C (Kd.int .i64) w az aq.length aq) (hc0_2 : aq.length ≤ aA) (hr0_3 : Kd.C k31 w aB ar.length ar) (hc0_3 : ar.length ≤ aC) (hr1 : Kd.C k38 w A1 l1.length l1) (hc1 : l1.length ≤ c1) (h : spec_l15Run.f k ap a0_1 aq ar l1 = some (r1, r2, r3, r4, r5)) :
  Calls Tryd.prog 41 #[.agg #[.slice ax ap.length ay, .int .i64 a0_1, .slice az aq.length aA, .slice aB ar.length aC], .slice A1 l1.length c1] w fun e w' => ∃ v0_ v2_ v3_ : Value, e = .returned (.tuple #[.agg #[v0_, .int .i64 r2, v2_, v3_], .int .i64 r5]) ∧ Kd.R (Kd.int .i64) 3 w' w.heap.size (fun _ => True) v0_ r1 ∧ Kd.R (Kd.int .i64) 3 w' w.heap.size (fun _ => True) v2_ r3 ∧ Kd.Q k31 31 w' w.heap.size (fun _ => True) v3_ r4 ∧ Below w.heap.size w w' := by
 have hu34 := Tryd.underlying34; have hu38 := Tryd.underlying38; have st := ((((ST.nil w).c hr0_0 hc0_0).c hr0_2 hc0_2).c hr0_3 hc0_3).c hr1 hc1; have s0 := st; have cl := cl_ st; have H := h; clear h; unfold spec_l15Run.f at H; go_enter Tryd.func41, Tryd.ntmps41; obtain ⟨⟨bD, bE, bF, bG⟩, A_12, H⟩ := bnd_ H; (try dsimp only at H); have H' := A_ H; clear H; go_wp2_with (first | ((with_reducible refine gate_dst (N := 2) rfl ?_); refine al_ st ?_; clear st cl; intro g2 w_ st; have cl := cl_ st) | ((with_reducible refine gate_dst (N := 4) rfl ?_); refine al_ st ?_; clear st cl; intro g4 w_ st; have cl := cl_ st) | ((with_reducible refine gate_callee (f := 22) rfl ?_); refine ca_ (some 12) Tryd.func22 _ (spec_l15Copy.calls k ax ay _ _ az aA _ aB aC _ _ _ _ _ _ (gt_ st) (gt_ st) (gt_ st) (gt_ st) (gt_ st) (gt_ st) A_12.out) ?_; rintro e w_ ⟨v0, v1, v2, rfl, h0, h1, h2, hb⟩; refine ⟨_, rfl, ?_⟩; obtain ⟨B12_0, d12_0, rfl⟩ := Kd.R_slice h0; obtain ⟨B12_2, d12_2, rfl⟩ := Kd.R_slice h1; obtain ⟨B12_3, d12_3, rfl⟩ := Kd.S_slice h2; replace st := st.p3 hb (st.mr h0) (st.mr h1) (st.ms h2); clear cl hb h0 h1 h2; have cl := cl_ st) | ((with_reducible refine gate_dst (N := 6) rfl ?_); refine al_ st ?_; clear st cl; intro g6 w_ st; have cl := cl_ st) | ((with_reducible refine gate_store (p := 6) rfl ?_); refine so4_ st ?_; clear st cl; intro w_ st; have cl := cl_ st))
 go_loopg [7, 8] k (fun kq v7 v8 w' => ∃ (aa : Int) (av : Int) (ae : List Int) (ao : Int) (af : List Int) (ag : List (S31)) (ah : Option Addr) (ai : Nat) (aj : Option Addr) (ak : Nat) (al : Option Addr) (am : Nat), v7 = .int .i64 aa ∧ v8 = .int .i64 av ∧ Aside0 (spec_l15Run.l0 kq l1 aa av ae ao af ag = some (r1, r2, r3, r4, r5)) ∧ Aside0 (kq ≤ k) ∧ ST w [CA (Kd.int .i64) w ax ap ay, CA (Kd.int .i64) w az aq aA, CA k31 w aB ar aC, CA k38 w A1 l1 c1, AR (Kd.int .i64) 3 w.heap.size (.slice ah ae.length ai) ae, AR (Kd.int .i64) 3 w.heap.size (.slice aj af.length ak) af, AQ k31 31 w.heap.size (.slice al ag.length am) ag] [Bx g2 #[.slice ax ap.length ay, .int .i64 a0_1, .slice az aq.length aA, .slice aB ar.length aC] 34, Bx g4 #[.slice none 0 0, .int .i64 0, .slice none 0 0, .slice none 0 0] 34, Bx g6 #[.slice ah ae.length ai, .int .i64 ao, .slice aj af.length ak, .slice al ag.length am] 34] w')
 case atStart => exact ⟨(0), (0), (bD), (bE), (bF), (bG), B12_0, d12_0, B12_2, d12_2, B12_3, d12_3, tx_, tx_, H', ⟨Nat.le_refl _⟩, st.en⟩
 case round =>
  clear H' st cl; obtain ⟨aa, av, ae, ao, af, ag, ah, ai, aj, ak, al, am, rfl, rfl, HA, HK1, st⟩ := hrel; have cl := cl_ st
  cases gk with
  | zero => exact absurd HA.out (by simp [spec_l15Run.l0])
  | succ k1 =>
   have H := HA.out; clear HA; simp only [spec_l15Run.l0] at H; replace H := it_ H; rcases H with ⟨aV, H⟩ | ⟨aV, H⟩
   ·
    replace H := in_ H; obtain ⟨aW, H⟩ := H; obtain ⟨⟨bq, br, bs, bu, bH⟩, A_25, H⟩ := bnd_ H; (try dsimp only at H); rcases bx_ bH with rfl | rfl
    ·
     replace H := bt_ H; have H' := A_ H; clear H; exact spec_l15Run.z0
    ·
     replace H := bf_ H; have H' := A_ H; clear H; exact spec_l15Run.z0
   ·
    simp only [Option.some.injEq, Prod.mk.injEq] at H; obtain ⟨rfl, rfl, rfl, rfl, rfl⟩ := H; exact spec_l15Run.z0

/-! ### spec_DeskRun: function 14 -/
def spec_DeskRun.f (k : Nat) (ap : List Int) (a0_1 : Int) (aq : List Int) (ar : List (S31)) (l1 : List (S38)) : Option (List Int × Int × List Int × (List (S31)) × Int) := (spec_DeskOk.f k ap a0_1 aq ar).bind fun bg => (if bg = true then (if (l1.length : Int) > 40 then (some (([] : List Int), 0, ([] : List Int), ([] : List (S31)), 0)) else ((spec_l15Run.f k ap a0_1 aq ar l1).bind fun aN => (some (aN.1, aN.2.1, aN.2.2.1, aN.2.2.2.1, aN.2.2.2.2)))) else (some (([] : List Int), 0, ([] : List Int), ([] : List (S31)), 0)))
theorem spec_DeskRun.mono : ∀ a0 a1 a2 a3 a4 k, LeO (spec_DeskRun.f k a0 a1 a2 a3 a4) (spec_DeskRun.f (k + 1) a0 a1 a2 a3 a4) := by
 intro a0 a1 a2 a3 a4 k; unfold spec_DeskRun.f; repeat' (with_reducible first | exact spec_DeskOk.mono _ _ _ _ _ | exact spec_l15Run.mono _ _ _ _ _ _ | exact mr_ | exact mn_ | refine mi_ ?_ ?_ | refine mb_ ?_ (fun _ => ?_))
theorem spec_DeskRun.z0 {P_ : Prop} (h_ : P_ := by go_wp2_with (first | ((with_reducible refine gate_dst (N := 2) rfl ?_); refine al_ st ?_; clear st cl; intro g2 w_ st; have cl := cl_ st) | ((with_reducible refine gate_dst (N := 4) rfl ?_); refine al_ st ?_; clear st cl; intro g4 w_ st; have cl := cl_ st) | ((with_reducible refine gate_callee (f := 21) rfl ?_); refine ca_ (some 7) Tryd.func21 _ (spec_DeskOk.calls k ax ay _ _ az aA _ aB aC _ _ _ (gt_ st) (gt_ st) (gt_ st) (gt_ st) (gt_ st) (gt_ st) A_7.out) ?_; rintro e w_ ⟨rfl, hb⟩; refine ⟨_, rfl, ?_⟩; replace st := st.ev hb; clear cl hb; have cl := cl_ st) | ((with_reducible refine gate_store (p := 4) rfl ?_); refine so4_ st ?_; clear st cl; intro w_ st; have cl := cl_ st) | ((with_reducible refine gate_callee (f := 41) rfl ?_); refine ca_ (some 17) Tryd.func41 _ (spec_l15Run.calls k ax ay _ _ az aA _ aB aC _ A1 c1 _ _ _ _ _ _ _ (gt_ st) (gt_ st) (gt_ st) (gt_ st) (gt_ st) (gt_ st) (gt_ st) (gt_ st) A_17.out) ?_; rintro e w_ ⟨v0, v1, v2, rfl, h0, h1, h2, hb⟩; refine ⟨_, rfl, ?_⟩; obtain ⟨B17_0, d17_0, rfl⟩ := Kd.R_slice h0; obtain ⟨B17_2, d17_2, rfl⟩ := Kd.R_slice h1; obtain ⟨B17_3, d17_3, rfl, _⟩ := Kd.Q_slice h2; replace st := st.p3 hb (st.mr h0) (st.mr h1) (st.mq h2); clear cl hb h0 h1 h2; have cl := cl_ st)); first | (refine bodyPost_ret (rct_ st Tryd.underlying34) rfl ?_; exact ⟨.slice none 0 0, .slice none 0 0, .slice none 0 0, tw_, kn_, kn_, kn_, st.b⟩) | (refine bodyPost_ret (rct_ st Tryd.underlying34) rfl ?_; exact ⟨.slice B17_0 bI.length d17_0, .slice B17_2 bJ.length d17_2, .slice B17_3 bK.length d17_3, tw_, gt_ st, gt_ st, gt_ st, st.b⟩)) : P_ := h_
theorem spec_DeskRun.calls (k : Nat) (ax : Option Addr) (ay : Nat) (ap : List Int) (a0_1 : Int) (az : Option Addr) (aA : Nat) (aq : List Int) (aB : Option Addr) (aC : Nat) (ar : List (S31)) (A1 : Option Addr) (c1 : Nat) (l1 : List (S38)) (r1 : List Int) (r2 : Int) (r3 : List Int) (r4 : List (S31)) (r5 : Int) (w : World) (hr0_0 : Kd.C (Kd.int .i64) w ax ap.length ap) (hc0_0 : ap.length ≤ ay) (hr0_2 : Kd.C (Kd.int .i64) w az aq.length aq) (hc0_2 : aq.length ≤ aA) (hr0_3 : Kd.C k31 w aB ar.length ar) (hc0_3 : ar.length ≤ aC) (hr1 : Kd.C k38 w A1 l1.length l1) (hc1 : l1.length ≤ c1) (h : spec_DeskRun.f k ap a0_1 aq ar l1 = some (r1, r2, r3, r4, r5)) :
  Calls Tryd.prog 14 #[.agg #[.slice ax ap.length ay, .int .i64 a0_1, .slice az aq.length aA, .slice aB ar.length aC], .slice A1 l1.length c1] w fun e w' => ∃ v0_ v2_ v3_ : Value, e = .returned (.tuple #[.agg #[v0_, .int .i64 r2, v2_, v3_], .int .i64 r5]) ∧ Kd.R (Kd.int .i64) 3 w' w.heap.size (fun _ => True) v0_ r1 ∧ Kd.R (Kd.int .i64) 3 w' w.heap.size (fun _ => True) v2_ r3 ∧ Kd.Q k31 31 w' w.heap.size (fun _ => True) v3_ r4 ∧ Below w.heap.size w w' := by
 have hu34 := Tryd.underlying34; have st := ((((ST.nil w).c hr0_0 hc0_0).c hr0_2 hc0_2).c hr0_3 hc0_3).c hr1 hc1; have s0 := st; have cl := cl_ st; have H := h; clear h; unfold spec_DeskRun.f at H; go_enter Tryd.func14, Tryd.ntmps14; obtain ⟨bg, A_7, H⟩ := bnd_ H; rcases bx_ bg with rfl | rfl
 ·
  replace H := bt_ H; by_cases c3 : (l1.length : Int) > 40
  ·
   rw [if_pos c3] at H; have aO : decide (40 < (l1.length : Int)) = true := decide_eq_true c3; have bh : decide (40 < l1.length) = true := decide_eq_true (by omega); clear c3; simp only [Option.some.injEq, Prod.mk.injEq] at H; obtain ⟨rfl, rfl, rfl, rfl, rfl⟩ := H; exact spec_DeskRun.z0
  ·
   rw [if_neg c3] at H; have aO : decide (40 < (l1.length : Int)) = false := decide_eq_false c3; have bh : decide (40 < l1.length) = false := decide_eq_false (by omega); clear c3; obtain ⟨⟨bI, bR, bJ, bK, bS⟩, A_17, H⟩ := bnd_ H; (try dsimp only at H); simp only [Option.some.injEq, Prod.mk.injEq] at H; obtain ⟨rfl, rfl, rfl, rfl, rfl⟩ := H; exact spec_DeskRun.z0
 ·
  replace H := bf_ H; simp only [Option.some.injEq, Prod.mk.injEq] at H; obtain ⟨rfl, rfl, rfl, rfl, rfl⟩ := H; exact spec_DeskRun.z0

/-! ### laws_toDeed: function 8 -/
def laws_toDeed.f (a0_0 : Int) (a0_1 : Int) (a0_2 : Int) : Option (Int × Int × Int) := some (a0_0, a0_1, a0_2)
theorem laws_toDeed.calls (a0_0 : Int) (a0_1 : Int) (a0_2 : Int) (r1 : Int) (r2 : Int) (r3 : Int) (w : World) (h : laws_toDeed.f a0_0 a0_1 a0_2 = some (r1, r2, r3)) :
  Calls Tryd.prog 8 #[.agg #[.int .i64 a0_0, .int .i64 a0_1, .int .i64 a0_2]] w fun e w' => e = .returned (.agg #[.int .i64 r1, .int .i64 r2, .int .i64 r3]) ∧ Below w.heap.size w w' := by
 have hu29 := Tryd.underlying29; have hu38 := Tryd.underlying38; have st := ST.nil w; have s0 := st; have cl := cl_ st; have H := h; clear h; unfold laws_toDeed.f at H; go_enter Tryd.func8, Tryd.ntmps8; simp only [Option.some.injEq, Prod.mk.injEq] at H; obtain ⟨rfl, rfl, rfl⟩ := H; go_wp2_with (first | ((with_reducible refine gate_dst (N := 1) rfl ?_); refine al_ st ?_; clear st cl; intro g1 w_ st; have cl := cl_ st) | ((with_reducible refine gate_dst (N := 2) rfl ?_); refine al_ st ?_; clear st cl; intro g2 w_ st; have cl := cl_ st) | ((with_reducible refine gate_dst (N := 3) rfl ?_); refine al_ st ?_; clear st cl; intro g3 w_ st; have cl := cl_ st) | ((with_reducible refine gate_store (p := 6) rfl ?_); refine so1_ st ?_; clear st cl; intro w_ st; have cl := cl_ st) | ((with_reducible refine gate_store (p := 9) rfl ?_); refine so1_ st ?_; clear st cl; intro w_ st; have cl := cl_ st) | ((with_reducible refine gate_store (p := 12) rfl ?_); refine so1_ st ?_; clear st cl; intro w_ st; have cl := cl_ st) | ((with_reducible refine gate_store (p := 2) rfl ?_); refine so3_ st ?_; clear st cl; intro w_ st; have cl := cl_ st)); refine bodyPost_ret (rcc_ st Tryd.underlying38) rfl ?_; exact ⟨tw_, st.b⟩

/-! ### laws_toDeedS: function 15 -/
def laws_toDeedS.l0 : Nat → List (S29) → List (S38) → Int → Option ((List (S38)))
 | 0, _, _, _ => none
 | k + 1, x0, x3, x4 => if x4 < (x0.length : Int) then (if 0 ≤ x4 then ((laws_toDeed.f ((rd_T29 x0 x4).f0) ((rd_T29 x0 x4).f1) ((rd_T29 x0 x4).f2)).bind fun a9 => (if x4 < (x3.length : Int) then (laws_toDeedS.l0 k x0 (x3.set (x4 : Int).toNat (⟨a9.1, a9.2.1, a9.2.2⟩ : S38)) (wrap64 (x4 + 1))) else (none))) else (none)) else (some x3)
def laws_toDeedS.f (k : Nat) (l0 : List (S29)) : Option ((List (S38))) := if 0 ≤ (l0.length : Int) then (if ((l0.length : Int) : Int).toNat ≤ 11728124029610 then (laws_toDeedS.l0 k l0 (List.replicate ((l0.length : Int) : Int).toNat z38) 0) else (none)) else (none)
theorem laws_toDeedS.mono_l : ∀ k, (∀ y0 y1 y2, LeO (laws_toDeedS.l0 k y0 y1 y2) (laws_toDeedS.l0 (k + 1) y0 y1 y2))
 | 0 => fun _ _ _ r h => by simp [laws_toDeedS.l0] at h
 | k + 1 => by
  have ih0 := laws_toDeedS.mono_l k
  ·
   intro y0 y1 y2
   unfold laws_toDeedS.l0
   repeat' (with_reducible first | exact ih0 _ _ _ | exact mr_ | exact mn_ | refine mi_ ?_ ?_ | refine mb_ ?_ (fun _ => ?_))
theorem laws_toDeedS.mono : ∀ a0 k, LeO (laws_toDeedS.f k a0) (laws_toDeedS.f (k + 1) a0) := by
 intro a0 k; have ih0 := laws_toDeedS.mono_l k; unfold laws_toDeedS.f; repeat' (with_reducible first | exact ih0 _ _ _ | exact mr_ | exact mn_ | refine mi_ ?_ ?_ | refine mb_ ?_ (fun _ => ?_))
theorem laws_toDeedS.calls (k : Nat) (A0 : Option Addr) (c0 : Nat) (l0 : List (S29)) (r : List (S38)) (w : World) (hr0 : Kd.C k29 w A0 l0.length l0) (hc0 : l0.length ≤ c0) (h : laws_toDeedS.f k l0 = some r) :
  Calls Tryd.prog 15 #[.slice A0 l0.length c0] w fun e w' => ∃ v0_ : Value, e = .returned (v0_) ∧ Kd.R k38 38 w' w.heap.size (fun _ => True) v0_ r ∧ Below w.heap.size w w' := by
 have hu29 := Tryd.underlying29; have hu38 := Tryd.underlying38; have HR0 := A_ hr0; have HC0 := A_ hc0; clear hr0 hc0; have HB := A_ (Below.refl w.heap.size w); have H : (if 0 ≤ (l0.length : Int) then (if ((l0.length : Int) : Int).toNat ≤ 11728124029610 then (laws_toDeedS.l0 k l0 (List.replicate ((l0.length : Int) : Int).toNat z38) 0) else (none)) else (none)) = some r := h; clear h; replace H := i0_ H; obtain ⟨c2, H⟩ := H; have aP := eq_true c2; have bL : decide (0 ≤ (l0.length : Int)) = true := decide_eq_true c2; clear c2; replace H := i0_ H; obtain ⟨c3, H⟩ := H; have aO := eq_true c3; have bh : decide (((l0.length : Int) : Int).toNat ≤ 11728124029610) = true := decide_eq_true c3; clear c3; obtain ⟨bv, bb⟩ : ∃ y_ : List (S38), y_ = (List.replicate ((l0.length : Int) : Int).toNat z38) := ⟨_, rfl⟩
 replace H : (laws_toDeedS.l0 k l0 bv 0) = some r := yq_ bb H; have bf := A_ bb; clear bb; have H' := A_ H; clear H; go_enter Tryd.func15, Tryd.ntmps15; go_wp2_with (first | ((with_reducible refine gate_dst (N := 7) rfl ?_); refine Kd.R_make k38 _ 38 rfl (N := 7) rfl 47 _ _ rfl (l0.length : Int) rfl rfl Tryd.underlying47 (.agg #[(.int .i64 0), (.int .i64 0), (.int .i64 0)]) 24 info38 rfl (by decide) (by omega) z38 (ok := fun _ => True) (okp := fun _ => True) (k38_mkM _ _ _ z38 ) (fun _ hk => hk) trivial (od_) (Nat.le_trans (Nat.mul_le_mul_right _ (od_ : (l0.length : Int).toNat ≤ 11728124029610)) (by omega)) (Below.refl _ _) (Nat.le_refl _) ?_; intro bM w4 ho5 hb hg_ hnew_; clear hg_ hnew_; (first | rw [← bf.out] at ho5 | (simp only [Int.reduceToNat] at ho5; rw [← bf.out] at ho5)); have bw := rx_ ho5 HB; replace HB := bs_ HB hb; clear hb ho5))
 go_loopg [4] k (fun kq v4 w' => ∃ (au : List (S38)) (ab : Int), v4 = .int .i64 ab ∧ Aside0 (laws_toDeedS.l0 kq l0 au ab = some r) ∧ Aside0 (kq ≤ k) ∧ Aside0 (Kd.R k38 38 w' w.heap.size (fun _ => True) bM au) ∧ Aside0 (Below w.heap.size w w'))
 case atStart => exact ⟨(bv), (0), tx_, H', ⟨Nat.le_refl _⟩, ⟨rR_ bw.out⟩, ⟨(tb_ HB.out)⟩⟩
 case round =>
  clear H'; (try clear c2); (try clear aP); (try clear bL); (try clear c3); (try clear aO); (try clear bh); obtain ⟨au, ab, rfl, HA, HK1, aD, HB⟩ := hrel
  cases gk with
  | zero => exact absurd HA.out (by simp [laws_toDeedS.l0])
  | succ k1 =>
   have H := HA.out; clear HA; simp only [laws_toDeedS.l0] at H; replace H := it_ H; rcases H with ⟨aX, H⟩ | ⟨aX, H⟩
   ·
    replace H := in_ H; obtain ⟨bi, H⟩ := H; obtain ⟨⟨aY, aZ, a5⟩, A8, H⟩ := bnd_ H; (try dsimp only at H); replace H := in_ H; obtain ⟨bU, H⟩ := H; obtain ⟨bj, bc⟩ : ∃ y_ : List (S38), y_ = (au.set (ab : Int).toNat (⟨aY, aZ, a5⟩ : S38)) := ⟨_, rfl⟩
    replace H : (laws_toDeedS.l0 k1 l0 bj (wrap64 (ab + 1))) = some r := yq_ bc H; have bx := A_ bc; clear bc; have H' := A_ H; clear H; obtain ⟨p424, q424, ad424, e424, aI, aJ, aK⟩ := a2_ (at_T29 HR0.out ab); cases e424; replace aI := (HB.out.cell (World.block_lt_of_cell? w _ aI)).trans aI; replace aJ := (HB.out.cell (World.block_lt_of_cell? w _ aJ)).trans aJ; replace aK := (HB.out.cell (World.block_lt_of_cell? w _ aK)).trans aK; go_wp2_with (first | ((with_reducible refine gate_callee (f := 8) rfl ?_); refine gl_ (some 20) Tryd.func8 #[.agg #[.int .i64 ((rd_T29 l0 ab).f0), .int .i64 ((rd_T29 l0 ab).f1), .int .i64 ((rd_T29 l0 ab).f2)]] ?_; (with_reducible refine (laws_toDeed.calls ((rd_T29 l0 ab).f0) ((rd_T29 l0 ab).f1) ((rd_T29 l0 ab).f2) aY aZ a5 _ A8.out).mono ?_); rintro e bd ⟨rfl, hb⟩; refine ⟨_, rfl, ?_⟩; replace aD := rb_ aD hb; replace HB := bs_ HB hb; (try clear hb); have p10 : 0 ≤ (ab : Int) := od_; have q10 : (ab : Int) < ((au.length : Int) : Int) := od_; obtain ⟨go10, bz, bB, bC, gl10, cl10, HG10⟩ := Kd.R_form aD.out (by omega); (first | cases bB | (injection bB with ea_ en_ ec_; (first | subst ea_ | (injection ea_ with ea_; subst ea_)); subst ec_; clear en_)); have GB10 := A_ bC; have GG10 := A_ HG10; clear bC gl10 HG10; obtain ⟨ce10, hcl10, hM10, hcc10, hfr10⟩ := Kd.R_elem aD.out z38 (ab : Int) p10 q10; obtain rfl := k38_openM hM10; have bN : bd.cell? ⟨go10, (ab : Int).toNat * 3, none⟩ = some (.int .i64 ((rd_T38 au ab).f0)) := hcc10 0 _ rfl; have bO : bd.cell? ⟨go10, (ab : Int).toNat * 3 + 1, none⟩ = some (.int .i64 ((rd_T38 au ab).f1)) := hcc10 1 _ rfl; have bP : bd.cell? ⟨go10, (ab : Int).toNat * 3 + 2, none⟩ = some (.int .i64 ((rd_T38 au ab).f2)) := hcc10 2 _ rfl; have hf10_0 : bd.frozen? ⟨go10, (ab : Int).toNat * 3, none⟩ = false := hfr10 0; have hf10_1 : bd.frozen? ⟨go10, (ab : Int).toNat * 3 + 1, none⟩ = false := hfr10 1; have hf10_2 : bd.frozen? ⟨go10, (ab : Int).toNat * 3 + 2, none⟩ = false := hfr10 2; clear hcl10 hcc10 hfr10 hM10; replace p10 := eq_true p10; replace q10 := eq_true q10; have HX12 := A_ (show Kd.R k38 38 bd w.heap.size (fun _ => True) (.slice (some ⟨go10, 0, none⟩) au.length bz) au from (rR_ aD.out)); obtain ⟨ce12, hcl12, hM12, hcc12, hfr12⟩ := Kd.R_elem HX12.out z38 (ab : Int) (od_) (by have h_ : (ab : Int) < ((au.length : Int) : Int) := od_; first | exact h_ | (have e_ := (Kd.R_reads' aD.out).1; omega) | simpa using h_); obtain rfl := k38_openM hM12; have HP12 := Kd.R_seg HX12.out (ab : Int) (od_) (by have h_ : (ab : Int) < ((au.length : Int) : Int) := od_; first | exact h_ | (have e_ := (Kd.R_reads' aD.out).1; omega) | simpa using h_) (seg := [.int .i64 aY, .int .i64 aZ, .int .i64 a5]) (j := 0) hcl12 hcc12 (show 3 ≤ 3 from by decide) (x' := (⟨aY, aZ, a5⟩ : S38)) (k38_mkM _ _ _ (⟨aY, aZ, a5⟩ : S38) ) (fun _ hk => hk); have bk := hcc12 0 _ rfl; (try simp only [show (k38).sz = 3 from rfl, Nat.mul_one, Nat.add_zero] at bk); have hf12_0 := hfr12 0; (try simp only [show (k38).sz = 3 from rfl, Nat.mul_one, Nat.add_zero] at hf12_0); have bl := hcc12 1 _ rfl; (try simp only [show (k38).sz = 3 from rfl, Nat.mul_one, Nat.add_zero] at bl); have hf12_1 := hfr12 1; (try simp only [show (k38).sz = 3 from rfl, Nat.mul_one, Nat.add_zero] at hf12_1); have bm := hcc12 2 _ rfl; (try simp only [show (k38).sz = 3 from rfl, Nat.mul_one, Nat.add_zero] at bm); have hf12_2 := hfr12 2; (try simp only [show (k38).sz = 3 from rfl, Nat.mul_one, Nat.add_zero] at hf12_2); clear hcl12 hcc12 hfr12 hM12) | ((with_reducible refine gate_store (t := 38) (p := 21) rfl ?_); refine store_event (t := 38) (p := 21) (v := ?vo_w13) (w1 := (((bd.setCell ⟨go10, (ab : Int).toNat * 3, none⟩ (.int .i64 aY)).setCell ⟨go10, (ab : Int).toNat * 3 + 1, none⟩ (.int .i64 aZ)).setCell ⟨go10, (ab : Int).toNat * 3 + 2, none⟩ (.int .i64 a5))) ?hg ?ho ?hn ?hr ?_; (case ho => rfl); (case hg => rfl); (case hn => rfl); (case hr => first | (go_simp; done) | (go_simp; rfl)); intro bQ hw; have hg : bd.grownBy bQ (some go10) := (by rw [hw]; exact HP12.2); have hp_ : Kd.R k38 38 bQ w.heap.size (fun _ => True) (.slice (some ⟨go10, 0, none⟩) au.length bz) bj := (by rw [hw, bx.out]; exact HP12.1); clear HP12; replace aD := A_ (hp_); replace HB := A_ ((by rw [hw]; exact below_set (below_set (below_set (HB.out) GB10.out) GB10.out) GB10.out : Below w.heap.size w bQ)); clear hg hw hp_))
    go_roundg k1
    case measure => have := HK1.out; omega
    case rel => exact ⟨(bj), (wrap64 (ab + 1)), tx_, H', ⟨by have := HK1.out; omega⟩, ⟨rR_ aD.out⟩, ⟨(tb_ HB.out)⟩⟩
   ·
    obtain rfl := Option.some.inj H; go_wp2; go_ret; exact ⟨_, tw_, by refine qR_ ?_; exact aD.out, (tb_ HB.out)⟩
/-! ### impl_coloursOk: function 70 -/
def impl_coloursOk.f (a0 : Int) : Option (Bool) := if a0 ≥ 1 then (some (decide (a0 ≤ 3))) else (some false)
theorem impl_coloursOk.calls (a0 : Int) (r : Bool) (w : World) (h : impl_coloursOk.f a0 = some r) :
  Calls Tryd.prog 70 #[.int .i64 a0] w fun e w' => e = .returned (.bool r) ∧ Drawn0 w w' := by
 have H : (if a0 ≥ 1 then (some (decide (a0 ≤ 3))) else (some false)) = some r := h; clear h; replace H := ih_ H; rcases H with ⟨aP, H⟩ | ⟨aP, H⟩
 ·
  obtain rfl := Option.some.inj H; go_enter Tryd.func70, Tryd.ntmps70; go_wp2; go_ret; exact ⟨tx_, dz_⟩
 ·
  obtain rfl := Option.some.inj H; go_enter Tryd.func70, Tryd.ntmps70; go_wp2; go_ret; exact ⟨tx_, dz_⟩

/-! ### impl_UrnOk: function 54 -/
def impl_UrnOk.l0 : Nat → List Int → List Int → Int → Int → Option (Bool)
 | 0, _, _, _, _ => none
 | k + 1, x0, x5, x6, x7 => if x7 < x6 then (if 0 ≤ x7 then (if x7 < (x5.length : Int) then (if (rd x5 x7) < 0 then (some false) else (if (rd x5 x7) > 40 then (some false) else (impl_UrnOk.l0 k x0 x5 x6 (wrap64 (x7 + 1))))) else (none)) else (none)) else ((impl_coloursOk.f (x0.length : Int)).bind fun bn => (some bn))
def impl_UrnOk.f (k : Nat) (l0 : List Int) : Option (Bool) := impl_UrnOk.l0 k l0 l0 (l0.length : Int) 0
theorem impl_UrnOk.mono_l : ∀ k, (∀ y0 y1 y2 y3, LeO (impl_UrnOk.l0 k y0 y1 y2 y3) (impl_UrnOk.l0 (k + 1) y0 y1 y2 y3))
 | 0 => fun _ _ _ _ r h => by simp [impl_UrnOk.l0] at h
 | k + 1 => by
  have ih0 := impl_UrnOk.mono_l k
  ·
   intro y0 y1 y2 y3
   unfold impl_UrnOk.l0
   repeat' (with_reducible first | exact ih0 _ _ _ _ | exact mr_ | exact mn_ | refine mi_ ?_ ?_ | refine mb_ ?_ (fun _ => ?_))
theorem impl_UrnOk.mono : ∀ a0 k, LeO (impl_UrnOk.f k a0) (impl_UrnOk.f (k + 1) a0) := by
 intro a0 k; have ih0 := impl_UrnOk.mono_l k; unfold impl_UrnOk.f; repeat' (with_reducible first | exact ih0 _ _ _ _ | exact mr_ | exact mn_ | refine mi_ ?_ ?_ | refine mb_ ?_ (fun _ => ?_))
theorem impl_UrnOk.calls (k : Nat) (A0 : Option Addr) (c0 : Nat) (l0 : List Int) (r : Bool) (w : World) (hr0 : Kd.C (Kd.int .i64) w A0 l0.length l0) (hc0 : l0.length ≤ c0) (h : impl_UrnOk.f k l0 = some r) :
  Calls Tryd.prog 54 #[.slice A0 l0.length c0] w fun e w' => e = .returned (.bool r) ∧ Drawn0 w w' := by
 have HR0 := A_ hr0; have HC0 := A_ hc0; clear hr0 hc0; have H : (impl_UrnOk.l0 k l0 l0 (l0.length : Int) 0) = some r := h; clear h; have H' := A_ H; clear H; go_enter Tryd.func54, Tryd.ntmps54; go_wp2
 go_loopg [7] k (fun kq v7 w' => ∃ (aa : Int), v7 = .int .i64 aa ∧ Aside0 (impl_UrnOk.l0 kq l0 l0 (l0.length : Int) aa = some r) ∧ Aside0 (kq ≤ k) ∧ Drawn0 w w')
 case atStart => exact ⟨(0), tx_, H', ⟨Nat.le_refl _⟩, dz_⟩
 case round =>
  clear H'; obtain ⟨aa, rfl, HA, HK1, ⟨m1, rfl⟩⟩ := hrel
  cases gk with
  | zero => exact absurd HA.out (by simp [impl_UrnOk.l0])
  | succ k1 =>
   have H := HA.out; clear HA; simp only [impl_UrnOk.l0] at H; replace H := it_ H; rcases H with ⟨aP, H⟩ | ⟨aP, H⟩
   ·
    replace H := in_ H; obtain ⟨aO, H⟩ := H; replace H := in_ H; obtain ⟨aV, H⟩ := H; replace H := it_ H; rcases H with ⟨aW, H⟩ | ⟨aW, H⟩
    ·
     obtain rfl := Option.some.inj H; obtain ⟨p429, q429, ad429, e429, aR⟩ := a2_ (Kd.at_int HR0.out aa); cases e429; go_wp2; go_ret; exact ⟨tx_, dz_⟩
    ·
     replace H := ig_ H; rcases H with ⟨aX, H⟩ | ⟨aX, H⟩
     ·
      obtain rfl := Option.some.inj H; obtain ⟨p429, q429, ad429, e429, aR⟩ := a2_ (Kd.at_int HR0.out aa); cases e429; go_wp2; go_ret; exact ⟨tx_, dz_⟩
     ·
      have H' := A_ H; clear H; obtain ⟨p429, q429, ad429, e429, aR⟩ := a2_ (Kd.at_int HR0.out aa); cases e429; go_wp2
      go_roundg k1
      case measure => have := HK1.out; omega
      case rel => exact ⟨(wrap64 (aa + 1)), tx_, H', ⟨by have := HK1.out; omega⟩, dz_⟩
   ·
    obtain ⟨bn, A7, H⟩ := bnd_ H; (try dsimp only at H); obtain rfl := Option.some.inj H; go_wp2_with (first | ((with_reducible refine gate_callee (f := 70) rfl ?_); refine gl_ (some 20) Tryd.func70 #[.int .i64 (l0.length : Int)] ?_; (with_reducible refine (impl_coloursOk.calls (l0.length : Int) bn _ A7.out).mono ?_); rintro e w' ⟨rfl, ⟨nd, rfl⟩⟩; refine ⟨_, rfl, ?_⟩)); go_ret; exact ⟨tx_, dz_⟩

/-! ### impl_StartOk: function 56 -/
def impl_StartOk.l0 : Nat → List Int → List Int → Int → Int → Option (Bool)
 | 0, _, _, _, _ => none
 | k + 1, x0, x5, x6, x7 => if x7 < x6 then (if 0 ≤ x7 then (if x7 < (x5.length : Int) then (if (rd x5 x7) > 10 then (some false) else (impl_StartOk.l0 k x0 x5 x6 (wrap64 (x7 + 1)))) else (none)) else (none)) else ((impl_UrnOk.f k x0).bind fun bo => (some bo))
def impl_StartOk.f (k : Nat) (l0 : List Int) : Option (Bool) := impl_StartOk.l0 k l0 l0 (l0.length : Int) 0
theorem impl_StartOk.mono_l : ∀ k, (∀ y0 y1 y2 y3, LeO (impl_StartOk.l0 k y0 y1 y2 y3) (impl_StartOk.l0 (k + 1) y0 y1 y2 y3))
 | 0 => fun _ _ _ _ r h => by simp [impl_StartOk.l0] at h
 | k + 1 => by
  have ih0 := impl_StartOk.mono_l k
  ·
   intro y0 y1 y2 y3
   unfold impl_StartOk.l0
   repeat' (with_reducible first | exact ih0 _ _ _ _ | exact impl_UrnOk.mono _ _ | exact mr_ | exact mn_ | refine mi_ ?_ ?_ | refine mb_ ?_ (fun _ => ?_))
theorem impl_StartOk.mono : ∀ a0 k, LeO (impl_StartOk.f k a0) (impl_StartOk.f (k + 1) a0) := by
 intro a0 k; have ih0 := impl_StartOk.mono_l k; unfold impl_StartOk.f; repeat' (with_reducible first | exact ih0 _ _ _ _ | exact impl_UrnOk.mono _ _ | exact mr_ | exact mn_ | refine mi_ ?_ ?_ | refine mb_ ?_ (fun _ => ?_))
theorem impl_StartOk.calls (k : Nat) (A0 : Option Addr) (c0 : Nat) (l0 : List Int) (r : Bool) (w : World) (hr0 : Kd.C (Kd.int .i64) w A0 l0.length l0) (hc0 : l0.length ≤ c0) (h : impl_StartOk.f k l0 = some r) :
  Calls Tryd.prog 56 #[.slice A0 l0.length c0] w fun e w' => e = .returned (.bool r) ∧ Drawn0 w w' := by
 have HR0 := A_ hr0; have HC0 := A_ hc0; clear hr0 hc0; have H : (impl_StartOk.l0 k l0 l0 (l0.length : Int) 0) = some r := h; clear h; have H' := A_ H; clear H; go_enter Tryd.func56, Tryd.ntmps56; go_wp2
 go_loopg [7] k (fun kq v7 w' => ∃ (aa : Int), v7 = .int .i64 aa ∧ Aside0 (impl_StartOk.l0 kq l0 l0 (l0.length : Int) aa = some r) ∧ Aside0 (kq ≤ k) ∧ Drawn0 w w')
 case atStart => exact ⟨(0), tx_, H', ⟨Nat.le_refl _⟩, dz_⟩
 case round =>
  clear H'; obtain ⟨aa, rfl, HA, HK1, ⟨m1, rfl⟩⟩ := hrel
  cases gk with
  | zero => exact absurd HA.out (by simp [impl_StartOk.l0])
  | succ k1 =>
   have H := HA.out; clear HA; simp only [impl_StartOk.l0] at H; replace H := it_ H; rcases H with ⟨aP, H⟩ | ⟨aP, H⟩
   ·
    replace H := in_ H; obtain ⟨aO, H⟩ := H; replace H := in_ H; obtain ⟨aV, H⟩ := H; replace H := ig_ H; rcases H with ⟨aW, H⟩ | ⟨aW, H⟩
    ·
     obtain rfl := Option.some.inj H; obtain ⟨p431, q431, ad431, e431, be⟩ := a2_ (Kd.at_int HR0.out aa); cases e431; go_wp2; go_ret; exact ⟨tx_, dz_⟩
    ·
     have H' := A_ H; clear H; obtain ⟨p431, q431, ad431, e431, be⟩ := a2_ (Kd.at_int HR0.out aa); cases e431; go_wp2
     go_roundg k1
     case measure => have := HK1.out; omega
     case rel => exact ⟨(wrap64 (aa + 1)), tx_, H', ⟨by have := HK1.out; omega⟩, dz_⟩
   ·
    obtain ⟨bo, A6, H⟩ := bnd_ H; (try dsimp only at H); obtain rfl := Option.some.inj H; go_wp2_with (first | ((with_reducible refine gate_callee (f := 54) rfl ?_); refine gl_ (some 15) Tryd.func54 #[.slice A0 l0.length c0] ?_; (with_reducible refine (impl_UrnOk.calls k1 _ _ l0 bo _ ?s1 ?s2 A6.out).mono ?_); (case s1 => exact td_); (case s2 => exact HC0.out); rintro e w' ⟨rfl, ⟨nd, rfl⟩⟩; refine ⟨_, rfl, ?_⟩)); go_ret; exact ⟨tx_, dz_⟩

/-! ### impl_WordOk: function 57 -/
def impl_WordOk.l0 : Nat → Int → List Int → List Int → Int → Int → Option (Bool)
 | 0, _, _, _, _, _ => none
 | k + 1, x0, x1, x7, x8, x9 => if x9 < x8 then (if 0 ≤ x9 then (if x9 < (x7.length : Int) then (if (rd x7 x9) < 0 then (some false) else (if (rd x7 x9) ≥ x0 then (some false) else (impl_WordOk.l0 k x0 x1 x7 x8 (wrap64 (x9 + 1))))) else (none)) else (none)) else ((impl_coloursOk.f x0).bind fun bp => (if bp = true then (some (decide ((x1.length : Int) ≤ 6))) else (some false)))
def impl_WordOk.f (k : Nat) (a0 : Int) (l1 : List Int) : Option (Bool) := impl_WordOk.l0 k a0 l1 l1 (l1.length : Int) 0
theorem impl_WordOk.mono_l : ∀ k, (∀ y0 y1 y2 y3 y4, LeO (impl_WordOk.l0 k y0 y1 y2 y3 y4) (impl_WordOk.l0 (k + 1) y0 y1 y2 y3 y4))
 | 0 => fun _ _ _ _ _ r h => by simp [impl_WordOk.l0] at h
 | k + 1 => by
  have ih0 := impl_WordOk.mono_l k
  ·
   intro y0 y1 y2 y3 y4
   unfold impl_WordOk.l0
   repeat' (with_reducible first | exact ih0 _ _ _ _ _ | exact mr_ | exact mn_ | refine mi_ ?_ ?_ | refine mb_ ?_ (fun _ => ?_))
theorem impl_WordOk.mono : ∀ a0 a1 k, LeO (impl_WordOk.f k a0 a1) (impl_WordOk.f (k + 1) a0 a1) := by
 intro a0 a1 k; have ih0 := impl_WordOk.mono_l k; unfold impl_WordOk.f; repeat' (with_reducible first | exact ih0 _ _ _ _ _ | exact mr_ | exact mn_ | refine mi_ ?_ ?_ | refine mb_ ?_ (fun _ => ?_))
theorem impl_WordOk.calls (k : Nat) (a0 : Int) (A1 : Option Addr) (c1 : Nat) (l1 : List Int) (r : Bool) (w : World) (hr1 : Kd.C (Kd.int .i64) w A1 l1.length l1) (hc1 : l1.length ≤ c1) (h : impl_WordOk.f k a0 l1 = some r) :
  Calls Tryd.prog 57 #[.int .i64 a0, .slice A1 l1.length c1] w fun e w' => e = .returned (.bool r) ∧ Drawn0 w w' := by
 have HR1 := A_ hr1; have HC1 := A_ hc1; clear hr1 hc1; have H : (impl_WordOk.l0 k a0 l1 l1 (l1.length : Int) 0) = some r := h; clear h; have H' := A_ H; clear H; go_enter Tryd.func57, Tryd.ntmps57; go_wp2
 go_loopg [9] k (fun kq v9 w' => ∃ (an : Int), v9 = .int .i64 an ∧ Aside0 (impl_WordOk.l0 kq a0 l1 l1 (l1.length : Int) an = some r) ∧ Aside0 (kq ≤ k) ∧ Drawn0 w w')
 case atStart => exact ⟨(0), tx_, H', ⟨Nat.le_refl _⟩, dz_⟩
 case round =>
  clear H'; obtain ⟨an, rfl, HA, HK1, ⟨m1, rfl⟩⟩ := hrel
  cases gk with
  | zero => exact absurd HA.out (by simp [impl_WordOk.l0])
  | succ k1 =>
   have H := HA.out; clear HA; simp only [impl_WordOk.l0] at H; replace H := it_ H; rcases H with ⟨aO, H⟩ | ⟨aO, H⟩
   ·
    replace H := in_ H; obtain ⟨aV, H⟩ := H; replace H := in_ H; obtain ⟨aW, H⟩ := H; replace H := it_ H; rcases H with ⟨aX, H⟩ | ⟨aX, H⟩
    ·
     obtain rfl := Option.some.inj H; obtain ⟨p433, q433, ad433, e433, aU⟩ := a2_ (Kd.at_int HR1.out an); cases e433; go_wp2; go_ret; exact ⟨tx_, dz_⟩
    ·
     replace H := ih_ H; rcases H with ⟨bi, H⟩ | ⟨bi, H⟩
     ·
      obtain rfl := Option.some.inj H; obtain ⟨p433, q433, ad433, e433, aU⟩ := a2_ (Kd.at_int HR1.out an); cases e433; go_wp2; go_ret; exact ⟨tx_, dz_⟩
     ·
      have H' := A_ H; clear H; obtain ⟨p433, q433, ad433, e433, aU⟩ := a2_ (Kd.at_int HR1.out an); cases e433; go_wp2
      go_roundg k1
      case measure => have := HK1.out; omega
      case rel => exact ⟨(wrap64 (an + 1)), tx_, H', ⟨by have := HK1.out; omega⟩, dz_⟩
   ·
    obtain ⟨bp, A8, H⟩ := bnd_ H; (try dsimp only at H); by_cases c9 : bp = true
    ·
     subst c9; replace H : (some (decide ((l1.length : Int) ≤ 6))) = some r := by rw [if_pos rfl] at H; exact H
     obtain rfl := Option.some.inj H; go_wp2_with (first | ((with_reducible refine gate_callee (f := 70) rfl ?_); refine gl_ (some 22) Tryd.func70 #[.int .i64 a0] ?_; (with_reducible refine (impl_coloursOk.calls a0 true _ A8.out).mono ?_); rintro e w' ⟨rfl, ⟨nd, rfl⟩⟩; refine ⟨_, rfl, ?_⟩)); go_ret; exact ⟨tx_, dz_⟩
    ·
     replace c9 := Bool.eq_false_iff.mpr c9; subst c9; replace H : (some false) = some r := by rw [if_neg (show ¬ (false = true) by decide)] at H; exact H
     obtain rfl := Option.some.inj H; go_wp2_with (first | ((with_reducible refine gate_callee (f := 70) rfl ?_); refine gl_ (some 22) Tryd.func70 #[.int .i64 a0] ?_; (with_reducible refine (impl_coloursOk.calls a0 false _ A8.out).mono ?_); rintro e w' ⟨rfl, ⟨nd, rfl⟩⟩; refine ⟨_, rfl, ?_⟩)); go_ret; exact ⟨tx_, dz_⟩

/-! ### slices_Clone_int_int: function 55 -/
def slices_Clone_int_int.f (l0 : List Int) : Option (List Int) := if l0.length * 8 ≤ 140737488355328 then some l0 else none
theorem slices_Clone_int_int.calls (A0 : Option Addr) (c0 : Nat) (l0 : List Int) (r : List Int) (w : World) (hr0 : Kd.C (Kd.int .i64) w A0 l0.length l0) (hc0 : l0.length ≤ c0) (h : slices_Clone_int_int.f l0 = some r) :
  Calls Tryd.prog 55 #[.slice A0 l0.length c0] w fun e w' => ∃ v0_ : Value, e = .returned (v0_) ∧ Kd.R (Kd.int .i64) 3 w' w.heap.size (fun _ => True) v0_ r ∧ Below w.heap.size w w' := by
 unfold slices_Clone_int_int.f at h; by_cases hl : l0.length * 8 ≤ 140737488355328
 ·
  rw [if_pos hl] at h; obtain rfl := Option.some.inj h; rcases Nat.eq_zero_or_pos l0.length with h0 | h0
  ·
   obtain rfl : l0 = [] := List.eq_nil_of_length_eq_zero h0
   cases A0 with
   | none => exact (Sh.Tryd.slices_Clone_int_nil 0 c0 w).mono fun e w' ⟨he, hw⟩ => ⟨.slice none 0 0, he, Kd.R_nil _ _ _ _ _, hw ▸ Below.refl _ _⟩
   | some ad => exact (Sh.Tryd.slices_Clone_int_zero ad c0 w).mono fun e w' ⟨v, he, ho, _, hb⟩ => ⟨v, he, Kd.R_of_own (xs := []) ho (fun _ _ => trivial), hb⟩
  ·
   obtain ⟨ad, rfl, hc⟩ := hr0.2.2 h0
   have hcell : ∀ j, j < l0.length → w.cell? (ad.add j) = some (.int .i64 (l0.getD j 0)) := by
    intro j hj; obtain ⟨c, hc1, hc2, hc3⟩ := hc j _ (List.getElem?_eq_getElem hj); have e1 : c = [.int .i64 l0[j]] := hc2; have := hc3 0 _ (by rw [e1]; rfl); rw [List.getD_eq_getElem?_getD, List.getElem?_eq_getElem hj]; simpa [Kd.int, Kd.scalar] using this
   have hs := hcell 0 h0
   have hsp : ad.spot = none := by
    cases hq : ad.spot with
    | none => rfl
    | some q => simp [World.cell?, Addr.add, hq] at hs; split at hs <;> simp at hs
   obtain ⟨b, o, sp⟩ := ad; simp only at hsp; subst hsp; refine (Sh.Tryd.slices_Clone_int b o l0.length c0 l0 w (Nat.le_refl _) hl (fun j hj => by have := hcell j hj; unfold Addr.add at this; split at this <;> simp_all)).mono fun e w' ⟨v, he, ho, _, hb⟩ => ⟨v, he, Kd.R_of_own (by rw [List.take_length] at ho; exact ho) (fun _ _ => trivial), hb⟩
 ·
  rw [if_neg hl] at h; exact absurd h (by simp)

/-! ### impl_added: function 74 -/
def impl_added.l0 : Nat → List Int → List Int → Int → Int → Option (List Int)
 | 0, _, _, _, _ => none
 | k + 1, x5, x10, x11, x12 => if x12 < x11 then (if 0 ≤ x12 then (if x12 < (x10.length : Int) then (if x12 < (x5.length : Int) then (impl_added.l0 k (x5.set (x12 : Int).toNat (wrap64 ((rd x5 x12) + (rd x10 x12)))) x10 x11 (wrap64 (x12 + 1))) else (none)) else (none)) else (none)) else (some x5)
def impl_added.f (k : Nat) (l0 : List Int) (l1 : List Int) : Option (List Int) := (slices_Clone_int_int.f l0).bind fun aL => (impl_added.l0 k aL l1 (l1.length : Int) 0)
theorem impl_added.mono_l : ∀ k, (∀ y0 y1 y2 y3, LeO (impl_added.l0 k y0 y1 y2 y3) (impl_added.l0 (k + 1) y0 y1 y2 y3))
 | 0 => fun _ _ _ _ r h => by simp [impl_added.l0] at h
 | k + 1 => by
  have ih0 := impl_added.mono_l k
  ·
   intro y0 y1 y2 y3
   unfold impl_added.l0
   repeat' (with_reducible first | exact ih0 _ _ _ _ | exact mr_ | exact mn_ | refine mi_ ?_ ?_ | refine mb_ ?_ (fun _ => ?_))
theorem impl_added.mono : ∀ a0 a1 k, LeO (impl_added.f k a0 a1) (impl_added.f (k + 1) a0 a1) := by
 intro a0 a1 k; have ih0 := impl_added.mono_l k; unfold impl_added.f; repeat' (with_reducible first | exact ih0 _ _ _ _ | exact mr_ | exact mn_ | refine mi_ ?_ ?_ | refine mb_ ?_ (fun _ => ?_))
theorem impl_added.z0 {P_ : Prop} (h_ : P_ := by go_wp2_with (first | ((with_reducible refine gate_dst (N := 15) rfl ?_); (try clear ix_); obtain ⟨p_, q_, ad_, e_, x0⟩ := a2_ (Kd.at_int (gC_ st (Kd.int .i64) A1 l1) ac); have ix_ := ix1_ Tryd.underlying22 e_ p_ q_ (c := c1); clear e_; go_step) | ((with_reducible refine gate_dst (N := 19) rfl ?_); (try clear ix_); obtain ⟨p_, q_, ad_, e_, x0⟩ := a2_ (Kd.at_int (gK_ st (Kd.int .i64) B9_0 aw) ac); have ix_ := ix1_ (n := aL.length) Tryd.underlying22 e_ p_ (iq_ q_ (gtl_ st)) (c := d9_0); clear e_; go_step) | ((with_reducible refine gate_dst (N := 23) rfl ?_); (try clear ix_); obtain ⟨p_, q_, ad_23, e_23, _⟩ := a2_ (Kd.at_int (gK_ st (Kd.int .i64) B9_0 aw) ac); have ix_ := ix1_ (n := aL.length) Tryd.underlying22 e_23 p_ (iq_ q_ (gtl_ st)) (c := d9_0); replace e_23 := A_ e_23; go_step) | ((with_reducible refine gate_store (p := 23) rfl ?_); obtain ⟨hx_, hz_⟩ := st.rc B9_0 aw ac 0 e_23.out (by first | exact od_ | omega | (simp only [List.length_set]; first | exact od_ | omega)) (by first | exact od_ | omega | (simp only [List.length_set]; first | exact od_ | omega)); refine pt_ B9_0 aw ac (wrap64 ((rd aw ac) + (rd l1 ac))) e_23.out st (by first | exact od_ | omega | (simp only [List.length_set]; first | exact od_ | omega)) (by first | exact od_ | omega | (simp only [List.length_set]; first | exact od_ | omega)) ?_; clear st cl hx_ hz_; intro w_ st; have cl := cl_ st)); first | (go_roundg k1; (case measure => have := HK1.out; omega); (case rel => exact ⟨((aw.set (ac : Int).toNat (wrap64 ((rd aw ac) + (rd l1 ac))))), (wrap64 (ac + 1)), tx_, H', ⟨by have := HK1.out; omega⟩, st.en⟩)) | (go_ret; exact ⟨.slice B9_0 aL.length d9_0, tw_, gtl_ st, st.b⟩)) : P_ := h_
theorem impl_added.calls (k : Nat) (A0 : Option Addr) (c0 : Nat) (l0 : List Int) (A1 : Option Addr) (c1 : Nat) (l1 : List Int) (r : List Int) (w : World) (hr0 : Kd.C (Kd.int .i64) w A0 l0.length l0) (hc0 : l0.length ≤ c0) (hr1 : Kd.C (Kd.int .i64) w A1 l1.length l1) (hc1 : l1.length ≤ c1) (h : impl_added.f k l0 l1 = some r) :
  Calls Tryd.prog 74 #[.slice A0 l0.length c0, .slice A1 l1.length c1] w fun e w' => ∃ v0_ : Value, e = .returned (v0_) ∧ Kd.R (Kd.int .i64) 3 w' w.heap.size (fun _ => True) v0_ r ∧ Below w.heap.size w w' := by
 have st := ((ST.nil w).c hr0 hc0).c hr1 hc1; have s0 := st; have cl := cl_ st; have H := h; clear h; unfold impl_added.f at H; go_enter Tryd.func74, Tryd.ntmps74; obtain ⟨aL, A_9, H⟩ := bnd_ H; have H' := A_ H; clear H; go_wp2_with (first | ((with_reducible refine gate_callee (f := 55) rfl ?_); refine ca_ (some 9) Tryd.func55 _ (slices_Clone_int_int.calls A0 c0 _ _ _ (gt_ st) (gt_ st) A_9.out) ?_; rintro e w_ ⟨v0, rfl, h0, hb⟩; refine ⟨_, rfl, ?_⟩; obtain ⟨B9_0, d9_0, rfl⟩ := Kd.R_slice h0; replace st := st.box (A := AR (Kd.int .i64) 3 w.heap.size (.slice B9_0 aL.length d9_0) aL) hb (st.mr h0); clear cl hb h0; have cl := cl_ st))
 go_loopg [12] k (fun kq bV w' => ∃ (aw : List Int) (ac : Int), bV = .int .i64 ac ∧ Aside0 (impl_added.l0 kq aw l1 (l1.length : Int) ac = some r) ∧ Aside0 (kq ≤ k) ∧ ST w [CA (Kd.int .i64) w A1 l1 c1] [AR (Kd.int .i64) 3 w.heap.size (.slice B9_0 aL.length d9_0) aw] w')
 case atStart => exact ⟨(aL), (0), tx_, H', ⟨Nat.le_refl _⟩, st.en⟩
 case round =>
  clear H' st cl; obtain ⟨aw, ac, rfl, HA, HK1, st⟩ := hrel; have cl := cl_ st
  cases gk with
  | zero => exact absurd HA.out (by simp [impl_added.l0])
  | succ k1 =>
   have H := HA.out; clear HA; simp only [impl_added.l0] at H; replace H := it_ H; rcases H with ⟨aV, H⟩ | ⟨aV, H⟩
   ·
    replace H := in_ H; obtain ⟨aW, H⟩ := H; replace H := in_ H; obtain ⟨aX, H⟩ := H; replace H := in_ H; obtain ⟨bi, H⟩ := H; have H' := A_ H; clear H; exact impl_added.z0
   ·
    obtain rfl := Option.some.inj H; exact impl_added.z0

end Go.Proofs.YtmodbemkflkbeaaDoor.MFnExactDeskRun
