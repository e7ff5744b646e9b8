/- For the law FnExactStoreOpen: walks of the functions that it reaches: each call returns what the plain function beside it tells. The conditions stand in each statement. -/
import Derived.Test.YtmodbemkflkbeaaGreatDoorV
import Derived.Test.YtmodbemkflkbeaaGreatDoorMFnExactStoreOpenx0
import Derived.Test.YtmodbemkflkbeaaGreatDoorMFnExactStoreOpenx5
import Derived.Test.YtmodbemkflkbeaaGreatDoorMFnExactStoreOpenx6
import Derived.Test.YtmodbemkflkbeaaGreatDoorMFnExactStoreOpenx7
import Derived.Test.YtmodbemkflkbeaaGreatDoorMFnExactStoreOpenx8
namespace Go.Proofs.YtmodbemkflkbeaaGreatDoor.MFnExactStoreOpen
open Go.RowKit Go.Proofs.YtmodbemkflkbeaaGreatDoorW.PrintWords Go.Proofs.YtmodbemkflkbeaaGreatDoorW.PrintLast Go.Proofs.YtmodbemkflkbeaaGreatDoorW.PrintMore
attribute [local go_sem] max2_int min2_int max_two min_two max_three min_three max_four min_four   -- for this text's walks alone
set_option linter.unusedVariables false
set_option linter.unusedSimpArgs false
set_option maxHeartbeats 8000000
set_option maxRecDepth 100000

/-! ### spec_l15Run: function 14 -/
def spec_l15Run.l0 : Nat → List (S57) → Int → Int → List Int → Int → List Int → List (S27) → Option (List Int × Int × List Int × (List (S27)) × Int)
 | 0, _, _, _, _, _, _, _ => none
 | k + 1, x1, x7, x8, ar, au, av, aw => if x8 < (x1.length : Int) then (if 0 ≤ x8 then ((spec_DeskDo.f k ar au av aw ((rd_T57 x1 x8).f0) ((rd_T57 x1 x8).f1) ((rd_T57 x1 x8).f2)).bind fun aB => (if aB.2.2.2.2 = true then (spec_l15Run.l0 k x1 (wrap64 (x7 + 1)) (wrap64 (x8 + 1)) aB.1 aB.2.1 aB.2.2.1 aB.2.2.2.1) else (spec_l15Run.l0 k x1 x7 (wrap64 (x8 + 1)) ar au av aw))) else (none)) else (some (ar, au, av, aw, x7))
def spec_l15Run.f (k : Nat) (ax : List Int) (a0_1 : Int) (ay : List Int) (az : List (S27)) (l1 : List (S57)) : Option (List Int × Int × List Int × (List (S27)) × Int) := (spec_l15Copy.f k ax a0_1 ay az).bind fun aD => (spec_l15Run.l0 k l1 0 0 aD.1 aD.2.1 aD.2.2.1 aD.2.2.2)
theorem spec_l15Run.mono_l : ∀ k, (∀ y0 y1 y2 y3 y4 y5 y6, LeO (spec_l15Run.l0 k y0 y1 y2 y3 y4 y5 y6) (spec_l15Run.l0 (k + 1) y0 y1 y2 y3 y4 y5 y6))
 | 0 => fun _ _ _ _ _ _ _ r h => by simp [spec_l15Run.l0] at h
 | k + 1 => by
  have ih0 := spec_l15Run.mono_l k
  ·
   intro y0 y1 y2 y3 y4 y5 y6
   unfold spec_l15Run.l0
   repeat' (with_reducible first | exact ih0 _ _ _ _ _ _ _ | exact spec_DeskDo.mono _ _ _ _ _ _ _ _ | exact spec_l15Copy.mono _ _ _ _ _ | exact mr_ | exact mn_ | refine mi_ ?_ ?_ | refine mb_ ?_ (fun _ => ?_))
theorem spec_l15Run.mono : ∀ a0 a1 a2 a3 a4 k, LeO (spec_l15Run.f k a0 a1 a2 a3 a4) (spec_l15Run.f (k + 1) a0 a1 a2 a3 a4) := by
 intro a0 a1 a2 a3 a4 k; have ih0 := spec_l15Run.mono_l k; unfold spec_l15Run.f; repeat' (with_reducible first | exact ih0 _ _ _ _ _ _ _ | exact spec_DeskDo.mono _ _ _ _ _ _ _ _ | exact spec_l15Copy.mono _ _ _ _ _ | exact mr_ | exact mn_ | refine mi_ ?_ ?_ | refine mb_ ?_ (fun _ => ?_))
def spec_l15Run.T6 : Bool × List (List Nat × List Nat) := (true, [([], []), ([], []), ([], []), ([1, 2], [1, 2]), ([3], [3]), ([0, 4], [0, 4]), ([5], [5]), ([6], [6]), ([6], [6]), ([], []), ([9, 7, 5, 0, 1, 2, 3, 4, 5, 6, 7, 9], [7, 9]), ([8, 10, 0, 1, 2, 3, 4, 5, 6, 7, 8, 9, 10], [8])])
def spec_l15Run.B6 : List Nat := [0, 0, 0, 6, 14, 31, 63, 127, 127, 0, 767, 2047]
theorem spec_l15Run.tab6 : rtab .any (opsOf Tryz.f14 6) = spec_l15Run.T6 := by kernel_rfl
theorem spec_l15Run.bits6 : waitsOk spec_l15Run.T6.2 spec_l15Run.B6 = true := by kernel_rfl
theorem spec_l15Run.n0 {P_ : Prop} (h_ : P_ := by refine lv_ 10 (fun K hK => ?_); refine sp4_ st ?_; clear st cl; intro w_ st; have cl := cl_ st; refine hK.out _ _ ?_; clear hK K; refine pv_ 11 ?_; refine done_ (done_of HT_.out (by kernel_rfl)) ?_; clear ix405; (try go_wp2_with (first | ((with_reducible refine gate_store (p := 6) rfl ?_); refine so4_ st ?_; clear st cl; intro w_ st; have cl := cl_ st) | ((with_reducible refine gate_store (p := 4) rfl ?_); refine so4_ st ?_; clear st cl; intro w_ st; have cl := cl_ st))); (first | (go_roundg k1; (case measure => have := HK1.out; omega); (case rel => exact ⟨(wrap64 (aa + 1)), (wrap64 (ap + 1)), (bf), (bg), (bh), (bi), B25_0, d25_0, B25_2, d25_2, B25_3, d25_3, tx_, tx_, H', ⟨by have := HK1.out; omega⟩, st.en⟩)) | (go_roundg k1; (case measure => have := HK1.out; omega); (case rel => exact ⟨(aa), (wrap64 (ap + 1)), (ac), (ao), (ae), (af), ag, ah, ai, aj, ak, al, tx_, tx_, H', ⟨by have := HK1.out; omega⟩, st.en⟩)) | (refine bodyPost_ret (rct_ st Tryz.underlying30) rfl ?_; exact ⟨.slice ag ac.length ah, .slice ai ae.length aj, .slice ak af.length al, tw_, gt_ st, gt_ st, gt_ st, st.b⟩))) : P_ := h_
theorem spec_l15Run.z0 {P_ : Prop} (h_ : P_ := by (try go_wp2_with (first | ((with_reducible refine gate_store (p := 6) rfl ?_); refine so4_ st ?_; clear st cl; intro w_ st; have cl := cl_ st) | ((with_reducible refine gate_store (p := 4) rfl ?_); refine so4_ st ?_; clear st cl; intro w_ st; have cl := cl_ st))); (first | ((try clear ix_); obtain ⟨p_, q_, ad_, e_, aI, aJ, aK⟩ := a2_ (at_T57 (gC_ s0 k57 A1 l1) ap); have ix405 := ix3_ Tryz.underlying41 e_ p_ q_ (c := c1); clear e_; refine rg_ st [10] ?_; clear st cl; intro w_ st hs; have cl := cl_ st; refine with_tabW spec_l15Run.tab6 spec_l15Run.bits6 (fun HT_ HW_ => ?_); refine pv_ 1 ?_; refine pv_ 2 ?_; refine pv_ 3 ?_; refine tu_ 0 ?_ (hy := by intro w' s_; have cl := cl_ s_; have y405_0 := cb_ s_ aI; have y405_1 := cb_ s_ aJ; have y405_2 := cb_ s_ aK; go_simp; first | with_reducible rfl | (rw [if_neg (by omega)]; done)); refine tu_ 4 ?_ (hy := by intro w' s_; have cl := cl_ s_; have y405_0 := cb_ s_ aI; have y405_1 := cb_ s_ aJ; have y405_2 := cb_ s_ aK; go_simp; first | with_reducible rfl | (rw [if_neg (by omega)]; done)); refine wv_ 5 9 (fun K hK => ?_) (fun K hK => ?_); refine ca2_ (some 25) Tryz.func30 _ (spec_DeskDo.calls k1 ag ah _ _ ai aj _ ak al _ _ _ _ _ _ _ _ _ _ (gt_ st) (gt_ st) (gt_ st) (gt_ st) (gt_ st) (gt_ st) A_25.out) ?_; rintro e w_ ⟨v0, v1, v2, rfl, h0, h1, h2, hb⟩; refine ⟨_, rfl, ?_⟩; obtain ⟨B25_0, d25_0, rfl⟩ := Kd.R_slice h0; obtain ⟨B25_2, d25_2, rfl⟩ := Kd.R_slice h1; obtain ⟨B25_3, d25_3, rfl, _⟩ := Kd.Q_slice h2; replace st := st.p3 hb (st.mr h0) (st.mr h1) (st.mq h2); clear cl hb h0 h1 h2; have cl := cl_ st; refine hK.out _ _ st.en (fun hs => ?_); clear hK K; refine nr_ 25 ?_; refine pv_ 6 ?_; refine pv_ 7 ?_; refine pv_ 8 ?_; refine ov_ 9 (fun K hK => ?_); refine al2_ st ?_; clear st cl; intro g9 w_ st; have cl := cl_ st; refine hK.out _ _ st.en (fun hs => ?_); clear hK K; refine nr_ 9 ?_; exact spec_l15Run.n0; refine al2_ st ?_; clear st cl; intro g9 w_ st; have cl := cl_ st; refine hK.out _ _ st.en (fun hs => ?_); clear hK K; refine nr_ 9 ?_; refine ov_ 5 (fun K hK => ?_); refine ca2_ (some 25) Tryz.func30 _ (spec_DeskDo.calls k1 ag ah _ _ ai aj _ ak al _ _ _ _ _ _ _ _ _ _ (gt_ st) (gt_ st) (gt_ st) (gt_ st) (gt_ st) (gt_ st) A_25.out) ?_; rintro e w_ ⟨v0, v1, v2, rfl, h0, h1, h2, hb⟩; refine ⟨_, rfl, ?_⟩; obtain ⟨B25_0, d25_0, rfl⟩ := Kd.R_slice h0; obtain ⟨B25_2, d25_2, rfl⟩ := Kd.R_slice h1; obtain ⟨B25_3, d25_3, rfl, _⟩ := Kd.Q_slice h2; replace st := st.p3 hb (st.mr h0) (st.mr h1) (st.mq h2); clear cl hb h0 h1 h2; have cl := cl_ st; refine hK.out _ _ st.en (fun hs => ?_); clear hK K; refine nr_ 25 ?_; refine pv_ 6 ?_; refine pv_ 7 ?_; refine pv_ 8 ?_; exact spec_l15Run.n0) | (go_roundg k1; (case measure => have := HK1.out; omega); (case rel => exact ⟨(wrap64 (aa + 1)), (wrap64 (ap + 1)), (bf), (bg), (bh), (bi), B25_0, d25_0, B25_2, d25_2, B25_3, d25_3, tx_, tx_, H', ⟨by have := HK1.out; omega⟩, st.en⟩)) | (go_roundg k1; (case measure => have := HK1.out; omega); (case rel => exact ⟨(aa), (wrap64 (ap + 1)), (ac), (ao), (ae), (af), ag, ah, ai, aj, ak, al, tx_, tx_, H', ⟨by have := HK1.out; omega⟩, st.en⟩)) | (refine bodyPost_ret (rct_ st Tryz.underlying30) rfl ?_; exact ⟨.slice ag ac.length ah, .slice ai ae.length aj, .slice ak af.length al, tw_, gt_ st, gt_ st, gt_ st, st.b⟩))) : P_ := h_
theorem spec_l15Run.calls (k : Nat) (aL : Option Addr) (aM : Nat) (ax : List Int) (a0_1 : Int) (aN : Option Addr) (aO : Nat) (ay : List Int) (aP : Option Addr) (aQ : Nat) (az : List (S27)) (A1 : Option Addr) (c1 : Nat) (l1 : List (S57)) (r1 : List Int) (r2 : Int) (r3 : List Int) (r4 : List (S27)) (r5 : Int) (w : World) (hr0_0 : Kd.C (Kd.int .i64) w aL ax.length ax) (hc0_0 : ax.length ≤ aM) (hr0_2 : Kd.C (Kd.int .i64) w aN ay.length ay) (hc0_2 : ay.length ≤ aO) (hr0_3 : Kd.C k27 w aP az.length az) (hc0_3 : az.length ≤ aQ) (hr1 : Kd.C k57 w A1 l1.length l1) (hc1 : l1.length ≤ c1) (h : spec_l15Run.f k ax a0_1 ay az l1 = some (r1, r2, r3, r4, r5)) :
  Calls Tryz.prog 14 #[.agg #[.slice aL ax.length aM, .int .i64 a0_1, .slice aN ay.length aO, .slice aP az.length aQ], .slice A1 l1.length c1] w fun e w' => ∃ v0_ v2_ v3_ : Value, e = .returned (.tuple #[.agg #[v0_, .int .i64 r2, v2_, v3_], .int .i64 r5]) ∧ Kd.R (Kd.int .i64) 3 w' w.heap.size (fun _ => True) v0_ r1 ∧ Kd.R (Kd.int .i64) 3 w' w.heap.size (fun _ => True) v2_ r3 ∧ Kd.Q k27 27 w' w.heap.size (fun _ => True) v3_ r4 ∧ Below w.heap.size w w' := by
 have hu30 := Tryz.underlying30; have hu57 := Tryz.underlying57; have st := ((((ST.nil w).c hr0_0 hc0_0).c hr0_2 hc0_2).c hr0_3 hc0_3).c hr1 hc1; have s0 := st; have cl := cl_ st; have H := h; clear h; unfold spec_l15Run.f at H; go_enter Tryz.func14, Tryz.ntmps14; obtain ⟨⟨bk, bl, bm, bn⟩, A_12, H⟩ := bnd_ H; (try dsimp only at H); have H' := A_ H; clear H; go_wp2_with (first | ((with_reducible refine gate_dst (N := 2) rfl ?_); refine al_ st ?_; clear st cl; intro g2 w_ st; have cl := cl_ st) | ((with_reducible refine gate_dst (N := 4) rfl ?_); refine al_ st ?_; clear st cl; intro g4 w_ st; have cl := cl_ st) | ((with_reducible refine gate_callee (f := 29) rfl ?_); refine ca_ (some 12) Tryz.func29 _ (spec_l15Copy.calls k aL aM _ _ aN aO _ aP aQ _ _ _ _ _ _ (gt_ st) (gt_ st) (gt_ st) (gt_ st) (gt_ st) (gt_ st) A_12.out) ?_; rintro e w_ ⟨v0, v1, v2, rfl, h0, h1, h2, hb⟩; refine ⟨_, rfl, ?_⟩; obtain ⟨B12_0, d12_0, rfl⟩ := Kd.R_slice h0; obtain ⟨B12_2, d12_2, rfl⟩ := Kd.R_slice h1; obtain ⟨B12_3, d12_3, rfl⟩ := Kd.S_slice h2; replace st := st.p3 hb (st.mr h0) (st.mr h1) (st.ms h2); clear cl hb h0 h1 h2; have cl := cl_ st) | ((with_reducible refine gate_dst (N := 6) rfl ?_); refine al_ st ?_; clear st cl; intro g6 w_ st; have cl := cl_ st) | ((with_reducible refine gate_store (p := 6) rfl ?_); refine so4_ st ?_; clear st cl; intro w_ st; have cl := cl_ st))
 go_loopg [7, 8] k (fun kq v7 v8 w' => ∃ (aa : Int) (ap : Int) (ac : List Int) (ao : Int) (ae : List Int) (af : List (S27)) (ag : Option Addr) (ah : Nat) (ai : Option Addr) (aj : Nat) (ak : Option Addr) (al : Nat), v7 = .int .i64 aa ∧ v8 = .int .i64 ap ∧ Aside0 (spec_l15Run.l0 kq l1 aa ap ac ao ae af = some (r1, r2, r3, r4, r5)) ∧ Aside0 (kq ≤ k) ∧ ST w [CA (Kd.int .i64) w aL ax aM, CA (Kd.int .i64) w aN ay aO, CA k27 w aP az aQ, CA k57 w A1 l1 c1, AR (Kd.int .i64) 3 w.heap.size (.slice ag ac.length ah) ac, AR (Kd.int .i64) 3 w.heap.size (.slice ai ae.length aj) ae, AQ k27 27 w.heap.size (.slice ak af.length al) af] [Bx g2 #[.slice aL ax.length aM, .int .i64 a0_1, .slice aN ay.length aO, .slice aP az.length aQ] 30, Bx g4 #[.slice none 0 0, .int .i64 0, .slice none 0 0, .slice none 0 0] 30, Bx g6 #[.slice ag ac.length ah, .int .i64 ao, .slice ai ae.length aj, .slice ak af.length al] 30] w')
 case atStart => exact ⟨(0), (0), (bk), (bl), (bm), (bn), B12_0, d12_0, B12_2, d12_2, B12_3, d12_3, tx_, tx_, H', ⟨Nat.le_refl _⟩, st.en⟩
 case round =>
  clear H' st cl; obtain ⟨aa, ap, ac, ao, ae, af, ag, ah, ai, aj, ak, al, rfl, rfl, HA, HK1, st⟩ := hrel; have cl := cl_ st
  cases gk with
  | zero => exact absurd HA.out (by simp [spec_l15Run.l0])
  | succ k1 =>
   have H := HA.out; clear HA; simp only [spec_l15Run.l0] at H; replace H := it_ H; rcases H with ⟨aH, H⟩ | ⟨aH, H⟩
   ·
    replace H := in_ H; obtain ⟨aC, H⟩ := H; obtain ⟨⟨bf, bg, bh, bi, bo⟩, A_25, H⟩ := bnd_ H; (try dsimp only at H); rcases bx_ bo with rfl | rfl
    ·
     replace H := bt_ H; have H' := A_ H; clear H; exact spec_l15Run.z0
    ·
     replace H := bf_ H; have H' := A_ H; clear H; exact spec_l15Run.z0
   ·
    simp only [Option.some.injEq, Prod.mk.injEq] at H; obtain ⟨rfl, rfl, rfl, rfl, rfl⟩ := H; exact spec_l15Run.z0

/-! ### spec_StoreOpen: function 5 -/
def spec_StoreOpen.f (k : Nat) (a0_0 : ByteArray) (a0_1 : ByteArray) (a0_2 : Int) : Option (List Int × Int × List Int × (List (S27)) × Bool) := (spec_StoreOk.f k a0_0 a0_1 a0_2).bind fun aZ => (if aZ = true then ((spec_ReadPlace.f k a0_0).bind fun aR => ((spec_ReadJournal.f k a0_1).bind fun bj => ((spec_l15Run.f k aR.1 aR.2.1 aR.2.2.1 ([] : List (S27)) bj.1).bind fun aE => (some (aE.1, aE.2.1, aE.2.2.1, aE.2.2.2.1, true))))) else (some (([] : List Int), 0, ([] : List Int), ([] : List (S27)), false)))
theorem spec_StoreOpen.mono : ∀ a0 a1 a2 k, LeO (spec_StoreOpen.f k a0 a1 a2) (spec_StoreOpen.f (k + 1) a0 a1 a2) := by
 intro a0 a1 a2 k; unfold spec_StoreOpen.f; repeat' (with_reducible first | exact spec_ReadJournal.mono _ _ | exact spec_ReadPlace.mono _ _ | exact spec_StoreOk.mono _ _ _ _ | exact spec_l15Run.mono _ _ _ _ _ _ | exact mr_ | exact mn_ | refine mi_ ?_ ?_ | refine mb_ ?_ (fun _ => ?_))
theorem spec_StoreOpen.z0 {P_ : Prop} (h_ : P_ := by go_wp2_with (first | ((with_reducible refine gate_dst (N := 1) rfl ?_); refine al_ st ?_; clear st cl; intro g1 w_ st; have cl := cl_ st) | ((with_reducible refine gate_dst (N := 2) rfl ?_); refine al_ st ?_; clear st cl; intro g2 w_ st; have cl := cl_ st) | ((with_reducible refine gate_callee (f := 11) rfl ?_); refine ca_ (some 11) Tryz.func11 _ (spec_StoreOk.calls k _ _ _ _ _ A_11.out) ?_; rintro e w_ ⟨rfl, hb⟩; refine ⟨_, rfl, ?_⟩; replace st := st.ev hb; clear cl hb; have cl := cl_ st) | ((with_reducible refine gate_callee (f := 12) rfl ?_); refine ca_ (some 17) Tryz.func12 _ (spec_ReadPlace.calls k _ _ _ _ _ _ A_17.out) ?_; rintro e w_ ⟨v0, v1, rfl, h0, h1, hb⟩; refine ⟨_, rfl, ?_⟩; obtain ⟨B17_0, d17_0, rfl⟩ := Kd.R_slice h0; obtain ⟨B17_2, d17_2, rfl⟩ := Kd.R_slice h1; replace st := st.p2 hb (st.mr h0) (st.mr h1); clear cl hb h0 h1; have cl := cl_ st) | ((with_reducible refine gate_dst (N := 4) rfl ?_); refine al_ st ?_; clear st cl; intro g4 w_ st; have cl := cl_ st) | ((with_reducible refine gate_store (p := 4) rfl ?_); refine so3_ st ?_; clear st cl; intro w_ st; have cl := cl_ st) | ((with_reducible refine gate_callee (f := 13) rfl ?_); refine ca_ (some 23) Tryz.func13 _ (spec_ReadJournal.calls k _ _ _ _ A_23.out) ?_; rintro e w_ ⟨v0, rfl, h0, hb⟩; refine ⟨_, rfl, ?_⟩; obtain ⟨B23_0, d23_0, rfl⟩ := Kd.R_slice h0; replace st := st.p1 hb (st.mr h0); clear cl hb h0; have cl := cl_ st) | ((with_reducible refine gate_callee (f := 14) rfl ?_); refine ca_ (some 30) Tryz.func14 _ (spec_l15Run.calls k B17_0 d17_0 _ _ B17_2 d17_2 _ none 0 _ B23_0 d23_0 _ _ _ _ _ _ _ (gt_ st) (gt_ st) (gt_ st) (gt_ st) (Kd.C_nil _ _) (Nat.le_refl 0) (gt_ st) (gt_ st) A_30.out) ?_; rintro e w_ ⟨v0, v1, v2, rfl, h0, h1, h2, hb⟩; refine ⟨_, rfl, ?_⟩; obtain ⟨B30_0, d30_0, rfl⟩ := Kd.R_slice h0; obtain ⟨B30_2, d30_2, rfl⟩ := Kd.R_slice h1; obtain ⟨B30_3, d30_3, rfl, _⟩ := Kd.Q_slice h2; replace st := st.p3 hb (st.mr h0) (st.mr h1) (st.mq h2); clear cl hb h0 h1 h2; have cl := cl_ st) | ((with_reducible refine gate_dst (N := 8) rfl ?_); refine al_ st ?_; clear st cl; intro g8 w_ st; have cl := cl_ st) | ((with_reducible refine gate_store (p := 8) rfl ?_); refine so4_ st ?_; clear st cl; intro w_ st; have cl := cl_ st) | ((with_reducible refine gate_store (p := 2) rfl ?_); refine so4_ st ?_; clear st cl; intro w_ st; have cl := cl_ st)); first | (refine bodyPost_ret (rct_ st Tryz.underlying30) rfl ?_; exact ⟨.slice B30_0 bp.length d30_0, .slice B30_2 bq.length d30_2, .slice B30_3 br.length d30_3, tw_, gt_ st, gt_ st, gt_ st, st.b⟩) | (refine bodyPost_ret (rct_ st Tryz.underlying30) rfl ?_; exact ⟨.slice none 0 0, .slice none 0 0, .slice none 0 0, tw_, kn_, kn_, kn_, st.b⟩)) : P_ := h_
theorem spec_StoreOpen.calls (k : Nat) (a0_0 : ByteArray) (a0_1 : ByteArray) (a0_2 : Int) (r1 : List Int) (r2 : Int) (r3 : List Int) (r4 : List (S27)) (r5 : Bool) (w : World) (h : spec_StoreOpen.f k a0_0 a0_1 a0_2 = some (r1, r2, r3, r4, r5)) :
  Calls Tryz.prog 5 #[.agg #[.string a0_0, .string a0_1, .int .i64 a0_2]] w fun e w' => ∃ v0_ v2_ v3_ : Value, e = .returned (.tuple #[.agg #[v0_, .int .i64 r2, v2_, v3_], .bool r5]) ∧ Kd.R (Kd.int .i64) 3 w' w.heap.size (fun _ => True) v0_ r1 ∧ Kd.R (Kd.int .i64) 3 w' w.heap.size (fun _ => True) v2_ r3 ∧ Kd.Q k27 27 w' w.heap.size (fun _ => True) v3_ r4 ∧ Below w.heap.size w w' := by
 have hu33 := Tryz.underlying33; have hu30 := Tryz.underlying30; have hu27 := Tryz.underlying27; have st := ST.nil w; have s0 := st; have cl := cl_ st; have H := h; clear h; unfold spec_StoreOpen.f at H; go_enter Tryz.func5, Tryz.ntmps5; obtain ⟨aZ, A_11, H⟩ := bnd_ H; rcases bx_ aZ with rfl | rfl
 ·
  replace H := bt_ H; obtain ⟨⟨bs, bu, bv, bw⟩, A_17, H⟩ := bnd_ H; (try dsimp only at H); obtain ⟨⟨bx, bz⟩, A_23, H⟩ := bnd_ H; (try dsimp only at H); obtain ⟨⟨bp, bB, bq, br, bC⟩, A_30, H⟩ := bnd_ H; (try dsimp only at H); simp only [Option.some.injEq, Prod.mk.injEq] at H; obtain ⟨rfl, rfl, rfl, rfl, rfl⟩ := H; exact spec_StoreOpen.z0
 ·
  replace H := bf_ H; simp only [Option.some.injEq, Prod.mk.injEq] at H; obtain ⟨rfl, rfl, rfl, rfl, rfl⟩ := H; exact spec_StoreOpen.z0

/-! ### laws_toStore: function 6 -/
def laws_toStore.f (a0_0 : ByteArray) (a0_1 : ByteArray) (a0_2 : Int) : Option (ByteArray × ByteArray × Int) := some (a0_0, a0_1, a0_2)
theorem laws_toStore.calls (a0_0 : ByteArray) (a0_1 : ByteArray) (a0_2 : Int) (r1 : ByteArray) (r2 : ByteArray) (r3 : Int) (w : World) (h : laws_toStore.f a0_0 a0_1 a0_2 = some (r1, r2, r3)) :
  Calls Tryz.prog 6 #[.agg #[.string a0_0, .string a0_1, .int .i64 a0_2]] w fun e w' => e = .returned (.agg #[.string r1, .string r2, .int .i64 r3]) ∧ Below w.heap.size w w' := by
 have hu23 := Tryz.underlying23; have hu33 := Tryz.underlying33; have st := ST.nil w; have s0 := st; have cl := cl_ st; have H := h; clear h; unfold laws_toStore.f at H; go_enter Tryz.func6, Tryz.ntmps6; simp only [Option.some.injEq, Prod.mk.injEq] at H; obtain ⟨rfl, rfl, rfl⟩ := H; go_wp2_with (first | ((with_reducible refine gate_dst (N := 1) rfl ?_); refine al_ st ?_; clear st cl; intro g1 w_ st; have cl := cl_ st) | ((with_reducible refine gate_dst (N := 2) rfl ?_); refine al_ st ?_; clear st cl; intro g2 w_ st; have cl := cl_ st) | ((with_reducible refine gate_dst (N := 3) rfl ?_); refine al_ st ?_; clear st cl; intro g3 w_ st; have cl := cl_ st) | ((with_reducible refine gate_store (p := 6) rfl ?_); refine so1_ st ?_; clear st cl; intro w_ st; have cl := cl_ st) | ((with_reducible refine gate_store (p := 9) rfl ?_); refine so1_ st ?_; clear st cl; intro w_ st; have cl := cl_ st) | ((with_reducible refine gate_store (p := 12) rfl ?_); refine so1_ st ?_; clear st cl; intro w_ st; have cl := cl_ st) | ((with_reducible refine gate_store (p := 2) rfl ?_); refine so3_ st ?_; clear st cl; intro w_ st; have cl := cl_ st)); refine bodyPost_ret (rcc_ st Tryz.underlying33) rfl ?_; exact ⟨tw_, st.b⟩

/-! ### strings_Split: function 44 -/
def strings_Split.f (a0 : ByteArray) (a1 : ByteArray) : Option (List ByteArray) := if a0.size < 4294967281 ∧ 1 ≤ a1.size then some (Lib.splitB a1 0 (Lib.countB a0 a1) a0) else none
theorem strings_Split.calls (a0 : ByteArray) (a1 : ByteArray) (r : List ByteArray) (w : World) (hG : GWb w) (h : strings_Split.f a0 a1 = some r) :
  Calls Tryz.prog 44 #[.string a0, .string a1] w fun e w' => ∃ v0_ : Value, e = .returned (v0_) ∧ Kd.R Kd.string 9 w' w.heap.size (fun _ => True) v0_ r ∧ Below w.heap.size w w' := by
 unfold strings_Split.f at h; split at h
 ·
  rename_i hb; obtain rfl := Option.some.inj h; refine (Sh.Tryz.strings_Split_shaped a0 a1 w hG.shape hb.1 hb.2).mono fun e w' ⟨he, hw⟩ => ?_; have hl : (Lib.splitB a1 0 (Lib.countB a0 a1) a0).length = Lib.countB a0 a1 + 1 := Lib.splitB_all a1 hb.2 0 _ a0 rfl; have hle := Lib.countB_le a1 hb.2 a0.size a0 (Nat.le_refl _); have ho := own_lit_of (enc := Value.string) w w.heap.size 9 (Lib.splitB a1 0 (Lib.countB a0 a1) a0) (Nat.le_refl _) (by rw [hl]; omega); refine ⟨_, he, ?_, ?_⟩
  ·
   rw [hw]; rw [hl] at ho; exact Kd.R_of_own (by rw [hl]; exact ho) (fun _ _ => trivial)
  ·
   rw [hw]; exact (Below.refl _ _).alloc (Nat.le_refl _) _
 ·
  cases h

/-! ### strconv_Atoi: function 45 -/
def strconv_Atoi.f (a0 : ByteArray) : Option (Int × Option Int) := if a0.size ≤ 140737488355328 then some (match Lib.atoiAll a0.data.toList with | .ok v => (v, none) | Lib.NumEnd.syntax => (0, some 0) | .range => (Lib.atoiSat a0.data.toList, some 0)) else none
theorem strconv_Atoi.calls (a0 : ByteArray) (r1 : Int) (r2 : Option Int) (w : World) (hG : GWb w) (h : strconv_Atoi.f a0 = some (r1, r2)) :
  Calls Tryz.prog 45 #[.string a0] w fun e w' => ∃ N_ : Int, e = .returned (.tuple #[.int .i64 r1, errW (r2.map fun _ => N_)]) ∧ Below w.heap.size w w' := by
 unfold strconv_Atoi.f at h; split at h
 ·
  rename_i hb; rcases ha : Lib.atoiAll a0.data.toList with v | _ | _
  ·
   simp only [ha, Option.some.injEq, Prod.mk.injEq] at h; obtain ⟨rfl, rfl⟩ := h; exact (Sh.Tryz.strconv_Atoi_ok a0 (by omega) v ha w).mono fun e w' ⟨he, hw⟩ => ⟨0, he, atoi_below hw⟩
  ·
   simp only [ha, Option.some.injEq, Prod.mk.injEq] at h; obtain ⟨rfl, rfl⟩ := h; obtain ⟨t, p, hv⟩ := hG.esyn; exact (Sh.Tryz.strconv_Atoi_syntax_var a0 (by omega) ha t p w hv).mono fun e w' ⟨N, he, _, _, hw⟩ => ⟨(N : Int), he, hw⟩
  ·
   simp only [ha, Option.some.injEq, Prod.mk.injEq] at h; obtain ⟨rfl, rfl⟩ := h; obtain ⟨t, p, hv⟩ := hG.erng; exact (Sh.Tryz.strconv_Atoi_range_var a0 (by omega) ha t p w hv).mono fun e w' ⟨N, he, _, _, hw⟩ => ⟨(N : Int), he, hw⟩
 ·
  cases h

/-! ### impl_coloursOk: function 96 -/
def impl_coloursOk.f (a0 : Int) : Option (Bool) := if a0 ≥ 1 then (some (decide (a0 ≤ 3))) else (some false)
theorem impl_coloursOk.calls (a0 : Int) (r : Bool) (w : World) (h : impl_coloursOk.f a0 = some r) :
  Calls Tryz.prog 96 #[.int .i64 a0] w fun e w' => e = .returned (.bool r) ∧ Drawn0 w w' := by
 have H : (if a0 ≥ 1 then (some (decide (a0 ≤ 3))) else (some false)) = some r := h; clear h; replace H := ih_ H; rcases H with ⟨aU, H⟩ | ⟨aU, H⟩
 ·
  obtain rfl := Option.some.inj H; go_enter Tryz.func96, Tryz.ntmps96; go_wp2; go_ret; exact ⟨tx_, dz_⟩
 ·
  obtain rfl := Option.some.inj H; go_enter Tryz.func96, Tryz.ntmps96; go_wp2; go_ret; exact ⟨tx_, dz_⟩

/-! ### impl_UrnOk: function 89 -/
def impl_UrnOk.l0 : Nat → List Int → List Int → Int → Int → Option (Bool)
 | 0, _, _, _, _ => none
 | k + 1, x0, x5, x6, x7 => if x7 < x6 then (if 0 ≤ x7 then (if x7 < (x5.length : Int) then (if (rd x5 x7) < 0 then (some false) else (if (rd x5 x7) > 40 then (some false) else (impl_UrnOk.l0 k x0 x5 x6 (wrap64 (x7 + 1))))) else (none)) else (none)) else ((impl_coloursOk.f (x0.length : Int)).bind fun a5 => (some a5))
def impl_UrnOk.f (k : Nat) (l0 : List Int) : Option (Bool) := impl_UrnOk.l0 k l0 l0 (l0.length : Int) 0
theorem impl_UrnOk.mono_l : ∀ k, (∀ y0 y1 y2 y3, LeO (impl_UrnOk.l0 k y0 y1 y2 y3) (impl_UrnOk.l0 (k + 1) y0 y1 y2 y3))
 | 0 => fun _ _ _ _ r h => by simp [impl_UrnOk.l0] at h
 | k + 1 => by
  have ih0 := impl_UrnOk.mono_l k
  ·
   intro y0 y1 y2 y3
   unfold impl_UrnOk.l0
   repeat' (with_reducible first | exact ih0 _ _ _ _ | exact mr_ | exact mn_ | refine mi_ ?_ ?_ | refine mb_ ?_ (fun _ => ?_))
theorem impl_UrnOk.mono : ∀ a0 k, LeO (impl_UrnOk.f k a0) (impl_UrnOk.f (k + 1) a0) := by
 intro a0 k; have ih0 := impl_UrnOk.mono_l k; unfold impl_UrnOk.f; repeat' (with_reducible first | exact ih0 _ _ _ _ | exact mr_ | exact mn_ | refine mi_ ?_ ?_ | refine mb_ ?_ (fun _ => ?_))
theorem impl_UrnOk.calls (k : Nat) (A0 : Option Addr) (c0 : Nat) (l0 : List Int) (r : Bool) (w : World) (hr0 : Kd.C (Kd.int .i64) w A0 l0.length l0) (hc0 : l0.length ≤ c0) (h : impl_UrnOk.f k l0 = some r) :
  Calls Tryz.prog 89 #[.slice A0 l0.length c0] w fun e w' => e = .returned (.bool r) ∧ Drawn0 w w' := by
 have HR0 := A_ hr0; have HC0 := A_ hc0; clear hr0 hc0; have H : (impl_UrnOk.l0 k l0 l0 (l0.length : Int) 0) = some r := h; clear h; have H' := A_ H; clear H; go_enter Tryz.func89, Tryz.ntmps89; go_wp2
 go_loopg [7] k (fun kq v7 w' => ∃ (aa : Int), v7 = .int .i64 aa ∧ Aside0 (impl_UrnOk.l0 kq l0 l0 (l0.length : Int) aa = some r) ∧ Aside0 (kq ≤ k) ∧ Drawn0 w w')
 case atStart => exact ⟨(0), tx_, H', ⟨Nat.le_refl _⟩, dz_⟩
 case round =>
  clear H'; obtain ⟨aa, rfl, HA, HK1, ⟨m1, rfl⟩⟩ := hrel
  cases gk with
  | zero => exact absurd HA.out (by simp [impl_UrnOk.l0])
  | succ k1 =>
   have H := HA.out; clear HA; simp only [impl_UrnOk.l0] at H; replace H := it_ H; rcases H with ⟨aU, H⟩ | ⟨aU, H⟩
   ·
    replace H := in_ H; obtain ⟨a6, H⟩ := H; replace H := in_ H; obtain ⟨aH, H⟩ := H; replace H := it_ H; rcases H with ⟨aC, H⟩ | ⟨aC, H⟩
    ·
     obtain rfl := Option.some.inj H; obtain ⟨p449, q449, ad449, e449, aF⟩ := a2_ (Kd.at_int HR0.out aa); cases e449; go_wp2; go_ret; exact ⟨tx_, dz_⟩
    ·
     replace H := ig_ H; rcases H with ⟨aV, H⟩ | ⟨aV, H⟩
     ·
      obtain rfl := Option.some.inj H; obtain ⟨p449, q449, ad449, e449, aF⟩ := a2_ (Kd.at_int HR0.out aa); cases e449; go_wp2; go_ret; exact ⟨tx_, dz_⟩
     ·
      have H' := A_ H; clear H; obtain ⟨p449, q449, ad449, e449, aF⟩ := a2_ (Kd.at_int HR0.out aa); cases e449; go_wp2
      go_roundg k1
      case measure => have := HK1.out; omega
      case rel => exact ⟨(wrap64 (aa + 1)), tx_, H', ⟨by have := HK1.out; omega⟩, dz_⟩
   ·
    obtain ⟨a5, A7, H⟩ := bnd_ H; (try dsimp only at H); obtain rfl := Option.some.inj H; go_wp2_with (first | ((with_reducible refine gate_callee (f := 96) rfl ?_); refine gl_ (some 20) Tryz.func96 #[.int .i64 (l0.length : Int)] ?_; (with_reducible refine (impl_coloursOk.calls (l0.length : Int) a5 _ A7.out).mono ?_); rintro e w' ⟨rfl, ⟨nd, rfl⟩⟩; refine ⟨_, rfl, ?_⟩)); go_ret; exact ⟨tx_, dz_⟩

/-! ### impl_StartOk: function 81 -/
def impl_StartOk.l0 : Nat → List Int → List Int → Int → Int → Option (Bool)
 | 0, _, _, _, _ => none
 | k + 1, x0, x5, x6, x7 => if x7 < x6 then (if 0 ≤ x7 then (if x7 < (x5.length : Int) then (if (rd x5 x7) > 10 then (some false) else (impl_StartOk.l0 k x0 x5 x6 (wrap64 (x7 + 1)))) else (none)) else (none)) else ((impl_UrnOk.f k x0).bind fun a7 => (some a7))
def impl_StartOk.f (k : Nat) (l0 : List Int) : Option (Bool) := impl_StartOk.l0 k l0 l0 (l0.length : Int) 0
theorem impl_StartOk.mono_l : ∀ k, (∀ y0 y1 y2 y3, LeO (impl_StartOk.l0 k y0 y1 y2 y3) (impl_StartOk.l0 (k + 1) y0 y1 y2 y3))
 | 0 => fun _ _ _ _ r h => by simp [impl_StartOk.l0] at h
 | k + 1 => by
  have ih0 := impl_StartOk.mono_l k
  ·
   intro y0 y1 y2 y3
   unfold impl_StartOk.l0
   repeat' (with_reducible first | exact ih0 _ _ _ _ | exact impl_UrnOk.mono _ _ | exact mr_ | exact mn_ | refine mi_ ?_ ?_ | refine mb_ ?_ (fun _ => ?_))
theorem impl_StartOk.mono : ∀ a0 k, LeO (impl_StartOk.f k a0) (impl_StartOk.f (k + 1) a0) := by
 intro a0 k; have ih0 := impl_StartOk.mono_l k; unfold impl_StartOk.f; repeat' (with_reducible first | exact ih0 _ _ _ _ | exact impl_UrnOk.mono _ _ | exact mr_ | exact mn_ | refine mi_ ?_ ?_ | refine mb_ ?_ (fun _ => ?_))
theorem impl_StartOk.calls (k : Nat) (A0 : Option Addr) (c0 : Nat) (l0 : List Int) (r : Bool) (w : World) (hr0 : Kd.C (Kd.int .i64) w A0 l0.length l0) (hc0 : l0.length ≤ c0) (h : impl_StartOk.f k l0 = some r) :
  Calls Tryz.prog 81 #[.slice A0 l0.length c0] w fun e w' => e = .returned (.bool r) ∧ Drawn0 w w' := by
 have HR0 := A_ hr0; have HC0 := A_ hc0; clear hr0 hc0; have H : (impl_StartOk.l0 k l0 l0 (l0.length : Int) 0) = some r := h; clear h; have H' := A_ H; clear H; go_enter Tryz.func81, Tryz.ntmps81; go_wp2
 go_loopg [7] k (fun kq v7 w' => ∃ (aa : Int), v7 = .int .i64 aa ∧ Aside0 (impl_StartOk.l0 kq l0 l0 (l0.length : Int) aa = some r) ∧ Aside0 (kq ≤ k) ∧ Drawn0 w w')
 case atStart => exact ⟨(0), tx_, H', ⟨Nat.le_refl _⟩, dz_⟩
 case round =>
  clear H'; obtain ⟨aa, rfl, HA, HK1, ⟨m1, rfl⟩⟩ := hrel
  cases gk with
  | zero => exact absurd HA.out (by simp [impl_StartOk.l0])
  | succ k1 =>
   have H := HA.out; clear HA; simp only [impl_StartOk.l0] at H; replace H := it_ H; rcases H with ⟨aU, H⟩ | ⟨aU, H⟩
   ·
    replace H := in_ H; obtain ⟨a6, H⟩ := H; replace H := in_ H; obtain ⟨aH, H⟩ := H; replace H := ig_ H; rcases H with ⟨aC, H⟩ | ⟨aC, H⟩
    ·
     obtain rfl := Option.some.inj H; obtain ⟨p451, q451, ad451, e451, aY⟩ := a2_ (Kd.at_int HR0.out aa); cases e451; go_wp2; go_ret; exact ⟨tx_, dz_⟩
    ·
     have H' := A_ H; clear H; obtain ⟨p451, q451, ad451, e451, aY⟩ := a2_ (Kd.at_int HR0.out aa); cases e451; go_wp2
     go_roundg k1
     case measure => have := HK1.out; omega
     case rel => exact ⟨(wrap64 (aa + 1)), tx_, H', ⟨by have := HK1.out; omega⟩, dz_⟩
   ·
    obtain ⟨a7, A6, H⟩ := bnd_ H; (try dsimp only at H); obtain rfl := Option.some.inj H; go_wp2_with (first | ((with_reducible refine gate_callee (f := 89) rfl ?_); refine gl_ (some 15) Tryz.func89 #[.slice A0 l0.length c0] ?_; (with_reducible refine (impl_UrnOk.calls k1 _ _ l0 a7 _ ?s1 ?s2 A6.out).mono ?_); (case s1 => exact td_); (case s2 => exact HC0.out); rintro e w' ⟨rfl, ⟨nd, rfl⟩⟩; refine ⟨_, rfl, ?_⟩)); go_ret; exact ⟨tx_, dz_⟩

/-! ### impl_WordOk: function 82 -/
def impl_WordOk.l0 : Nat → Int → List Int → List Int → Int → Int → Option (Bool)
 | 0, _, _, _, _, _ => none
 | k + 1, x0, x1, x7, x8, x9 => if x9 < x8 then (if 0 ≤ x9 then (if x9 < (x7.length : Int) then (if (rd x7 x9) < 0 then (some false) else (if (rd x7 x9) ≥ x0 then (some false) else (impl_WordOk.l0 k x0 x1 x7 x8 (wrap64 (x9 + 1))))) else (none)) else (none)) else ((impl_coloursOk.f x0).bind fun a8 => (if a8 = true then (some (decide ((x1.length : Int) ≤ 6))) else (some false)))
def impl_WordOk.f (k : Nat) (a0 : Int) (l1 : List Int) : Option (Bool) := impl_WordOk.l0 k a0 l1 l1 (l1.length : Int) 0
theorem impl_WordOk.mono_l : ∀ k, (∀ y0 y1 y2 y3 y4, LeO (impl_WordOk.l0 k y0 y1 y2 y3 y4) (impl_WordOk.l0 (k + 1) y0 y1 y2 y3 y4))
 | 0 => fun _ _ _ _ _ r h => by simp [impl_WordOk.l0] at h
 | k + 1 => by
  have ih0 := impl_WordOk.mono_l k
  ·
   intro y0 y1 y2 y3 y4
   unfold impl_WordOk.l0
   repeat' (with_reducible first | exact ih0 _ _ _ _ _ | exact mr_ | exact mn_ | refine mi_ ?_ ?_ | refine mb_ ?_ (fun _ => ?_))
theorem impl_WordOk.mono : ∀ a0 a1 k, LeO (impl_WordOk.f k a0 a1) (impl_WordOk.f (k + 1) a0 a1) := by
 intro a0 a1 k; have ih0 := impl_WordOk.mono_l k; unfold impl_WordOk.f; repeat' (with_reducible first | exact ih0 _ _ _ _ _ | exact mr_ | exact mn_ | refine mi_ ?_ ?_ | refine mb_ ?_ (fun _ => ?_))
theorem impl_WordOk.calls (k : Nat) (a0 : Int) (A1 : Option Addr) (c1 : Nat) (l1 : List Int) (r : Bool) (w : World) (hr1 : Kd.C (Kd.int .i64) w A1 l1.length l1) (hc1 : l1.length ≤ c1) (h : impl_WordOk.f k a0 l1 = some r) :
  Calls Tryz.prog 82 #[.int .i64 a0, .slice A1 l1.length c1] w fun e w' => e = .returned (.bool r) ∧ Drawn0 w w' := by
 have HR1 := A_ hr1; have HC1 := A_ hc1; clear hr1 hc1; have H : (impl_WordOk.l0 k a0 l1 l1 (l1.length : Int) 0) = some r := h; clear h; have H' := A_ H; clear H; go_enter Tryz.func82, Tryz.ntmps82; go_wp2
 go_loopg [9] k (fun kq v9 w' => ∃ (am : Int), v9 = .int .i64 am ∧ Aside0 (impl_WordOk.l0 kq a0 l1 l1 (l1.length : Int) am = some r) ∧ Aside0 (kq ≤ k) ∧ Drawn0 w w')
 case atStart => exact ⟨(0), tx_, H', ⟨Nat.le_refl _⟩, dz_⟩
 case round =>
  clear H'; obtain ⟨am, rfl, HA, HK1, ⟨m1, rfl⟩⟩ := hrel
  cases gk with
  | zero => exact absurd HA.out (by simp [impl_WordOk.l0])
  | succ k1 =>
   have H := HA.out; clear HA; simp only [impl_WordOk.l0] at H; replace H := it_ H; rcases H with ⟨a6, H⟩ | ⟨a6, H⟩
   ·
    replace H := in_ H; obtain ⟨aH, H⟩ := H; replace H := in_ H; obtain ⟨aC, H⟩ := H; replace H := it_ H; rcases H with ⟨aV, H⟩ | ⟨aV, H⟩
    ·
     obtain rfl := Option.some.inj H; obtain ⟨p453, q453, ad453, e453, aG⟩ := a2_ (Kd.at_int HR1.out am); cases e453; go_wp2; go_ret; exact ⟨tx_, dz_⟩
    ·
     replace H := ih_ H; rcases H with ⟨a9, H⟩ | ⟨a9, H⟩
     ·
      obtain rfl := Option.some.inj H; obtain ⟨p453, q453, ad453, e453, aG⟩ := a2_ (Kd.at_int HR1.out am); cases e453; go_wp2; go_ret; exact ⟨tx_, dz_⟩
     ·
      have H' := A_ H; clear H; obtain ⟨p453, q453, ad453, e453, aG⟩ := a2_ (Kd.at_int HR1.out am); cases e453; go_wp2
      go_roundg k1
      case measure => have := HK1.out; omega
      case rel => exact ⟨(wrap64 (am + 1)), tx_, H', ⟨by have := HK1.out; omega⟩, dz_⟩
   ·
    obtain ⟨a8, A8, H⟩ := bnd_ H; (try dsimp only at H); by_cases c9 : a8 = true
    ·
     subst c9; replace H : (some (decide ((l1.length : Int) ≤ 6))) = some r := by rw [if_pos rfl] at H; exact H
     obtain rfl := Option.some.inj H; go_wp2_with (first | ((with_reducible refine gate_callee (f := 96) rfl ?_); refine gl_ (some 22) Tryz.func96 #[.int .i64 a0] ?_; (with_reducible refine (impl_coloursOk.calls a0 true _ A8.out).mono ?_); rintro e w' ⟨rfl, ⟨nd, rfl⟩⟩; refine ⟨_, rfl, ?_⟩)); go_ret; exact ⟨tx_, dz_⟩
    ·
     replace c9 := Bool.eq_false_iff.mpr c9; subst c9; replace H : (some false) = some r := by rw [if_neg (show ¬ (false = true) by decide)] at H; exact H
     obtain rfl := Option.some.inj H; go_wp2_with (first | ((with_reducible refine gate_callee (f := 96) rfl ?_); refine gl_ (some 22) Tryz.func96 #[.int .i64 a0] ?_; (with_reducible refine (impl_coloursOk.calls a0 false _ A8.out).mono ?_); rintro e w' ⟨rfl, ⟨nd, rfl⟩⟩; refine ⟨_, rfl, ?_⟩)); go_ret; exact ⟨tx_, dz_⟩

/-! ### slices_Clone_int_int: function 88 -/
def slices_Clone_int_int.f (l0 : List Int) : Option (List Int) := if l0.length * 8 ≤ 140737488355328 then some l0 else none
theorem slices_Clone_int_int.calls (A0 : Option Addr) (c0 : Nat) (l0 : List Int) (r : List Int) (w : World) (hr0 : Kd.C (Kd.int .i64) w A0 l0.length l0) (hc0 : l0.length ≤ c0) (h : slices_Clone_int_int.f l0 = some r) :
  Calls Tryz.prog 88 #[.slice A0 l0.length c0] w fun e w' => ∃ v0_ : Value, e = .returned (v0_) ∧ Kd.R (Kd.int .i64) 3 w' w.heap.size (fun _ => True) v0_ r ∧ Below w.heap.size w w' := by
 unfold slices_Clone_int_int.f at h; by_cases hl : l0.length * 8 ≤ 140737488355328
 ·
  rw [if_pos hl] at h; obtain rfl := Option.some.inj h; rcases Nat.eq_zero_or_pos l0.length with h0 | h0
  ·
   obtain rfl : l0 = [] := List.eq_nil_of_length_eq_zero h0
   cases A0 with
   | none => exact (Sh.Tryz.slices_Clone_int_nil 0 c0 w).mono fun e w' ⟨he, hw⟩ => ⟨.slice none 0 0, he, Kd.R_nil _ _ _ _ _, hw ▸ Below.refl _ _⟩
   | some ad => exact (Sh.Tryz.slices_Clone_int_zero ad c0 w).mono fun e w' ⟨v, he, ho, _, hb⟩ => ⟨v, he, Kd.R_of_own (xs := []) ho (fun _ _ => trivial), hb⟩
  ·
   obtain ⟨ad, rfl, hc⟩ := hr0.2.2 h0
   have hcell : ∀ j, j < l0.length → w.cell? (ad.add j) = some (.int .i64 (l0.getD j 0)) := by
    intro j hj; obtain ⟨c, hc1, hc2, hc3⟩ := hc j _ (List.getElem?_eq_getElem hj); have e1 : c = [.int .i64 l0[j]] := hc2; have := hc3 0 _ (by rw [e1]; rfl); rw [List.getD_eq_getElem?_getD, List.getElem?_eq_getElem hj]; simpa [Kd.int, Kd.scalar] using this
   have hs := hcell 0 h0
   have hsp : ad.spot = none := by
    cases hq : ad.spot with
    | none => rfl
    | some q => simp [World.cell?, Addr.add, hq] at hs; split at hs <;> simp at hs
   obtain ⟨b, o, sp⟩ := ad; simp only at hsp; subst hsp; refine (Sh.Tryz.slices_Clone_int b o l0.length c0 l0 w (Nat.le_refl _) hl (fun j hj => by have := hcell j hj; unfold Addr.add at this; split at this <;> simp_all)).mono fun e w' ⟨v, he, ho, _, hb⟩ => ⟨v, he, Kd.R_of_own (by rw [List.take_length] at ho; exact ho) (fun _ _ => trivial), hb⟩
 ·
  rw [if_neg hl] at h; exact absurd h (by simp)

/-! ### impl_added: function 109 -/
def impl_added.l0 : Nat → List Int → List Int → Int → Int → Option (List Int)
 | 0, _, _, _, _ => none
 | k + 1, x5, x10, x11, x12 => if x12 < x11 then (if 0 ≤ x12 then (if x12 < (x10.length : Int) then (if x12 < (x5.length : Int) then (impl_added.l0 k (x5.set (x12 : Int).toNat (wrap64 ((rd x5 x12) + (rd x10 x12)))) x10 x11 (wrap64 (x12 + 1))) else (none)) else (none)) else (none)) else (some x5)
def impl_added.f (k : Nat) (l0 : List Int) (l1 : List Int) : Option (List Int) := (slices_Clone_int_int.f l0).bind fun aA => (impl_added.l0 k aA l1 (l1.length : Int) 0)
theorem impl_added.mono_l : ∀ k, (∀ y0 y1 y2 y3, LeO (impl_added.l0 k y0 y1 y2 y3) (impl_added.l0 (k + 1) y0 y1 y2 y3))
 | 0 => fun _ _ _ _ r h => by simp [impl_added.l0] at h
 | k + 1 => by
  have ih0 := impl_added.mono_l k
  ·
   intro y0 y1 y2 y3
   unfold impl_added.l0
   repeat' (with_reducible first | exact ih0 _ _ _ _ | exact mr_ | exact mn_ | refine mi_ ?_ ?_ | refine mb_ ?_ (fun _ => ?_))
theorem impl_added.mono : ∀ a0 a1 k, LeO (impl_added.f k a0 a1) (impl_added.f (k + 1) a0 a1) := by
 intro a0 a1 k; have ih0 := impl_added.mono_l k; unfold impl_added.f; repeat' (with_reducible first | exact ih0 _ _ _ _ | exact mr_ | exact mn_ | refine mi_ ?_ ?_ | refine mb_ ?_ (fun _ => ?_))
theorem impl_added.z0 {P_ : Prop} (h_ : P_ := by go_wp2_with (first | ((with_reducible refine gate_dst (N := 15) rfl ?_); (try clear ix_); obtain ⟨p_, q_, ad_, e_, x0⟩ := a2_ (Kd.at_int (gC_ st (Kd.int .i64) A1 l1) ab); have ix_ := ix1_ Tryz.underlying25 e_ p_ q_ (c := c1); clear e_; go_step) | ((with_reducible refine gate_dst (N := 19) rfl ?_); (try clear ix_); obtain ⟨p_, q_, ad_, e_, x0⟩ := a2_ (Kd.at_int (gK_ st (Kd.int .i64) B9_0 aq) ab); have ix_ := ix1_ (n := aA.length) Tryz.underlying25 e_ p_ (iq_ q_ (gtl_ st)) (c := d9_0); clear e_; go_step) | ((with_reducible refine gate_dst (N := 23) rfl ?_); (try clear ix_); obtain ⟨p_, q_, ad_23, e_23, _⟩ := a2_ (Kd.at_int (gK_ st (Kd.int .i64) B9_0 aq) ab); have ix_ := ix1_ (n := aA.length) Tryz.underlying25 e_23 p_ (iq_ q_ (gtl_ st)) (c := d9_0); replace e_23 := A_ e_23; go_step) | ((with_reducible refine gate_store (p := 23) rfl ?_); obtain ⟨hx_, hz_⟩ := st.rc B9_0 aq ab 0 e_23.out (by first | exact od_ | omega | (simp only [List.length_set]; first | exact od_ | omega)) (by first | exact od_ | omega | (simp only [List.length_set]; first | exact od_ | omega)); refine pt_ B9_0 aq ab (wrap64 ((rd aq ab) + (rd l1 ab))) e_23.out st (by first | exact od_ | omega | (simp only [List.length_set]; first | exact od_ | omega)) (by first | exact od_ | omega | (simp only [List.length_set]; first | exact od_ | omega)) ?_; clear st cl hx_ hz_; intro w_ st; have cl := cl_ st)); first | (go_roundg k1; (case measure => have := HK1.out; omega); (case rel => exact ⟨((aq.set (ab : Int).toNat (wrap64 ((rd aq ab) + (rd l1 ab))))), (wrap64 (ab + 1)), tx_, H', ⟨by have := HK1.out; omega⟩, st.en⟩)) | (go_ret; exact ⟨.slice B9_0 aA.length d9_0, tw_, gtl_ st, st.b⟩)) : P_ := h_
theorem impl_added.calls (k : Nat) (A0 : Option Addr) (c0 : Nat) (l0 : List Int) (A1 : Option Addr) (c1 : Nat) (l1 : List Int) (r : List Int) (w : World) (hr0 : Kd.C (Kd.int .i64) w A0 l0.length l0) (hc0 : l0.length ≤ c0) (hr1 : Kd.C (Kd.int .i64) w A1 l1.length l1) (hc1 : l1.length ≤ c1) (h : impl_added.f k l0 l1 = some r) :
  Calls Tryz.prog 109 #[.slice A0 l0.length c0, .slice A1 l1.length c1] w fun e w' => ∃ v0_ : Value, e = .returned (v0_) ∧ Kd.R (Kd.int .i64) 3 w' w.heap.size (fun _ => True) v0_ r ∧ Below w.heap.size w w' := by
 have st := ((ST.nil w).c hr0 hc0).c hr1 hc1; have s0 := st; have cl := cl_ st; have H := h; clear h; unfold impl_added.f at H; go_enter Tryz.func109, Tryz.ntmps109; obtain ⟨aA, A_9, H⟩ := bnd_ H; have H' := A_ H; clear H; go_wp2_with (first | ((with_reducible refine gate_callee (f := 88) rfl ?_); refine ca_ (some 9) Tryz.func88 _ (slices_Clone_int_int.calls A0 c0 _ _ _ (gt_ st) (gt_ st) A_9.out) ?_; rintro e w_ ⟨v0, rfl, h0, hb⟩; refine ⟨_, rfl, ?_⟩; obtain ⟨B9_0, d9_0, rfl⟩ := Kd.R_slice h0; replace st := st.box (A := AR (Kd.int .i64) 3 w.heap.size (.slice B9_0 aA.length d9_0) aA) hb (st.mr h0); clear cl hb h0; have cl := cl_ st))
 go_loopg [12] k (fun kq bD w' => ∃ (aq : List Int) (ab : Int), bD = .int .i64 ab ∧ Aside0 (impl_added.l0 kq aq l1 (l1.length : Int) ab = some r) ∧ Aside0 (kq ≤ k) ∧ ST w [CA (Kd.int .i64) w A1 l1 c1] [AR (Kd.int .i64) 3 w.heap.size (.slice B9_0 aA.length d9_0) aq] w')
 case atStart => exact ⟨(aA), (0), tx_, H', ⟨Nat.le_refl _⟩, st.en⟩
 case round =>
  clear H' st cl; obtain ⟨aq, ab, rfl, HA, HK1, st⟩ := hrel; have cl := cl_ st
  cases gk with
  | zero => exact absurd HA.out (by simp [impl_added.l0])
  | succ k1 =>
   have H := HA.out; clear HA; simp only [impl_added.l0] at H; replace H := it_ H; rcases H with ⟨aH, H⟩ | ⟨aH, H⟩
   ·
    replace H := in_ H; obtain ⟨aC, H⟩ := H; replace H := in_ H; obtain ⟨aV, H⟩ := H; replace H := in_ H; obtain ⟨a9, H⟩ := H; have H' := A_ H; clear H; exact impl_added.z0
   ·
    obtain rfl := Option.some.inj H; exact impl_added.z0

/-! ### impl_after: function 97 -/
def impl_after.l0 : Nat → List (List Int) → List Int → List Int → Int → Int → Option (List Int)
 | 0, _, _, _, _, _ => none
 | k + 1, x1, x7, x12, x13, x14 => if x14 < x13 then (if 0 ≤ x14 then (if x14 < (x12.length : Int) then (if 0 ≤ (rd x12 x14) then (if (rd x12 x14) < (x1.length : Int) then ((impl_added.f k x7 (rd_L2 x1 (rd x12 x14))).bind fun bb => (impl_after.l0 k x1 bb x12 x13 (wrap64 (x14 + 1)))) else (none)) else (none)) else (none)) else (none)) else (some x7)
def impl_after.f (k : Nat) (l0 : List Int) (l1 : List (List Int)) (l2 : List Int) : Option (List Int) := (slices_Clone_int_int.f l0).bind fun bc => (impl_after.l0 k l1 bc l2 (l2.length : Int) 0)
theorem impl_after.mono_l : ∀ k, (∀ y0 y1 y2 y3 y4, LeO (impl_after.l0 k y0 y1 y2 y3 y4) (impl_after.l0 (k + 1) y0 y1 y2 y3 y4))
 | 0 => fun _ _ _ _ _ r h => by simp [impl_after.l0] at h
 | k + 1 => by
  have ih0 := impl_after.mono_l k
  ·
   intro y0 y1 y2 y3 y4
   unfold impl_after.l0
   repeat' (with_reducible first | exact ih0 _ _ _ _ _ | exact impl_added.mono _ _ _ | exact mr_ | exact mn_ | refine mi_ ?_ ?_ | refine mb_ ?_ (fun _ => ?_))
theorem impl_after.mono : ∀ a0 a1 a2 k, LeO (impl_after.f k a0 a1 a2) (impl_after.f (k + 1) a0 a1 a2) := by
 intro a0 a1 a2 k; have ih0 := impl_after.mono_l k; unfold impl_after.f; repeat' (with_reducible first | exact ih0 _ _ _ _ _ | exact impl_added.mono _ _ _ | exact mr_ | exact mn_ | refine mi_ ?_ ?_ | refine mb_ ?_ (fun _ => ?_))
theorem impl_after.z0 {P_ : Prop} (h_ : P_ := by go_wp2_with (first | ((with_reducible refine gate_dst (N := 16) rfl ?_); obtain ⟨p_, q_, ad_, e_, x0⟩ := a2_ (Kd.at_int (gC_ st (Kd.int .i64) A2 l2) an); have ix_ := ix1_ Tryz.underlying25 e_ p_ q_ (c := c2); clear e_; go_step) | ((with_reducible refine gate_dst (N := 21) rfl ?_); obtain ⟨p_, q_, ad_, bd, be, e_, x0, l0_, C0_⟩ := a2_ (at_L2 (gC_ s0 (Kd.slice 3 (Kd.int .i64)) A1 l1) (rd l2 an)); replace x0 := cb_ st x0; replace st := st.c C0_ l0_; have ix_ := ix1_ Tryz.underlying81 e_ p_ q_ (c := c1); clear e_; go_step) | ((with_reducible refine gate_callee (f := 109) rfl ?_); refine ca_ (some 23) Tryz.func109 _ (impl_added.calls k1 aW aX _ bd be _ _ _ (gt_ st) (gt_ st) (gt_ st) (gt_ st) A_23.out) ?_; rintro e w_ ⟨v0, rfl, h0, hb⟩; refine ⟨_, rfl, ?_⟩; obtain ⟨B23_0, d23_0, rfl⟩ := Kd.R_slice h0; replace st := st.p1 hb (st.mr h0); clear cl hb h0; have cl := cl_ st)); first | (go_roundg k1; (case measure => have := HK1.out; omega); (case rel => exact ⟨(bb), (wrap64 (an + 1)), B23_0, d23_0, tx_, tx_, H', ⟨by have := HK1.out; omega⟩, st.en⟩)) | (go_ret; exact ⟨.slice aW aa.length aX, tw_, gt_ st, st.b⟩)) : P_ := h_
theorem impl_after.calls (k : Nat) (A0 : Option Addr) (c0 : Nat) (l0 : List Int) (A1 : Option Addr) (c1 : Nat) (l1 : List (List Int)) (A2 : Option Addr) (c2 : Nat) (l2 : List Int) (r : List Int) (w : World) (hr0 : Kd.C (Kd.int .i64) w A0 l0.length l0) (hc0 : l0.length ≤ c0) (hr1 : Kd.C (Kd.slice 3 (Kd.int .i64)) w A1 l1.length l1) (hc1 : l1.length ≤ c1) (hr2 : Kd.C (Kd.int .i64) w A2 l2.length l2) (hc2 : l2.length ≤ c2) (h : impl_after.f k l0 l1 l2 = some r) :
  Calls Tryz.prog 97 #[.slice A0 l0.length c0, .slice A1 l1.length c1, .slice A2 l2.length c2] w fun e w' => ∃ v0_ : Value, e = .returned (v0_) ∧ Kd.R (Kd.int .i64) 3 w' w.heap.size (fun _ => True) v0_ r ∧ Below w.heap.size w w' := by
 have st := (((ST.nil w).c hr0 hc0).c hr1 hc1).c hr2 hc2; have s0 := st; have cl := cl_ st; have H := h; clear h; unfold impl_after.f at H; go_enter Tryz.func97, Tryz.ntmps97; obtain ⟨bc, A_11, H⟩ := bnd_ H; have H' := A_ H; clear H; go_wp2_with (first | ((with_reducible refine gate_callee (f := 88) rfl ?_); refine ca_ (some 11) Tryz.func88 _ (slices_Clone_int_int.calls A0 c0 _ _ _ (gt_ st) (gt_ st) A_11.out) ?_; rintro e w_ ⟨v0, rfl, h0, hb⟩; refine ⟨_, rfl, ?_⟩; obtain ⟨B11_0, d11_0, rfl⟩ := Kd.R_slice h0; replace st := st.p1 hb (st.mr h0); clear cl hb h0; have cl := cl_ st))
 go_loopg [7, 14] k (fun kq v7 bE w' => ∃ (aa : List Int) (an : Int) (aW : Option Addr) (aX : Nat), v7 = .slice aW aa.length aX ∧ bE = .int .i64 an ∧ Aside0 (impl_after.l0 kq l1 aa l2 (l2.length : Int) an = some r) ∧ Aside0 (kq ≤ k) ∧ ST w [CA (Kd.slice 3 (Kd.int .i64)) w A1 l1 c1, CA (Kd.int .i64) w A2 l2 c2, AR (Kd.int .i64) 3 w.heap.size (.slice aW aa.length aX) aa] [] w')
 case atStart => exact ⟨(bc), (0), B11_0, d11_0, tx_, tx_, H', ⟨Nat.le_refl _⟩, st.en⟩
 case round =>
  clear H' st cl; obtain ⟨aa, an, aW, aX, rfl, rfl, HA, HK1, st⟩ := hrel; have cl := cl_ st
  cases gk with
  | zero => exact absurd HA.out (by simp [impl_after.l0])
  | succ k1 =>
   have H := HA.out; clear HA; simp only [impl_after.l0] at H; replace H := it_ H; rcases H with ⟨aC, H⟩ | ⟨aC, H⟩
   ·
    replace H := in_ H; obtain ⟨aV, H⟩ := H; replace H := in_ H; obtain ⟨a9, H⟩ := H; replace H := in_ H; obtain ⟨bF, H⟩ := H; replace H := in_ H; obtain ⟨bG, H⟩ := H; obtain ⟨bb, A_23, H⟩ := bnd_ H; have H' := A_ H; clear H; exact impl_after.z0
   ·
    obtain rfl := Option.some.inj H; exact impl_after.z0

end Go.Proofs.YtmodbemkflkbeaaGreatDoor.MFnExactStoreOpen
