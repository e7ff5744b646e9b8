/- For the law FnDeskDo: walks of the functions that it reaches: each call returns what the plain function beside it tells. The conditions stand in each statement. -/
import Derived.Test.YtfacponjomafcaaDoorV
import Derived.Test.YtfacponjomafcaaDoorMFnDeskDox0
import Derived.Test.YtfacponjomafcaaDoorMFnDeskDox2
import Derived.Test.YtfacponjomafcaaDoorMFnDeskDox10
import Derived.Test.YtfacponjomafcaaDoorMFnDeskDox13
namespace Go.Proofs.YtfacponjomafcaaDoor.MFnDeskDo
open Go.RowKit Go.Proofs.YtfacponjomafcaaDoorW.PrintWords Go.Proofs.YtfacponjomafcaaDoorW.PrintLast Go.Proofs.YtfacponjomafcaaDoorW.PrintMore
attribute [local go_sem] max2_int min2_int max_two min_two max_three min_three max_four min_four   -- for this text's walks alone
set_option linter.unusedVariables false
set_option linter.unusedSimpArgs false
set_option maxHeartbeats 8000000
set_option maxRecDepth 100000

/-! ### spec_DrawDeskDo: function 5 -/
def spec_DrawDeskDo.f (k : Nat) (l0 : List Int) : Option (List Int × Int × List Int × (List (S25)) × Int × Int × Int) := (spec_l20Open.f l0).bind fun aN => ((spec_l20Desk.f k aN.1 aN.2 12).bind fun ar => ((spec_l20Deed.f k aN.1 ar.2.2.2.2 ar.1 ar.2.1 ar.2.2.1).bind fun aQ => (some (ar.1, ar.2.1, ar.2.2.1, ar.2.2.2.1, aQ.1, aQ.2.1, aQ.2.2.1))))
theorem spec_DrawDeskDo.mono : ∀ a0 k, LeO (spec_DrawDeskDo.f k a0) (spec_DrawDeskDo.f (k + 1) a0) := by
 intro a0 k; unfold spec_DrawDeskDo.f; repeat' (with_reducible first | exact spec_l20Deed.mono _ _ _ _ _ _ | exact spec_l20Desk.mono _ _ _ _ | exact mr_ | exact mn_ | refine mi_ ?_ ?_ | refine mb_ ?_ (fun _ => ?_))
def spec_DrawDeskDo.T3 : Bool × List (List Nat × List Nat) := (true, [([], []), ([], []), ([], []), ([2], [2]), ([1, 3], [1, 3]), ([0, 4, 0], [0]), ([4, 5, 0, 1, 2, 3, 4, 5], [4])])
def spec_DrawDeskDo.B3 : List Nat := [0, 0, 0, 4, 14, 31, 63]
theorem spec_DrawDeskDo.tab3 : rtab .any (opsOf Tryd.f5 3) = spec_DrawDeskDo.T3 := by kernel_rfl
theorem spec_DrawDeskDo.bits3 : waitsOk spec_DrawDeskDo.T3.2 spec_DrawDeskDo.B3 = true := by kernel_rfl
theorem spec_DrawDeskDo.calls (k : Nat) (A0 : Option Addr) (c0 : Nat) (l0 : List Int) (r1 : List Int) (r2 : Int) (r3 : List Int) (r4 : List (S25)) (r5 : Int) (r6 : Int) (r7 : Int) (w : World) (hr0 : Kd.C (Kd.int .u8) w A0 l0.length l0) (hc0 : l0.length ≤ c0) (h : spec_DrawDeskDo.f k l0 = some (r1, r2, r3, r4, r5, r6, r7)) :
  Calls Tryd.prog 5 #[.slice A0 l0.length c0] w fun e w' => ∃ v0_ v2_ v3_ : Value, e = .returned (.tuple #[.agg #[v0_, .int .i64 r2, v2_, v3_], .agg #[.int .i64 r5, .int .i64 r6, .int .i64 r7]]) ∧ Kd.R (Kd.int .i64) 3 w' w.heap.size (fun _ => True) v0_ r1 ∧ Kd.R (Kd.int .i64) 3 w' w.heap.size (fun _ => True) v2_ r3 ∧ Kd.Q k25 25 w' w.heap.size (fun _ => True) v3_ r4 ∧ Below w.heap.size w w' := by
 have hu28 := Tryd.underlying28; have hu30 := Tryd.underlying30; have hu25 := Tryd.underlying25; have HR0 := A_ hr0; have HC0 := A_ hc0; clear hr0 hc0; have HB := A_ (Below.refl w.heap.size w); have H : ((spec_l20Open.f l0).bind fun aN => ((spec_l20Desk.f k aN.1 aN.2 12).bind fun ar => ((spec_l20Deed.f k aN.1 ar.2.2.2.2 ar.1 ar.2.1 ar.2.2.1).bind fun aQ => (some (ar.1, ar.2.1, ar.2.2.1, ar.2.2.2.1, aQ.1, aQ.2.1, aQ.2.2.1))))) = some (r1, r2, r3, r4, r5, r6, r7) := h; clear h; obtain ⟨⟨aY, bs⟩, A2, H⟩ := bnd_ H; (try dsimp only at H); obtain ⟨⟨al, av, aw, aA, a2⟩, A3, H⟩ := bnd_ H; (try dsimp only at H); obtain ⟨⟨a7, a8, a9, cm⟩, A4, H⟩ := bnd_ H; (try dsimp only at H); simp only [Option.some.injEq, Prod.mk.injEq] at H; obtain ⟨rfl, rfl, rfl, rfl, rfl, rfl, rfl⟩ := H; go_enter Tryd.func5, Tryd.ntmps5; (try go_wp2_with (first | ((with_reducible refine gate_dst (N := 2) rfl ?_); refine be_ 2 #[.slice none 0 0, .int .i64 0, .slice none 0 0, .slice none 0 0] 28 ?_; intro ae hg w5 af hb; have cv := gx_ HB hg; have cw := gx_ HB hg; replace HB := bs_ HB hb; clear hb hg) | ((with_reducible refine gate_dst (N := 3) rfl ?_); refine be_ 3 #[.int .i64 0, .int .i64 0, .int .i64 0] 30 ?_; intro ah hg w6 ai hb; have cx := gx_ HB hg; have cy := gx_ HB hg; replace HB := bs_ HB hb; have aj := nl_ af hg; have ap := ng_ af hg; replace af := bb_ af hb; clear hb hg) | ((with_reducible refine gate_callee (f := 19) rfl ?_); refine gl_ (some 7) Tryd.func19 #[.slice A0 l0.length c0] ?_; (with_reducible refine (spec_l20Open.calls _ _ l0 aY bs w _ ?s1 ?s2 ?s3 A2.out).mono ?_); (case s1 => exact tb_ HB.out); (case s2 => exact HR0.out); (case s3 => exact HC0.out); rintro e w7 ⟨g453, rfl, hi, hb, hb2⟩; refine ⟨_, rfl, ?_⟩; replace HB := A_ (hb); have HI453 := A_ (hi); have bq := A_ (IsS69.ne_blk hi (blk_below (g := ae) (o := .cells #[.slice none 0 0, .int .i64 0, .slice none 0 0, .slice none 0 0] 28 (0, 0)) (tk_ af.out) hb2) (by decide)); have aV := A_ (Ne.symm (IsS69.ne_blk hi (blk_below (g := ae) (o := .cells #[.slice none 0 0, .int .i64 0, .slice none 0 0, .slice none 0 0] 28 (0, 0)) (tk_ af.out) hb2) (by decide))); replace af := A_ (blk_below (g := ae) (o := .cells #[.slice none 0 0, .int .i64 0, .slice none 0 0, .slice none 0 0] 28 (0, 0)) (tk_ af.out) hb2); have br := A_ (IsS69.ne_blk hi (blk_below (g := ah) (o := .cells #[.int .i64 0, .int .i64 0, .int .i64 0] 30 (0, 0)) (tk_ ai.out) hb2) (by decide)); have aW := A_ (Ne.symm (IsS69.ne_blk hi (blk_below (g := ah) (o := .cells #[.int .i64 0, .int .i64 0, .int .i64 0] 30 (0, 0)) (tk_ ai.out) hb2) (by decide))); replace ai := A_ (blk_below (g := ah) (o := .cells #[.int .i64 0, .int .i64 0, .int .i64 0] 30 (0, 0)) (tk_ ai.out) hb2); (try clear hb hb2 hi)) | ((with_reducible refine gate_callee (f := 20) rfl ?_); refine gl_ (some 9) Tryd.func20 #[.pointer (some ⟨g453, 0, none⟩), .int .i64 12] ?_; (with_reducible refine (spec_l20Desk.calls k g453 aY bs 12 al av aw aA a2 w _ ?s1 ?s2 A3.out).mono ?_); (case s1 => exact ti69_ HI453.out); (case s2 => exact tu69_ HB.out); rintro e w8 ⟨cQ, cR, cS, rfl, ho0, ho1, ho2, hi, hb, hk⟩; refine ⟨_, rfl, ?_⟩; replace af := kb_ af hk aV; replace ai := kb_ ai hk aW; have ax := A_ (Kd.R_lower ho0 (below_size (tu69_ HB.out))); have ay := A_ (Kd.R_lower ho1 (below_size (tu69_ HB.out))); have aG := A_ (Kd.Q_lower ho2 (below_size (tu69_ HB.out))); replace HB := A_ (hb); replace HI453 := A_ (hi); (try clear hb hb2 hk hi ho0 ho1 ho2)) | ((with_reducible refine gate_dst (N := 5) rfl ?_); refine be_ 5 #[.slice none 0 0, .int .i64 0, .slice none 0 0, .slice none 0 0] 28 ?_; intro aa hg w9 am hb; replace ax := rb_ ax hb; replace ay := rb_ ay hb; replace aG := A_ (Kd.Q_below (rQ_ aG.out) hb); have cz := A_ ((by rw [hg]; exact (below_size (tu69_ HB.out)) : w.heap.size ≤ aa)); have cA := A_ ((by rw [hg]; exact (below_size (tu69_ HB.out)) : w.heap.size ≤ aa)); replace HB := tu69_s HB hb; have aC := nl_ af hg; have ab := ng_ af hg; replace af := bb_ af hb; have aI := nl_ ai hg; have ac := ng_ ai hg; replace ai := bb_ ai hb; have a5 := A_ ((by rw [hg]; exact Nat.ne_of_lt (IsS69.lt (ti69_ HI453.out : IsS69 w _ g453 aY a2)) : g453 ≠ aa)); have aX := A_ ((by rw [hg]; exact Nat.ne_of_gt (IsS69.lt (ti69_ HI453.out : IsS69 w _ g453 aY a2)) : aa ≠ g453)); replace HI453 := ti69_b HI453 hb; clear hb hg; obtain ⟨aq, an, bm⟩ := Kd.R_slice ax.out; subst bm; have cB := ab.out; have cC := aC.out; have cD := ac.out; have cE := aI.out; have cF := aX.out; have cG := a5.out; obtain ⟨bJ, bK, bL, bM, bN, bO, bP, bQ⟩ := cf4_ am; obtain ⟨az, ao, bh⟩ := Kd.R_slice ay.out; subst bh; obtain ⟨aD, aE, cn, _⟩ := Kd.Q_slice aG.out; subst cn))); have n0_ : Aside0 (Kd.R (Kd.int .i64) 3 ((((w9.setCell ⟨aa, 0, none⟩ (.slice aq al.length an)).setCell ⟨aa, 1, none⟩ (.int .i64 av)).setCell ⟨aa, 2, none⟩ (.slice az aw.length ao)).setCell ⟨aa, 3, none⟩ (.slice aD aA.length aE)) w.heap.size (fun _ => True) (.slice aq al.length an) al) := ⟨Kd.R_mono (xR_ ax am) (fun _ hk => trivial)⟩
 have n1_ : Aside0 (Kd.R (Kd.int .i64) 3 ((((w9.setCell ⟨aa, 0, none⟩ (.slice aq al.length an)).setCell ⟨aa, 1, none⟩ (.int .i64 av)).setCell ⟨aa, 2, none⟩ (.slice az aw.length ao)).setCell ⟨aa, 3, none⟩ (.slice aD aA.length aE)) w.heap.size (fun _ => True) (.slice az aw.length ao) aw) := ⟨Kd.R_mono (xR_ ay am) (fun _ hk => trivial)⟩
 have n2_ : Aside0 (Kd.Q k25 25 ((((w9.setCell ⟨aa, 0, none⟩ (.slice aq al.length an)).setCell ⟨aa, 1, none⟩ (.int .i64 av)).setCell ⟨aa, 2, none⟩ (.slice az aw.length ao)).setCell ⟨aa, 3, none⟩ (.slice aD aA.length aE)) w.heap.size (fun _ => True) (.slice aD aA.length aE) aA) := ⟨Kd.Q_mono (xQ_ aG am) (fun _ hk => trivial)⟩
 have n3_ : Aside0 (((((w9.setCell ⟨aa, 0, none⟩ (.slice aq al.length an)).setCell ⟨aa, 1, none⟩ (.int .i64 av)).setCell ⟨aa, 2, none⟩ (.slice az aw.length ao)).setCell ⟨aa, 3, none⟩ (.slice aD aA.length aE)).heap[ae]? = some (.cells #[.slice none 0 0, .int .i64 0, .slice none 0 0, .slice none 0 0] 28 (0, 0))) := ⟨tk_ af.out⟩
 have n4_ : Aside0 (((((w9.setCell ⟨aa, 0, none⟩ (.slice aq al.length an)).setCell ⟨aa, 1, none⟩ (.int .i64 av)).setCell ⟨aa, 2, none⟩ (.slice az aw.length ao)).setCell ⟨aa, 3, none⟩ (.slice aD aA.length aE)).heap[ah]? = some (.cells #[.int .i64 0, .int .i64 0, .int .i64 0] 30 (0, 0))) := ⟨tk_ ai.out⟩
 have n5_ : Aside0 (((((w9.setCell ⟨aa, 0, none⟩ (.slice aq al.length an)).setCell ⟨aa, 1, none⟩ (.int .i64 av)).setCell ⟨aa, 2, none⟩ (.slice az aw.length ao)).setCell ⟨aa, 3, none⟩ (.slice aD aA.length aE)).heap[aa]? = some (.cells #[.slice aq al.length an, .int .i64 av, .slice az aw.length ao, .slice aD aA.length aE] 28 (0, 0))) := ⟨by refine bq_ ?_; refine blk_put (cs := #[.slice aq al.length an, .int .i64 av, .slice az aw.length ao, .slice none 0 0]) ?_ 3 _ rfl; refine bq_ ?_; refine blk_put (cs := #[.slice aq al.length an, .int .i64 av, .slice none 0 0, .slice none 0 0]) ?_ 2 _ rfl; refine bq_ ?_; refine blk_put (cs := #[.slice aq al.length an, .int .i64 0, .slice none 0 0, .slice none 0 0]) ?_ 1 _ rfl; refine bq_ ?_; refine blk_put (cs := #[.slice none 0 0, .int .i64 0, .slice none 0 0, .slice none 0 0]) ?_ 0 _ rfl; exact tk_ am.out⟩
 have n6_ : Aside0 (IsS69 w ((((w9.setCell ⟨aa, 0, none⟩ (.slice aq al.length an)).setCell ⟨aa, 1, none⟩ (.int .i64 av)).setCell ⟨aa, 2, none⟩ (.slice az aw.length ao)).setCell ⟨aa, 3, none⟩ (.slice aD aA.length aE)) g453 aY a2) := ⟨ti69_ HI453.out⟩
 have n7_ : Aside0 (Below w.heap.size w ((((w9.setCell ⟨aa, 0, none⟩ (.slice aq al.length an)).setCell ⟨aa, 1, none⟩ (.int .i64 av)).setCell ⟨aa, 2, none⟩ (.slice az aw.length ao)).setCell ⟨aa, 3, none⟩ (.slice aD aA.length aE))) := ⟨tu69_ HB.out⟩
 (try clear ax); (try clear ay); (try clear aG); (try clear af); (try clear ai); (try clear am); (try clear HI453); (try clear HB); generalize ((((w9.setCell ⟨aa, 0, none⟩ (.slice aq al.length an)).setCell ⟨aa, 1, none⟩ (.int .i64 av)).setCell ⟨aa, 2, none⟩ (.slice az aw.length ao)).setCell ⟨aa, 3, none⟩ (.slice aD aA.length aE)) = bR at n0_ n1_ n2_ n3_ n4_ n5_ n6_ n7_ ⊢; have ax := n0_; have ay := n1_; have aG := n2_; have af := n3_; have ai := n4_; have am := n5_; have HI453 := n6_; have HB := n7_; clear n0_ n1_ n2_ n3_ n4_ n5_ n6_ n7_; replace ax := rd_ ax; replace ay := rd_ ay; replace aG := A_ (Kd.Q_drew aG.out); replace af := dB_ af; replace ai := dB_ ai; replace am := dB_ am; replace HI453 := A_ (IsS69.drew HI453.out); replace HB := A_ (ld_ HB.out); refine sv_ (S := fun w' => w'.cell? ⟨aa, 0, none⟩ = some (.slice aq al.length an) ∧ w'.cell? ⟨aa, 1, none⟩ = some (.int .i64 av) ∧ w'.cell? ⟨aa, 2, none⟩ = some (.slice az aw.length ao) ∧ w'.cell? ⟨aa, 3, none⟩ = some (.slice aD aA.length aE)) (ds := []) hh_ (fun hHeld => ?_); generalize bR.drew = db at ax ay aG af ai am HI453 HB hHeld ⊢; refine pure_ (i := 1) (N := some 11) (v := ?_) (a' := ?_) #[false, true, false, false, false, false, false] rfl rfl (by kernel_rfl) (fun _ _ _ h => h) (Or.inl ⟨by rfl, ?_⟩) ?_ ?_; rotate_left
 ·
  intro w'; go_simp; first | with_reducible rfl | (rw [if_neg (by omega)]; done)
 rotate_left
 ·
  simp only [Act.put, sa_, sb_, sc_, i64_w, i32_w]; rfl
 refine pure_ (i := 2) (N := some 12) (v := ?_) (a' := ?_) #[false, true, true, false, false, false, false] rfl rfl (by kernel_rfl) (fun _ _ _ h => h) (Or.inl ⟨by rfl, ?_⟩) ?_ ?_; rotate_left
 ·
  intro w'; go_simp; first | with_reducible rfl | (rw [if_neg (by omega)]; done)
 rotate_left
 ·
  simp only [Act.put, sa_, sb_, sc_, i64_w, i32_w]; rfl
 refine take_ (i := 0) (N := some 10) (v := ?_) (a' := ?_) #[true, true, true, false, false, false, false] rfl rfl (by kernel_rfl) (fun _ _ _ h => h) (Or.inl ⟨by rfl, ?_⟩) hHeld ?_ ?_; rotate_left
 ·
  rintro w' ⟨s0, s1, s2, s3⟩; go_simp; first | with_reducible rfl | (rw [if_neg (by omega)]; done)
 rotate_left
 ·
  simp only [Act.put, sa_, sb_, sc_, i64_w, i32_w]; rfl
 refine take_ (i := 3) (N := some 13) (v := ?_) (a' := ?_) #[true, true, true, true, false, false, false] rfl rfl (by kernel_rfl) (fun _ _ _ h => h) (Or.inl ⟨by rfl, ?_⟩) hHeld ?_ ?_; rotate_left
 ·
  rintro w' ⟨s0, s1, s2, s3⟩; go_simp; first | with_reducible rfl | (rw [if_neg (by omega)]; done)
 rotate_left
 ·
  simp only [Act.put, sa_, sb_, sc_, i64_w, i32_w]; rfl
 refine one_ (i := 4) (N := some 14) #[true, true, true, true, true, false, false] rfl rfl (by kernel_rfl) (by decide) (fun K hK => ?_); refine goes_ Tryd.func21 (by kernel_rfl) rfl #[.pointer (some ⟨g453, 0, none⟩), .agg #[.slice aq al.length an, .int .i64 av, .slice az aw.length ao]] (by rfl) rfl rfl tz_ ?_; (with_reducible refine (spec_l20Deed.calls k g453 aY a2 _ _ al av _ _ aw a7 a8 a9 cm w _ ?s1 ?s2 ?s3 ?s4 ?s5 ?s6 ?s7 ?s8 A4.out).mono ?_); (case s1 => exact ti69_ HI453.out); (case s2 => exact tu69_ HB.out); (case s3 => exact rc_ ax); (case s4 => exact (ll_ ax)); (case s5 => exact far_slice (IsS69.own_ne HI453.out ax.out (by decide))); (case s6 => exact rc_ ay); (case s7 => exact (ll_ ay)); (case s8 => exact far_slice (IsS69.own_ne HI453.out ay.out (by decide))); rintro e bn ⟨rfl, hi, hb, hk⟩; refine ⟨_, rfl, ?_⟩; replace af := kb_ af hk aV; replace ai := kb_ ai hk aW; replace ax := A_ (Kd.R_mono (Kd.R_keep (IsS69.apart (ti69_ HI453.out : IsS69 w _ g453 aY a2) (rR_ ax.out) (by decide)) hk (fun _ h => h.2)) (fun _ h => h.1)); replace ay := A_ (Kd.R_mono (Kd.R_keep (IsS69.apart (ti69_ HI453.out : IsS69 w _ g453 aY a2) (rR_ ay.out) (by decide)) hk (fun _ h => h.2)) (fun _ h => h.1)); replace aG := A_ (Kd.Q_mono (Kd.Q_keep (IsS69.apartQ (ti69_ HI453.out : IsS69 w _ g453 aY a2) (rQ_ aG.out) (by decide)) hk (fun _ h => h.2)) (fun _ h => h.1)); replace am := kb_ am hk aX; replace HB := A_ (hb); replace HI453 := A_ (hi); (try clear hb); (try clear hb2); (try clear hk); (try clear hi); refine hK.out _ _ hh_ (fun hHeld => ?_); clear hK K; refine nr_ 14 ?_; refine one_ (i := 5) (N := none) #[true, true, true, true, true, true, false] rfl rfl (by kernel_rfl) (by decide) (fun K hK => ?_); have hs20 : bn.cell? ⟨ae, 0, none⟩ = some (.slice none 0 0) := (blk_cell af.out 0).trans rfl; have hfs20 := blk_frozen af.out 0; have bS := ap.out; have bU := ab.out; have bV := aj.out; have bW := aC.out; have hs21 : bn.cell? ⟨ae, 1, none⟩ = some (.int .i64 0) := (blk_cell af.out 1).trans rfl; have hfs21 := blk_frozen af.out 1; have bX := ap.out; have bZ := ab.out; have b0 := aj.out; have b1 := aC.out; have hs22 : bn.cell? ⟨ae, 2, none⟩ = some (.slice none 0 0) := (blk_cell af.out 2).trans rfl; have hfs22 := blk_frozen af.out 2; have b2 := ap.out; have b3 := ab.out; have b4 := aj.out; have b5 := aC.out; have hs23 : bn.cell? ⟨ae, 3, none⟩ = some (.slice none 0 0) := (blk_cell af.out 3).trans rfl; have hfs23 := blk_frozen af.out 3; have b6 := ap.out; have b7 := ab.out; have b8 := aj.out; have b9 := aC.out; refine sk_ rfl ?_; refine hK.out _ _ ⟨((c4_ ab.out hHeld.1)), ((c4_ ab.out hHeld.2.1)), ((c4_ ab.out hHeld.2.2.1)), ((c4_ ab.out hHeld.2.2.2))⟩ (fun hHeld => ?_); clear hK K; refine one_ (i := 6) (N := none) #[true, true, true, true, true, true, true] rfl rfl (by kernel_rfl) (by decide) (fun K hK => ?_); have hs24 : bn.cell? ⟨ah, 0, none⟩ = some (.int .i64 0) := (blk_cell ai.out 0).trans rfl; have hfs24 := blk_frozen ai.out 0; have ca := aj.out; have cb := ac.out; have cc := ap.out; have cd := aI.out; have hs25 : bn.cell? ⟨ah, 1, none⟩ = some (.int .i64 0) := (blk_cell ai.out 1).trans rfl; have hfs25 := blk_frozen ai.out 1; have ce := aj.out; have cf := ac.out; have cg := ap.out; have ch := aI.out; have hs26 : bn.cell? ⟨ah, 2, none⟩ = some (.int .i64 0) := (blk_cell ai.out 2).trans rfl; have hfs26 := blk_frozen ai.out 2; have ci := aj.out; have cj := ac.out; have ck := ap.out; have cl := aI.out; refine sk_ rfl ?_; refine hK.out _ _ ⟨((c3_ ac.out hHeld.1)), ((c3_ ac.out hHeld.2.1)), ((c3_ ac.out hHeld.2.2.1)), ((c3_ ac.out hHeld.2.2.2))⟩ (fun hHeld => ?_); clear hK K; refine done_ (by kernel_rfl) ?_; (try go_wp2); refine bodyPost_ret (results_cc rfl _ _ ae ah 28 30 #[.slice aq al.length an, .int .i64 av, .slice az aw.length ao, .slice aD aA.length aE] #[.int .i64 a7, .int .i64 a8, .int .i64 a9] (0, 0) (0, 0) _ _ rfl (by refine bq_ ?_; refine blk_far ?_ aj.out _; refine bq_ ?_; refine blk_far ?_ aj.out _; refine bq_ ?_; refine blk_far ?_ aj.out _; refine bq_ ?_; refine blk_put (cs := #[.slice aq al.length an, .int .i64 av, .slice az aw.length ao, .slice none 0 0]) ?_ 3 _ rfl; refine bq_ ?_; refine blk_put (cs := #[.slice aq al.length an, .int .i64 av, .slice none 0 0, .slice none 0 0]) ?_ 2 _ rfl; refine bq_ ?_; refine blk_put (cs := #[.slice aq al.length an, .int .i64 0, .slice none 0 0, .slice none 0 0]) ?_ 1 _ rfl; refine bq_ ?_; refine blk_put (cs := #[.slice none 0 0, .int .i64 0, .slice none 0 0, .slice none 0 0]) ?_ 0 _ rfl; exact tk_ af.out) Tryd.underlying28 rfl (by kernel_rfl) rfl (ps_ ai.out) Tryd.underlying30 rfl (by kernel_rfl)) rfl ?_; exact ⟨_, _, _, tw_, Kd.R_mono (zR_ ax af ai) (fun _ hk => trivial), Kd.R_mono (zR_ ay af ai) (fun _ hk => trivial), Kd.Q_mono (zQ_ aG af ai) (fun _ hk => trivial), tu69_ HB.out⟩

/-! ### impl_coloursOk: function 34 -/
def impl_coloursOk.f (a0 : Int) : Option (Bool) := if a0 ≥ 1 then (some (decide (a0 ≤ 3))) else (some false)
theorem impl_coloursOk.calls (a0 : Int) (r : Bool) (w : World) (h : impl_coloursOk.f a0 = some r) :
  Calls Tryd.prog 34 #[.int .i64 a0] w fun e w' => e = .returned (.bool r) ∧ Drawn0 w w' := by
 have H : (if a0 ≥ 1 then (some (decide (a0 ≤ 3))) else (some false)) = some r := h; clear h; replace H := ih_ H; rcases H with ⟨co, H⟩ | ⟨co, H⟩
 ·
  obtain rfl := Option.some.inj H; go_enter Tryd.func34, Tryd.ntmps34; go_wp2; go_ret; exact ⟨tx_, dz_⟩
 ·
  obtain rfl := Option.some.inj H; go_enter Tryd.func34, Tryd.ntmps34; go_wp2; go_ret; exact ⟨tx_, dz_⟩

/-! ### impl_SameRule: function 11 -/
mutual
def impl_SameRule.j0 : Nat → Int → Int → Bool → Option ((List (List Int)))
 | 0, _, _, _ => none
 | k + 1, x0, x1, x18 => if x18 = true then (some ([] : List (List Int))) else (impl_SameRule.l0 k x0 x1 (([] : List (List Int))) x0 0)
def impl_SameRule.l0 : Nat → Int → Int → List (List Int) → Int → Int → Option ((List (List Int)))
 | 0, _, _, _, _, _ => none
 | k + 1, x0, x1, x5, x20, x21 => if x21 < x20 then (if 0 ≤ x0 then (if (x0 : Int).toNat ≤ 35184372088832 then ((some (List.replicate (x0 : Int).toNat 0 : List Int)).bind fun aJ => (if 0 ≤ x21 then (if x21 < (aJ.length : Int) then (if x5.length < 5864062014805 then (impl_SameRule.l0 k x0 x1 (x5 ++ [(aJ.set (x21 : Int).toNat x1)]) x20 (wrap64 (x21 + 1))) else (none)) else (none)) else (none))) else (none)) else (none)) else (some x5)
end
def impl_SameRule.f (k : Nat) (a0 : Int) (a1 : Int) : Option ((List (List Int))) := (impl_coloursOk.f a0).bind fun bb => (if bb = true then (if a1 < (-1) then (impl_SameRule.j0 k a0 a1 true) else (impl_SameRule.j0 k a0 a1 (decide (a1 > 3)))) else (impl_SameRule.j0 k a0 a1 true))
theorem impl_SameRule.mono_l : ∀ k, (∀ y0 y1 y2, LeO (impl_SameRule.j0 k y0 y1 y2) (impl_SameRule.j0 (k + 1) y0 y1 y2)) ∧ (∀ y0 y1 y2 y3 y4, LeO (impl_SameRule.l0 k y0 y1 y2 y3 y4) (impl_SameRule.l0 (k + 1) y0 y1 y2 y3 y4))
 | 0 => ⟨fun _ _ _ r h => by simp [impl_SameRule.j0] at h, fun _ _ _ _ _ r h => by simp [impl_SameRule.l0] at h⟩
 | k + 1 => by
  obtain ⟨ih0, ih1⟩ := impl_SameRule.mono_l k
  refine ⟨?_, ?_⟩
  ·
   intro y0 y1 y2
   unfold impl_SameRule.j0
   repeat' (with_reducible first | exact ih0 _ _ _ | exact ih1 _ _ _ _ _ | exact mr_ | exact mn_ | refine mi_ ?_ ?_ | refine mb_ ?_ (fun _ => ?_))
  ·
   intro y0 y1 y2 y3 y4
   unfold impl_SameRule.l0
   repeat' (with_reducible first | exact ih0 _ _ _ | exact ih1 _ _ _ _ _ | exact mr_ | exact mn_ | refine mi_ ?_ ?_ | refine mb_ ?_ (fun _ => ?_))
theorem impl_SameRule.mono : ∀ a0 a1 k, LeO (impl_SameRule.f k a0 a1) (impl_SameRule.f (k + 1) a0 a1) := by
 intro a0 a1 k; obtain ⟨ih0, ih1⟩ := impl_SameRule.mono_l k; unfold impl_SameRule.f; repeat' (with_reducible first | exact ih0 _ _ _ | exact ih1 _ _ _ _ _ | exact mr_ | exact mn_ | refine mi_ ?_ ?_ | refine mb_ ?_ (fun _ => ?_))
theorem impl_SameRule.calls (k : Nat) (a0 : Int) (a1 : Int) (r : List (List Int)) (w : World) (h : impl_SameRule.f k a0 a1 = some r) :
  Calls Tryd.prog 11 #[.int .i64 a0, .int .i64 a1] w fun e w' => ∃ v0_ : Value, e = .returned (v0_) ∧ Kd.S (Kd.slice 3 (Kd.int .i64)) 23 w' w.heap.size (fun _ => True) v0_ r ∧ Below w.heap.size w w' := by
 have HB := A_ (Below.refl w.heap.size w); have H : ((impl_coloursOk.f a0).bind fun bb => (if bb = true then (if a1 < (-1) then (impl_SameRule.j0 k a0 a1 true) else (impl_SameRule.j0 k a0 a1 (decide (a1 > 3)))) else (impl_SameRule.j0 k a0 a1 true))) = some r := h; clear h; have HC3 := A_ H; clear H; go_enter Tryd.func11, Tryd.ntmps11
 go_upto_region 1 with (fail)
 go_cut [18] (fun cT wc => ∃ (kq : Nat) (a3 : Bool), cT = .bool a3 ∧ Aside0 (impl_SameRule.j0 kq a0 a1 a3 = some r) ∧ Aside0 (kq ≤ k) ∧ Aside0 (Below w.heap.size w wc))
 case first =>
  have H := HC3.out; clear HC3; obtain ⟨bb, A4, H⟩ := bnd_ H; (try dsimp only at H); by_cases c5 : bb = true
  ·
   subst c5; replace H : (if a1 < (-1) then (impl_SameRule.j0 k a0 a1 true) else (impl_SameRule.j0 k a0 a1 (decide (a1 > 3)))) = some r := by rw [if_pos rfl] at H; exact H
   replace H := it_ H; rcases H with ⟨aR, H⟩ | ⟨aR, H⟩
   ·
    (first | rw [aR] | (simp only [i64_w, i32_w]; rw [aR]) | skip); have H' := A_ H; clear H; go_wp2_with (first | ((with_reducible refine gate_callee (f := 34) rfl ?_); refine gl_ (some 9) Tryd.func34 #[.int .i64 a0] ?_; (with_reducible refine (impl_coloursOk.calls a0 true _ A4.out).mono ?_); rintro e w' ⟨rfl, ⟨nd, rfl⟩⟩; refine ⟨_, rfl, ?_⟩)); go_meet
    case rel => exact ⟨_, (true), tx_, H', ⟨by first | omega | exact Nat.le_refl _⟩, ⟨(tb_ HB.out)⟩⟩
   ·
    (first | rw [aR] | (simp only [i64_w, i32_w]; rw [aR]) | skip); have H' := A_ H; clear H; go_wp2_with (first | ((with_reducible refine gate_callee (f := 34) rfl ?_); refine gl_ (some 9) Tryd.func34 #[.int .i64 a0] ?_; (with_reducible refine (impl_coloursOk.calls a0 true _ A4.out).mono ?_); rintro e w' ⟨rfl, ⟨nd, rfl⟩⟩; refine ⟨_, rfl, ?_⟩)); go_meet
    case rel => exact ⟨_, (decide (a1 > 3)), tx_, H', ⟨by first | omega | exact Nat.le_refl _⟩, ⟨(tb_ HB.out)⟩⟩
  ·
   replace c5 := Bool.eq_false_iff.mpr c5; subst c5; replace H : (impl_SameRule.j0 k a0 a1 true) = some r := by rw [if_neg (show ¬ (false = true) by decide)] at H; exact H
   have H' := A_ H; clear H; go_wp2_with (first | ((with_reducible refine gate_callee (f := 34) rfl ?_); refine gl_ (some 9) Tryd.func34 #[.int .i64 a0] ?_; (with_reducible refine (impl_coloursOk.calls a0 false _ A4.out).mono ?_); rintro e w' ⟨rfl, ⟨nd, rfl⟩⟩; refine ⟨_, rfl, ?_⟩)); go_meet
   case rel => exact ⟨_, (true), tx_, H', ⟨by first | omega | exact Nat.le_refl _⟩, ⟨(tb_ HB.out)⟩⟩
 case rest =>
  clear HC3; obtain ⟨kq, a3, rfl, HA, HJ2, HB⟩ := hcut
  cases kq with
  | zero => exact absurd HA.out (by simp [impl_SameRule.j0])
  | succ kj2 =>
   have H := HA.out; clear HA; simp only [impl_SameRule.j0] at H; by_cases c7 : a3 = true
   ·
    subst c7; replace H : (some ([] : List (List Int))) = some r := by rw [if_pos rfl] at H; exact H
    obtain rfl := Option.some.inj H; go_wp2; go_ret; exact ⟨_, tw_, by first | exact Kd.S_nil _ _ _ _ _ | exact Kd.N_nil _ _ _ _ _ | exact Kd.V_nil _ _ _ _ _ | exact Kd.Q_nil _ _ _ _ _ | exact Kd.R_nil _ _ _ _ _, (tb_ HB.out)⟩
   ·
    replace c7 := Bool.eq_false_iff.mpr c7; subst c7; replace H : (impl_SameRule.l0 kj2 a0 a1 (([] : List (List Int))) a0 0) = some r := by rw [if_neg (show ¬ (false = true) by decide)] at H; exact H
    obtain ⟨bu, bc⟩ : ∃ y_ : List (List Int), y_ = (([] : List (List Int))) := ⟨_, rfl⟩
    replace H : (impl_SameRule.l0 kj2 a0 a1 bu a0 0) = some r := yq_ bc H; have bk := A_ bc; clear bc; have H' := A_ H; clear H; go_wp2_with (first | ((with_reducible refine gate_dst (N := 19) rfl ?_); refine Kd.S_lit (Kd.slice 3 (Kd.int .i64)) _ 23 ?hg (N := 19) ?hd (xs := ([] : List (List Int))) (inner := []) (ok := fun _ => True) (okp := fun _ => True) ?hr ?hp (fun _ hk => hk) trivial (Below.refl _ _) (Nat.le_refl _) (by simp) ?_; (case hd => rfl); (case hg => rfl); (case hr => first | (go_simp; done) | (go_simp; rfl)); (case hp => exact (Reps.none _ _)); intro cU w8 ho9 hb hg_ hnew_; clear hg_ hnew_; (first | rw [← bk.out] at ho9 | (simp only [Int.reduceToNat] at ho9; rw [← bk.out] at ho9)); have bv := A_ (Kd.S_lower ho9 (below_size (tb_ HB.out))); replace HB := bs_ HB hb; clear hb ho9))
    go_loopg [5, 21] kj2 (fun kq v5 cV w' => ∃ (aU : List (List Int)) (ak : Int), cV = .int .i64 ak ∧ Aside0 (impl_SameRule.l0 kq a0 a1 aU a0 ak = some r) ∧ Aside0 (kq ≤ kj2) ∧ Aside0 (Kd.S (Kd.slice 3 (Kd.int .i64)) 23 w' w.heap.size (fun _ => True) v5 aU) ∧ Aside0 (Below w.heap.size w w'))
    case atStart => exact ⟨(bu), (0), tx_, H', ⟨Nat.le_refl _⟩, ⟨rS_ bv.out⟩, ⟨(tb_ HB.out)⟩⟩
    case round =>
     clear H'; (try clear c7); obtain ⟨aU, ak, rfl, HA, HK2, aH, HB⟩ := hrel
     cases gk with
     | zero => exact absurd HA.out (by simp [impl_SameRule.l0])
     | succ k2 =>
      have H := HA.out; clear HA; simp only [impl_SameRule.l0] at H; replace H := it_ H; rcases H with ⟨bw, H⟩ | ⟨bw, H⟩
      ·
       replace H := i0_ H; obtain ⟨c11, H⟩ := H; have cH := eq_true c11; have cI : decide (0 ≤ a0) = true := decide_eq_true c11; clear c11; replace H := i0_ H; obtain ⟨c12, H⟩ := H; have cJ := eq_true c12; have cK : decide ((a0 : Int).toNat ≤ 35184372088832) = true := decide_eq_true c12; clear c12; obtain ⟨aJ, bd⟩ : ∃ y_ : List Int, y_ = (List.replicate (a0 : Int).toNat 0) := ⟨_, rfl⟩
       replace H : (if 0 ≤ ak then (if ak < (aJ.length : Int) then (if aU.length < 5864062014805 then (impl_SameRule.l0 k2 a0 a1 (aU ++ [(aJ.set (ak : Int).toNat a1)]) a0 (wrap64 (ak + 1))) else (none)) else (none)) else (none)) = some r := yq_ bd H; have bl := A_ bd; clear bd; replace H := in_ H; obtain ⟨cL, H⟩ := H; replace H := in_ H; obtain ⟨cM, H⟩ := H; obtain ⟨bi, be⟩ : ∃ y_ : List Int, y_ = (aJ.set (ak : Int).toNat a1) := ⟨_, rfl⟩
       replace H : (if aU.length < 5864062014805 then (impl_SameRule.l0 k2 a0 a1 (aU ++ [bi]) a0 (wrap64 (ak + 1))) else (none)) = some r := yq_ be H; have bx := A_ be; clear be; replace H := il_ H; obtain ⟨bz, H⟩ := H; obtain ⟨bB, bf⟩ : ∃ y_ : List (List Int), y_ = (aU ++ [bi]) := ⟨_, rfl⟩
       replace H : (impl_SameRule.l0 k2 a0 a1 bB a0 (wrap64 (ak + 1))) = some r := yq_ bf H; have bC := A_ bf; clear bf; have H' := A_ H; clear H; go_wp2_with (first | ((with_reducible refine gate_dst (N := 25) rfl ?_); refine Kd.R_make (Kd.int .i64) _ 3 rfl (N := 25) rfl 23 _ _ rfl a0 rfl rfl Tryd.underlying23 (.int .i64 0) 8 info3 rfl (by decide) (by omega) 0 (ok := fun _ => True) (okp := fun _ => True) rfl (fun _ hk => hk) trivial (od_) (Nat.le_trans (Nat.mul_le_mul_right _ (od_ : a0.toNat ≤ 35184372088832)) (by omega)) (Below.refl _ _) (Nat.le_refl _) ?_; intro cW bR ho18 hb hg_ hnew_; clear hg_ hnew_; (first | rw [← bl.out] at ho18 | (simp only [Int.reduceToNat] at ho18; rw [← bl.out] at ho18)); replace aH := A_ (Kd.S_elder' (rS_ aH.out) (Kd.R_base ho18) hb); have aK := rx_ ho18 HB; replace HB := bs_ HB hb; clear hb ho18; have p15 : 0 ≤ (ak : Int) := od_; have q15 : (ak : Int) < ((aJ.length : Int) : Int) := od_; obtain ⟨go15, ao, bh, bD, gl15, cl15, HG15⟩ := Kd.R_form aK.out (by omega); (first | cases bh | (injection bh with ea_ en_ ec_; (first | subst ea_ | (injection ea_ with ea_; subst ea_)); subst ec_; clear en_)); have GB15 := A_ bD; have GG15 := A_ HG15; clear bD gl15 HG15; obtain ⟨cp, hf15_0⟩ := Kd.R_celln 0 aK.out (ak : Int) p15 q15; replace p15 := eq_true p15; replace q15 := eq_true q15; obtain ⟨hy19_, hz19_⟩ := Kd.R_celln 0 aK.out (ak : Int) (od_) (od_); have HP19 := Kd.R_putg aK.out (ak : Int) a1) | ((with_reducible refine gate_store (t := 3) (p := 29) rfl ?_); refine store_event (t := 3) (p := 29) (v := ?vo_w20) (w1 := (bR.setCell ⟨go15, (ak : Int).toNat, none⟩ (.int .i64 a1))) ?hg ?ho ?hn ?hr ?_; (case ho => rfl); (case hg => rfl); (case hn => rfl); (case hr => first | (go_simp; done) | (go_simp; rfl)); intro cq hw; have hg : bR.grownBy cq (some go15) := (by rw [hw]; exact HP19.2); have hp_ : Kd.R (Kd.int .i64) 3 cq w.heap.size (fun _ => True) (.slice (some ⟨go15, 0, none⟩) aJ.length ao) bi := (by rw [hw, bx.out]; exact HP19.1); clear HP19; replace aH := A_ (Kd.S_after (v := (.slice (some ⟨go15, 0, none⟩) aJ.length ao)) (v1 := (.slice (some ⟨go15, 0, none⟩) aJ.length ao)) (ok := (fun _ => True)) (rS_ aH.out) hg (.inl rfl)); replace aK := A_ (hp_); replace HB := A_ ((by rw [hw]; exact below_set (HB.out) GB15.out : Below w.heap.size w cq)); clear hg hw hp_) | ((with_reducible refine gate_builtin (b := .append) (xs := #[.tmp 30, .tmp 32]) rfl ?_); at_builtin; refine Kd.S_append (Kd.slice 3 (Kd.int .i64)) (w0 := w) w.heap.size rfl (.tmp 30) (.tmp 32) 38 23 (.slice none 0 0) 24 rfl Tryd.underlying38 info23 rfl (by decide) (by omega) u5 aU bi [.slice (some ⟨go15, 0, none⟩) aJ.length ao] (fun _ => True) (fun k_ => some k_ = (.slice (some ⟨go15, 0, none⟩) aJ.length ao : Value).ownBlock) rfl rfl ?aP (fun k_ hk_ => ((Kd.R_mono (ok' := fun k_ => ((fun _ => True)) k_ ∧ some k_ ≠ (u5 : Value).ownBlock) (Kd.R_apart' (aK.out) (Kd.S_typed aH.out) (by decide)) (fun k_ hk => ⟨trivial, hk.2⟩))).1 k_ hk_.symm) ?aF ?aO ?aB ?aS ?aL ?_; (case aP => exact Kd.M_row (Kd.R_mono (Kd.R_tight rfl (Kd.R_mono (ok' := fun k_ => ((fun _ => True)) k_ ∧ some k_ ≠ (u5 : Value).ownBlock) (Kd.R_apart' (aK.out) (Kd.S_typed aH.out) (by decide)) (fun k_ hk => ⟨trivial, hk.2⟩))) (fun _ h_ => h_))); (case aB => exact (tb_ HB.out)); (case aF => exact (fun _ _ => trivial)); (case aO => exact (by refine qS_ ?_; exact Kd.S_mono aH.out (fun k_ hk => ⟨trivial, fun e_ => hk.2 e_⟩))); (case aS => exact (below_size (tb_ HB.out))); (case aL => have := bz.out; omega); intro cX dc ho hb hg hat; rw [← bC.out] at ho; replace HB := A_ (hb); have bE := A_ (ho); clear aH aK ho hb hg hat))
       go_roundg k2
       case measure => have := HJ2.out; have := HK2.out; omega
       case rel => exact ⟨(bB), (wrap64 (ak + 1)), tx_, H', ⟨by have := HJ2.out; have := HK2.out; omega⟩, ⟨rS_ bE.out⟩, ⟨(tb_ HB.out)⟩⟩
      ·
       obtain rfl := Option.some.inj H; go_wp2; go_ret; exact ⟨_, tw_, by refine qS_ ?_; exact aH.out, (tb_ HB.out)⟩

/-! ### impl_WordOk: function 36 -/
def impl_WordOk.l0 : Nat → Int → List Int → List Int → Int → Int → Option (Bool)
 | 0, _, _, _, _, _ => none
 | k + 1, x0, x1, x7, x8, x9 => if x9 < x8 then (if 0 ≤ x9 then (if x9 < (x7.length : Int) then (if (rd x7 x9) < 0 then (some false) else (if (rd x7 x9) ≥ x0 then (some false) else (impl_WordOk.l0 k x0 x1 x7 x8 (wrap64 (x9 + 1))))) else (none)) else (none)) else ((impl_coloursOk.f x0).bind fun bo => (if bo = true then (some (decide ((x1.length : Int) ≤ 6))) else (some false)))
def impl_WordOk.f (k : Nat) (a0 : Int) (l1 : List Int) : Option (Bool) := impl_WordOk.l0 k a0 l1 l1 (l1.length : Int) 0
theorem impl_WordOk.mono_l : ∀ k, (∀ y0 y1 y2 y3 y4, LeO (impl_WordOk.l0 k y0 y1 y2 y3 y4) (impl_WordOk.l0 (k + 1) y0 y1 y2 y3 y4))
 | 0 => fun _ _ _ _ _ r h => by simp [impl_WordOk.l0] at h
 | k + 1 => by
  have ih0 := impl_WordOk.mono_l k
  ·
   intro y0 y1 y2 y3 y4
   unfold impl_WordOk.l0
   repeat' (with_reducible first | exact ih0 _ _ _ _ _ | exact mr_ | exact mn_ | refine mi_ ?_ ?_ | refine mb_ ?_ (fun _ => ?_))
theorem impl_WordOk.mono : ∀ a0 a1 k, LeO (impl_WordOk.f k a0 a1) (impl_WordOk.f (k + 1) a0 a1) := by
 intro a0 a1 k; have ih0 := impl_WordOk.mono_l k; unfold impl_WordOk.f; repeat' (with_reducible first | exact ih0 _ _ _ _ _ | exact mr_ | exact mn_ | refine mi_ ?_ ?_ | refine mb_ ?_ (fun _ => ?_))
theorem impl_WordOk.calls (k : Nat) (a0 : Int) (A1 : Option Addr) (c1 : Nat) (l1 : List Int) (r : Bool) (w : World) (hr1 : Kd.C (Kd.int .i64) w A1 l1.length l1) (hc1 : l1.length ≤ c1) (h : impl_WordOk.f k a0 l1 = some r) :
  Calls Tryd.prog 36 #[.int .i64 a0, .slice A1 l1.length c1] w fun e w' => e = .returned (.bool r) ∧ Drawn0 w w' := by
 have HR1 := A_ hr1; have HC1 := A_ hc1; clear hr1 hc1; have H : (impl_WordOk.l0 k a0 l1 l1 (l1.length : Int) 0) = some r := h; clear h; have H' := A_ H; clear H; go_enter Tryd.func36, Tryd.ntmps36; go_wp2
 go_loopg [9] k (fun kq v9 w' => ∃ (au : Int), v9 = .int .i64 au ∧ Aside0 (impl_WordOk.l0 kq a0 l1 l1 (l1.length : Int) au = some r) ∧ Aside0 (kq ≤ k) ∧ Drawn0 w w')
 case atStart => exact ⟨(0), tx_, H', ⟨Nat.le_refl _⟩, dz_⟩
 case round =>
  clear H'; obtain ⟨au, rfl, HA, HK1, ⟨m1, rfl⟩⟩ := hrel
  cases gk with
  | zero => exact absurd HA.out (by simp [impl_WordOk.l0])
  | succ k1 =>
   have H := HA.out; clear HA; simp only [impl_WordOk.l0] at H; replace H := it_ H; rcases H with ⟨cr, H⟩ | ⟨cr, H⟩
   ·
    replace H := in_ H; obtain ⟨cY, H⟩ := H; replace H := in_ H; obtain ⟨bF, H⟩ := H; replace H := it_ H; rcases H with ⟨aR, H⟩ | ⟨aR, H⟩
    ·
     obtain rfl := Option.some.inj H; obtain ⟨p481, q481, ad481, e481, a4⟩ := a2_ (Kd.at_int HR1.out au); cases e481; go_wp2; go_ret; exact ⟨tx_, dz_⟩
    ·
     replace H := ih_ H; rcases H with ⟨bG, H⟩ | ⟨bG, H⟩
     ·
      obtain rfl := Option.some.inj H; obtain ⟨p481, q481, ad481, e481, a4⟩ := a2_ (Kd.at_int HR1.out au); cases e481; go_wp2; go_ret; exact ⟨tx_, dz_⟩
     ·
      have H' := A_ H; clear H; obtain ⟨p481, q481, ad481, e481, a4⟩ := a2_ (Kd.at_int HR1.out au); cases e481; go_wp2
      go_roundg k1
      case measure => have := HK1.out; omega
      case rel => exact ⟨(wrap64 (au + 1)), tx_, H', ⟨by have := HK1.out; omega⟩, dz_⟩
   ·
    obtain ⟨bo, A8, H⟩ := bnd_ H; (try dsimp only at H); by_cases c9 : bo = true
    ·
     subst c9; replace H : (some (decide ((l1.length : Int) ≤ 6))) = some r := by rw [if_pos rfl] at H; exact H
     obtain rfl := Option.some.inj H; go_wp2_with (first | ((with_reducible refine gate_callee (f := 34) rfl ?_); refine gl_ (some 22) Tryd.func34 #[.int .i64 a0] ?_; (with_reducible refine (impl_coloursOk.calls a0 true _ A8.out).mono ?_); rintro e w' ⟨rfl, ⟨nd, rfl⟩⟩; refine ⟨_, rfl, ?_⟩)); go_ret; exact ⟨tx_, dz_⟩
    ·
     replace c9 := Bool.eq_false_iff.mpr c9; subst c9; replace H : (some false) = some r := by rw [if_neg (show ¬ (false = true) by decide)] at H; exact H
     obtain rfl := Option.some.inj H; go_wp2_with (first | ((with_reducible refine gate_callee (f := 34) rfl ?_); refine gl_ (some 22) Tryd.func34 #[.int .i64 a0] ?_; (with_reducible refine (impl_coloursOk.calls a0 false _ A8.out).mono ?_); rintro e w' ⟨rfl, ⟨nd, rfl⟩⟩; refine ⟨_, rfl, ?_⟩)); go_ret; exact ⟨tx_, dz_⟩

/-! ### slices_Clone_int_int: function 46 -/
def slices_Clone_int_int.f (l0 : List Int) : Option (List Int) := if l0.length * 8 ≤ 140737488355328 then some l0 else none
theorem slices_Clone_int_int.calls (A0 : Option Addr) (c0 : Nat) (l0 : List Int) (r : List Int) (w : World) (hr0 : Kd.C (Kd.int .i64) w A0 l0.length l0) (hc0 : l0.length ≤ c0) (h : slices_Clone_int_int.f l0 = some r) :
  Calls Tryd.prog 46 #[.slice A0 l0.length c0] w fun e w' => ∃ v0_ : Value, e = .returned (v0_) ∧ Kd.R (Kd.int .i64) 3 w' w.heap.size (fun _ => True) v0_ r ∧ Below w.heap.size w w' := by
 unfold slices_Clone_int_int.f at h; by_cases hl : l0.length * 8 ≤ 140737488355328
 ·
  rw [if_pos hl] at h; obtain rfl := Option.some.inj h; rcases Nat.eq_zero_or_pos l0.length with h0 | h0
  ·
   obtain rfl : l0 = [] := List.eq_nil_of_length_eq_zero h0
   cases A0 with
   | none => exact (Sh.Tryd.slices_Clone_int_nil 0 c0 w).mono fun e w' ⟨he, hw⟩ => ⟨.slice none 0 0, he, Kd.R_nil _ _ _ _ _, hw ▸ Below.refl _ _⟩
   | some ad => exact (Sh.Tryd.slices_Clone_int_zero ad c0 w).mono fun e w' ⟨v, he, ho, _, hb⟩ => ⟨v, he, Kd.R_of_own (xs := []) ho (fun _ _ => trivial), hb⟩
  ·
   obtain ⟨ad, rfl, hc⟩ := hr0.2.2 h0
   have hcell : ∀ j, j < l0.length → w.cell? (ad.add j) = some (.int .i64 (l0.getD j 0)) := by
    intro j hj; obtain ⟨c, hc1, hc2, hc3⟩ := hc j _ (List.getElem?_eq_getElem hj); have e1 : c = [.int .i64 l0[j]] := hc2; have := hc3 0 _ (by rw [e1]; rfl); rw [List.getD_eq_getElem?_getD, List.getElem?_eq_getElem hj]; simpa [Kd.int, Kd.scalar] using this
   have hs := hcell 0 h0
   have hsp : ad.spot = none := by
    cases hq : ad.spot with
    | none => rfl
    | some q => simp [World.cell?, Addr.add, hq] at hs; split at hs <;> simp at hs
   obtain ⟨b, o, sp⟩ := ad; simp only at hsp; subst hsp; refine (Sh.Tryd.slices_Clone_int b o l0.length c0 l0 w (Nat.le_refl _) hl (fun j hj => by have := hcell j hj; unfold Addr.add at this; split at this <;> simp_all)).mono fun e w' ⟨v, he, ho, _, hb⟩ => ⟨v, he, Kd.R_of_own (by rw [List.take_length] at ho; exact ho) (fun _ _ => trivial), hb⟩
 ·
  rw [if_neg hl] at h; exact absurd h (by simp)

/-! ### impl_added: function 60 -/
def impl_added.l0 : Nat → List Int → List Int → Int → Int → Option (List Int)
 | 0, _, _, _, _ => none
 | k + 1, x5, x10, x11, x12 => if x12 < x11 then (if 0 ≤ x12 then (if x12 < (x10.length : Int) then (if x12 < (x5.length : Int) then (impl_added.l0 k (x5.set (x12 : Int).toNat (wrap64 ((rd x5 x12) + (rd x10 x12)))) x10 x11 (wrap64 (x12 + 1))) else (none)) else (none)) else (none)) else (some x5)
def impl_added.f (k : Nat) (l0 : List Int) (l1 : List Int) : Option (List Int) := (slices_Clone_int_int.f l0).bind fun a6 => (impl_added.l0 k a6 l1 (l1.length : Int) 0)
theorem impl_added.mono_l : ∀ k, (∀ y0 y1 y2 y3, LeO (impl_added.l0 k y0 y1 y2 y3) (impl_added.l0 (k + 1) y0 y1 y2 y3))
 | 0 => fun _ _ _ _ r h => by simp [impl_added.l0] at h
 | k + 1 => by
  have ih0 := impl_added.mono_l k
  ·
   intro y0 y1 y2 y3
   unfold impl_added.l0
   repeat' (with_reducible first | exact ih0 _ _ _ _ | exact mr_ | exact mn_ | refine mi_ ?_ ?_ | refine mb_ ?_ (fun _ => ?_))
theorem impl_added.mono : ∀ a0 a1 k, LeO (impl_added.f k a0 a1) (impl_added.f (k + 1) a0 a1) := by
 intro a0 a1 k; have ih0 := impl_added.mono_l k; unfold impl_added.f; repeat' (with_reducible first | exact ih0 _ _ _ _ | exact mr_ | exact mn_ | refine mi_ ?_ ?_ | refine mb_ ?_ (fun _ => ?_))
theorem impl_added.calls (k : Nat) (A0 : Option Addr) (c0 : Nat) (l0 : List Int) (A1 : Option Addr) (c1 : Nat) (l1 : List Int) (r : List Int) (w : World) (hr0 : Kd.C (Kd.int .i64) w A0 l0.length l0) (hc0 : l0.length ≤ c0) (hr1 : Kd.C (Kd.int .i64) w A1 l1.length l1) (hc1 : l1.length ≤ c1) (h : impl_added.f k l0 l1 = some r) :
  Calls Tryd.prog 60 #[.slice A0 l0.length c0, .slice A1 l1.length c1] w fun e w' => ∃ v0_ : Value, e = .returned (v0_) ∧ Kd.R (Kd.int .i64) 3 w' w.heap.size (fun _ => True) v0_ r ∧ Below w.heap.size w w' := by
 have HR0 := A_ hr0; have HC0 := A_ hc0; clear hr0 hc0; have HR1 := A_ hr1; have HC1 := A_ hc1; clear hr1 hc1; have HB := A_ (Below.refl w.heap.size w); have H : ((slices_Clone_int_int.f l0).bind fun a6 => (impl_added.l0 k a6 l1 (l1.length : Int) 0)) = some r := h; clear h; obtain ⟨a6, A3, H⟩ := bnd_ H; (try dsimp only at H); have H' := A_ H; clear H; go_enter Tryd.func60, Tryd.ntmps60; go_wp2_with (first | ((with_reducible refine gate_callee (f := 46) rfl ?_); refine gl_ (some 9) Tryd.func46 #[.slice A0 l0.length c0] ?_; (with_reducible refine (slices_Clone_int_int.calls _ _ l0 a6 _ ?s1 ?s2 A3.out).mono ?_); (case s1 => exact td_); (case s2 => exact HC0.out); rintro e w4 ⟨ct, rfl, ho0, hb⟩; refine ⟨_, rfl, ?_⟩; have bH := rx_ ho0 HB; replace HB := bs_ HB hb; (try clear hb ho0)))
 go_loopg [12] k (fun kq cZ w' => ∃ (aM : List Int) (ag : Int), cZ = .int .i64 ag ∧ Aside0 (impl_added.l0 kq aM l1 (l1.length : Int) ag = some r) ∧ Aside0 (kq ≤ k) ∧ Aside0 (Kd.R (Kd.int .i64) 3 w' w.heap.size (fun _ => True) ct aM) ∧ Aside0 (Below w.heap.size w w'))
 case atStart => exact ⟨(a6), (0), tx_, H', ⟨Nat.le_refl _⟩, ⟨rR_ bH.out⟩, ⟨(tb_ HB.out)⟩⟩
 case round =>
  clear H'; obtain ⟨aM, ag, rfl, HA, HK1, aH, HB⟩ := hrel
  cases gk with
  | zero => exact absurd HA.out (by simp [impl_added.l0])
  | succ k1 =>
   have H := HA.out; clear HA; simp only [impl_added.l0] at H; replace H := it_ H; rcases H with ⟨bF, H⟩ | ⟨bF, H⟩
   ·
    replace H := in_ H; obtain ⟨aR, H⟩ := H; replace H := in_ H; obtain ⟨bG, H⟩ := H; replace H := in_ H; obtain ⟨da, H⟩ := H; obtain ⟨bp, bg⟩ : ∃ y_ : List Int, y_ = (aM.set (ag : Int).toNat (wrap64 ((rd aM ag) + (rd l1 ag)))) := ⟨_, rfl⟩
    replace H : (impl_added.l0 k1 bp l1 (l1.length : Int) (wrap64 (ag + 1))) = some r := yq_ bg H; have bI := A_ bg; clear bg; have H' := A_ H; clear H; obtain ⟨p486, q486, ad486, e486, aZ⟩ := a2_ (Kd.at_int HR1.out ag); cases e486; replace aZ := (HB.out.cell (World.block_lt_of_cell? w _ aZ)).trans aZ; obtain ⟨aq, an, bm⟩ := Kd.R_slice aH.out; subst bm; obtain ⟨p487, q487, ad487, e487, bj⟩ := a2_ (Kd.at_int (Kd.R_reads' aH.out).2.2 ag); cases e487; have p9 : 0 ≤ (ag : Int) := od_; have q9 : (ag : Int) < ((aM.length : Int) : Int) := od_; obtain ⟨go9, co9, cN, cO, gl9, cl9, HG9⟩ := Kd.R_form aH.out (by omega); (first | cases cN | (injection cN with ea_ en_ ec_; (first | subst ea_ | (injection ea_ with ea_; subst ea_)); subst ec_; clear en_)); have GB9 := A_ cO; have GG9 := A_ HG9; clear cO gl9 HG9; (first | simp only [add_plain] at bj | skip); obtain ⟨cP, hf9_0⟩ := Kd.R_celln 0 aH.out (ag : Int) p9 q9; replace p9 := eq_true p9; replace q9 := eq_true q9; have HP11 := Kd.R_putg aH.out (ag : Int) (wrap64 ((rd aM ag) + (rd l1 ag))); go_wp2_with (first | ((with_reducible refine gate_store (t := 3) (p := 23) rfl ?_); refine store_event (t := 3) (p := 23) (v := ?vo_w12) (w1 := (wr.setCell ⟨go9, (ag : Int).toNat, none⟩ (.int .i64 (wrap64 ((rd aM ag) + (rd l1 ag)))))) ?hg ?ho ?hn ?hr ?_; (case ho => rfl); (case hg => rfl); (case hn => rfl); (case hr => first | (go_simp; done) | (go_simp; rfl)); intro cu hw; have hg : wr.grownBy cu (some go9) := (by rw [hw]; exact HP11.2); have hp_ : Kd.R (Kd.int .i64) 3 cu w.heap.size (fun _ => True) (.slice (some ⟨go9, 0, none⟩) aM.length an) bp := (by rw [hw, bI.out]; exact HP11.1); clear HP11; replace aH := A_ (hp_); replace HB := A_ ((by rw [hw]; exact below_set (HB.out) GB9.out : Below w.heap.size w cu)); clear hg hw hp_))
    go_roundg k1
    case measure => have := HK1.out; omega
    case rel => exact ⟨(bp), (wrap64 (ag + 1)), tx_, H', ⟨by have := HK1.out; omega⟩, ⟨rR_ aH.out⟩, ⟨(tb_ HB.out)⟩⟩
   ·
    obtain rfl := Option.some.inj H; go_wp2; go_ret; exact ⟨_, tw_, by refine qR_ ?_; exact aH.out, (tb_ HB.out)⟩

end Go.Proofs.YtfacponjomafcaaDoor.MFnDeskDo
