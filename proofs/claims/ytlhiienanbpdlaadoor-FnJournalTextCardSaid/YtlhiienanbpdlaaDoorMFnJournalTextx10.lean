/- For the law FnJournalText: walks of the functions that it reaches: each call returns what the plain function beside it tells. The conditions stand in each statement. -/
import Derived.Test.YtlhiienanbpdlaaDoorV
import Derived.Test.YtlhiienanbpdlaaDoorMFnJournalTextx0
import Derived.Test.YtlhiienanbpdlaaDoorMFnJournalTextx3
import Derived.Test.YtlhiienanbpdlaaDoorMFnJournalTextx4
import Derived.Test.YtlhiienanbpdlaaDoorMFnJournalTextx9
namespace Go.Proofs.YtlhiienanbpdlaaDoor.MFnJournalText
open Go.RowKit Go.Proofs.YtlhiienanbpdlaaDoorW.PrintWords Go.Proofs.YtlhiienanbpdlaaDoorW.PrintLast Go.Proofs.YtlhiienanbpdlaaDoorW.PrintMore
attribute [local go_sem] max2_int min2_int max_two min_two max_three min_three max_four min_four   -- for this text's walks alone
set_option linter.unusedVariables false
set_option linter.unusedSimpArgs false

/-! ### spec_l20Place: function 97 -/
def spec_l20Place.l0 : Nat → Int → Int → List Int → Int → List Int → Int → List Int → Option (List Int × Int × List Int × Int)
 | 0, _, _, _, _, _, _, _ => none
 | k + 1, x1, x6, aM, bo, au, aC, av => if x6 > 0 then ((some (([] : List Int) : List Int)).bind fun aJ => (if aJ.length + av.length < 17592186044416 then ((some (aJ ++ av : List Int)).bind fun aH => ((spec_l20Rd_pick.f k aM bo (au.length : Int)).bind fun ax => (if aH.length < 17592186044416 then ((some (aH ++ [ax.1] : List Int)).bind fun aq => ((spec_PlaceOk.f k au aC aq).bind fun aK => (if aK = true then (spec_l20Place.l0 k x1 (wrap64 (x6 - 1)) aM ax.2 au aC aq) else (spec_l20Place.l0 k x1 (wrap64 (x6 - 1)) aM ax.2 au aC av)))) else (none)))) else (none))) else ((spec_l20Rd_odd.f k aM bo x1).bind fun a3 => (if a3.1 = true then ((spec_l20Rd_pick.f k aM a3.2 3).bind fun ay => (if ay.1 = 0 then (some (au, 4, av, ay.2)) else (if ay.1 = 1 then (if av.length < 17592186044416 then (some (au, aC, (av ++ [3]), ay.2)) else (none)) else (some (([] : List Int), 0, ([] : List Int), ay.2))))) else (some (au, aC, av, a3.2))))
def spec_l20Place.f (k : Nat) (ag : List Int) (aY : Int) (a1 : Int) : Option (List Int × Int × List Int × Int) := (spec_l20Urn.f k ag aY 0).bind fun aN => ((spec_l20Rd_pick.f k ag aN.2 5).bind fun aQ => ((spec_l20Rd_pick.f k ag aQ.2 5).bind fun aU => (spec_l20Place.l0 k a1 aU.1 ag aU.2 aN.1 (wrap64 (aQ.1 - 1)) ([] : List Int))))
theorem spec_l20Place.mono_l : ∀ k, (∀ y0 y1 y2 y3 y4 y5 y6, LeO (spec_l20Place.l0 k y0 y1 y2 y3 y4 y5 y6) (spec_l20Place.l0 (k + 1) y0 y1 y2 y3 y4 y5 y6))
 | 0 => fun _ _ _ _ _ _ _ r h => by simp [spec_l20Place.l0] at h
 | k + 1 => by
  have ih0 := spec_l20Place.mono_l k
  ·
   intro y0 y1 y2 y3 y4 y5 y6
   unfold spec_l20Place.l0
   repeat' (with_reducible first | exact ih0 _ _ _ _ _ _ _ | exact spec_PlaceOk.mono _ _ _ _ | exact spec_l20Rd_odd.mono _ _ _ _ | exact spec_l20Rd_pick.mono _ _ _ _ | exact spec_l20Urn.mono _ _ _ _ | exact mr_ | exact mn_ | refine mi_ ?_ ?_ | refine mb_ ?_ (fun _ => ?_))
theorem spec_l20Place.mono : ∀ a0 a1 a2 k, LeO (spec_l20Place.f k a0 a1 a2) (spec_l20Place.f (k + 1) a0 a1 a2) := by
 intro a0 a1 a2 k
 have ih0 := spec_l20Place.mono_l k
 unfold spec_l20Place.f
 repeat' (with_reducible first | exact ih0 _ _ _ _ _ _ _ | exact spec_PlaceOk.mono _ _ _ _ | exact spec_l20Rd_odd.mono _ _ _ _ | exact spec_l20Rd_pick.mono _ _ _ _ | exact spec_l20Urn.mono _ _ _ _ | exact mr_ | exact mn_ | refine mi_ ?_ ?_ | refine mb_ ?_ (fun _ => ?_))
def spec_l20Place.T5 : Bool × List (List Nat × List Nat) := (true, [([], []), ([], []), ([1], [1]), ([0, 2], [0, 2]), ([], []), ([], []), ([5], [5]), ([6], [6]), ([4, 7, 3], [4, 7]), ([8], [8]), ([3, 9, 8], [3, 9]), ([10, 10, 0, 1, 2, 3, 4, 5, 6, 7, 8, 9, 10], [10])])
def spec_l20Place.B5 : List Nat := [0, 0, 2, 7, 0, 0, 32, 96, 255, 511, 1023, 2047]
theorem spec_l20Place.tab5 : rtab .any (opsOf Tryd.f97 5) = spec_l20Place.T5 := by kernel_rfl
theorem spec_l20Place.bits5 : waitsOk spec_l20Place.T5.2 spec_l20Place.B5 = true := by kernel_rfl
set_option maxHeartbeats 8000000 in
set_option maxRecDepth 100000 in
theorem spec_l20Place.calls (k : Nat) (g : Nat) (ag : List Int) (aY : Int) (a1 : Int) (r1 : List Int) (r2 : Int) (r3 : List Int) (r4 : Int) (w0 w : World) (hI : IsS126 w0 w g ag aY) (hB : Below w0.heap.size w0 w) (h : spec_l20Place.f k ag aY a1 = some (r1, r2, r3, r4)) :
  Calls Tryd.prog 97 #[.pointer (some ⟨g, 0, none⟩), .int .i64 a1] w fun e w' => ∃ v0_ v2_ : Value, e = .returned (.agg #[v0_, .int .i64 r2, v2_]) ∧ Kd.R (Kd.int .i64) 3 w' w.heap.size (fun k_ => some k_ ≠ (v2_ : Value).ownBlock) v0_ r1 ∧ Kd.R (Kd.int .i64) 3 w' w.heap.size (fun k_ => some k_ ≠ (v0_ : Value).ownBlock) v2_ r3 ∧ IsS126 w0 w' g ag r4 ∧ Below w0.heap.size w0 w' ∧ KeepBut w w' g none := by
 have hu25 := Tryd.underlying25
 have HI0 := Aside0.mk hI
 have HK := Aside0.mk (KeepBut.refl w g none)
 have HL := Aside0.mk hB.size
 have HLg := Aside0.mk hI.lt
 clear hI
 have HW0 := Aside0.mk hB.size
 have HB := Aside0.mk hB
 clear hB
 have H : ((spec_l20Urn.f k ag aY 0).bind fun aN => ((spec_l20Rd_pick.f k ag aN.2 5).bind fun aQ => ((spec_l20Rd_pick.f k ag aQ.2 5).bind fun aU => (spec_l20Place.l0 k a1 aU.1 ag aU.2 aN.1 (wrap64 (aQ.1 - 1)) ([] : List Int))))) = some (r1, r2, r3, r4) := h
 clear h
 obtain ⟨⟨ah, bv⟩, A3, H⟩ := bnd_ H
 try dsimp only at H
 obtain ⟨⟨al, bw⟩, A4, H⟩ := bnd_ H
 try dsimp only at H
 obtain ⟨⟨bF, bG⟩, A5, H⟩ := bnd_ H
 try dsimp only at H
 have H' := Aside0.mk H
 clear H
 go_enter Tryd.func97, Tryd.ntmps97
 go_wp2_with (first | ((with_reducible refine gate_dst (N := 4) rfl ?_); refine box_event ?hg (N := 4) ?hd (cs := #[.slice none 0 0, .int .i64 0, .slice none 0 0]) (t := 25) ?hr ?_; (case hd => rfl); (case hg => rfl); (case hr => first | (go_simp; done) | (go_simp; rfl)); intro ak hg w6 hbox hb; replace HI0 := ti126_b HI0 hb; replace HB := tu126_s HB hb; have ad := Aside0.mk (hbox); have c7 := gw_ HK hg; have c8 := ge_ HW0 HK hg; have aI := nk_ HLg HK hg; have ai := nm_ HLg HK hg; replace HK := ko_ HK hb; clear hb hbox hg) | ((with_reducible refine gate_callee (f := 127) rfl ?_); refine gl_ (some 9) Tryd.func127 #[.pointer (some ⟨g, 0, none⟩), .int .i64 0] ?_; (with_reducible refine (spec_l20Urn.calls k g ag aY 0 ah bv w0 _ ?s1 ?s2 A3.out).mono ?_); (case s1 => exact ti126_ HI0.out); (case s2 => exact tu126_ HB.out); rintro e w7 ⟨dM, rfl, ho0, hi, hb, hk⟩; refine ⟨_, rfl, ?_⟩; replace ad := kb_ ad hk ai; have aG := rl_ ho0 HK; replace HK := kt_ HK hk; replace HB := Aside0.mk (hb); replace HI0 := Aside0.mk (hi); (try clear hb); (try clear hb2); (try clear hk); (try clear hi); (try clear ho0)) | ((with_reducible refine gate_callee (f := 101) rfl ?_); refine gl_ (some 11) Tryd.func101 #[.pointer (some ⟨g, 0, none⟩), .int .i64 5] ?_; (with_reducible refine (spec_l20Rd_pick.calls k g ag bv 5 al bw w0 _ ?s1 ?s2 A4.out).mono ?_); (case s1 => exact ti126_ HI0.out); (case s2 => exact tu126_ HB.out); rintro e w8 ⟨rfl, hi, hb, hk⟩; refine ⟨_, rfl, ?_⟩; replace ad := kb_ ad hk ai; replace aG := Aside0.mk (Kd.R_mono (Kd.R_keep (IsS126.apart (ti126_ HI0.out : IsS126 w0 _ g ag bv) (rR_ aG.out) (by decide)) hk (fun _ h => h.2)) (fun _ h => h.1)); replace HK := kt_ HK hk; replace HB := Aside0.mk (hb); replace HI0 := Aside0.mk (hi); (try clear hb); (try clear hb2); (try clear hk); (try clear hi); obtain ⟨aD, co9, dN⟩ := Kd.R_slice aG.out; subst dN) | ((with_reducible refine gate_dst (N := 5) rfl ?_); refine box_event ?hg (N := 5) ?hd (cs := #[.slice none 0 0, .int .i64 0, .slice none 0 0]) (t := 25) ?hr ?_; (case hd => rfl); (case hg => rfl); (case hr => first | (go_simp; done) | (go_simp; rfl)); intro ao hg dQ hbox hb; replace aG := rb_ aG hb; replace HI0 := ti126_b HI0 hb; replace HB := tu126_s HB hb; have ac := Aside0.mk (hbox); have da := gw_ HK hg; have db := ge_ HW0 HK hg; have am := nl_ ad hg; have an := ng_ ad hg; replace ad := bb_ ad hb; have az := nk_ HLg HK hg; have aj := nm_ HLg HK hg; replace HK := ko_ HK hb; clear hb hbox hg; have dc := an.out; have dd := am.out; have de := aj.out; have df := az.out; have bf := cz_ ac 0; have bg := cz_ ac 1; have bh := cz_ ac 2; have bi := blk_frozen ac.out 0; have bj := blk_frozen ac.out 1; have bk := blk_frozen ac.out 2) | ((with_reducible refine gate_callee (f := 101) rfl ?_); refine gl_ (some 15) Tryd.func101 #[.pointer (some ⟨g, 0, none⟩), .int .i64 5] ?_; (with_reducible refine (spec_l20Rd_pick.calls k g ag bw 5 bF bG w0 _ ?s1 ?s2 A5.out).mono ?_); (case s1 => exact ti126_ HI0.out); (case s2 => exact tu126_ HB.out); rintro e dR ⟨rfl, hi, hb, hk⟩; refine ⟨_, rfl, ?_⟩; replace ad := kb_ ad hk ai; replace aG := Aside0.mk (Kd.R_mono (Kd.R_keep (IsS126.apart (ti126_ HI0.out : IsS126 w0 _ g ag bw) (by refine qR_ ?_; exact (Kd.R_mono (Kd.R_far (p := ⟨ao, 2, none⟩) (Kd.R_far (p := ⟨ao, 1, none⟩) (Kd.R_far (p := ⟨ao, 0, none⟩) (Kd.R_types aG.out ac.out (by decide)) (fun _ hk => hk.2) (.slice aD ah.length co9)) (fun _ hk => hk.2) (.int .i64 (wrap64 (al - 1)))) (fun _ hk => hk.2) (.slice none 0 0)) (fun _ h_ => h_.1))) (by decide)) hk (fun _ h => h.2)) (fun _ h => h.1)); replace ac := Aside0.mk (KeepBut.blk hk (g' := ao) (o := .cells #[.slice aD ah.length co9, .int .i64 (wrap64 (al - 1)), .slice none 0 0] 25 (0, 0)) (ps_ ac.out) aj.out (by simp)); replace HK := kt_ HK hk; replace HB := Aside0.mk (hb); replace HI0 := Aside0.mk (hi); (try clear hb); (try clear hb2); (try clear hk); (try clear hi)))
 go_loopg [6] k (fun kq v6 w' => ∃ (aA : Int) (af : Int) (ae : List Int) (u319002 : Value), v6 = .int .i64 aA ∧ Aside0 (spec_l20Place.l0 kq a1 aA ag af ah (wrap64 (al - 1)) ae = some (r1, r2, r3, r4)) ∧ Aside0 (kq ≤ k) ∧ Aside0 (Kd.R (Kd.int .i64) 3 w' w.heap.size (fun k_ => some k_ ≠ (u319002 : Value).ownBlock) (.slice aD ah.length co9) ah) ∧ Aside0 (Kd.R (Kd.int .i64) 3 w' w.heap.size (fun k_ => some k_ ≠ ((.slice aD ah.length co9) : Value).ownBlock) u319002 ae) ∧ Aside0 (w'.heap[ak]? = some (.cells #[(.slice none 0 0), .int .i64 0, (.slice none 0 0)] 25 (0, 0))) ∧ Aside0 (w'.heap[ao]? = some (.cells #[(.slice aD ah.length co9), .int .i64 (wrap64 (al - 1)), u319002] 25 (0, 0))) ∧ Aside0 (IsS126 w0 w' g ag af) ∧ Aside0 (KeepBut w w' g none) ∧ Aside0 (Below w0.heap.size w0 w'))
 case atStart => exact ⟨(bF), (bG), (([] : List Int)), (.slice none 0 0), tx_, H', ⟨Nat.le_refl _⟩, ⟨by refine qR_ ?_; exact Kd.R_mono aG.out (fun _ hk => (by simp [Value.ownBlock]))⟩, ⟨by first | exact Kd.R_nil _ _ _ _ _ | exact Kd.N_nil _ _ _ _ _ | exact Kd.V_nil _ _ _ _ _ | exact Kd.Q_nil _ _ _ _ _ | exact Kd.S_nil _ _ _ _ _⟩, ⟨tk_ ad.out⟩, ⟨tk_ ac.out⟩, ⟨ti126_ HI0.out⟩, ⟨(tc_ HK.out)⟩, ⟨tu126_ HB.out⟩⟩
 case round =>
  clear H'
  try clear c1
  try clear p2
  try clear p6
  try clear c9
  try clear c10
  try clear c11
  try clear c12
  try clear bf
  try clear bg
  try clear bh
  try clear bi
  try clear bj
  try clear bk
  obtain ⟨aA, af, ae, u319002, rfl, HA, HK1, ab, aa, ad, ac, HI0, HK, HB⟩ := hrel
  cases gk with
  | zero => exact absurd HA.out (by simp [spec_l20Place.l0])
  | succ k1 =>
   have H := HA.out
   clear HA
   simp only [spec_l20Place.l0] at H
   by_cases c15 : aA > 0
   ·
    rw [if_pos c15] at H
    have bH : decide (0 < aA) = true := decide_eq_true c15
    clear c15
    obtain ⟨aJ, a4⟩ : ∃ y_ : List Int, y_ = (([] : List Int)) := ⟨_, rfl⟩
    replace H : (if aJ.length + ae.length < 17592186044416 then ((some (aJ ++ ae : List Int)).bind fun aH => ((spec_l20Rd_pick.f k1 ag af (ah.length : Int)).bind fun ax => (if aH.length < 17592186044416 then ((some (aH ++ [ax.1] : List Int)).bind fun aq => ((spec_PlaceOk.f k1 ah (wrap64 (al - 1)) aq).bind fun aK => (if aK = true then (spec_l20Place.l0 k1 a1 (wrap64 (aA - 1)) ag ax.2 ah (wrap64 (al - 1)) aq) else (spec_l20Place.l0 k1 a1 (wrap64 (aA - 1)) ag ax.2 ah (wrap64 (al - 1)) ae)))) else (none)))) else (none)) = some (r1, r2, r3, r4) := yq_ a4 H
    have aX := Aside0.mk a4
    clear a4
    by_cases c16 : aJ.length + ae.length < 17592186044416
    ·
     rw [if_pos c16] at H
     have bp := Aside0.mk c16
     clear c16
     obtain ⟨aH, a5⟩ : ∃ y_ : List Int, y_ = (aJ ++ ae) := ⟨_, rfl⟩
     replace H : ((spec_l20Rd_pick.f k1 ag af (ah.length : Int)).bind fun ax => (if aH.length < 17592186044416 then ((some (aH ++ [ax.1] : List Int)).bind fun aq => ((spec_PlaceOk.f k1 ah (wrap64 (al - 1)) aq).bind fun aK => (if aK = true then (spec_l20Place.l0 k1 a1 (wrap64 (aA - 1)) ag ax.2 ah (wrap64 (al - 1)) aq) else (spec_l20Place.l0 k1 a1 (wrap64 (aA - 1)) ag ax.2 ah (wrap64 (al - 1)) ae)))) else (none))) = some (r1, r2, r3, r4) := yq_ a5 H
     have bq := Aside0.mk a5
     clear a5
     obtain ⟨⟨aW, aV⟩, A17, H⟩ := bnd_ H
     try dsimp only at H
     by_cases c18 : aH.length < 17592186044416
     ·
      rw [if_pos c18] at H
      have br := Aside0.mk c18
      clear c18
      obtain ⟨aq, a6⟩ : ∃ y_ : List Int, y_ = (aH ++ [aW]) := ⟨_, rfl⟩
      replace H : ((spec_PlaceOk.f k1 ah (wrap64 (al - 1)) aq).bind fun aK => (if aK = true then (spec_l20Place.l0 k1 a1 (wrap64 (aA - 1)) ag aV ah (wrap64 (al - 1)) aq) else (spec_l20Place.l0 k1 a1 (wrap64 (aA - 1)) ag aV ah (wrap64 (al - 1)) ae))) = some (r1, r2, r3, r4) := yq_ a6 H
      have bs := Aside0.mk a6
      clear a6
      obtain ⟨aK, A19, H⟩ := bnd_ H
      try dsimp only at H
      by_cases c20 : aK = true
      ·
       subst c20
       have H1 : (spec_l20Place.l0 k1 a1 (wrap64 (aA - 1)) ag aV ah (wrap64 (al - 1)) aq) = some (r1, r2, r3, r4) := by rw [if_pos rfl] at H; exact H
       clear H
       have H := H1
       clear H1
       have H' := Aside0.mk H
       clear H
       try go_wp2
       replace ab := rd_ ab
       replace aa := rd_ aa
       replace ad := dB_ ad
       replace ac := dB_ ac
       replace HI0 := Aside0.mk (IsS126.drew HI0.out)
       replace HK := Aside0.mk (keep_drew HK.out)
       replace HB := Aside0.mk (ld_ HB.out)
       refine start_ (n := 12) (S := fun w' => w'.cell? ⟨ao, 0, none⟩ = some (.slice aD ah.length co9) ∧ w'.cell? ⟨ao, 1, none⟩ = some (.int .i64 (wrap64 (al - 1))) ∧ w'.cell? ⟨ao, 2, none⟩ = some (u319002)) (ds := []) #[false, false, false, false, false, false, false, false, false, false, false, false] (by kernel_rfl) rfl rfl hh_ (fun hHeld => ?_); refine with_tabW spec_l20Place.tab5 spec_l20Place.bits5 (fun HT_ HW_ => ?_)
       generalize wr.drew = dS at ab aa ad ac HI0 HK HB hHeld ⊢
       refine pu_ 1 (some 21) #[false, true, false, false, false, false, false, false, false, false, false, false] HT_ rfl rfl ?_
       refine pu_ 4 (some 24) #[false, true, false, false, true, false, false, false, false, false, false, false] HT_ rfl rfl ?_
       refine pu_ 5 (some 25) #[false, true, false, false, true, true, false, false, false, false, false, false] HT_ rfl rfl ?_
       refine ta_ 2 (some 22) #[false, true, true, false, true, true, false, false, false, false, false, false] HT_ HW_ hHeld rfl rfl ?_
       refine ta_ 6 (some 26) #[false, true, true, false, true, true, true, false, false, false, false, false] HT_ HW_ hHeld rfl rfl ?_
       refine pu_ 7 (some 27) #[false, true, true, false, true, true, true, true, false, false, false, false] HT_ rfl rfl ?_
       refine one_ (i := 0) (N := some 20) #[true, true, true, false, true, true, true, true, false, false, false, false] rfl rfl (one_of HT_.out (by kernel_rfl)) (by decide) (fun K hK => ?_)
       refine Kd.R_lit_step (Kd.int .i64) _ 3 ?hg (N := 20) ?hd (xs := ([] : List Int)) (inner := []) (ok := fun _ => True) (okp := fun _ => True) ?hr ?hp (fun _ hk => hk) trivial (Below.refl _ _) (Nat.le_refl _) (by simp) ?_; (case hd => rfl); (case hg => rfl); (case hr => first | (go_simp; done) | (go_simp; rfl)); (case hp => exact (Reps.none _ _))
       intro bx dT ho23 hb hg_ hnew_
       clear hg_ hnew_
       (first | rw [← aX.out] at ho23 | (simp only [Int.reduceToNat] at ho23; rw [← aX.out] at ho23))
       have ar := Aside0.mk (Kd.R_lower (Kd.R_new' (Kd.R_new' ho23 (Kd.R_lt (rR_ ab.out))) (Kd.R_lt (rR_ aa.out))) (keep_size (w := w) (g := g) (row := none) (tc_ HK.out)))
       replace ab := Aside0.mk (Kd.R_elder' (rR_ ab.out) (Kd.R_base ho23) hb)
       replace aa := Aside0.mk (Kd.R_elder' (rR_ aa.out) (Kd.R_base ho23) hb)
       replace ad := bb_ ad hb
       replace ac := bb_ ac hb
       replace HI0 := ti126_b HI0 hb
       replace HK := ko_ HK hb
       replace HB := tu126_s HB hb
       clear hb ho23
       obtain ⟨a7, a8, bI⟩ := Kd.R_slice aa.out
       (first | subst bI | (injection bI with f1_ f2_ f3_; have f4_ := f1_.symm; have f5_ := f3_.symm; clear f1_ f2_ f3_; subst f4_; subst f5_))
       refine hK.out _ _ hh_ (fun hHeld => ?_)
       clear hK K
       refine nr_ 20 ?_
       refine one_ (i := 3) (N := some 23) #[true, true, true, true, true, true, true, true, false, false, false, false] rfl rfl (one_of HT_.out (by kernel_rfl)) (by decide) (fun K hK => ?_)
       refine Kd.R_append_rows_step (Kd.int .i64) w.heap.size (by rfl) (.tmp 20) (.tmp 22) 23 3 (.int .i64 0) 8 rfl Tryd.underlying23 info3 rfl (by decide) (by omega) bx aJ ae _ _ _ (fun k_ => some k_ ≠ (.slice aD ah.length co9 : Value).ownBlock ∧ some k_ ≠ (.slice a7 ae.length a8 : Value).ownBlock) (fun _ => False) rfl rfl ?aO ?aR (fun _ _ h => h) (fun _ h => h.elim) ?aF (Below.refl _ _) ?aS ?aL ?_
       (case aR => repeat (first | exact (Kd.R_reads' aa.out).2.2 | (with_reducible refine Kd.C_alloc ?_ _) | (with_reducible refine Kd.C_drewN ?_ _) | (with_reducible refine Kd.C_drew ?_)))
       (case aF => exact (fun k_ hk => ⟨Kd.fresh' (Kd.R_lt (rR_ ab.out)) k_ hk, Kd.fresh' (Kd.R_lt (rR_ aa.out)) k_ hk⟩))
       (case aO => exact (by refine qR_ ?_; exact Kd.R_mono ar.out (fun _ hk => ⟨hk.1.2, hk.2⟩)))
       (case aS => exact (keep_size (w := w) (g := g) (row := none) (tc_ HK.out)))
       (case aL => have := bp.out; omega)
       intro bz dU ho hb hg hat
       rw [← bq.out] at ho
       replace ab := Aside0.mk (Kd.R_after (ok := (fun k_ => some k_ ≠ (.slice a7 ae.length a8 : Value).ownBlock)) (rR_ ab.out) hg hat)
       replace aa := Aside0.mk (Kd.R_after (ok := (fun k_ => some k_ ≠ (.slice aD ah.length co9 : Value).ownBlock)) (rR_ aa.out) hg hat)
       replace ad := bg_ ad hg (Kd.R_ne ar.out ad.out (by decide))
       replace ac := bg_ ac hg (Kd.R_ne ar.out ac.out (by decide))
       replace HI0 := Aside0.mk (IsS126.grown (ti126_ HI0.out) hg (IsS126.own_ne HI0.out ar.out (by decide)))
       replace HB := Aside0.mk (below_weaken (tu126_ HB.out) HL.out hb)
       replace HK := Aside0.mk (KeepBut.trans (tc_ HK.out) (KeepBut.of_grown hg g) (Kd.R_base2 ar.out))
       have ap := Aside0.mk (ho)
       clear ar
       clear ho hb hg hat
       refine hK.out _ _ hh_ (fun hHeld => ?_)
       clear hK K
       refine nr_ 23 ?_
       refine one_ (i := 8) (N := some 28) #[true, true, true, true, true, true, true, true, true, false, false, false] rfl rfl (one_of HT_.out (by kernel_rfl)) (by decide) (fun K hK => ?_)
       refine goes_ Tryd.func101 (by kernel_rfl) rfl #[.pointer (some ⟨g, 0, none⟩), .int .i64 (ah.length : Int)] (by rfl) rfl rfl tz_ ?_
       with_reducible refine (spec_l20Rd_pick.calls k1 g ag af (ah.length : Int) aW aV w0 _ ?s1 ?s2 A17.out).mono ?_
       (case s1 => exact ti126_ HI0.out)
       (case s2 => exact tu126_ HB.out)
       rintro e dV ⟨rfl, hi, hb, hk⟩
       refine ⟨_, rfl, ?_⟩
       replace ab := Aside0.mk (Kd.R_mono (Kd.R_keep (IsS126.apart (ti126_ HI0.out : IsS126 w0 _ g ag af) (rR_ ab.out) (by decide)) hk (fun _ h => h.2)) (fun _ h => h.1))
       replace aa := Aside0.mk (Kd.R_mono (Kd.R_keep (IsS126.apart (ti126_ HI0.out : IsS126 w0 _ g ag af) (rR_ aa.out) (by decide)) hk (fun _ h => h.2)) (fun _ h => h.1))
       replace ad := kb_ ad hk ai
       replace ac := kb_ ac hk aj
       replace ap := Aside0.mk (Kd.R_mono (Kd.R_keep (IsS126.apart (ti126_ HI0.out : IsS126 w0 _ g ag af) (rR_ ap.out) (by decide)) hk (fun _ h => h.2)) (fun _ h => h.1))
       replace HK := kt_ HK hk
       replace HB := Aside0.mk (hb)
       replace HI0 := Aside0.mk (hi)
       (try clear hb)
       (try clear hb2)
       (try clear hk)
       (try clear hi)
       refine hK.out _ _ hh_ (fun hHeld => ?_)
       clear hK K
       refine nr_ 28 ?_
       refine one_ (i := 9) (N := some 29) #[true, true, true, true, true, true, true, true, true, true, false, false] rfl rfl (one_of HT_.out (by kernel_rfl)) (by decide) (fun K hK => ?_)
       refine va_ rfl ?_
       refine hK.out _ _ hh_ (fun hHeld => ?_)
       clear hK K
       refine nr_ 29 ?_
       refine one_ (i := 10) (N := some 30) #[true, true, true, true, true, true, true, true, true, true, true, false] rfl rfl (one_of HT_.out (by kernel_rfl)) (by decide) (fun K hK => ?_)
       refine Kd.R_append_step (Kd.int .i64) w.heap.size (by rfl) (.tmp 23) (.tmp 29) 23 3 (.int .i64 0) 8 rfl Tryd.underlying23 info3 rfl (by decide) (by omega) bz aH aW [.int .i64 aW] (fun k_ => some k_ ≠ (.slice aD ah.length co9 : Value).ownBlock ∧ some k_ ≠ (.slice a7 ae.length a8 : Value).ownBlock) (fun _ => False) rfl rfl ?aP (fun _ hk => hk.elim) ?aF ?aO (Below.refl _ _) ?aS ?aL ?_
       (case aP => exact rfl)
       (case aF => exact (fun k_ hk => ⟨Kd.fresh' (Kd.R_lt (rR_ ab.out)) k_ hk, Kd.fresh' (Kd.R_lt (rR_ aa.out)) k_ hk⟩))
       (case aO => exact (rR_ ap.out))
       (case aS => exact (keep_size (w := w) (g := g) (row := none) (tc_ HK.out)))
       (case aL => have := br.out; omega)
       intro cX dW ho hb hg hat
       rw [← bs.out] at ho
       replace ab := Aside0.mk (Kd.R_after (ok := (fun k_ => some k_ ≠ (.slice a7 ae.length a8 : Value).ownBlock)) (rR_ ab.out) hg hat)
       replace aa := Aside0.mk (Kd.R_after (ok := (fun k_ => some k_ ≠ (.slice aD ah.length co9 : Value).ownBlock)) (rR_ aa.out) hg hat)
       replace ad := bg_ ad hg (Kd.R_ne ap.out ad.out (by decide))
       replace ac := bg_ ac hg (Kd.R_ne ap.out ac.out (by decide))
       replace HI0 := Aside0.mk (IsS126.grown (ti126_ HI0.out) hg (IsS126.own_ne HI0.out ap.out (by decide)))
       replace HB := Aside0.mk (below_weaken (tu126_ HB.out) HL.out hb)
       replace HK := Aside0.mk (KeepBut.trans (tc_ HK.out) (KeepBut.of_grown hg g) (Kd.R_base2 ap.out))
       have aw := Aside0.mk (ho)
       clear ap
       clear ho hb hg hat
       refine hK.out _ _ hh_ (fun hHeld => ?_)
       clear hK K
       refine nr_ 30 ?_
       refine pu_ 11 (some 7) #[true, true, true, true, true, true, true, true, true, true, true, true] HT_ rfl rfl ?_
       refine done_ (done_of HT_.out (by kernel_rfl)) ?_
       have dg := an.out
       have dh := am.out
       have di := aj.out
       have dj := az.out
       have bQ := cz_ ac 0
       have bR := cz_ ac 1
       have bS := cz_ ac 2
       have bU := blk_frozen ac.out 0
       have bV := blk_frozen ac.out 1
       have bW := blk_frozen ac.out 2
       obtain ⟨bl, bm, cY⟩ := Kd.R_slice aw.out
       subst cY
       try go_wp2_with (first | ((with_reducible refine gate_callee (f := 73) rfl ?_); refine gl_ (some 37) Tryd.func73 #[.agg #[.slice aD ah.length co9, .int .i64 (wrap64 (al - 1)), .slice bl aq.length bm]] ?_; (with_reducible refine (spec_PlaceOk.calls k1 _ _ ah (wrap64 (al - 1)) _ _ aq true _ ?s1 ?s2 ?s3 ?s4 A19.out).mono ?_); (case s1 => repeat (first | exact (Kd.R_reads' ab.out).2.2 | (with_reducible refine Kd.C_alloc ?_ _) | (with_reducible refine Kd.C_drewN ?_ _) | (with_reducible refine Kd.C_drew ?_))); (case s2 => exact (Kd.R_reads' ab.out).2.1); (case s3 => repeat (first | exact (Kd.R_reads' aw.out).2.2 | (with_reducible refine Kd.C_alloc ?_ _) | (with_reducible refine Kd.C_drewN ?_ _) | (with_reducible refine Kd.C_drew ?_))); (case s4 => exact (Kd.R_reads' aw.out).2.1); rintro e dX ⟨rfl, hb⟩; refine ⟨_, rfl, ?_⟩; replace ab := rb_ ab hb; replace aa := rb_ aa hb; replace aw := rb_ aw hb; replace ad := bb_ ad hb; replace ac := bb_ ac hb; replace HI0 := ti126_b HI0 hb; replace HK := ko_ HK hb; replace HB := tu126_s HB hb; (try clear hb); (try clear hb2); (try clear hk); (try clear hi); have bX := cz_ ac 0; have bZ := cz_ ac 1; have b0 := cz_ ac 2; have b1 := blk_frozen ac.out 0; have b2 := blk_frozen ac.out 1; have b3 := blk_frozen ac.out 2))
       go_roundg k1
       case measure => have := HK1.out; omega
       case rel => exact ⟨(wrap64 (aA - 1)), (aV), (aq), (.slice bl aq.length bm), tx_, H', ⟨by have := HK1.out; omega⟩, ⟨by refine qR_ ?_; exact Kd.R_mono (Kd.R_far (p := ⟨ao, 2, none⟩) (Kd.R_types ab.out ac.out (by decide)) (fun _ hk => hk.2) (.slice bl aq.length bm)) (fun _ hk => hk.1.2)⟩, ⟨by refine qR_ ?_; exact Kd.R_mono (Kd.R_far (p := ⟨ao, 2, none⟩) (Kd.R_types aw.out ac.out (by decide)) (fun _ hk => hk.2) (.slice bl aq.length bm)) (fun _ hk => hk.1.1)⟩, ⟨tk_ ad.out⟩, ⟨by refine bq_ ?_; refine blk_put (cs := #[.slice aD ah.length co9, .int .i64 (wrap64 (al - 1)), .slice a7 ae.length a8]) ?_ 2 _ rfl; exact tk_ ac.out⟩, ⟨ti126_ HI0.out⟩, ⟨(tc_ HK.out)⟩, ⟨tu126_ HB.out⟩⟩
      ·
       replace c20 := Bool.eq_false_iff.mpr c20
       subst c20
       have H1 : (spec_l20Place.l0 k1 a1 (wrap64 (aA - 1)) ag aV ah (wrap64 (al - 1)) ae) = some (r1, r2, r3, r4) := by rw [if_neg (show ¬ (false = true) by decide)] at H; exact H
       clear H
       have H := H1
       clear H1
       have H' := Aside0.mk H
       clear H
       try go_wp2
       replace ab := rd_ ab
       replace aa := rd_ aa
       replace ad := dB_ ad
       replace ac := dB_ ac
       replace HI0 := Aside0.mk (IsS126.drew HI0.out)
       replace HK := Aside0.mk (keep_drew HK.out)
       replace HB := Aside0.mk (ld_ HB.out)
       refine start_ (n := 12) (S := fun w' => w'.cell? ⟨ao, 0, none⟩ = some (.slice aD ah.length co9) ∧ w'.cell? ⟨ao, 1, none⟩ = some (.int .i64 (wrap64 (al - 1))) ∧ w'.cell? ⟨ao, 2, none⟩ = some (u319002)) (ds := []) #[false, false, false, false, false, false, false, false, false, false, false, false] (by kernel_rfl) rfl rfl hh_ (fun hHeld => ?_); refine with_tabW spec_l20Place.tab5 spec_l20Place.bits5 (fun HT_ HW_ => ?_)
       generalize wr.drew = dY at ab aa ad ac HI0 HK HB hHeld ⊢
       refine pu_ 1 (some 21) #[false, true, false, false, false, false, false, false, false, false, false, false] HT_ rfl rfl ?_
       refine pu_ 4 (some 24) #[false, true, false, false, true, false, false, false, false, false, false, false] HT_ rfl rfl ?_
       refine pu_ 5 (some 25) #[false, true, false, false, true, true, false, false, false, false, false, false] HT_ rfl rfl ?_
       refine ta_ 2 (some 22) #[false, true, true, false, true, true, false, false, false, false, false, false] HT_ HW_ hHeld rfl rfl ?_
       refine ta_ 6 (some 26) #[false, true, true, false, true, true, true, false, false, false, false, false] HT_ HW_ hHeld rfl rfl ?_
       refine pu_ 7 (some 27) #[false, true, true, false, true, true, true, true, false, false, false, false] HT_ rfl rfl ?_
       refine one_ (i := 0) (N := some 20) #[true, true, true, false, true, true, true, true, false, false, false, false] rfl rfl (one_of HT_.out (by kernel_rfl)) (by decide) (fun K hK => ?_)
       refine Kd.R_lit_step (Kd.int .i64) _ 3 ?hg (N := 20) ?hd (xs := ([] : List Int)) (inner := []) (ok := fun _ => True) (okp := fun _ => True) ?hr ?hp (fun _ hk => hk) trivial (Below.refl _ _) (Nat.le_refl _) (by simp) ?_; (case hd => rfl); (case hg => rfl); (case hr => first | (go_simp; done) | (go_simp; rfl)); (case hp => exact (Reps.none _ _))
       intro bx dZ ho36 hb hg_ hnew_
       clear hg_ hnew_
       (first | rw [← aX.out] at ho36 | (simp only [Int.reduceToNat] at ho36; rw [← aX.out] at ho36))
       have ar := Aside0.mk (Kd.R_lower (Kd.R_new' (Kd.R_new' ho36 (Kd.R_lt (rR_ ab.out))) (Kd.R_lt (rR_ aa.out))) (keep_size (w := w) (g := g) (row := none) (tc_ HK.out)))
       replace ab := Aside0.mk (Kd.R_elder' (rR_ ab.out) (Kd.R_base ho36) hb)
       replace aa := Aside0.mk (Kd.R_elder' (rR_ aa.out) (Kd.R_base ho36) hb)
       replace ad := bb_ ad hb
       replace ac := bb_ ac hb
       replace HI0 := ti126_b HI0 hb
       replace HK := ko_ HK hb
       replace HB := tu126_s HB hb
       clear hb ho36
       obtain ⟨a9, bb, bJ⟩ := Kd.R_slice aa.out
       (first | subst bJ | (injection bJ with f1_ f2_ f3_; have f4_ := f1_.symm; have f5_ := f3_.symm; clear f1_ f2_ f3_; subst f4_; subst f5_))
       refine hK.out _ _ hh_ (fun hHeld => ?_)
       clear hK K
       refine nr_ 20 ?_
       refine one_ (i := 3) (N := some 23) #[true, true, true, true, true, true, true, true, false, false, false, false] rfl rfl (one_of HT_.out (by kernel_rfl)) (by decide) (fun K hK => ?_)
       refine Kd.R_append_rows_step (Kd.int .i64) w.heap.size (by rfl) (.tmp 20) (.tmp 22) 23 3 (.int .i64 0) 8 rfl Tryd.underlying23 info3 rfl (by decide) (by omega) bx aJ ae _ _ _ (fun k_ => some k_ ≠ (.slice aD ah.length co9 : Value).ownBlock ∧ some k_ ≠ (.slice a9 ae.length bb : Value).ownBlock) (fun _ => False) rfl rfl ?aO ?aR (fun _ _ h => h) (fun _ h => h.elim) ?aF (Below.refl _ _) ?aS ?aL ?_
       (case aR => repeat (first | exact (Kd.R_reads' aa.out).2.2 | (with_reducible refine Kd.C_alloc ?_ _) | (with_reducible refine Kd.C_drewN ?_ _) | (with_reducible refine Kd.C_drew ?_)))
       (case aF => exact (fun k_ hk => ⟨Kd.fresh' (Kd.R_lt (rR_ ab.out)) k_ hk, Kd.fresh' (Kd.R_lt (rR_ aa.out)) k_ hk⟩))
       (case aO => exact (by refine qR_ ?_; exact Kd.R_mono ar.out (fun _ hk => ⟨hk.1.2, hk.2⟩)))
       (case aS => exact (keep_size (w := w) (g := g) (row := none) (tc_ HK.out)))
       (case aL => have := bp.out; omega)
       intro bz d0 ho hb hg hat
       rw [← bq.out] at ho
       replace ab := Aside0.mk (Kd.R_after (ok := (fun k_ => some k_ ≠ (.slice a9 ae.length bb : Value).ownBlock)) (rR_ ab.out) hg hat)
       replace aa := Aside0.mk (Kd.R_after (ok := (fun k_ => some k_ ≠ (.slice aD ah.length co9 : Value).ownBlock)) (rR_ aa.out) hg hat)
       replace ad := bg_ ad hg (Kd.R_ne ar.out ad.out (by decide))
       replace ac := bg_ ac hg (Kd.R_ne ar.out ac.out (by decide))
       replace HI0 := Aside0.mk (IsS126.grown (ti126_ HI0.out) hg (IsS126.own_ne HI0.out ar.out (by decide)))
       replace HB := Aside0.mk (below_weaken (tu126_ HB.out) HL.out hb)
       replace HK := Aside0.mk (KeepBut.trans (tc_ HK.out) (KeepBut.of_grown hg g) (Kd.R_base2 ar.out))
       have ap := Aside0.mk (ho)
       clear ar
       clear ho hb hg hat
       refine hK.out _ _ hh_ (fun hHeld => ?_)
       clear hK K
       refine nr_ 23 ?_
       refine one_ (i := 8) (N := some 28) #[true, true, true, true, true, true, true, true, true, false, false, false] rfl rfl (one_of HT_.out (by kernel_rfl)) (by decide) (fun K hK => ?_)
       refine goes_ Tryd.func101 (by kernel_rfl) rfl #[.pointer (some ⟨g, 0, none⟩), .int .i64 (ah.length : Int)] (by rfl) rfl rfl tz_ ?_
       with_reducible refine (spec_l20Rd_pick.calls k1 g ag af (ah.length : Int) aW aV w0 _ ?s1 ?s2 A17.out).mono ?_
       (case s1 => exact ti126_ HI0.out)
       (case s2 => exact tu126_ HB.out)
       rintro e d1 ⟨rfl, hi, hb, hk⟩
       refine ⟨_, rfl, ?_⟩
       replace ab := Aside0.mk (Kd.R_mono (Kd.R_keep (IsS126.apart (ti126_ HI0.out : IsS126 w0 _ g ag af) (rR_ ab.out) (by decide)) hk (fun _ h => h.2)) (fun _ h => h.1))
       replace aa := Aside0.mk (Kd.R_mono (Kd.R_keep (IsS126.apart (ti126_ HI0.out : IsS126 w0 _ g ag af) (rR_ aa.out) (by decide)) hk (fun _ h => h.2)) (fun _ h => h.1))
       replace ad := kb_ ad hk ai
       replace ac := kb_ ac hk aj
       replace ap := Aside0.mk (Kd.R_mono (Kd.R_keep (IsS126.apart (ti126_ HI0.out : IsS126 w0 _ g ag af) (rR_ ap.out) (by decide)) hk (fun _ h => h.2)) (fun _ h => h.1))
       replace HK := kt_ HK hk
       replace HB := Aside0.mk (hb)
       replace HI0 := Aside0.mk (hi)
       (try clear hb)
       (try clear hb2)
       (try clear hk)
       (try clear hi)
       refine hK.out _ _ hh_ (fun hHeld => ?_)
       clear hK K
       refine nr_ 28 ?_
       refine one_ (i := 9) (N := some 29) #[true, true, true, true, true, true, true, true, true, true, false, false] rfl rfl (one_of HT_.out (by kernel_rfl)) (by decide) (fun K hK => ?_)
       refine va_ rfl ?_
       refine hK.out _ _ hh_ (fun hHeld => ?_)
       clear hK K
       refine nr_ 29 ?_
       refine one_ (i := 10) (N := some 30) #[true, true, true, true, true, true, true, true, true, true, true, false] rfl rfl (one_of HT_.out (by kernel_rfl)) (by decide) (fun K hK => ?_)
       refine Kd.R_append_step (Kd.int .i64) w.heap.size (by rfl) (.tmp 23) (.tmp 29) 23 3 (.int .i64 0) 8 rfl Tryd.underlying23 info3 rfl (by decide) (by omega) bz aH aW [.int .i64 aW] (fun k_ => some k_ ≠ (.slice aD ah.length co9 : Value).ownBlock ∧ some k_ ≠ (.slice a9 ae.length bb : Value).ownBlock) (fun _ => False) rfl rfl ?aP (fun _ hk => hk.elim) ?aF ?aO (Below.refl _ _) ?aS ?aL ?_
       (case aP => exact rfl)
       (case aF => exact (fun k_ hk => ⟨Kd.fresh' (Kd.R_lt (rR_ ab.out)) k_ hk, Kd.fresh' (Kd.R_lt (rR_ aa.out)) k_ hk⟩))
       (case aO => exact (rR_ ap.out))
       (case aS => exact (keep_size (w := w) (g := g) (row := none) (tc_ HK.out)))
       (case aL => have := br.out; omega)
       intro cX d2 ho hb hg hat
       rw [← bs.out] at ho
       replace ab := Aside0.mk (Kd.R_after (ok := (fun k_ => some k_ ≠ (.slice a9 ae.length bb : Value).ownBlock)) (rR_ ab.out) hg hat)
       replace aa := Aside0.mk (Kd.R_after (ok := (fun k_ => some k_ ≠ (.slice aD ah.length co9 : Value).ownBlock)) (rR_ aa.out) hg hat)
       replace ad := bg_ ad hg (Kd.R_ne ap.out ad.out (by decide))
       replace ac := bg_ ac hg (Kd.R_ne ap.out ac.out (by decide))
       replace HI0 := Aside0.mk (IsS126.grown (ti126_ HI0.out) hg (IsS126.own_ne HI0.out ap.out (by decide)))
       replace HB := Aside0.mk (below_weaken (tu126_ HB.out) HL.out hb)
       replace HK := Aside0.mk (KeepBut.trans (tc_ HK.out) (KeepBut.of_grown hg g) (Kd.R_base2 ap.out))
       have aw := Aside0.mk (ho)
       clear ap
       clear ho hb hg hat
       refine hK.out _ _ hh_ (fun hHeld => ?_)
       clear hK K
       refine nr_ 30 ?_
       refine pu_ 11 (some 7) #[true, true, true, true, true, true, true, true, true, true, true, true] HT_ rfl rfl ?_
       refine done_ (done_of HT_.out (by kernel_rfl)) ?_
       have dk := an.out
       have dl := am.out
       have dm := aj.out
       have dn := az.out
       have b4 := cz_ ac 0
       have b5 := cz_ ac 1
       have b6 := cz_ ac 2
       have b7 := blk_frozen ac.out 0
       have b8 := blk_frozen ac.out 1
       have b9 := blk_frozen ac.out 2
       obtain ⟨cZ, c0, c2⟩ := Kd.R_slice aw.out
       subst c2
       try go_wp2_with (first | ((with_reducible refine gate_callee (f := 73) rfl ?_); refine gl_ (some 37) Tryd.func73 #[.agg #[.slice aD ah.length co9, .int .i64 (wrap64 (al - 1)), .slice cZ aq.length c0]] ?_; (with_reducible refine (spec_PlaceOk.calls k1 _ _ ah (wrap64 (al - 1)) _ _ aq false _ ?s1 ?s2 ?s3 ?s4 A19.out).mono ?_); (case s1 => repeat (first | exact (Kd.R_reads' ab.out).2.2 | (with_reducible refine Kd.C_alloc ?_ _) | (with_reducible refine Kd.C_drewN ?_ _) | (with_reducible refine Kd.C_drew ?_))); (case s2 => exact (Kd.R_reads' ab.out).2.1); (case s3 => repeat (first | exact (Kd.R_reads' aw.out).2.2 | (with_reducible refine Kd.C_alloc ?_ _) | (with_reducible refine Kd.C_drewN ?_ _) | (with_reducible refine Kd.C_drew ?_))); (case s4 => exact (Kd.R_reads' aw.out).2.1); rintro e d3 ⟨rfl, hb⟩; refine ⟨_, rfl, ?_⟩; replace ab := rb_ ab hb; replace aa := rb_ aa hb; replace aw := rb_ aw hb; replace ad := bb_ ad hb; replace ac := bb_ ac hb; replace HI0 := ti126_b HI0 hb; replace HK := ko_ HK hb; replace HB := tu126_s HB hb; (try clear hb); (try clear hb2); (try clear hk); (try clear hi)))
       go_roundg k1
       case measure => have := HK1.out; omega
       case rel => exact ⟨(wrap64 (aA - 1)), (aV), (ae), (.slice a9 ae.length bb), tx_, H', ⟨by have := HK1.out; omega⟩, ⟨by refine qR_ ?_; exact Kd.R_mono ab.out (fun _ hk => hk.1)⟩, ⟨by refine qR_ ?_; exact Kd.R_mono aa.out (fun _ hk => hk.1)⟩, ⟨tk_ ad.out⟩, ⟨tk_ ac.out⟩, ⟨ti126_ HI0.out⟩, ⟨(tc_ HK.out)⟩, ⟨tu126_ HB.out⟩⟩
     ·
      rw [if_neg c18] at H
      exact absurd H (by simp)
    ·
     rw [if_neg c16] at H
     exact absurd H (by simp)
   ·
    rw [if_neg c15] at H
    have bH : decide (0 < aA) = false := decide_eq_false c15
    clear c15
    obtain ⟨⟨c3, aB⟩, A46, H⟩ := bnd_ H
    try dsimp only at H
    by_cases c47 : c3 = true
    ·
     subst c47
     have H1 : ((spec_l20Rd_pick.f k1 ag aB 3).bind fun ay => (if ay.1 = 0 then (some (ah, 4, ae, ay.2)) else (if ay.1 = 1 then (if ae.length < 17592186044416 then (some (ah, (wrap64 (al - 1)), (ae ++ [3]), ay.2)) else (none)) else (some (([] : List Int), 0, ([] : List Int), ay.2))))) = some (r1, r2, r3, r4) := by rw [if_pos rfl] at H; exact H
     clear H
     have H := H1
     clear H1
     obtain ⟨⟨aE, bn⟩, A48, H⟩ := bnd_ H
     try dsimp only at H
     by_cases c49 : aE = 0
     ·
      rw [if_pos c49] at H
      have bK : (aE == 0) = true := beq_iff_eq.mpr c49
      have bL : (aE != 0) = false := bne_eq_false_iff_eq.mpr c49
      clear c49
      simp only [Option.some.injEq, Prod.mk.injEq] at H
      obtain ⟨rfl, rfl, rfl, rfl⟩ := H
      go_wp2_with (first | ((with_reducible refine gate_callee (f := 80) rfl ?_); refine gl_ (some 42) Tryd.func80 #[.pointer (some ⟨g, 0, none⟩), .int .i64 a1] ?_; (with_reducible refine (spec_l20Rd_odd.calls k1 g ag af a1 true aB w0 _ ?s1 ?s2 A46.out).mono ?_); (case s1 => exact ti126_ HI0.out); (case s2 => exact tu126_ HB.out); rintro e d4 ⟨rfl, hi, hb, hk⟩; refine ⟨_, rfl, ?_⟩; replace ab := Aside0.mk (Kd.R_mono (Kd.R_keep (IsS126.apart (ti126_ HI0.out : IsS126 w0 _ g ag af) (rR_ ab.out) (by decide)) hk (fun _ h => h.2)) (fun _ h => h.1)); replace aa := Aside0.mk (Kd.R_mono (Kd.R_keep (IsS126.apart (ti126_ HI0.out : IsS126 w0 _ g ag af) (rR_ aa.out) (by decide)) hk (fun _ h => h.2)) (fun _ h => h.1)); replace ad := kb_ ad hk ai; replace ac := kb_ ac hk aj; replace HK := kt_ HK hk; replace HB := Aside0.mk (hb); replace HI0 := Aside0.mk (hi); (try clear hb); (try clear hb2); (try clear hk); (try clear hi)) | ((with_reducible refine gate_callee (f := 101) rfl ?_); refine gl_ (some 44) Tryd.func101 #[.pointer (some ⟨g, 0, none⟩), .int .i64 3] ?_; (with_reducible refine (spec_l20Rd_pick.calls k1 g ag aB 3 aE bn w0 _ ?s1 ?s2 A48.out).mono ?_); (case s1 => exact ti126_ HI0.out); (case s2 => exact tu126_ HB.out); rintro e d5 ⟨rfl, hi, hb, hk⟩; refine ⟨_, rfl, ?_⟩; replace ab := Aside0.mk (Kd.R_mono (Kd.R_keep (IsS126.apart (ti126_ HI0.out : IsS126 w0 _ g ag aB) (rR_ ab.out) (by decide)) hk (fun _ h => h.2)) (fun _ h => h.1)); replace aa := Aside0.mk (Kd.R_mono (Kd.R_keep (IsS126.apart (ti126_ HI0.out : IsS126 w0 _ g ag aB) (rR_ aa.out) (by decide)) hk (fun _ h => h.2)) (fun _ h => h.1)); replace ad := kb_ ad hk ai; replace ac := kb_ ac hk aj; replace HK := kt_ HK hk; replace HB := Aside0.mk (hb); replace HI0 := Aside0.mk (hi); (try clear hb); (try clear hb2); (try clear hk); (try clear hi); have dp := an.out; have dq := am.out; have dr := aj.out; have dt := az.out; have ca := cz_ ac 0; have cb := cz_ ac 1; have cc := cz_ ac 2; have cd := blk_frozen ac.out 0; have ce := blk_frozen ac.out 1; have cf := blk_frozen ac.out 2; have du := ai.out; have dv := aI.out; have cg := cz_ ad 0; have ch := cz_ ad 1; have ci := cz_ ad 2; have cj := blk_frozen ad.out 0; have ck := blk_frozen ad.out 1; have cl := blk_frozen ad.out 2; obtain ⟨bB, bC, c4⟩ := Kd.R_slice aa.out; subst c4))
      refine bodyPost_ret (results_cell_row rfl _ _ ak 25 #[.slice aD ah.length co9, .int .i64 4, .slice bB ae.length bC] (0, 0) _ rfl (ps_ ad.out) Tryd.underlying25 rfl (by kernel_rfl)) rfl ?_
      exact ⟨_, _, tw_, by refine qR_ ?_; exact Kd.R_mono (Kd.R_far (p := ⟨ak, 2, none⟩) (Kd.R_far (p := ⟨ak, 1, none⟩) (Kd.R_far (p := ⟨ak, 0, none⟩) (Kd.R_far (p := ⟨ao, 1, none⟩) (Kd.R_types (Kd.R_types ab.out ac.out (by decide)) ad.out (by decide)) (fun _ hk => hk.1.2) (.int .i64 4)) (fun _ hk => hk.2) (.slice aD ah.length co9)) (fun _ hk => hk.2) (.int .i64 4)) (fun _ hk => hk.2) (.slice bB ae.length bC)) (fun _ hk => hk.1.1), by refine qR_ ?_; exact Kd.R_mono (Kd.R_far (p := ⟨ak, 2, none⟩) (Kd.R_far (p := ⟨ak, 1, none⟩) (Kd.R_far (p := ⟨ak, 0, none⟩) (Kd.R_far (p := ⟨ao, 1, none⟩) (Kd.R_types (Kd.R_types aa.out ac.out (by decide)) ad.out (by decide)) (fun _ hk => hk.1.2) (.int .i64 4)) (fun _ hk => hk.2) (.slice aD ah.length co9)) (fun _ hk => hk.2) (.int .i64 4)) (fun _ hk => hk.2) (.slice bB ae.length bC)) (fun _ hk => hk.1.1), ti126_ HI0.out, tu126_ HB.out, (tc_ HK.out)⟩
     ·
      rw [if_neg c49] at H
      have bK : (aE == 0) = false := beq_eq_false_iff_ne.mpr c49
      have bL : (aE != 0) = true := bne_iff_ne.mpr c49
      by_cases c58 : aE = 1
      ·
       rw [if_pos c58] at H
       have bM : (aE == 1) = true := beq_iff_eq.mpr c58
       have bN : (aE != 1) = false := bne_eq_false_iff_eq.mpr c58
       clear c58
       by_cases c59 : ae.length < 17592186044416
       ·
        rw [if_pos c59] at H
        have bO := Aside0.mk c59
        clear c59
        obtain ⟨aZ, bc⟩ : ∃ y_ : List Int, y_ = (ae ++ [3]) := ⟨_, rfl⟩
        replace H : (some (ah, (wrap64 (al - 1)), aZ, bn)) = some (r1, r2, r3, r4) := yq_ bc H
        have bP := Aside0.mk bc
        clear bc
        simp only [Option.some.injEq, Prod.mk.injEq] at H
        obtain ⟨rfl, rfl, rfl, rfl⟩ := H
        go_wp2_with (first | ((with_reducible refine gate_callee (f := 80) rfl ?_); refine gl_ (some 42) Tryd.func80 #[.pointer (some ⟨g, 0, none⟩), .int .i64 a1] ?_; (with_reducible refine (spec_l20Rd_odd.calls k1 g ag af a1 true aB w0 _ ?s1 ?s2 A46.out).mono ?_); (case s1 => exact ti126_ HI0.out); (case s2 => exact tu126_ HB.out); rintro e d6 ⟨rfl, hi, hb, hk⟩; refine ⟨_, rfl, ?_⟩; replace ab := Aside0.mk (Kd.R_mono (Kd.R_keep (IsS126.apart (ti126_ HI0.out : IsS126 w0 _ g ag af) (rR_ ab.out) (by decide)) hk (fun _ h => h.2)) (fun _ h => h.1)); replace aa := Aside0.mk (Kd.R_mono (Kd.R_keep (IsS126.apart (ti126_ HI0.out : IsS126 w0 _ g ag af) (rR_ aa.out) (by decide)) hk (fun _ h => h.2)) (fun _ h => h.1)); replace ad := kb_ ad hk ai; replace ac := kb_ ac hk aj; replace HK := kt_ HK hk; replace HB := Aside0.mk (hb); replace HI0 := Aside0.mk (hi); (try clear hb); (try clear hb2); (try clear hk); (try clear hi)) | ((with_reducible refine gate_callee (f := 101) rfl ?_); refine gl_ (some 44) Tryd.func101 #[.pointer (some ⟨g, 0, none⟩), .int .i64 3] ?_; (with_reducible refine (spec_l20Rd_pick.calls k1 g ag aB 3 aE bn w0 _ ?s1 ?s2 A48.out).mono ?_); (case s1 => exact ti126_ HI0.out); (case s2 => exact tu126_ HB.out); rintro e d7 ⟨rfl, hi, hb, hk⟩; refine ⟨_, rfl, ?_⟩; replace ab := Aside0.mk (Kd.R_mono (Kd.R_keep (IsS126.apart (ti126_ HI0.out : IsS126 w0 _ g ag aB) (rR_ ab.out) (by decide)) hk (fun _ h => h.2)) (fun _ h => h.1)); replace aa := Aside0.mk (Kd.R_mono (Kd.R_keep (IsS126.apart (ti126_ HI0.out : IsS126 w0 _ g ag aB) (rR_ aa.out) (by decide)) hk (fun _ h => h.2)) (fun _ h => h.1)); replace ad := kb_ ad hk ai; replace ac := kb_ ac hk aj; replace HK := kt_ HK hk; replace HB := Aside0.mk (hb); replace HI0 := Aside0.mk (hi); (try clear hb); (try clear hb2); (try clear hk); (try clear hi); have dw := an.out; have dx := am.out; have dy := aj.out; have dz := az.out; have cm := cz_ ac 0; have cn := cz_ ac 1; have co := cz_ ac 2; have cp := blk_frozen ac.out 0; have cq := blk_frozen ac.out 1; have cr := blk_frozen ac.out 2) | ((with_reducible refine gate_builtin (b := .append) (xs := #[.tmp 52, .tmp 53]) rfl ?_); at_builtin; refine Kd.R_append (Kd.int .i64) w.heap.size rfl (.tmp 52) (.tmp 53) 23 3 (.int .i64 0) 8 rfl Tryd.underlying23 info3 rfl (by decide) (by omega) u319002 ae 3 [.int .i64 3] (fun k_ => some k_ ≠ (.slice aD ah.length co9 : Value).ownBlock) (fun _ => False) rfl rfl ?aP (fun _ hk => hk.elim) ?aF ?aO (Below.refl _ _) ?aS ?aL ?_; (case aP => exact rfl); (case aF => exact (fun k_ hk => Kd.fresh' (Kd.R_lt (rR_ ab.out)) k_ hk)); (case aO => exact (rR_ aa.out)); (case aS => exact (keep_size (w := w) (g := g) (row := none) (tc_ HK.out))); (case aL => have := bO.out; omega); intro dP d8 ho hb hg hat; rw [← bP.out] at ho; replace ab := Aside0.mk (Kd.R_after (ok := (fun _ => True)) (by refine qR_ ?_; exact Kd.R_mono ab.out (fun _ hk => ⟨trivial, hk⟩)) hg hat); replace ad := bg_ ad hg (Kd.R_ne aa.out ad.out (by decide)); replace ac := bg_ ac hg (Kd.R_ne aa.out ac.out (by decide)); replace HI0 := Aside0.mk (IsS126.grown (ti126_ HI0.out) hg (IsS126.own_ne HI0.out aa.out (by decide))); replace HB := Aside0.mk (below_weaken (tu126_ HB.out) HL.out hb); replace HK := Aside0.mk (KeepBut.trans (tc_ HK.out) (KeepBut.of_grown hg g) (Kd.R_base2 aa.out)); have bu := Aside0.mk (ho); clear aa ho hb hg hat; obtain ⟨bd, be, c5⟩ := Kd.R_slice bu.out; subst c5; have ct := cz_ ac 0; have cu := cz_ ac 1; have cv := cz_ ac 2; have cw := blk_frozen ac.out 0; have cx := blk_frozen ac.out 1; have cy := blk_frozen ac.out 2; have dA := ai.out; have dB := aI.out; have cz := cz_ ad 0; have cA := cz_ ad 1; have cB := cz_ ad 2; have cC := blk_frozen ad.out 0; have cD := blk_frozen ad.out 1; have cE := blk_frozen ad.out 2))
        refine bodyPost_ret (results_cell_row rfl _ _ ak 25 #[.slice aD ah.length co9, .int .i64 (wrap64 (al - 1)), .slice bd aZ.length be] (0, 0) _ rfl (ps_ ad.out) Tryd.underlying25 rfl (by kernel_rfl)) rfl ?_
        exact ⟨_, _, tw_, by refine qR_ ?_; exact Kd.R_mono (Kd.R_far (p := ⟨ak, 2, none⟩) (Kd.R_far (p := ⟨ak, 1, none⟩) (Kd.R_far (p := ⟨ak, 0, none⟩) (Kd.R_far (p := ⟨ao, 2, none⟩) (Kd.R_types (Kd.R_types ab.out ac.out (by decide)) ad.out (by decide)) (fun _ hk => hk.1.2) (.slice bd aZ.length be)) (fun _ hk => hk.2) (.slice aD ah.length co9)) (fun _ hk => hk.2) (.int .i64 (wrap64 (al - 1)))) (fun _ hk => hk.2) (.slice bd aZ.length be)) (fun _ hk => hk.1.1.2), by refine qR_ ?_; exact Kd.R_mono (Kd.R_far (p := ⟨ak, 2, none⟩) (Kd.R_far (p := ⟨ak, 1, none⟩) (Kd.R_far (p := ⟨ak, 0, none⟩) (Kd.R_far (p := ⟨ao, 2, none⟩) (Kd.R_types (Kd.R_types bu.out ac.out (by decide)) ad.out (by decide)) (fun _ hk => hk.1.2) (.slice bd aZ.length be)) (fun _ hk => hk.2) (.slice aD ah.length co9)) (fun _ hk => hk.2) (.int .i64 (wrap64 (al - 1)))) (fun _ hk => hk.2) (.slice bd aZ.length be)) (fun _ hk => hk.1.1), ti126_ HI0.out, tu126_ HB.out, (tc_ HK.out)⟩
       ·
        rw [if_neg c59] at H
        exact absurd H (by simp)
      ·
       rw [if_neg c58] at H
       have bM : (aE == 1) = false := beq_eq_false_iff_ne.mpr c58
       have bN : (aE != 1) = true := bne_iff_ne.mpr c58
       simp only [Option.some.injEq, Prod.mk.injEq] at H
       obtain ⟨rfl, rfl, rfl, rfl⟩ := H
       go_wp2_with (first | ((with_reducible refine gate_callee (f := 80) rfl ?_); refine gl_ (some 42) Tryd.func80 #[.pointer (some ⟨g, 0, none⟩), .int .i64 a1] ?_; (with_reducible refine (spec_l20Rd_odd.calls k1 g ag af a1 true aB w0 _ ?s1 ?s2 A46.out).mono ?_); (case s1 => exact ti126_ HI0.out); (case s2 => exact tu126_ HB.out); rintro e d9 ⟨rfl, hi, hb, hk⟩; refine ⟨_, rfl, ?_⟩; replace ab := Aside0.mk (Kd.R_mono (Kd.R_keep (IsS126.apart (ti126_ HI0.out : IsS126 w0 _ g ag af) (rR_ ab.out) (by decide)) hk (fun _ h => h.2)) (fun _ h => h.1)); replace aa := Aside0.mk (Kd.R_mono (Kd.R_keep (IsS126.apart (ti126_ HI0.out : IsS126 w0 _ g ag af) (rR_ aa.out) (by decide)) hk (fun _ h => h.2)) (fun _ h => h.1)); replace ad := kb_ ad hk ai; replace ac := kb_ ac hk aj; replace HK := kt_ HK hk; replace HB := Aside0.mk (hb); replace HI0 := Aside0.mk (hi); (try clear hb); (try clear hb2); (try clear hk); (try clear hi)) | ((with_reducible refine gate_callee (f := 101) rfl ?_); refine gl_ (some 44) Tryd.func101 #[.pointer (some ⟨g, 0, none⟩), .int .i64 3] ?_; (with_reducible refine (spec_l20Rd_pick.calls k1 g ag aB 3 aE bn w0 _ ?s1 ?s2 A48.out).mono ?_); (case s1 => exact ti126_ HI0.out); (case s2 => exact tu126_ HB.out); rintro e ea ⟨rfl, hi, hb, hk⟩; refine ⟨_, rfl, ?_⟩; replace ab := Aside0.mk (Kd.R_mono (Kd.R_keep (IsS126.apart (ti126_ HI0.out : IsS126 w0 _ g ag aB) (rR_ ab.out) (by decide)) hk (fun _ h => h.2)) (fun _ h => h.1)); replace aa := Aside0.mk (Kd.R_mono (Kd.R_keep (IsS126.apart (ti126_ HI0.out : IsS126 w0 _ g ag aB) (rR_ aa.out) (by decide)) hk (fun _ h => h.2)) (fun _ h => h.1)); replace ad := kb_ ad hk ai; replace ac := kb_ ac hk aj; replace HK := kt_ HK hk; replace HB := Aside0.mk (hb); replace HI0 := Aside0.mk (hi); (try clear hb); (try clear hb2); (try clear hk); (try clear hi); have dC := am.out; have dD := an.out; have dE := ai.out; have dF := aI.out; have cF := cz_ ad 0; have cG := cz_ ad 1; have cH := cz_ ad 2; have cI := blk_frozen ad.out 0; have cJ := blk_frozen ad.out 1; have cK := blk_frozen ad.out 2))
       refine bodyPost_ret (results_cell_row rfl _ _ ak 25 #[.slice none 0 0, .int .i64 0, .slice none 0 0] (0, 0) _ rfl (ps_ ad.out) Tryd.underlying25 rfl (by kernel_rfl)) rfl ?_
       exact ⟨_, _, tw_, by first | exact Kd.R_nil _ _ _ _ _ | exact Kd.N_nil _ _ _ _ _ | exact Kd.V_nil _ _ _ _ _ | exact Kd.Q_nil _ _ _ _ _ | exact Kd.S_nil _ _ _ _ _, by first | exact Kd.R_nil _ _ _ _ _ | exact Kd.N_nil _ _ _ _ _ | exact Kd.V_nil _ _ _ _ _ | exact Kd.Q_nil _ _ _ _ _ | exact Kd.S_nil _ _ _ _ _, ti126_ HI0.out, tu126_ HB.out, (tc_ HK.out)⟩
    ·
     replace c47 := Bool.eq_false_iff.mpr c47
     subst c47
     have H1 : (some (ah, (wrap64 (al - 1)), ae, aB)) = some (r1, r2, r3, r4) := by rw [if_neg (show ¬ (false = true) by decide)] at H; exact H
     clear H
     have H := H1
     clear H1
     simp only [Option.some.injEq, Prod.mk.injEq] at H
     obtain ⟨rfl, rfl, rfl, rfl⟩ := H
     go_wp2_with (first | ((with_reducible refine gate_callee (f := 80) rfl ?_); refine gl_ (some 42) Tryd.func80 #[.pointer (some ⟨g, 0, none⟩), .int .i64 a1] ?_; (with_reducible refine (spec_l20Rd_odd.calls k1 g ag af a1 false aB w0 _ ?s1 ?s2 A46.out).mono ?_); (case s1 => exact ti126_ HI0.out); (case s2 => exact tu126_ HB.out); rintro e eb ⟨rfl, hi, hb, hk⟩; refine ⟨_, rfl, ?_⟩; replace ab := Aside0.mk (Kd.R_mono (Kd.R_keep (IsS126.apart (ti126_ HI0.out : IsS126 w0 _ g ag af) (rR_ ab.out) (by decide)) hk (fun _ h => h.2)) (fun _ h => h.1)); replace aa := Aside0.mk (Kd.R_mono (Kd.R_keep (IsS126.apart (ti126_ HI0.out : IsS126 w0 _ g ag af) (rR_ aa.out) (by decide)) hk (fun _ h => h.2)) (fun _ h => h.1)); replace ad := kb_ ad hk ai; replace ac := kb_ ac hk aj; replace HK := kt_ HK hk; replace HB := Aside0.mk (hb); replace HI0 := Aside0.mk (hi); (try clear hb); (try clear hb2); (try clear hk); (try clear hi); have dG := an.out; have dH := am.out; have dI := aj.out; have dJ := az.out; have cL := cz_ ac 0; have cM := cz_ ac 1; have cN := cz_ ac 2; have cO := blk_frozen ac.out 0; have cP := blk_frozen ac.out 1; have cQ := blk_frozen ac.out 2; have dK := ai.out; have dL := aI.out; have cR := cz_ ad 0; have cS := cz_ ad 1; have cT := cz_ ad 2; have cU := blk_frozen ad.out 0; have cV := blk_frozen ad.out 1; have cW := blk_frozen ad.out 2; obtain ⟨bD, bE, c6⟩ := Kd.R_slice aa.out; subst c6))
     refine bodyPost_ret (results_cell_row rfl _ _ ak 25 #[.slice aD ah.length co9, .int .i64 (wrap64 (al - 1)), .slice bD ae.length bE] (0, 0) _ rfl (ps_ ad.out) Tryd.underlying25 rfl (by kernel_rfl)) rfl ?_
     exact ⟨_, _, tw_, by refine qR_ ?_; exact Kd.R_mono (Kd.R_far (p := ⟨ak, 2, none⟩) (Kd.R_far (p := ⟨ak, 1, none⟩) (Kd.R_far (p := ⟨ak, 0, none⟩) (Kd.R_types ab.out ad.out (by decide)) (fun _ hk => hk.2) (.slice aD ah.length co9)) (fun _ hk => hk.2) (.int .i64 (wrap64 (al - 1)))) (fun _ hk => hk.2) (.slice bD ae.length bE)) (fun _ hk => hk.1), by refine qR_ ?_; exact Kd.R_mono (Kd.R_far (p := ⟨ak, 2, none⟩) (Kd.R_far (p := ⟨ak, 1, none⟩) (Kd.R_far (p := ⟨ak, 0, none⟩) (Kd.R_types aa.out ad.out (by decide)) (fun _ hk => hk.2) (.slice aD ah.length co9)) (fun _ hk => hk.2) (.int .i64 (wrap64 (al - 1)))) (fun _ hk => hk.2) (.slice bD ae.length bE)) (fun _ hk => hk.1), ti126_ HI0.out, tu126_ HB.out, (tc_ HK.out)⟩

end Go.Proofs.YtlhiienanbpdlaaDoor.MFnJournalText
