/- For the law FnPlaceText: walks of the functions that it reaches: each call returns what the plain function beside it tells. The conditions stand in each statement. -/
import Derived.Test.YtlhiienanbpdlaaDoorV
import Derived.Test.YtlhiienanbpdlaaDoorMFnPlaceTextx0
import Derived.Test.YtlhiienanbpdlaaDoorMFnPlaceTextx5
import Derived.Test.YtlhiienanbpdlaaDoorMFnPlaceTextx7
import Derived.Test.YtlhiienanbpdlaaDoorMFnPlaceTextx8
namespace Go.Proofs.YtlhiienanbpdlaaDoor.MFnPlaceText
open Go.RowKit Go.Proofs.YtlhiienanbpdlaaDoorW.PrintWords Go.Proofs.YtlhiienanbpdlaaDoorW.PrintLast Go.Proofs.YtlhiienanbpdlaaDoorW.PrintMore
attribute [local go_sem] max2_int min2_int max_two min_two max_three min_three max_four min_four   -- for this text's walks alone
set_option linter.unusedVariables false
set_option linter.unusedSimpArgs false

/-! ### spec_l20Place: function 97 -/
def spec_l20Place.l0 : Nat → Int → Int → List Int → Int → List Int → Int → List Int → Option (List Int × Int × List Int × Int)
 | 0, _, _, _, _, _, _, _ => none
 | k + 1, x1, x6, aV, bz, av, aE, aw => if x6 > 0 then ((some (([] : List Int) : List Int)).bind fun aQ => (if aQ.length + aw.length < 17592186044416 then ((some (aQ ++ aw : List Int)).bind fun aJ => ((spec_l20Rd_pick.f k aV bz (av.length : Int)).bind fun ay => (if aJ.length < 17592186044416 then ((some (aJ ++ [ay.1] : List Int)).bind fun ar => ((spec_PlaceOk.f k av aE ar).bind fun aU => (if aU = true then (spec_l20Place.l0 k x1 (wrap64 (x6 - 1)) aV ay.2 av aE ar) else (spec_l20Place.l0 k x1 (wrap64 (x6 - 1)) aV ay.2 av aE aw)))) else (none)))) else (none))) else ((spec_l20Rd_odd.f k aV bz x1).bind fun a9 => (if a9.1 = true then ((spec_l20Rd_pick.f k aV a9.2 3).bind fun az => (if az.1 = 0 then (some (av, 4, aw, az.2)) else (if az.1 = 1 then (if aw.length < 17592186044416 then (some (av, aE, (aw ++ [3]), az.2)) else (none)) else (some (([] : List Int), 0, ([] : List Int), az.2))))) else (some (av, aE, aw, a9.2))))
def spec_l20Place.f (k : Nat) (ag : List Int) (a6 : Int) (a1 : Int) : Option (List Int × Int × List Int × Int) := (spec_l20Urn.f k ag a6 0).bind fun aW => ((spec_l20Rd_pick.f k ag aW.2 5).bind fun aX => ((spec_l20Rd_pick.f k ag aX.2 5).bind fun aY => (spec_l20Place.l0 k a1 aY.1 ag aY.2 aW.1 (wrap64 (aX.1 - 1)) ([] : List Int))))
theorem spec_l20Place.mono_l : ∀ k, (∀ y0 y1 y2 y3 y4 y5 y6, LeO (spec_l20Place.l0 k y0 y1 y2 y3 y4 y5 y6) (spec_l20Place.l0 (k + 1) y0 y1 y2 y3 y4 y5 y6))
 | 0 => fun _ _ _ _ _ _ _ r h => by simp [spec_l20Place.l0] at h
 | k + 1 => by
  have ih0 := spec_l20Place.mono_l k
  ·
   intro y0 y1 y2 y3 y4 y5 y6
   unfold spec_l20Place.l0
   repeat' (with_reducible first | exact ih0 _ _ _ _ _ _ _ | exact spec_PlaceOk.mono _ _ _ _ | exact spec_l20Rd_odd.mono _ _ _ _ | exact spec_l20Rd_pick.mono _ _ _ _ | exact spec_l20Urn.mono _ _ _ _ | exact mr_ | exact mn_ | refine mi_ ?_ ?_ | refine mb_ ?_ (fun _ => ?_))
theorem spec_l20Place.mono : ∀ a0 a1 a2 k, LeO (spec_l20Place.f k a0 a1 a2) (spec_l20Place.f (k + 1) a0 a1 a2) := by
 intro a0 a1 a2 k
 have ih0 := spec_l20Place.mono_l k
 unfold spec_l20Place.f
 repeat' (with_reducible first | exact ih0 _ _ _ _ _ _ _ | exact spec_PlaceOk.mono _ _ _ _ | exact spec_l20Rd_odd.mono _ _ _ _ | exact spec_l20Rd_pick.mono _ _ _ _ | exact spec_l20Urn.mono _ _ _ _ | exact mr_ | exact mn_ | refine mi_ ?_ ?_ | refine mb_ ?_ (fun _ => ?_))
def spec_l20Place.T5 : Bool × List (List Nat × List Nat) := (true, [([], []), ([], []), ([1], [1]), ([0, 2], [0, 2]), ([], []), ([], []), ([5], [5]), ([6], [6]), ([4, 7, 3], [4, 7]), ([8], [8]), ([3, 9, 8], [3, 9]), ([10, 10, 0, 1, 2, 3, 4, 5, 6, 7, 8, 9, 10], [10])])
def spec_l20Place.B5 : List Nat := [0, 0, 2, 7, 0, 0, 32, 96, 255, 511, 1023, 2047]
theorem spec_l20Place.tab5 : rtab .any (opsOf Tryd.f97 5) = spec_l20Place.T5 := by kernel_rfl
theorem spec_l20Place.bits5 : waitsOk spec_l20Place.T5.2 spec_l20Place.B5 = true := by kernel_rfl
set_option maxHeartbeats 8000000 in
set_option maxRecDepth 100000 in
theorem spec_l20Place.calls (k : Nat) (g : Nat) (ag : List Int) (a6 : Int) (a1 : Int) (r1 : List Int) (r2 : Int) (r3 : List Int) (r4 : Int) (w0 w : World) (hI : IsS126 w0 w g ag a6) (hB : Below w0.heap.size w0 w) (h : spec_l20Place.f k ag a6 a1 = some (r1, r2, r3, r4)) :
  Calls Tryd.prog 97 #[.pointer (some ⟨g, 0, none⟩), .int .i64 a1] w fun e w' => ∃ v0_ v2_ : Value, e = .returned (.agg #[v0_, .int .i64 r2, v2_]) ∧ Kd.R (Kd.int .i64) 3 w' w.heap.size (fun k_ => some k_ ≠ (v2_ : Value).ownBlock) v0_ r1 ∧ Kd.R (Kd.int .i64) 3 w' w.heap.size (fun k_ => some k_ ≠ (v0_ : Value).ownBlock) v2_ r3 ∧ IsS126 w0 w' g ag r4 ∧ Below w0.heap.size w0 w' ∧ KeepBut w w' g none := by
 have hu25 := Tryd.underlying25
 have HI0 := Aside0.mk hI
 have HK := Aside0.mk (KeepBut.refl w g none)
 have HL := Aside0.mk hB.size
 have HLg := Aside0.mk hI.lt
 clear hI
 have HW0 := Aside0.mk hB.size
 have HB := Aside0.mk hB
 clear hB
 have H : ((spec_l20Urn.f k ag a6 0).bind fun aW => ((spec_l20Rd_pick.f k ag aW.2 5).bind fun aX => ((spec_l20Rd_pick.f k ag aX.2 5).bind fun aY => (spec_l20Place.l0 k a1 aY.1 ag aY.2 aW.1 (wrap64 (aX.1 - 1)) ([] : List Int))))) = some (r1, r2, r3, r4) := h
 clear h
 obtain ⟨⟨ah, bI⟩, A3, H⟩ := bnd_ H
 try dsimp only at H
 obtain ⟨⟨al, bJ⟩, A4, H⟩ := bnd_ H
 try dsimp only at H
 obtain ⟨⟨bS, bU⟩, A5, H⟩ := bnd_ H
 try dsimp only at H
 have H' := Aside0.mk H
 clear H
 go_enter Tryd.func97, Tryd.ntmps97
 go_wp2_with (first | ((with_reducible refine gate_dst (N := 4) rfl ?_); refine box_event ?hg (N := 4) ?hd (cs := #[.slice none 0 0, .int .i64 0, .slice none 0 0]) (t := 25) ?hr ?_; (case hd => rfl); (case hg => rfl); (case hr => first | (go_simp; done) | (go_simp; rfl)); intro ak hg w6 hbox hb; replace HI0 := ti126_b HI0 hb; replace HB := tu126_s HB hb; have ad := Aside0.mk (hbox); have dz := gw_ HK hg; have dA := ge_ HW0 HK hg; have aK := nk_ HLg HK hg; have ai := nm_ HLg HK hg; replace HK := ko_ HK hb; clear hb hbox hg) | ((with_reducible refine gate_callee (f := 127) rfl ?_); refine gl_ (some 9) Tryd.func127 #[.pointer (some ⟨g, 0, none⟩), .int .i64 0] ?_; (with_reducible refine (spec_l20Urn.calls k g ag a6 0 ah bI w0 _ ?s1 ?s2 A3.out).mono ?_); (case s1 => exact ti126_ HI0.out); (case s2 => exact tu126_ HB.out); rintro e w7 ⟨ee, rfl, ho0, hi, hb, hk⟩; refine ⟨_, rfl, ?_⟩; replace ad := kb_ ad hk ai; have aI := rl_ ho0 HK; replace HK := kt_ HK hk; replace HB := Aside0.mk (hb); replace HI0 := Aside0.mk (hi); (try clear hb); (try clear hb2); (try clear hk); (try clear hi); (try clear ho0)) | ((with_reducible refine gate_callee (f := 101) rfl ?_); refine gl_ (some 11) Tryd.func101 #[.pointer (some ⟨g, 0, none⟩), .int .i64 5] ?_; (with_reducible refine (spec_l20Rd_pick.calls k g ag bI 5 al bJ w0 _ ?s1 ?s2 A4.out).mono ?_); (case s1 => exact ti126_ HI0.out); (case s2 => exact tu126_ HB.out); rintro e w8 ⟨rfl, hi, hb, hk⟩; refine ⟨_, rfl, ?_⟩; replace ad := kb_ ad hk ai; replace aI := Aside0.mk (Kd.R_mono (Kd.R_keep (IsS126.apart (ti126_ HI0.out : IsS126 w0 _ g ag bI) (rR_ aI.out) (by decide)) hk (fun _ h => h.2)) (fun _ h => h.1)); replace HK := kt_ HK hk; replace HB := Aside0.mk (hb); replace HI0 := Aside0.mk (hi); (try clear hb); (try clear hb2); (try clear hk); (try clear hi); obtain ⟨aG, co9, ef⟩ := Kd.R_slice aI.out; subst ef) | ((with_reducible refine gate_dst (N := 5) rfl ?_); refine box_event ?hg (N := 5) ?hd (cs := #[.slice none 0 0, .int .i64 0, .slice none 0 0]) (t := 25) ?hr ?_; (case hd => rfl); (case hg => rfl); (case hr => first | (go_simp; done) | (go_simp; rfl)); intro ao hg em hbox hb; replace aI := rb_ aI hb; replace HI0 := ti126_b HI0 hb; replace HB := tu126_s HB hb; have ac := Aside0.mk (hbox); have dB := gw_ HK hg; have dC := ge_ HW0 HK hg; have am := nl_ ad hg; have an := ng_ ad hg; replace ad := bb_ ad hb; have aA := nk_ HLg HK hg; have aj := nm_ HLg HK hg; replace HK := ko_ HK hb; clear hb hbox hg; have dD := an.out; have dE := am.out; have dF := aj.out; have dG := aA.out; have bl := cz_ ac 0; have bm := cz_ ac 1; have bn := cz_ ac 2; have bo := blk_frozen ac.out 0; have bp := blk_frozen ac.out 1; have bq := blk_frozen ac.out 2) | ((with_reducible refine gate_callee (f := 101) rfl ?_); refine gl_ (some 15) Tryd.func101 #[.pointer (some ⟨g, 0, none⟩), .int .i64 5] ?_; (with_reducible refine (spec_l20Rd_pick.calls k g ag bJ 5 bS bU w0 _ ?s1 ?s2 A5.out).mono ?_); (case s1 => exact ti126_ HI0.out); (case s2 => exact tu126_ HB.out); rintro e en ⟨rfl, hi, hb, hk⟩; refine ⟨_, rfl, ?_⟩; replace ad := kb_ ad hk ai; replace aI := Aside0.mk (Kd.R_mono (Kd.R_keep (IsS126.apart (ti126_ HI0.out : IsS126 w0 _ g ag bJ) (by refine qR_ ?_; exact (Kd.R_mono (Kd.R_far (p := ⟨ao, 2, none⟩) (Kd.R_far (p := ⟨ao, 1, none⟩) (Kd.R_far (p := ⟨ao, 0, none⟩) (Kd.R_types aI.out ac.out (by decide)) (fun _ hk => hk.2) (.slice aG ah.length co9)) (fun _ hk => hk.2) (.int .i64 (wrap64 (al - 1)))) (fun _ hk => hk.2) (.slice none 0 0)) (fun _ h_ => h_.1))) (by decide)) hk (fun _ h => h.2)) (fun _ h => h.1)); replace ac := Aside0.mk (KeepBut.blk hk (g' := ao) (o := .cells #[.slice aG ah.length co9, .int .i64 (wrap64 (al - 1)), .slice none 0 0] 25 (0, 0)) (ps_ ac.out) aj.out (by simp)); replace HK := kt_ HK hk; replace HB := Aside0.mk (hb); replace HI0 := Aside0.mk (hi); (try clear hb); (try clear hb2); (try clear hk); (try clear hi)))
 go_loopg [6] k (fun kq v6 w' => ∃ (aB : Int) (af : Int) (ae : List Int) (u321002 : Value), v6 = .int .i64 aB ∧ Aside0 (spec_l20Place.l0 kq a1 aB ag af ah (wrap64 (al - 1)) ae = some (r1, r2, r3, r4)) ∧ Aside0 (kq ≤ k) ∧ Aside0 (Kd.R (Kd.int .i64) 3 w' w.heap.size (fun k_ => some k_ ≠ (u321002 : Value).ownBlock) (.slice aG ah.length co9) ah) ∧ Aside0 (Kd.R (Kd.int .i64) 3 w' w.heap.size (fun k_ => some k_ ≠ ((.slice aG ah.length co9) : Value).ownBlock) u321002 ae) ∧ Aside0 (w'.heap[ak]? = some (.cells #[(.slice none 0 0), .int .i64 0, (.slice none 0 0)] 25 (0, 0))) ∧ Aside0 (w'.heap[ao]? = some (.cells #[(.slice aG ah.length co9), .int .i64 (wrap64 (al - 1)), u321002] 25 (0, 0))) ∧ Aside0 (IsS126 w0 w' g ag af) ∧ Aside0 (KeepBut w w' g none) ∧ Aside0 (Below w0.heap.size w0 w'))
 case atStart => exact ⟨(bS), (bU), (([] : List Int)), (.slice none 0 0), tx_, H', ⟨Nat.le_refl _⟩, ⟨by refine qR_ ?_; exact Kd.R_mono aI.out (fun _ hk => (by simp [Value.ownBlock]))⟩, ⟨by first | exact Kd.R_nil _ _ _ _ _ | exact Kd.N_nil _ _ _ _ _ | exact Kd.V_nil _ _ _ _ _ | exact Kd.Q_nil _ _ _ _ _ | exact Kd.S_nil _ _ _ _ _⟩, ⟨tk_ ad.out⟩, ⟨tk_ ac.out⟩, ⟨ti126_ HI0.out⟩, ⟨(tc_ HK.out)⟩, ⟨tu126_ HB.out⟩⟩
 case round =>
  clear H'
  try clear c1
  try clear p2
  try clear p6
  try clear c9
  try clear c10
  try clear c11
  try clear c12
  try clear bl
  try clear bm
  try clear bn
  try clear bo
  try clear bp
  try clear bq
  obtain ⟨aB, af, ae, u321002, rfl, HA, HK1, ab, aa, ad, ac, HI0, HK, HB⟩ := hrel
  cases gk with
  | zero => exact absurd HA.out (by simp [spec_l20Place.l0])
  | succ k1 =>
   have H := HA.out
   clear HA
   simp only [spec_l20Place.l0] at H
   by_cases c15 : aB > 0
   ·
    rw [if_pos c15] at H
    have bV : decide (0 < aB) = true := decide_eq_true c15
    clear c15
    obtain ⟨aQ, bb⟩ : ∃ y_ : List Int, y_ = (([] : List Int)) := ⟨_, rfl⟩
    replace H : (if aQ.length + ae.length < 17592186044416 then ((some (aQ ++ ae : List Int)).bind fun aJ => ((spec_l20Rd_pick.f k1 ag af (ah.length : Int)).bind fun ay => (if aJ.length < 17592186044416 then ((some (aJ ++ [ay.1] : List Int)).bind fun ar => ((spec_PlaceOk.f k1 ah (wrap64 (al - 1)) ar).bind fun aU => (if aU = true then (spec_l20Place.l0 k1 a1 (wrap64 (aB - 1)) ag ay.2 ah (wrap64 (al - 1)) ar) else (spec_l20Place.l0 k1 a1 (wrap64 (aB - 1)) ag ay.2 ah (wrap64 (al - 1)) ae)))) else (none)))) else (none)) = some (r1, r2, r3, r4) := yq_ bb H
    have a5 := Aside0.mk bb
    clear bb
    by_cases c16 : aQ.length + ae.length < 17592186044416
    ·
     rw [if_pos c16] at H
     have bB := Aside0.mk c16
     clear c16
     obtain ⟨aJ, bc⟩ : ∃ y_ : List Int, y_ = (aQ ++ ae) := ⟨_, rfl⟩
     replace H : ((spec_l20Rd_pick.f k1 ag af (ah.length : Int)).bind fun ay => (if aJ.length < 17592186044416 then ((some (aJ ++ [ay.1] : List Int)).bind fun ar => ((spec_PlaceOk.f k1 ah (wrap64 (al - 1)) ar).bind fun aU => (if aU = true then (spec_l20Place.l0 k1 a1 (wrap64 (aB - 1)) ag ay.2 ah (wrap64 (al - 1)) ar) else (spec_l20Place.l0 k1 a1 (wrap64 (aB - 1)) ag ay.2 ah (wrap64 (al - 1)) ae)))) else (none))) = some (r1, r2, r3, r4) := yq_ bc H
     have bC := Aside0.mk bc
     clear bc
     obtain ⟨⟨a4, aZ⟩, A17, H⟩ := bnd_ H
     try dsimp only at H
     by_cases c18 : aJ.length < 17592186044416
     ·
      rw [if_pos c18] at H
      have bD := Aside0.mk c18
      clear c18
      obtain ⟨ar, bd⟩ : ∃ y_ : List Int, y_ = (aJ ++ [a4]) := ⟨_, rfl⟩
      replace H : ((spec_PlaceOk.f k1 ah (wrap64 (al - 1)) ar).bind fun aU => (if aU = true then (spec_l20Place.l0 k1 a1 (wrap64 (aB - 1)) ag aZ ah (wrap64 (al - 1)) ar) else (spec_l20Place.l0 k1 a1 (wrap64 (aB - 1)) ag aZ ah (wrap64 (al - 1)) ae))) = some (r1, r2, r3, r4) := yq_ bd H
      have bE := Aside0.mk bd
      clear bd
      obtain ⟨aU, A19, H⟩ := bnd_ H
      try dsimp only at H
      by_cases c20 : aU = true
      ·
       subst c20
       have H1 : (spec_l20Place.l0 k1 a1 (wrap64 (aB - 1)) ag aZ ah (wrap64 (al - 1)) ar) = some (r1, r2, r3, r4) := by rw [if_pos rfl] at H; exact H
       clear H
       have H := H1
       clear H1
       have H' := Aside0.mk H
       clear H
       try go_wp2
       replace ab := rd_ ab
       replace aa := rd_ aa
       replace ad := dB_ ad
       replace ac := dB_ ac
       replace HI0 := Aside0.mk (IsS126.drew HI0.out)
       replace HK := Aside0.mk (keep_drew HK.out)
       replace HB := Aside0.mk (ld_ HB.out)
       refine start_ (n := 12) (S := fun w' => w'.cell? ⟨ao, 0, none⟩ = some (.slice aG ah.length co9) ∧ w'.cell? ⟨ao, 1, none⟩ = some (.int .i64 (wrap64 (al - 1))) ∧ w'.cell? ⟨ao, 2, none⟩ = some (u321002)) (ds := []) #[false, false, false, false, false, false, false, false, false, false, false, false] (by kernel_rfl) rfl rfl hh_ (fun hHeld => ?_); refine with_tabW spec_l20Place.tab5 spec_l20Place.bits5 (fun HT_ HW_ => ?_)
       generalize wr.drew = eo at ab aa ad ac HI0 HK HB hHeld ⊢
       refine pu_ 1 (some 21) #[false, true, false, false, false, false, false, false, false, false, false, false] HT_ rfl rfl ?_
       refine pu_ 4 (some 24) #[false, true, false, false, true, false, false, false, false, false, false, false] HT_ rfl rfl ?_
       refine pu_ 5 (some 25) #[false, true, false, false, true, true, false, false, false, false, false, false] HT_ rfl rfl ?_
       refine ta_ 2 (some 22) #[false, true, true, false, true, true, false, false, false, false, false, false] HT_ HW_ hHeld rfl rfl ?_
       refine ta_ 6 (some 26) #[false, true, true, false, true, true, true, false, false, false, false, false] HT_ HW_ hHeld rfl rfl ?_
       refine pu_ 7 (some 27) #[false, true, true, false, true, true, true, true, false, false, false, false] HT_ rfl rfl ?_
       refine one_ (i := 0) (N := some 20) #[true, true, true, false, true, true, true, true, false, false, false, false] rfl rfl (one_of HT_.out (by kernel_rfl)) (by decide) (fun K hK => ?_)
       refine Kd.R_lit_step (Kd.int .i64) _ 3 ?hg (N := 20) ?hd (xs := ([] : List Int)) (inner := []) (ok := fun _ => True) (okp := fun _ => True) ?hr ?hp (fun _ hk => hk) trivial (Below.refl _ _) (Nat.le_refl _) (by simp) ?_; (case hd => rfl); (case hg => rfl); (case hr => first | (go_simp; done) | (go_simp; rfl)); (case hp => exact (Reps.none _ _))
       intro bK ep ho23 hb hg_ hnew_
       clear hg_ hnew_
       (first | rw [← a5.out] at ho23 | (simp only [Int.reduceToNat] at ho23; rw [← a5.out] at ho23))
       have au := Aside0.mk (Kd.R_lower (Kd.R_new' (Kd.R_new' ho23 (Kd.R_lt (rR_ ab.out))) (Kd.R_lt (rR_ aa.out))) (keep_size (w := w) (g := g) (row := none) (tc_ HK.out)))
       replace ab := Aside0.mk (Kd.R_elder' (rR_ ab.out) (Kd.R_base ho23) hb)
       replace aa := Aside0.mk (Kd.R_elder' (rR_ aa.out) (Kd.R_base ho23) hb)
       replace ad := bb_ ad hb
       replace ac := bb_ ac hb
       replace HI0 := ti126_b HI0 hb
       replace HK := ko_ HK hb
       replace HB := tu126_s HB hb
       clear hb ho23
       obtain ⟨be, bf, bW⟩ := Kd.R_slice aa.out
       (first | subst bW | (injection bW with f1_ f2_ f3_; have f4_ := f1_.symm; have f5_ := f3_.symm; clear f1_ f2_ f3_; subst f4_; subst f5_))
       refine hK.out _ _ hh_ (fun hHeld => ?_)
       clear hK K
       refine nr_ 20 ?_
       refine one_ (i := 3) (N := some 23) #[true, true, true, true, true, true, true, true, false, false, false, false] rfl rfl (one_of HT_.out (by kernel_rfl)) (by decide) (fun K hK => ?_)
       refine Kd.R_append_rows_step (Kd.int .i64) w.heap.size (by rfl) (.tmp 20) (.tmp 22) 23 3 (.int .i64 0) 8 rfl Tryd.underlying23 info3 rfl (by decide) (by omega) bK aQ ae _ _ _ (fun k_ => some k_ ≠ (.slice aG ah.length co9 : Value).ownBlock ∧ some k_ ≠ (.slice be ae.length bf : Value).ownBlock) (fun _ => False) rfl rfl ?aO ?aR (fun _ _ h => h) (fun _ h => h.elim) ?aF (Below.refl _ _) ?aS ?aL ?_
       (case aR => repeat (first | exact (Kd.R_reads' aa.out).2.2 | (with_reducible refine Kd.C_alloc ?_ _) | (with_reducible refine Kd.C_drewN ?_ _) | (with_reducible refine Kd.C_drew ?_)))
       (case aF => exact (fun k_ hk => ⟨Kd.fresh' (Kd.R_lt (rR_ ab.out)) k_ hk, Kd.fresh' (Kd.R_lt (rR_ aa.out)) k_ hk⟩))
       (case aO => exact (by refine qR_ ?_; exact Kd.R_mono au.out (fun _ hk => ⟨hk.1.2, hk.2⟩)))
       (case aS => exact (keep_size (w := w) (g := g) (row := none) (tc_ HK.out)))
       (case aL => have := bB.out; omega)
       intro bL eq ho hb hg hat
       rw [← bC.out] at ho
       replace ab := Aside0.mk (Kd.R_after (ok := (fun k_ => some k_ ≠ (.slice be ae.length bf : Value).ownBlock)) (rR_ ab.out) hg hat)
       replace aa := Aside0.mk (Kd.R_after (ok := (fun k_ => some k_ ≠ (.slice aG ah.length co9 : Value).ownBlock)) (rR_ aa.out) hg hat)
       replace ad := bg_ ad hg (Kd.R_ne au.out ad.out (by decide))
       replace ac := bg_ ac hg (Kd.R_ne au.out ac.out (by decide))
       replace HI0 := Aside0.mk (IsS126.grown (ti126_ HI0.out) hg (IsS126.own_ne HI0.out au.out (by decide)))
       replace HB := Aside0.mk (below_weaken (tu126_ HB.out) HL.out hb)
       replace HK := Aside0.mk (KeepBut.trans (tc_ HK.out) (KeepBut.of_grown hg g) (Kd.R_base2 au.out))
       have ap := Aside0.mk (ho)
       clear au
       clear ho hb hg hat
       refine hK.out _ _ hh_ (fun hHeld => ?_)
       clear hK K
       refine nr_ 23 ?_
       refine one_ (i := 8) (N := some 28) #[true, true, true, true, true, true, true, true, true, false, false, false] rfl rfl (one_of HT_.out (by kernel_rfl)) (by decide) (fun K hK => ?_)
       refine goes_ Tryd.func101 (by kernel_rfl) rfl #[.pointer (some ⟨g, 0, none⟩), .int .i64 (ah.length : Int)] (by rfl) rfl rfl tz_ ?_
       with_reducible refine (spec_l20Rd_pick.calls k1 g ag af (ah.length : Int) a4 aZ w0 _ ?s1 ?s2 A17.out).mono ?_
       (case s1 => exact ti126_ HI0.out)
       (case s2 => exact tu126_ HB.out)
       rintro e er ⟨rfl, hi, hb, hk⟩
       refine ⟨_, rfl, ?_⟩
       replace ab := Aside0.mk (Kd.R_mono (Kd.R_keep (IsS126.apart (ti126_ HI0.out : IsS126 w0 _ g ag af) (rR_ ab.out) (by decide)) hk (fun _ h => h.2)) (fun _ h => h.1))
       replace aa := Aside0.mk (Kd.R_mono (Kd.R_keep (IsS126.apart (ti126_ HI0.out : IsS126 w0 _ g ag af) (rR_ aa.out) (by decide)) hk (fun _ h => h.2)) (fun _ h => h.1))
       replace ad := kb_ ad hk ai
       replace ac := kb_ ac hk aj
       replace ap := Aside0.mk (Kd.R_mono (Kd.R_keep (IsS126.apart (ti126_ HI0.out : IsS126 w0 _ g ag af) (rR_ ap.out) (by decide)) hk (fun _ h => h.2)) (fun _ h => h.1))
       replace HK := kt_ HK hk
       replace HB := Aside0.mk (hb)
       replace HI0 := Aside0.mk (hi)
       (try clear hb)
       (try clear hb2)
       (try clear hk)
       (try clear hi)
       refine hK.out _ _ hh_ (fun hHeld => ?_)
       clear hK K
       refine nr_ 28 ?_
       refine one_ (i := 9) (N := some 29) #[true, true, true, true, true, true, true, true, true, true, false, false] rfl rfl (one_of HT_.out (by kernel_rfl)) (by decide) (fun K hK => ?_)
       refine va_ rfl ?_
       refine hK.out _ _ hh_ (fun hHeld => ?_)
       clear hK K
       refine nr_ 29 ?_
       refine one_ (i := 10) (N := some 30) #[true, true, true, true, true, true, true, true, true, true, true, false] rfl rfl (one_of HT_.out (by kernel_rfl)) (by decide) (fun K hK => ?_)
       refine Kd.R_append_step (Kd.int .i64) w.heap.size (by rfl) (.tmp 23) (.tmp 29) 23 3 (.int .i64 0) 8 rfl Tryd.underlying23 info3 rfl (by decide) (by omega) bL aJ a4 [.int .i64 a4] (fun k_ => some k_ ≠ (.slice aG ah.length co9 : Value).ownBlock ∧ some k_ ≠ (.slice be ae.length bf : Value).ownBlock) (fun _ => False) rfl rfl ?aP (fun _ hk => hk.elim) ?aF ?aO (Below.refl _ _) ?aS ?aL ?_
       (case aP => exact rfl)
       (case aF => exact (fun k_ hk => ⟨Kd.fresh' (Kd.R_lt (rR_ ab.out)) k_ hk, Kd.fresh' (Kd.R_lt (rR_ aa.out)) k_ hk⟩))
       (case aO => exact (rR_ ap.out))
       (case aS => exact (keep_size (w := w) (g := g) (row := none) (tc_ HK.out)))
       (case aL => have := bD.out; omega)
       intro df es ho hb hg hat
       rw [← bE.out] at ho
       replace ab := Aside0.mk (Kd.R_after (ok := (fun k_ => some k_ ≠ (.slice be ae.length bf : Value).ownBlock)) (rR_ ab.out) hg hat)
       replace aa := Aside0.mk (Kd.R_after (ok := (fun k_ => some k_ ≠ (.slice aG ah.length co9 : Value).ownBlock)) (rR_ aa.out) hg hat)
       replace ad := bg_ ad hg (Kd.R_ne ap.out ad.out (by decide))
       replace ac := bg_ ac hg (Kd.R_ne ap.out ac.out (by decide))
       replace HI0 := Aside0.mk (IsS126.grown (ti126_ HI0.out) hg (IsS126.own_ne HI0.out ap.out (by decide)))
       replace HB := Aside0.mk (below_weaken (tu126_ HB.out) HL.out hb)
       replace HK := Aside0.mk (KeepBut.trans (tc_ HK.out) (KeepBut.of_grown hg g) (Kd.R_base2 ap.out))
       have ax := Aside0.mk (ho)
       clear ap
       clear ho hb hg hat
       refine hK.out _ _ hh_ (fun hHeld => ?_)
       clear hK K
       refine nr_ 30 ?_
       refine pu_ 11 (some 7) #[true, true, true, true, true, true, true, true, true, true, true, true] HT_ rfl rfl ?_
       refine done_ (done_of HT_.out (by kernel_rfl)) ?_
       have dH := an.out
       have dI := am.out
       have dJ := aj.out
       have dK := aA.out
       have b7 := cz_ ac 0
       have b8 := cz_ ac 1
       have b9 := cz_ ac 2
       have ca := blk_frozen ac.out 0
       have cb := blk_frozen ac.out 1
       have cc := blk_frozen ac.out 2
       obtain ⟨br, bs, dg⟩ := Kd.R_slice ax.out
       subst dg
       try go_wp2_with (first | ((with_reducible refine gate_callee (f := 73) rfl ?_); refine gl_ (some 37) Tryd.func73 #[.agg #[.slice aG ah.length co9, .int .i64 (wrap64 (al - 1)), .slice br ar.length bs]] ?_; (with_reducible refine (spec_PlaceOk.calls k1 _ _ ah (wrap64 (al - 1)) _ _ ar true _ ?s1 ?s2 ?s3 ?s4 A19.out).mono ?_); (case s1 => repeat (first | exact (Kd.R_reads' ab.out).2.2 | (with_reducible refine Kd.C_alloc ?_ _) | (with_reducible refine Kd.C_drewN ?_ _) | (with_reducible refine Kd.C_drew ?_))); (case s2 => exact (Kd.R_reads' ab.out).2.1); (case s3 => repeat (first | exact (Kd.R_reads' ax.out).2.2 | (with_reducible refine Kd.C_alloc ?_ _) | (with_reducible refine Kd.C_drewN ?_ _) | (with_reducible refine Kd.C_drew ?_))); (case s4 => exact (Kd.R_reads' ax.out).2.1); rintro e et ⟨rfl, hb⟩; refine ⟨_, rfl, ?_⟩; replace ab := rb_ ab hb; replace aa := rb_ aa hb; replace ax := rb_ ax hb; replace ad := bb_ ad hb; replace ac := bb_ ac hb; replace HI0 := ti126_b HI0 hb; replace HK := ko_ HK hb; replace HB := tu126_s HB hb; (try clear hb); (try clear hb2); (try clear hk); (try clear hi); have cd := cz_ ac 0; have ce := cz_ ac 1; have cf := cz_ ac 2; have cg := blk_frozen ac.out 0; have ch := blk_frozen ac.out 1; have ci := blk_frozen ac.out 2))
       go_roundg k1
       case measure => have := HK1.out; omega
       case rel => exact ⟨(wrap64 (aB - 1)), (aZ), (ar), (.slice br ar.length bs), tx_, H', ⟨by have := HK1.out; omega⟩, ⟨by refine qR_ ?_; exact Kd.R_mono (Kd.R_far (p := ⟨ao, 2, none⟩) (Kd.R_types ab.out ac.out (by decide)) (fun _ hk => hk.2) (.slice br ar.length bs)) (fun _ hk => hk.1.2)⟩, ⟨by refine qR_ ?_; exact Kd.R_mono (Kd.R_far (p := ⟨ao, 2, none⟩) (Kd.R_types ax.out ac.out (by decide)) (fun _ hk => hk.2) (.slice br ar.length bs)) (fun _ hk => hk.1.1)⟩, ⟨tk_ ad.out⟩, ⟨by refine bq_ ?_; refine blk_put (cs := #[.slice aG ah.length co9, .int .i64 (wrap64 (al - 1)), .slice be ae.length bf]) ?_ 2 _ rfl; exact tk_ ac.out⟩, ⟨ti126_ HI0.out⟩, ⟨(tc_ HK.out)⟩, ⟨tu126_ HB.out⟩⟩
      ·
       replace c20 := Bool.eq_false_iff.mpr c20
       subst c20
       have H1 : (spec_l20Place.l0 k1 a1 (wrap64 (aB - 1)) ag aZ ah (wrap64 (al - 1)) ae) = some (r1, r2, r3, r4) := by rw [if_neg (show ¬ (false = true) by decide)] at H; exact H
       clear H
       have H := H1
       clear H1
       have H' := Aside0.mk H
       clear H
       try go_wp2
       replace ab := rd_ ab
       replace aa := rd_ aa
       replace ad := dB_ ad
       replace ac := dB_ ac
       replace HI0 := Aside0.mk (IsS126.drew HI0.out)
       replace HK := Aside0.mk (keep_drew HK.out)
       replace HB := Aside0.mk (ld_ HB.out)
       refine start_ (n := 12) (S := fun w' => w'.cell? ⟨ao, 0, none⟩ = some (.slice aG ah.length co9) ∧ w'.cell? ⟨ao, 1, none⟩ = some (.int .i64 (wrap64 (al - 1))) ∧ w'.cell? ⟨ao, 2, none⟩ = some (u321002)) (ds := []) #[false, false, false, false, false, false, false, false, false, false, false, false] (by kernel_rfl) rfl rfl hh_ (fun hHeld => ?_); refine with_tabW spec_l20Place.tab5 spec_l20Place.bits5 (fun HT_ HW_ => ?_)
       generalize wr.drew = eu at ab aa ad ac HI0 HK HB hHeld ⊢
       refine pu_ 1 (some 21) #[false, true, false, false, false, false, false, false, false, false, false, false] HT_ rfl rfl ?_
       refine pu_ 4 (some 24) #[false, true, false, false, true, false, false, false, false, false, false, false] HT_ rfl rfl ?_
       refine pu_ 5 (some 25) #[false, true, false, false, true, true, false, false, false, false, false, false] HT_ rfl rfl ?_
       refine ta_ 2 (some 22) #[false, true, true, false, true, true, false, false, false, false, false, false] HT_ HW_ hHeld rfl rfl ?_
       refine ta_ 6 (some 26) #[false, true, true, false, true, true, true, false, false, false, false, false] HT_ HW_ hHeld rfl rfl ?_
       refine pu_ 7 (some 27) #[false, true, true, false, true, true, true, true, false, false, false, false] HT_ rfl rfl ?_
       refine one_ (i := 0) (N := some 20) #[true, true, true, false, true, true, true, true, false, false, false, false] rfl rfl (one_of HT_.out (by kernel_rfl)) (by decide) (fun K hK => ?_)
       refine Kd.R_lit_step (Kd.int .i64) _ 3 ?hg (N := 20) ?hd (xs := ([] : List Int)) (inner := []) (ok := fun _ => True) (okp := fun _ => True) ?hr ?hp (fun _ hk => hk) trivial (Below.refl _ _) (Nat.le_refl _) (by simp) ?_; (case hd => rfl); (case hg => rfl); (case hr => first | (go_simp; done) | (go_simp; rfl)); (case hp => exact (Reps.none _ _))
       intro bK ev ho36 hb hg_ hnew_
       clear hg_ hnew_
       (first | rw [← a5.out] at ho36 | (simp only [Int.reduceToNat] at ho36; rw [← a5.out] at ho36))
       have au := Aside0.mk (Kd.R_lower (Kd.R_new' (Kd.R_new' ho36 (Kd.R_lt (rR_ ab.out))) (Kd.R_lt (rR_ aa.out))) (keep_size (w := w) (g := g) (row := none) (tc_ HK.out)))
       replace ab := Aside0.mk (Kd.R_elder' (rR_ ab.out) (Kd.R_base ho36) hb)
       replace aa := Aside0.mk (Kd.R_elder' (rR_ aa.out) (Kd.R_base ho36) hb)
       replace ad := bb_ ad hb
       replace ac := bb_ ac hb
       replace HI0 := ti126_b HI0 hb
       replace HK := ko_ HK hb
       replace HB := tu126_s HB hb
       clear hb ho36
       obtain ⟨bg, bh, bX⟩ := Kd.R_slice aa.out
       (first | subst bX | (injection bX with f1_ f2_ f3_; have f4_ := f1_.symm; have f5_ := f3_.symm; clear f1_ f2_ f3_; subst f4_; subst f5_))
       refine hK.out _ _ hh_ (fun hHeld => ?_)
       clear hK K
       refine nr_ 20 ?_
       refine one_ (i := 3) (N := some 23) #[true, true, true, true, true, true, true, true, false, false, false, false] rfl rfl (one_of HT_.out (by kernel_rfl)) (by decide) (fun K hK => ?_)
       refine Kd.R_append_rows_step (Kd.int .i64) w.heap.size (by rfl) (.tmp 20) (.tmp 22) 23 3 (.int .i64 0) 8 rfl Tryd.underlying23 info3 rfl (by decide) (by omega) bK aQ ae _ _ _ (fun k_ => some k_ ≠ (.slice aG ah.length co9 : Value).ownBlock ∧ some k_ ≠ (.slice bg ae.length bh : Value).ownBlock) (fun _ => False) rfl rfl ?aO ?aR (fun _ _ h => h) (fun _ h => h.elim) ?aF (Below.refl _ _) ?aS ?aL ?_
       (case aR => repeat (first | exact (Kd.R_reads' aa.out).2.2 | (with_reducible refine Kd.C_alloc ?_ _) | (with_reducible refine Kd.C_drewN ?_ _) | (with_reducible refine Kd.C_drew ?_)))
       (case aF => exact (fun k_ hk => ⟨Kd.fresh' (Kd.R_lt (rR_ ab.out)) k_ hk, Kd.fresh' (Kd.R_lt (rR_ aa.out)) k_ hk⟩))
       (case aO => exact (by refine qR_ ?_; exact Kd.R_mono au.out (fun _ hk => ⟨hk.1.2, hk.2⟩)))
       (case aS => exact (keep_size (w := w) (g := g) (row := none) (tc_ HK.out)))
       (case aL => have := bB.out; omega)
       intro bL ew ho hb hg hat
       rw [← bC.out] at ho
       replace ab := Aside0.mk (Kd.R_after (ok := (fun k_ => some k_ ≠ (.slice bg ae.length bh : Value).ownBlock)) (rR_ ab.out) hg hat)
       replace aa := Aside0.mk (Kd.R_after (ok := (fun k_ => some k_ ≠ (.slice aG ah.length co9 : Value).ownBlock)) (rR_ aa.out) hg hat)
       replace ad := bg_ ad hg (Kd.R_ne au.out ad.out (by decide))
       replace ac := bg_ ac hg (Kd.R_ne au.out ac.out (by decide))
       replace HI0 := Aside0.mk (IsS126.grown (ti126_ HI0.out) hg (IsS126.own_ne HI0.out au.out (by decide)))
       replace HB := Aside0.mk (below_weaken (tu126_ HB.out) HL.out hb)
       replace HK := Aside0.mk (KeepBut.trans (tc_ HK.out) (KeepBut.of_grown hg g) (Kd.R_base2 au.out))
       have ap := Aside0.mk (ho)
       clear au
       clear ho hb hg hat
       refine hK.out _ _ hh_ (fun hHeld => ?_)
       clear hK K
       refine nr_ 23 ?_
       refine one_ (i := 8) (N := some 28) #[true, true, true, true, true, true, true, true, true, false, false, false] rfl rfl (one_of HT_.out (by kernel_rfl)) (by decide) (fun K hK => ?_)
       refine goes_ Tryd.func101 (by kernel_rfl) rfl #[.pointer (some ⟨g, 0, none⟩), .int .i64 (ah.length : Int)] (by rfl) rfl rfl tz_ ?_
       with_reducible refine (spec_l20Rd_pick.calls k1 g ag af (ah.length : Int) a4 aZ w0 _ ?s1 ?s2 A17.out).mono ?_
       (case s1 => exact ti126_ HI0.out)
       (case s2 => exact tu126_ HB.out)
       rintro e ex ⟨rfl, hi, hb, hk⟩
       refine ⟨_, rfl, ?_⟩
       replace ab := Aside0.mk (Kd.R_mono (Kd.R_keep (IsS126.apart (ti126_ HI0.out : IsS126 w0 _ g ag af) (rR_ ab.out) (by decide)) hk (fun _ h => h.2)) (fun _ h => h.1))
       replace aa := Aside0.mk (Kd.R_mono (Kd.R_keep (IsS126.apart (ti126_ HI0.out : IsS126 w0 _ g ag af) (rR_ aa.out) (by decide)) hk (fun _ h => h.2)) (fun _ h => h.1))
       replace ad := kb_ ad hk ai
       replace ac := kb_ ac hk aj
       replace ap := Aside0.mk (Kd.R_mono (Kd.R_keep (IsS126.apart (ti126_ HI0.out : IsS126 w0 _ g ag af) (rR_ ap.out) (by decide)) hk (fun _ h => h.2)) (fun _ h => h.1))
       replace HK := kt_ HK hk
       replace HB := Aside0.mk (hb)
       replace HI0 := Aside0.mk (hi)
       (try clear hb)
       (try clear hb2)
       (try clear hk)
       (try clear hi)
       refine hK.out _ _ hh_ (fun hHeld => ?_)
       clear hK K
       refine nr_ 28 ?_
       refine one_ (i := 9) (N := some 29) #[true, true, true, true, true, true, true, true, true, true, false, false] rfl rfl (one_of HT_.out (by kernel_rfl)) (by decide) (fun K hK => ?_)
       refine va_ rfl ?_
       refine hK.out _ _ hh_ (fun hHeld => ?_)
       clear hK K
       refine nr_ 29 ?_
       refine one_ (i := 10) (N := some 30) #[true, true, true, true, true, true, true, true, true, true, true, false] rfl rfl (one_of HT_.out (by kernel_rfl)) (by decide) (fun K hK => ?_)
       refine Kd.R_append_step (Kd.int .i64) w.heap.size (by rfl) (.tmp 23) (.tmp 29) 23 3 (.int .i64 0) 8 rfl Tryd.underlying23 info3 rfl (by decide) (by omega) bL aJ a4 [.int .i64 a4] (fun k_ => some k_ ≠ (.slice aG ah.length co9 : Value).ownBlock ∧ some k_ ≠ (.slice bg ae.length bh : Value).ownBlock) (fun _ => False) rfl rfl ?aP (fun _ hk => hk.elim) ?aF ?aO (Below.refl _ _) ?aS ?aL ?_
       (case aP => exact rfl)
       (case aF => exact (fun k_ hk => ⟨Kd.fresh' (Kd.R_lt (rR_ ab.out)) k_ hk, Kd.fresh' (Kd.R_lt (rR_ aa.out)) k_ hk⟩))
       (case aO => exact (rR_ ap.out))
       (case aS => exact (keep_size (w := w) (g := g) (row := none) (tc_ HK.out)))
       (case aL => have := bD.out; omega)
       intro df ey ho hb hg hat
       rw [← bE.out] at ho
       replace ab := Aside0.mk (Kd.R_after (ok := (fun k_ => some k_ ≠ (.slice bg ae.length bh : Value).ownBlock)) (rR_ ab.out) hg hat)
       replace aa := Aside0.mk (Kd.R_after (ok := (fun k_ => some k_ ≠ (.slice aG ah.length co9 : Value).ownBlock)) (rR_ aa.out) hg hat)
       replace ad := bg_ ad hg (Kd.R_ne ap.out ad.out (by decide))
       replace ac := bg_ ac hg (Kd.R_ne ap.out ac.out (by decide))
       replace HI0 := Aside0.mk (IsS126.grown (ti126_ HI0.out) hg (IsS126.own_ne HI0.out ap.out (by decide)))
       replace HB := Aside0.mk (below_weaken (tu126_ HB.out) HL.out hb)
       replace HK := Aside0.mk (KeepBut.trans (tc_ HK.out) (KeepBut.of_grown hg g) (Kd.R_base2 ap.out))
       have ax := Aside0.mk (ho)
       clear ap
       clear ho hb hg hat
       refine hK.out _ _ hh_ (fun hHeld => ?_)
       clear hK K
       refine nr_ 30 ?_
       refine pu_ 11 (some 7) #[true, true, true, true, true, true, true, true, true, true, true, true] HT_ rfl rfl ?_
       refine done_ (done_of HT_.out (by kernel_rfl)) ?_
       have dL := an.out
       have dM := am.out
       have dN := aj.out
       have dP := aA.out
       have cj := cz_ ac 0
       have ck := cz_ ac 1
       have cl := cz_ ac 2
       have cm := blk_frozen ac.out 0
       have cn := blk_frozen ac.out 1
       have co := blk_frozen ac.out 2
       obtain ⟨dh, di, dj⟩ := Kd.R_slice ax.out
       subst dj
       try go_wp2_with (first | ((with_reducible refine gate_callee (f := 73) rfl ?_); refine gl_ (some 37) Tryd.func73 #[.agg #[.slice aG ah.length co9, .int .i64 (wrap64 (al - 1)), .slice dh ar.length di]] ?_; (with_reducible refine (spec_PlaceOk.calls k1 _ _ ah (wrap64 (al - 1)) _ _ ar false _ ?s1 ?s2 ?s3 ?s4 A19.out).mono ?_); (case s1 => repeat (first | exact (Kd.R_reads' ab.out).2.2 | (with_reducible refine Kd.C_alloc ?_ _) | (with_reducible refine Kd.C_drewN ?_ _) | (with_reducible refine Kd.C_drew ?_))); (case s2 => exact (Kd.R_reads' ab.out).2.1); (case s3 => repeat (first | exact (Kd.R_reads' ax.out).2.2 | (with_reducible refine Kd.C_alloc ?_ _) | (with_reducible refine Kd.C_drewN ?_ _) | (with_reducible refine Kd.C_drew ?_))); (case s4 => exact (Kd.R_reads' ax.out).2.1); rintro e ez ⟨rfl, hb⟩; refine ⟨_, rfl, ?_⟩; replace ab := rb_ ab hb; replace aa := rb_ aa hb; replace ax := rb_ ax hb; replace ad := bb_ ad hb; replace ac := bb_ ac hb; replace HI0 := ti126_b HI0 hb; replace HK := ko_ HK hb; replace HB := tu126_s HB hb; (try clear hb); (try clear hb2); (try clear hk); (try clear hi)))
       go_roundg k1
       case measure => have := HK1.out; omega
       case rel => exact ⟨(wrap64 (aB - 1)), (aZ), (ae), (.slice bg ae.length bh), tx_, H', ⟨by have := HK1.out; omega⟩, ⟨by refine qR_ ?_; exact Kd.R_mono ab.out (fun _ hk => hk.1)⟩, ⟨by refine qR_ ?_; exact Kd.R_mono aa.out (fun _ hk => hk.1)⟩, ⟨tk_ ad.out⟩, ⟨tk_ ac.out⟩, ⟨ti126_ HI0.out⟩, ⟨(tc_ HK.out)⟩, ⟨tu126_ HB.out⟩⟩
     ·
      rw [if_neg c18] at H
      exact absurd H (by simp)
    ·
     rw [if_neg c16] at H
     exact absurd H (by simp)
   ·
    rw [if_neg c15] at H
    have bV : decide (0 < aB) = false := decide_eq_false c15
    clear c15
    obtain ⟨⟨dk, aD⟩, A46, H⟩ := bnd_ H
    try dsimp only at H
    by_cases c47 : dk = true
    ·
     subst c47
     have H1 : ((spec_l20Rd_pick.f k1 ag aD 3).bind fun az => (if az.1 = 0 then (some (ah, 4, ae, az.2)) else (if az.1 = 1 then (if ae.length < 17592186044416 then (some (ah, (wrap64 (al - 1)), (ae ++ [3]), az.2)) else (none)) else (some (([] : List Int), 0, ([] : List Int), az.2))))) = some (r1, r2, r3, r4) := by rw [if_pos rfl] at H; exact H
     clear H
     have H := H1
     clear H1
     obtain ⟨⟨aH, bu⟩, A48, H⟩ := bnd_ H
     try dsimp only at H
     by_cases c49 : aH = 0
     ·
      rw [if_pos c49] at H
      have bZ : (aH == 0) = true := beq_iff_eq.mpr c49
      have b0 : (aH != 0) = false := bne_eq_false_iff_eq.mpr c49
      clear c49
      simp only [Option.some.injEq, Prod.mk.injEq] at H
      obtain ⟨rfl, rfl, rfl, rfl⟩ := H
      go_wp2_with (first | ((with_reducible refine gate_callee (f := 80) rfl ?_); refine gl_ (some 42) Tryd.func80 #[.pointer (some ⟨g, 0, none⟩), .int .i64 a1] ?_; (with_reducible refine (spec_l20Rd_odd.calls k1 g ag af a1 true aD w0 _ ?s1 ?s2 A46.out).mono ?_); (case s1 => exact ti126_ HI0.out); (case s2 => exact tu126_ HB.out); rintro e eA ⟨rfl, hi, hb, hk⟩; refine ⟨_, rfl, ?_⟩; replace ab := Aside0.mk (Kd.R_mono (Kd.R_keep (IsS126.apart (ti126_ HI0.out : IsS126 w0 _ g ag af) (rR_ ab.out) (by decide)) hk (fun _ h => h.2)) (fun _ h => h.1)); replace aa := Aside0.mk (Kd.R_mono (Kd.R_keep (IsS126.apart (ti126_ HI0.out : IsS126 w0 _ g ag af) (rR_ aa.out) (by decide)) hk (fun _ h => h.2)) (fun _ h => h.1)); replace ad := kb_ ad hk ai; replace ac := kb_ ac hk aj; replace HK := kt_ HK hk; replace HB := Aside0.mk (hb); replace HI0 := Aside0.mk (hi); (try clear hb); (try clear hb2); (try clear hk); (try clear hi)) | ((with_reducible refine gate_callee (f := 101) rfl ?_); refine gl_ (some 44) Tryd.func101 #[.pointer (some ⟨g, 0, none⟩), .int .i64 3] ?_; (with_reducible refine (spec_l20Rd_pick.calls k1 g ag aD 3 aH bu w0 _ ?s1 ?s2 A48.out).mono ?_); (case s1 => exact ti126_ HI0.out); (case s2 => exact tu126_ HB.out); rintro e eB ⟨rfl, hi, hb, hk⟩; refine ⟨_, rfl, ?_⟩; replace ab := Aside0.mk (Kd.R_mono (Kd.R_keep (IsS126.apart (ti126_ HI0.out : IsS126 w0 _ g ag aD) (rR_ ab.out) (by decide)) hk (fun _ h => h.2)) (fun _ h => h.1)); replace aa := Aside0.mk (Kd.R_mono (Kd.R_keep (IsS126.apart (ti126_ HI0.out : IsS126 w0 _ g ag aD) (rR_ aa.out) (by decide)) hk (fun _ h => h.2)) (fun _ h => h.1)); replace ad := kb_ ad hk ai; replace ac := kb_ ac hk aj; replace HK := kt_ HK hk; replace HB := Aside0.mk (hb); replace HI0 := Aside0.mk (hi); (try clear hb); (try clear hb2); (try clear hk); (try clear hi); have dQ := an.out; have dR := am.out; have dS := aj.out; have dT := aA.out; have cp := cz_ ac 0; have cq := cz_ ac 1; have cr := cz_ ac 2; have ct := blk_frozen ac.out 0; have cu := blk_frozen ac.out 1; have cv := blk_frozen ac.out 2; have dU := ai.out; have dV := aK.out; have cw := cz_ ad 0; have cx := cz_ ad 1; have cy := cz_ ad 2; have cz := blk_frozen ad.out 0; have cA := blk_frozen ad.out 1; have cB := blk_frozen ad.out 2; obtain ⟨bM, bN, dl⟩ := Kd.R_slice aa.out; subst dl))
      refine bodyPost_ret (results_cell_row rfl _ _ ak 25 #[.slice aG ah.length co9, .int .i64 4, .slice bM ae.length bN] (0, 0) _ rfl (ps_ ad.out) Tryd.underlying25 rfl (by kernel_rfl)) rfl ?_
      exact ⟨_, _, tw_, by refine qR_ ?_; exact Kd.R_mono (Kd.R_far (p := ⟨ak, 2, none⟩) (Kd.R_far (p := ⟨ak, 1, none⟩) (Kd.R_far (p := ⟨ak, 0, none⟩) (Kd.R_far (p := ⟨ao, 1, none⟩) (Kd.R_types (Kd.R_types ab.out ac.out (by decide)) ad.out (by decide)) (fun _ hk => hk.1.2) (.int .i64 4)) (fun _ hk => hk.2) (.slice aG ah.length co9)) (fun _ hk => hk.2) (.int .i64 4)) (fun _ hk => hk.2) (.slice bM ae.length bN)) (fun _ hk => hk.1.1), by refine qR_ ?_; exact Kd.R_mono (Kd.R_far (p := ⟨ak, 2, none⟩) (Kd.R_far (p := ⟨ak, 1, none⟩) (Kd.R_far (p := ⟨ak, 0, none⟩) (Kd.R_far (p := ⟨ao, 1, none⟩) (Kd.R_types (Kd.R_types aa.out ac.out (by decide)) ad.out (by decide)) (fun _ hk => hk.1.2) (.int .i64 4)) (fun _ hk => hk.2) (.slice aG ah.length co9)) (fun _ hk => hk.2) (.int .i64 4)) (fun _ hk => hk.2) (.slice bM ae.length bN)) (fun _ hk => hk.1.1), ti126_ HI0.out, tu126_ HB.out, (tc_ HK.out)⟩
     ·
      rw [if_neg c49] at H
      have bZ : (aH == 0) = false := beq_eq_false_iff_ne.mpr c49
      have b0 : (aH != 0) = true := bne_iff_ne.mpr c49
      by_cases c58 : aH = 1
      ·
       rw [if_pos c58] at H
       have b1 : (aH == 1) = true := beq_iff_eq.mpr c58
       have b2 : (aH != 1) = false := bne_eq_false_iff_eq.mpr c58
       clear c58
       by_cases c59 : ae.length < 17592186044416
       ·
        rw [if_pos c59] at H
        have b3 := Aside0.mk c59
        clear c59
        obtain ⟨a7, bi⟩ : ∃ y_ : List Int, y_ = (ae ++ [3]) := ⟨_, rfl⟩
        replace H : (some (ah, (wrap64 (al - 1)), a7, bu)) = some (r1, r2, r3, r4) := yq_ bi H
        have b4 := Aside0.mk bi
        clear bi
        simp only [Option.some.injEq, Prod.mk.injEq] at H
        obtain ⟨rfl, rfl, rfl, rfl⟩ := H
        go_wp2_with (first | ((with_reducible refine gate_callee (f := 80) rfl ?_); refine gl_ (some 42) Tryd.func80 #[.pointer (some ⟨g, 0, none⟩), .int .i64 a1] ?_; (with_reducible refine (spec_l20Rd_odd.calls k1 g ag af a1 true aD w0 _ ?s1 ?s2 A46.out).mono ?_); (case s1 => exact ti126_ HI0.out); (case s2 => exact tu126_ HB.out); rintro e eC ⟨rfl, hi, hb, hk⟩; refine ⟨_, rfl, ?_⟩; replace ab := Aside0.mk (Kd.R_mono (Kd.R_keep (IsS126.apart (ti126_ HI0.out : IsS126 w0 _ g ag af) (rR_ ab.out) (by decide)) hk (fun _ h => h.2)) (fun _ h => h.1)); replace aa := Aside0.mk (Kd.R_mono (Kd.R_keep (IsS126.apart (ti126_ HI0.out : IsS126 w0 _ g ag af) (rR_ aa.out) (by decide)) hk (fun _ h => h.2)) (fun _ h => h.1)); replace ad := kb_ ad hk ai; replace ac := kb_ ac hk aj; replace HK := kt_ HK hk; replace HB := Aside0.mk (hb); replace HI0 := Aside0.mk (hi); (try clear hb); (try clear hb2); (try clear hk); (try clear hi)) | ((with_reducible refine gate_callee (f := 101) rfl ?_); refine gl_ (some 44) Tryd.func101 #[.pointer (some ⟨g, 0, none⟩), .int .i64 3] ?_; (with_reducible refine (spec_l20Rd_pick.calls k1 g ag aD 3 aH bu w0 _ ?s1 ?s2 A48.out).mono ?_); (case s1 => exact ti126_ HI0.out); (case s2 => exact tu126_ HB.out); rintro e eD ⟨rfl, hi, hb, hk⟩; refine ⟨_, rfl, ?_⟩; replace ab := Aside0.mk (Kd.R_mono (Kd.R_keep (IsS126.apart (ti126_ HI0.out : IsS126 w0 _ g ag aD) (rR_ ab.out) (by decide)) hk (fun _ h => h.2)) (fun _ h => h.1)); replace aa := Aside0.mk (Kd.R_mono (Kd.R_keep (IsS126.apart (ti126_ HI0.out : IsS126 w0 _ g ag aD) (rR_ aa.out) (by decide)) hk (fun _ h => h.2)) (fun _ h => h.1)); replace ad := kb_ ad hk ai; replace ac := kb_ ac hk aj; replace HK := kt_ HK hk; replace HB := Aside0.mk (hb); replace HI0 := Aside0.mk (hi); (try clear hb); (try clear hb2); (try clear hk); (try clear hi); have dW := an.out; have dX := am.out; have dY := aj.out; have dZ := aA.out; have cC := cz_ ac 0; have cD := cz_ ac 1; have cE := cz_ ac 2; have cF := blk_frozen ac.out 0; have cG := blk_frozen ac.out 1; have cH := blk_frozen ac.out 2) | ((with_reducible refine gate_builtin (b := .append) (xs := #[.tmp 52, .tmp 53]) rfl ?_); at_builtin; refine Kd.R_append (Kd.int .i64) w.heap.size rfl (.tmp 52) (.tmp 53) 23 3 (.int .i64 0) 8 rfl Tryd.underlying23 info3 rfl (by decide) (by omega) u321002 ae 3 [.int .i64 3] (fun k_ => some k_ ≠ (.slice aG ah.length co9 : Value).ownBlock) (fun _ => False) rfl rfl ?aP (fun _ hk => hk.elim) ?aF ?aO (Below.refl _ _) ?aS ?aL ?_; (case aP => exact rfl); (case aF => exact (fun k_ hk => Kd.fresh' (Kd.R_lt (rR_ ab.out)) k_ hk)); (case aO => exact (rR_ aa.out)); (case aS => exact (keep_size (w := w) (g := g) (row := none) (tc_ HK.out))); (case aL => have := b3.out; omega); intro eg eE ho hb hg hat; rw [← b4.out] at ho; replace ab := Aside0.mk (Kd.R_after (ok := (fun _ => True)) (by refine qR_ ?_; exact Kd.R_mono ab.out (fun _ hk => ⟨trivial, hk⟩)) hg hat); replace ad := bg_ ad hg (Kd.R_ne aa.out ad.out (by decide)); replace ac := bg_ ac hg (Kd.R_ne aa.out ac.out (by decide)); replace HI0 := Aside0.mk (IsS126.grown (ti126_ HI0.out) hg (IsS126.own_ne HI0.out aa.out (by decide))); replace HB := Aside0.mk (below_weaken (tu126_ HB.out) HL.out hb); replace HK := Aside0.mk (KeepBut.trans (tc_ HK.out) (KeepBut.of_grown hg g) (Kd.R_base2 aa.out)); have bF := Aside0.mk (ho); clear aa ho hb hg hat; obtain ⟨bj, bk, dm⟩ := Kd.R_slice bF.out; subst dm; have cI := cz_ ac 0; have cJ := cz_ ac 1; have cK := cz_ ac 2; have cL := blk_frozen ac.out 0; have cM := blk_frozen ac.out 1; have cN := blk_frozen ac.out 2; have d0 := ai.out; have d1 := aK.out; have cO := cz_ ad 0; have cP := cz_ ad 1; have cQ := cz_ ad 2; have cR := blk_frozen ad.out 0; have cS := blk_frozen ad.out 1; have cT := blk_frozen ad.out 2))
        refine bodyPost_ret (results_cell_row rfl _ _ ak 25 #[.slice aG ah.length co9, .int .i64 (wrap64 (al - 1)), .slice bj a7.length bk] (0, 0) _ rfl (ps_ ad.out) Tryd.underlying25 rfl (by kernel_rfl)) rfl ?_
        exact ⟨_, _, tw_, by refine qR_ ?_; exact Kd.R_mono (Kd.R_far (p := ⟨ak, 2, none⟩) (Kd.R_far (p := ⟨ak, 1, none⟩) (Kd.R_far (p := ⟨ak, 0, none⟩) (Kd.R_far (p := ⟨ao, 2, none⟩) (Kd.R_types (Kd.R_types ab.out ac.out (by decide)) ad.out (by decide)) (fun _ hk => hk.1.2) (.slice bj a7.length bk)) (fun _ hk => hk.2) (.slice aG ah.length co9)) (fun _ hk => hk.2) (.int .i64 (wrap64 (al - 1)))) (fun _ hk => hk.2) (.slice bj a7.length bk)) (fun _ hk => hk.1.1.2), by refine qR_ ?_; exact Kd.R_mono (Kd.R_far (p := ⟨ak, 2, none⟩) (Kd.R_far (p := ⟨ak, 1, none⟩) (Kd.R_far (p := ⟨ak, 0, none⟩) (Kd.R_far (p := ⟨ao, 2, none⟩) (Kd.R_types (Kd.R_types bF.out ac.out (by decide)) ad.out (by decide)) (fun _ hk => hk.1.2) (.slice bj a7.length bk)) (fun _ hk => hk.2) (.slice aG ah.length co9)) (fun _ hk => hk.2) (.int .i64 (wrap64 (al - 1)))) (fun _ hk => hk.2) (.slice bj a7.length bk)) (fun _ hk => hk.1.1), ti126_ HI0.out, tu126_ HB.out, (tc_ HK.out)⟩
       ·
        rw [if_neg c59] at H
        exact absurd H (by simp)
      ·
       rw [if_neg c58] at H
       have b1 : (aH == 1) = false := beq_eq_false_iff_ne.mpr c58
       have b2 : (aH != 1) = true := bne_iff_ne.mpr c58
       simp only [Option.some.injEq, Prod.mk.injEq] at H
       obtain ⟨rfl, rfl, rfl, rfl⟩ := H
       go_wp2_with (first | ((with_reducible refine gate_callee (f := 80) rfl ?_); refine gl_ (some 42) Tryd.func80 #[.pointer (some ⟨g, 0, none⟩), .int .i64 a1] ?_; (with_reducible refine (spec_l20Rd_odd.calls k1 g ag af a1 true aD w0 _ ?s1 ?s2 A46.out).mono ?_); (case s1 => exact ti126_ HI0.out); (case s2 => exact tu126_ HB.out); rintro e eF ⟨rfl, hi, hb, hk⟩; refine ⟨_, rfl, ?_⟩; replace ab := Aside0.mk (Kd.R_mono (Kd.R_keep (IsS126.apart (ti126_ HI0.out : IsS126 w0 _ g ag af) (rR_ ab.out) (by decide)) hk (fun _ h => h.2)) (fun _ h => h.1)); replace aa := Aside0.mk (Kd.R_mono (Kd.R_keep (IsS126.apart (ti126_ HI0.out : IsS126 w0 _ g ag af) (rR_ aa.out) (by decide)) hk (fun _ h => h.2)) (fun _ h => h.1)); replace ad := kb_ ad hk ai; replace ac := kb_ ac hk aj; replace HK := kt_ HK hk; replace HB := Aside0.mk (hb); replace HI0 := Aside0.mk (hi); (try clear hb); (try clear hb2); (try clear hk); (try clear hi)) | ((with_reducible refine gate_callee (f := 101) rfl ?_); refine gl_ (some 44) Tryd.func101 #[.pointer (some ⟨g, 0, none⟩), .int .i64 3] ?_; (with_reducible refine (spec_l20Rd_pick.calls k1 g ag aD 3 aH bu w0 _ ?s1 ?s2 A48.out).mono ?_); (case s1 => exact ti126_ HI0.out); (case s2 => exact tu126_ HB.out); rintro e eG ⟨rfl, hi, hb, hk⟩; refine ⟨_, rfl, ?_⟩; replace ab := Aside0.mk (Kd.R_mono (Kd.R_keep (IsS126.apart (ti126_ HI0.out : IsS126 w0 _ g ag aD) (rR_ ab.out) (by decide)) hk (fun _ h => h.2)) (fun _ h => h.1)); replace aa := Aside0.mk (Kd.R_mono (Kd.R_keep (IsS126.apart (ti126_ HI0.out : IsS126 w0 _ g ag aD) (rR_ aa.out) (by decide)) hk (fun _ h => h.2)) (fun _ h => h.1)); replace ad := kb_ ad hk ai; replace ac := kb_ ac hk aj; replace HK := kt_ HK hk; replace HB := Aside0.mk (hb); replace HI0 := Aside0.mk (hi); (try clear hb); (try clear hb2); (try clear hk); (try clear hi); have d2 := am.out; have d3 := an.out; have d4 := ai.out; have d5 := aK.out; have cU := cz_ ad 0; have cV := cz_ ad 1; have cW := cz_ ad 2; have cX := blk_frozen ad.out 0; have cY := blk_frozen ad.out 1; have cZ := blk_frozen ad.out 2))
       refine bodyPost_ret (results_cell_row rfl _ _ ak 25 #[.slice none 0 0, .int .i64 0, .slice none 0 0] (0, 0) _ rfl (ps_ ad.out) Tryd.underlying25 rfl (by kernel_rfl)) rfl ?_
       exact ⟨_, _, tw_, by first | exact Kd.R_nil _ _ _ _ _ | exact Kd.N_nil _ _ _ _ _ | exact Kd.V_nil _ _ _ _ _ | exact Kd.Q_nil _ _ _ _ _ | exact Kd.S_nil _ _ _ _ _, by first | exact Kd.R_nil _ _ _ _ _ | exact Kd.N_nil _ _ _ _ _ | exact Kd.V_nil _ _ _ _ _ | exact Kd.Q_nil _ _ _ _ _ | exact Kd.S_nil _ _ _ _ _, ti126_ HI0.out, tu126_ HB.out, (tc_ HK.out)⟩
    ·
     replace c47 := Bool.eq_false_iff.mpr c47
     subst c47
     have H1 : (some (ah, (wrap64 (al - 1)), ae, aD)) = some (r1, r2, r3, r4) := by rw [if_neg (show ¬ (false = true) by decide)] at H; exact H
     clear H
     have H := H1
     clear H1
     simp only [Option.some.injEq, Prod.mk.injEq] at H
     obtain ⟨rfl, rfl, rfl, rfl⟩ := H
     go_wp2_with (first | ((with_reducible refine gate_callee (f := 80) rfl ?_); refine gl_ (some 42) Tryd.func80 #[.pointer (some ⟨g, 0, none⟩), .int .i64 a1] ?_; (with_reducible refine (spec_l20Rd_odd.calls k1 g ag af a1 false aD w0 _ ?s1 ?s2 A46.out).mono ?_); (case s1 => exact ti126_ HI0.out); (case s2 => exact tu126_ HB.out); rintro e eH ⟨rfl, hi, hb, hk⟩; refine ⟨_, rfl, ?_⟩; replace ab := Aside0.mk (Kd.R_mono (Kd.R_keep (IsS126.apart (ti126_ HI0.out : IsS126 w0 _ g ag af) (rR_ ab.out) (by decide)) hk (fun _ h => h.2)) (fun _ h => h.1)); replace aa := Aside0.mk (Kd.R_mono (Kd.R_keep (IsS126.apart (ti126_ HI0.out : IsS126 w0 _ g ag af) (rR_ aa.out) (by decide)) hk (fun _ h => h.2)) (fun _ h => h.1)); replace ad := kb_ ad hk ai; replace ac := kb_ ac hk aj; replace HK := kt_ HK hk; replace HB := Aside0.mk (hb); replace HI0 := Aside0.mk (hi); (try clear hb); (try clear hb2); (try clear hk); (try clear hi); have d6 := an.out; have d7 := am.out; have d8 := aj.out; have d9 := aA.out; have c2 := cz_ ac 0; have c3 := cz_ ac 1; have c4 := cz_ ac 2; have c5 := blk_frozen ac.out 0; have c6 := blk_frozen ac.out 1; have c7 := blk_frozen ac.out 2; have ea := ai.out; have eb := aK.out; have c8 := cz_ ad 0; have da := cz_ ad 1; have db := cz_ ad 2; have dc := blk_frozen ad.out 0; have dd := blk_frozen ad.out 1; have de := blk_frozen ad.out 2; obtain ⟨bO, bP, dn⟩ := Kd.R_slice aa.out; subst dn))
     refine bodyPost_ret (results_cell_row rfl _ _ ak 25 #[.slice aG ah.length co9, .int .i64 (wrap64 (al - 1)), .slice bO ae.length bP] (0, 0) _ rfl (ps_ ad.out) Tryd.underlying25 rfl (by kernel_rfl)) rfl ?_
     exact ⟨_, _, tw_, by refine qR_ ?_; exact Kd.R_mono (Kd.R_far (p := ⟨ak, 2, none⟩) (Kd.R_far (p := ⟨ak, 1, none⟩) (Kd.R_far (p := ⟨ak, 0, none⟩) (Kd.R_types ab.out ad.out (by decide)) (fun _ hk => hk.2) (.slice aG ah.length co9)) (fun _ hk => hk.2) (.int .i64 (wrap64 (al - 1)))) (fun _ hk => hk.2) (.slice bO ae.length bP)) (fun _ hk => hk.1), by refine qR_ ?_; exact Kd.R_mono (Kd.R_far (p := ⟨ak, 2, none⟩) (Kd.R_far (p := ⟨ak, 1, none⟩) (Kd.R_far (p := ⟨ak, 0, none⟩) (Kd.R_types aa.out ad.out (by decide)) (fun _ hk => hk.2) (.slice aG ah.length co9)) (fun _ hk => hk.2) (.int .i64 (wrap64 (al - 1)))) (fun _ hk => hk.2) (.slice bO ae.length bP)) (fun _ hk => hk.1), ti126_ HI0.out, tu126_ HB.out, (tc_ HK.out)⟩

/-! ### spec_DrawPlaceText: function 61 -/
def spec_DrawPlaceText.f (k : Nat) (l0 : List Int) : Option (List Int × Int × List Int) := (spec_l20Open.f l0).bind fun a3 => ((spec_l20Place.f k a3.1 a3.2 9).bind fun aM => (some (aM.1, aM.2.1, aM.2.2.1)))
theorem spec_DrawPlaceText.mono : ∀ a0 k, LeO (spec_DrawPlaceText.f k a0) (spec_DrawPlaceText.f (k + 1) a0) := by
 intro a0 k
 unfold spec_DrawPlaceText.f
 repeat' (with_reducible first | exact spec_l20Place.mono _ _ _ _ | exact mr_ | exact mn_ | refine mi_ ?_ ?_ | refine mb_ ?_ (fun _ => ?_))
set_option maxHeartbeats 8000000 in
set_option maxRecDepth 100000 in
theorem spec_DrawPlaceText.calls (k : Nat) (A0 : Option Addr) (c0 : Nat) (l0 : List Int) (r1 : List Int) (r2 : Int) (r3 : List Int) (w : World) (hr0 : Kd.C (Kd.int .u8) w A0 l0.length l0) (hc0 : l0.length ≤ c0) (h : spec_DrawPlaceText.f k l0 = some (r1, r2, r3)) :
  Calls Tryd.prog 61 #[.slice A0 l0.length c0] w fun e w' => ∃ v0_ v2_ : Value, e = .returned (.agg #[v0_, .int .i64 r2, v2_]) ∧ Kd.R (Kd.int .i64) 3 w' w.heap.size (fun k_ => some k_ ≠ (v2_ : Value).ownBlock) v0_ r1 ∧ Kd.R (Kd.int .i64) 3 w' w.heap.size (fun k_ => some k_ ≠ (v0_ : Value).ownBlock) v2_ r3 ∧ Below w.heap.size w w' := by
 have hu25 := Tryd.underlying25
 have HR0 := Aside0.mk hr0
 have HC0 := Aside0.mk hc0
 clear hr0 hc0
 have HB := Aside0.mk (Below.refl w.heap.size w)
 have H : ((spec_l20Open.f l0).bind fun a3 => ((spec_l20Place.f k a3.1 a3.2 9).bind fun aM => (some (aM.1, aM.2.1, aM.2.2.1)))) = some (r1, r2, r3) := h
 clear h
 obtain ⟨⟨b5, b6⟩, A2, H⟩ := bnd_ H
 try dsimp only at H
 obtain ⟨⟨bv, bw, bx, dp⟩, A3, H⟩ := bnd_ H
 try dsimp only at H
 simp only [Option.some.injEq, Prod.mk.injEq] at H
 obtain ⟨rfl, rfl, rfl⟩ := H
 go_enter Tryd.func61, Tryd.ntmps61
 go_wp2_with (first | ((with_reducible refine gate_dst (N := 2) rfl ?_); refine box_event ?hg (N := 2) ?hd (cs := #[.slice none 0 0, .int .i64 0, .slice none 0 0]) (t := 25) ?hr ?_; (case hd => rfl); (case hg => rfl); (case hr => first | (go_simp; done) | (go_simp; rfl)); intro aC hg w4 hbox hb; have aq := Aside0.mk (hbox); have ec := gx_ HB hg; have ed := gx_ HB hg; replace HB := bs_ HB hb; clear hb hbox hg) | ((with_reducible refine gate_callee (f := 64) rfl ?_); refine gl_ (some 4) Tryd.func64 #[.slice A0 l0.length c0] ?_; (with_reducible refine (spec_l20Open.calls _ _ l0 b5 b6 w _ ?s1 ?s2 ?s3 A2.out).mono ?_); (case s1 => exact tb_ HB.out); (case s2 => exact HR0.out); (case s3 => exact HC0.out); rintro e w5 ⟨g345, rfl, hi, hb, hb2⟩; refine ⟨_, rfl, ?_⟩; replace HB := Aside0.mk (hb); have HI345 := Aside0.mk (hi); have a8 := Aside0.mk (IsS126.ne_blk hi (blk_below (g := aC) (o := .cells #[.slice none 0 0, .int .i64 0, .slice none 0 0] 25 (0, 0)) (tk_ aq.out) hb2) (by decide)); have aN := Aside0.mk (Ne.symm (IsS126.ne_blk hi (blk_below (g := aC) (o := .cells #[.slice none 0 0, .int .i64 0, .slice none 0 0] 25 (0, 0)) (tk_ aq.out) hb2) (by decide))); replace aq := Aside0.mk (blk_below (g := aC) (o := .cells #[.slice none 0 0, .int .i64 0, .slice none 0 0] 25 (0, 0)) (tk_ aq.out) hb2); (try clear hb); (try clear hb2); (try clear hk); (try clear hi)) | ((with_reducible refine gate_callee (f := 97) rfl ?_); refine gl_ (some 5) Tryd.func97 #[.pointer (some ⟨g345, 0, none⟩), .int .i64 9] ?_; (with_reducible refine (spec_l20Place.calls k g345 b5 b6 9 bv bw bx dp w _ ?s1 ?s2 A3.out).mono ?_); (case s1 => exact ti126_ HI345.out); (case s2 => exact tu126_ HB.out); rintro e w6 ⟨eh, ei, rfl, ho0, ho1, hi, hb, hk⟩; refine ⟨_, rfl, ?_⟩; replace aq := kb_ aq hk aN; have bG := Aside0.mk (Kd.R_lower ho0 (below_size (tu126_ HB.out))); have bH := Aside0.mk (Kd.R_lower ho1 (below_size (tu126_ HB.out))); replace HB := Aside0.mk (hb); replace HI345 := Aside0.mk (hi); (try clear hb); (try clear hb2); (try clear hk); (try clear hi); (try clear ho0); (try clear ho1); obtain ⟨dq, co7, ej⟩ := Kd.R_slice bG.out; subst ej; have ek := aN.out; have el := a8.out; have dr := cz_ aq 0; have dt := cz_ aq 1; have du := cz_ aq 2; have dv := blk_frozen aq.out 0; have dw := blk_frozen aq.out 1; have dx := blk_frozen aq.out 2; obtain ⟨bQ, bR, dy⟩ := Kd.R_slice bH.out; subst dy))
 refine bodyPost_ret (results_cell_row rfl _ _ aC 25 #[.slice dq bv.length co7, .int .i64 bw, .slice bQ bx.length bR] (0, 0) _ rfl (ps_ aq.out) Tryd.underlying25 rfl (by kernel_rfl)) rfl ?_
 exact ⟨_, _, tw_, by refine qR_ ?_; exact Kd.R_mono (Kd.R_far (p := ⟨aC, 2, none⟩) (Kd.R_far (p := ⟨aC, 1, none⟩) (Kd.R_far (p := ⟨aC, 0, none⟩) (Kd.R_types bG.out aq.out (by decide)) (fun _ hk => hk.2) (.slice dq bv.length co7)) (fun _ hk => hk.2) (.int .i64 bw)) (fun _ hk => hk.2) (.slice bQ bx.length bR)) (fun _ hk => hk.1), by refine qR_ ?_; exact Kd.R_mono (Kd.R_far (p := ⟨aC, 2, none⟩) (Kd.R_far (p := ⟨aC, 1, none⟩) (Kd.R_far (p := ⟨aC, 0, none⟩) (Kd.R_types bH.out aq.out (by decide)) (fun _ hk => hk.2) (.slice dq bv.length co7)) (fun _ hk => hk.2) (.int .i64 bw)) (fun _ hk => hk.2) (.slice bQ bx.length bR)) (fun _ hk => hk.1), tu126_ HB.out⟩

end Go.Proofs.YtlhiienanbpdlaaDoor.MFnPlaceText
