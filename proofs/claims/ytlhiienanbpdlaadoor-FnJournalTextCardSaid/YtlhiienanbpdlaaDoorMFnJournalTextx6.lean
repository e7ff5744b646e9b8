/- For the law FnJournalText: walks of the functions that it reaches: each call returns what the plain function beside it tells. The conditions stand in each statement. -/
import Derived.Test.YtlhiienanbpdlaaDoorV
import Derived.Test.YtlhiienanbpdlaaDoorMFnJournalTextx0
import Derived.Test.YtlhiienanbpdlaaDoorMFnJournalTextx3
import Derived.Test.YtlhiienanbpdlaaDoorMFnJournalTextx4
namespace Go.Proofs.YtlhiienanbpdlaaDoor.MFnJournalText
open Go.RowKit Go.Proofs.YtlhiienanbpdlaaDoorW.PrintWords Go.Proofs.YtlhiienanbpdlaaDoorW.PrintLast Go.Proofs.YtlhiienanbpdlaaDoorW.PrintMore
attribute [local go_sem] max2_int min2_int max_two min_two max_three min_three max_four min_four   -- for this text's walks alone
set_option linter.unusedVariables false
set_option linter.unusedSimpArgs false

/-! ### spec_l20Deed: function 66 -/
def spec_l20Deed.j0 : Nat → List Int → Int → Int → Int → Int → Option (Int × Int × Int × Int)
 | 0, _, _, _, _, _ => none
 | k + 1, bO, cO, bz, bH, bI => (spec_l20Rd_odd.f k bO cO 40).bind fun bP => (if bP.1 = true then ((spec_l20Rd_pick.f k bO bP.2 2).bind fun br => (if br.1 = 0 then ((some (([(-100), 100] : List Int) : List Int)).bind fun bn => ((spec_l20Rd_pick.f k bO br.2 2).bind fun a7 => (if 0 ≤ a7.1 then (if a7.1 < (bn.length : Int) then (some (bz, rd bn a7.1, bI, a7.2)) else (none)) else (none)))) else (some (bz, bH, 99, br.2)))) else (some (bz, bH, bI, bP.2)))
def spec_l20Deed.f (k : Nat) (ar : List Int) (bo : Int) (aW : List Int) (a1_1 : Int) (bh : List Int) : Option (Int × Int × Int × Int) := (some (([0, 1, 2, 2, 2, 2, 3, 4] : List Int) : List Int)).bind fun ao => ((spec_l20Rd_pick.f k ar bo 8).bind fun aI => (if 0 ≤ aI.1 then (if aI.1 < (ao.length : Int) then ((spec_l20Rd_pick.f k ar aI.2 60).bind fun aC => (if (wrap64 ((rd ao aI.1) + (wrap64 ((wrap64 (Int.tdiv aC.1 59)) * 5)))) = 0 then ((spec_l20Rd_pick.f k ar aC.2 (mx (aW.length : Int) 1)).bind fun bd => ((spec_l20Rd_pick.f k ar bd.2 7).bind fun be => (spec_l20Deed.j0 k ar be.2 (wrap64 ((rd ao aI.1) + (wrap64 ((wrap64 (Int.tdiv aC.1 59)) * 5)))) bd.1 (wrap64 (be.1 - 3))))) else (if (wrap64 ((rd ao aI.1) + (wrap64 ((wrap64 (Int.tdiv aC.1 59)) * 5)))) = 1 then ((spec_l20Rd_pick.f k ar aC.2 5).bind fun bl => (spec_l20Deed.j0 k ar bl.2 (wrap64 ((rd ao aI.1) + (wrap64 ((wrap64 (Int.tdiv aC.1 59)) * 5)))) (wrap64 (bl.1 - 1)) 0)) else (if (wrap64 ((rd ao aI.1) + (wrap64 ((wrap64 (Int.tdiv aC.1 59)) * 5)))) = 2 then ((spec_l20Rd_pick.f k ar aC.2 (mx (aW.length : Int) 1)).bind fun bf => (spec_l20Deed.j0 k ar bf.2 (wrap64 ((rd ao aI.1) + (wrap64 ((wrap64 (Int.tdiv aC.1 59)) * 5)))) bf.1 0)) else (spec_l20Deed.j0 k ar aC.2 (wrap64 ((rd ao aI.1) + (wrap64 ((wrap64 (Int.tdiv aC.1 59)) * 5)))) 0 0))))) else (none)) else (none)))
theorem spec_l20Deed.mono_l : ∀ k, (∀ y0 y1 y2 y3 y4, LeO (spec_l20Deed.j0 k y0 y1 y2 y3 y4) (spec_l20Deed.j0 (k + 1) y0 y1 y2 y3 y4))
 | 0 => fun _ _ _ _ _ r h => by simp [spec_l20Deed.j0] at h
 | k + 1 => by
  have ih0 := spec_l20Deed.mono_l k
  ·
   intro y0 y1 y2 y3 y4
   unfold spec_l20Deed.j0
   repeat' (with_reducible first | exact ih0 _ _ _ _ _ | exact spec_l20Rd_odd.mono _ _ _ _ | exact spec_l20Rd_pick.mono _ _ _ _ | exact mr_ | exact mn_ | refine mi_ ?_ ?_ | refine mb_ ?_ (fun _ => ?_))
theorem spec_l20Deed.mono : ∀ a0 a1 a2 a3 a4 k, LeO (spec_l20Deed.f k a0 a1 a2 a3 a4) (spec_l20Deed.f (k + 1) a0 a1 a2 a3 a4) := by
 intro a0 a1 a2 a3 a4 k
 have ih0 := spec_l20Deed.mono_l k
 unfold spec_l20Deed.f
 repeat' (with_reducible first | exact ih0 _ _ _ _ _ | exact spec_l20Rd_odd.mono _ _ _ _ | exact spec_l20Rd_pick.mono _ _ _ _ | exact mr_ | exact mn_ | refine mi_ ?_ ?_ | refine mb_ ?_ (fun _ => ?_))
def spec_l20Deed.T1 : Bool × List (List Nat × List Nat) := (true, [([], []), ([], []), ([1], [1]), ([0, 2], [0, 2]), ([3], [3]), ([], []), ([5, 2], [5]), ([6], [6]), ([7], [7]), ([4, 8], [4, 8]), ([9], [9]), ([], []), ([11, 10, 6, 0, 1, 2, 3, 4, 5, 6, 7, 8, 9, 10, 11], [10, 11])])
def spec_l20Deed.B1 : List Nat := [0, 0, 2, 7, 15, 0, 38, 102, 230, 511, 1023, 0, 4095]
theorem spec_l20Deed.tab1 : rtab .any (opsOf Tryd.f66 1) = spec_l20Deed.T1 := by kernel_rfl
theorem spec_l20Deed.bits1 : waitsOk spec_l20Deed.T1.2 spec_l20Deed.B1 = true := by kernel_rfl
set_option maxHeartbeats 8000000 in
set_option maxRecDepth 100000 in
theorem spec_l20Deed.calls (k : Nat) (g : Nat) (ar : List Int) (bo : Int) (bp : Option Addr) (bs : Nat) (aW : List Int) (a1_1 : Int) (bq : Option Addr) (bu : Nat) (bh : List Int) (r1 : Int) (r2 : Int) (r3 : Int) (r4 : Int) (w0 w : World) (hI : IsS126 w0 w g ar bo) (hB : Below w0.heap.size w0 w) (hr1_0 : Kd.C (Kd.int .i64) w bp aW.length aW) (hc1_0 : aW.length ≤ bs) (hf1_0 : ∀ ad, bp = some ad → 0 < aW.length → ad.block ≠ g) (hr1_2 : Kd.C (Kd.int .i64) w bq bh.length bh) (hc1_2 : bh.length ≤ bu) (hf1_2 : ∀ ad, bq = some ad → 0 < bh.length → ad.block ≠ g) (h : spec_l20Deed.f k ar bo aW a1_1 bh = some (r1, r2, r3, r4)) :
  Calls Tryd.prog 66 #[.pointer (some ⟨g, 0, none⟩), .agg #[.slice bp aW.length bs, .int .i64 a1_1, .slice bq bh.length bu]] w fun e w' => e = .returned (.agg #[.int .i64 r1, .int .i64 r2, .int .i64 r3]) ∧ IsS126 w0 w' g ar r4 ∧ Below w0.heap.size w0 w' ∧ KeepBut w w' g none := by
 have hu25 := Tryd.underlying25
 have hu30 := Tryd.underlying30
 have d6 := Aside0.mk hr1_0
 have d7 := Aside0.mk hc1_0
 clear hr1_0 hc1_0
 have d8 := Aside0.mk hr1_2
 have d9 := Aside0.mk hc1_2
 clear hr1_2 hc1_2
 have HI0 := Aside0.mk hI
 have HK := Aside0.mk (KeepBut.refl w g none)
 have HL := Aside0.mk hB.size
 have HLg := Aside0.mk hI.lt
 clear hI
 have HW0 := Aside0.mk hB.size
 have HB := Aside0.mk hB
 clear hB
 have H : ((some (([0, 1, 2, 2, 2, 2, 3, 4] : List Int) : List Int)).bind fun ao => ((spec_l20Rd_pick.f k ar bo 8).bind fun aI => (if 0 ≤ aI.1 then (if aI.1 < (ao.length : Int) then ((spec_l20Rd_pick.f k ar aI.2 60).bind fun aC => (if (wrap64 ((rd ao aI.1) + (wrap64 ((wrap64 (Int.tdiv aC.1 59)) * 5)))) = 0 then ((spec_l20Rd_pick.f k ar aC.2 (mx (aW.length : Int) 1)).bind fun bd => ((spec_l20Rd_pick.f k ar bd.2 7).bind fun be => (spec_l20Deed.j0 k ar be.2 (wrap64 ((rd ao aI.1) + (wrap64 ((wrap64 (Int.tdiv aC.1 59)) * 5)))) bd.1 (wrap64 (be.1 - 3))))) else (if (wrap64 ((rd ao aI.1) + (wrap64 ((wrap64 (Int.tdiv aC.1 59)) * 5)))) = 1 then ((spec_l20Rd_pick.f k ar aC.2 5).bind fun bl => (spec_l20Deed.j0 k ar bl.2 (wrap64 ((rd ao aI.1) + (wrap64 ((wrap64 (Int.tdiv aC.1 59)) * 5)))) (wrap64 (bl.1 - 1)) 0)) else (if (wrap64 ((rd ao aI.1) + (wrap64 ((wrap64 (Int.tdiv aC.1 59)) * 5)))) = 2 then ((spec_l20Rd_pick.f k ar aC.2 (mx (aW.length : Int) 1)).bind fun bf => (spec_l20Deed.j0 k ar bf.2 (wrap64 ((rd ao aI.1) + (wrap64 ((wrap64 (Int.tdiv aC.1 59)) * 5)))) bf.1 0)) else (spec_l20Deed.j0 k ar aC.2 (wrap64 ((rd ao aI.1) + (wrap64 ((wrap64 (Int.tdiv aC.1 59)) * 5)))) 0 0))))) else (none)) else (none)))) = some (r1, r2, r3, r4) := h
 clear h
 obtain ⟨ao, bQ⟩ : ∃ y_ : List Int, y_ = (([0, 1, 2, 2, 2, 2, 3, 4] : List Int)) := ⟨_, rfl⟩
 replace H : ((spec_l20Rd_pick.f k ar bo 8).bind fun aI => (if 0 ≤ aI.1 then (if aI.1 < (ao.length : Int) then ((spec_l20Rd_pick.f k ar aI.2 60).bind fun aC => (if (wrap64 ((rd ao aI.1) + (wrap64 ((wrap64 (Int.tdiv aC.1 59)) * 5)))) = 0 then ((spec_l20Rd_pick.f k ar aC.2 (mx (aW.length : Int) 1)).bind fun bd => ((spec_l20Rd_pick.f k ar bd.2 7).bind fun be => (spec_l20Deed.j0 k ar be.2 (wrap64 ((rd ao aI.1) + (wrap64 ((wrap64 (Int.tdiv aC.1 59)) * 5)))) bd.1 (wrap64 (be.1 - 3))))) else (if (wrap64 ((rd ao aI.1) + (wrap64 ((wrap64 (Int.tdiv aC.1 59)) * 5)))) = 1 then ((spec_l20Rd_pick.f k ar aC.2 5).bind fun bl => (spec_l20Deed.j0 k ar bl.2 (wrap64 ((rd ao aI.1) + (wrap64 ((wrap64 (Int.tdiv aC.1 59)) * 5)))) (wrap64 (bl.1 - 1)) 0)) else (if (wrap64 ((rd ao aI.1) + (wrap64 ((wrap64 (Int.tdiv aC.1 59)) * 5)))) = 2 then ((spec_l20Rd_pick.f k ar aC.2 (mx (aW.length : Int) 1)).bind fun bf => (spec_l20Deed.j0 k ar bf.2 (wrap64 ((rd ao aI.1) + (wrap64 ((wrap64 (Int.tdiv aC.1 59)) * 5)))) bf.1 0)) else (spec_l20Deed.j0 k ar aC.2 (wrap64 ((rd ao aI.1) + (wrap64 ((wrap64 (Int.tdiv aC.1 59)) * 5)))) 0 0))))) else (none)) else (none))) = some (r1, r2, r3, r4) := yq_ bQ H
 have bR := Aside0.mk bQ
 clear bQ
 obtain ⟨⟨az, bE⟩, A3, H⟩ := bnd_ H
 try dsimp only at H
 by_cases c4 : 0 ≤ az
 ·
  rw [if_pos c4] at H
  have dV : decide (0 ≤ az) = true := decide_eq_true c4
  clear c4
  by_cases c5 : az < (ao.length : Int)
  ·
   rw [if_pos c5] at H
   have dW : decide (az < (ao.length : Int)) = true := decide_eq_true c5
   clear c5
   obtain ⟨⟨aD, bk⟩, A6, H⟩ := bnd_ H
   try dsimp only at H
   have HC7 := Aside0.mk H
   clear H
   go_enter Tryd.func66, Tryd.ntmps66
   try go_wp2_with (first | ((with_reducible refine gate_dst (N := 3) rfl ?_); refine box_event ?hg (N := 3) ?hd (cs := #[.slice bp aW.length bs, .int .i64 a1_1, .slice bq bh.length bu]) (t := 25) ?hr ?_; (case hd => rfl); (case hg => rfl); (case hr => first | (go_simp; done) | (go_simp; rfl)); intro bc hg w8 hbox hb; replace HI0 := ti126_b HI0 hb; replace HB := tu126_s HB hb; have ac := Aside0.mk (hbox); have ea := gw_ HK hg; have eb := ge_ HW0 HK hg; have a8 := nk_ HLg HK hg; have aL := nm_ HLg HK hg; replace HK := ko_ HK hb; clear hb hbox hg) | ((with_reducible refine gate_dst (N := 4) rfl ?_); refine box_event ?hg (N := 4) ?hd (cs := #[.int .i64 0, .int .i64 0, .int .i64 0]) (t := 30) ?hr ?_; (case hd => rfl); (case hg => rfl); (case hr => first | (go_simp; done) | (go_simp; rfl)); intro a6 hg w9 hbox hb; replace HI0 := ti126_b HI0 hb; replace HB := tu126_s HB hb; have ab := Aside0.mk (hbox); have ec := gw_ HK hg; have ed := ge_ HW0 HK hg; have a9 := nl_ ac hg; have bb := ng_ ac hg; replace ac := bb_ ac hb; have a5 := nk_ HLg HK hg; have aK := nm_ HLg HK hg; replace HK := ko_ HK hb; clear hb hbox hg))
   have cP : (0 ≤ (az : Int)) = True := eq_true (od_)
   have cQ : (az < (ao.length : Int)) = True := eq_true (od_)
   replace ac := dB_ ac
   replace ab := dB_ ab
   replace HI0 := Aside0.mk (IsS126.drew HI0.out)
   replace HK := Aside0.mk (keep_drew HK.out)
   replace HB := Aside0.mk (ld_ HB.out)
   refine start_ (n := 13) (S := fun w' => True) (ds := []) #[false, false, false, false, false, false, false, false, false, false, false, false, false] (by kernel_rfl) rfl rfl trivial (fun hHeld => ?_); refine with_tabW spec_l20Deed.tab1 spec_l20Deed.bits1 (fun HT_ HW_ => ?_)
   generalize w9.drew = fs at ac ab HI0 HK HB hHeld ⊢
   refine pu_ 1 (some 7) #[false, true, false, false, false, false, false, false, false, false, false, false, false] HT_ rfl rfl ?_
   refine pu_ 5 (some 11) #[false, true, false, false, false, true, false, false, false, false, false, false, false] HT_ rfl rfl ?_
   refine inv_at [0, 2, 3, 4, 6, 7, 8, 9, 10, 11, 12] (fun a0_ b a w' => ∃ (aR : Value) (am : Addr) (ak : Nat) (bm : Value) (aY : Value), a = putSel a0_ b [(0, 6, aR), (2, 8, .int .i64 az), (3, 9, bm), (4, 10, .int .i64 (rd ao az)), (6, 12, .int .i64 aD), (7, 13, .int .i64 (wrap64 (Int.tdiv aD 59))), (8, 14, .int .i64 (wrap64 ((wrap64 (Int.tdiv aD 59)) * 5))), (9, 15, .int .i64 (wrap64 ((rd ao az) + (wrap64 ((wrap64 (Int.tdiv aD 59)) * 5))))), (10, 16, .agg #[.int .i64 (wrap64 ((rd ao az) + (wrap64 ((wrap64 (Int.tdiv aD 59)) * 5)))), .int .i64 0, .int .i64 0]), (11, 5, aY)] ∧ (w'.heap[bc]? = some (.cells #[.slice bp aW.length bs, .int .i64 a1_1, .slice bq bh.length bu] 25 (0, 0))) ∧ (w'.heap[a6]? = some (.cells #[.int .i64 0, .int .i64 0, .int .i64 0] 30 (0, 0))) ∧ (b 2 = false → IsS126 w0 w' g ar bo) ∧ (KeepBut w w' g none) ∧ (Below w0.heap.size w0 w') ∧ (b 0 = true → Kd.R (Kd.int .i64) 3 w' w.heap.size (fun _ => True) aR ao) ∧ (b 0 = true → ∃ c_, (aR : Value) = .slice (some am) ao.length c_) ∧ (b 2 = true → b 6 = false → IsS126 w0 w' g ar bE) ∧ (b 6 = true → IsS126 w0 w' g ar bk) ∧ (b 11 = true → b 12 = false → w'.heap[ak]? = some (.cells #[.int .i64 0, .int .i64 0, .int .i64 0] 30 (0, 0))) ∧ (b 11 = true → w.heap.size ≤ ak) ∧ (b 11 = true → w0.heap.size ≤ ak) ∧ (b 11 = true → g ≠ ak) ∧ (b 11 = true → ak ≠ g) ∧ (b 11 = true → bc ≠ ak) ∧ (b 11 = true → ak ≠ bc) ∧ (b 11 = true → a6 ≠ ak) ∧ (b 11 = true → ak ≠ a6) ∧ (b 12 = true → w'.heap[ak]? = some (.cells #[.int .i64 (wrap64 ((rd ao az) + (wrap64 ((wrap64 (Int.tdiv aD 59)) * 5)))), .int .i64 0, .int .i64 0] 30 (0, 0))) ∧ (b 3 = true → (bm : Value) = .pointer (some (am.add (az).toNat))) ∧ (b 11 = true → (aY : Value) = .pointer (some ⟨ak, 0, none⟩))) HT_.out HW_.out (by kernel_rfl) (by kernel_rfl) ?_ ?_ ?_
   ·
    exact ⟨.bool false, ⟨0, 0, none⟩, 0, .bool false, .bool false, by simp only [putSel, Bool.false_eq_true, if_false], ac.out, ab.out, fun _ => HI0.out, HK.out, HB.out, nf_, nf_, nf_, nf_, nf_, nf_, nf_, nf_, nf_, nf_, nf_, nf_, nf_, nf_, nf_, nf_⟩
   ·
    skip
    clear ac ab HB HI0 HK
    refine steps_cons ?_ ?_
    ·
     rintro b a w' ⟨aR, am, ak, bm, aY, ha, ap, aq, aZ, aP, aQ, au, ae, aw, al, aA, ax, ay, an, aj, af, ag, ah, ai, av, aN, aJ⟩ hb_ hon hoff
     refine ⟨_, rfl, fun K hK => ?_⟩
     replace ha := Aside0.mk ha
     have ac := Aside0.mk ap
     have ab := Aside0.mk aq
     have HK := Aside0.mk aP
     have HB := Aside0.mk aQ
     refine Kd.R_lit_step (Kd.int .i64) _ 3 ?hg (N := 6) ?hd (xs := ([0, 1, 2, 2, 2, 2, 3, 4] : List Int)) (inner := [.int .i64 0, .int .i64 1, .int .i64 2, .int .i64 2, .int .i64 2, .int .i64 2, .int .i64 3, .int .i64 4]) (ok := fun _ => True) (okp := fun _ => True) ?hr ?hp (fun _ hk => hk) trivial (Below.refl _ _) (Nat.le_refl _) (by simp) ?_; (case hd => rfl); (case hg => rfl); (case hr => first | (go_simp; done) | (go_simp; rfl)); (case hp => exact (Reps.one (show Kd.M (Kd.int .i64) _ _ _ 0 [.int .i64 0] from rfl) (Reps.one (show Kd.M (Kd.int .i64) _ _ _ 1 [.int .i64 1] from rfl) (Reps.one (show Kd.M (Kd.int .i64) _ _ _ 2 [.int .i64 2] from rfl) (Reps.one (show Kd.M (Kd.int .i64) _ _ _ 2 [.int .i64 2] from rfl) (Reps.one (show Kd.M (Kd.int .i64) _ _ _ 2 [.int .i64 2] from rfl) (Reps.one (show Kd.M (Kd.int .i64) _ _ _ 2 [.int .i64 2] from rfl) (Reps.one (show Kd.M (Kd.int .i64) _ _ _ 3 [.int .i64 3] from rfl) (Reps.one (show Kd.M (Kd.int .i64) _ _ _ 4 [.int .i64 4] from rfl) (Reps.none _ _))))))))))
     intro aR bX ho12 hb hg_ hnew_
     clear hg_ hnew_
     (first | rw [← bR.out] at ho12 | (simp only [Int.reduceToNat] at ho12; rw [← bR.out] at ho12))
     have n0_ := Aside0.mk (Kd.R_lower ho12 (keep_size (w := w) (g := g) (row := none) (tc_ HK.out)))
     have n2_ := Aside0.mk (blk_below (g := bc) (o := .cells #[.slice bp aW.length bs, .int .i64 a1_1, .slice bq bh.length bu] 25 (0, 0)) (tk_ ac.out) hb)
     have n3_ := Aside0.mk (blk_below (g := a6) (o := .cells #[.int .i64 0, .int .i64 0, .int .i64 0] 30 (0, 0)) (tk_ ab.out) hb)
     have n4_ := Aside0.mk (KeepBut.trans (tc_ HK.out) (KeepBut.of_below hb g none) (.inl rfl))
     have n5_ := Aside0.mk (below_step (tb_ HB.out) hb)
     have bS := fun (h0_ : b 2 = false) => (show IsS126 w0 bX g ar bo from by first | exact (IsS126.below (by repeat (first | (with_reducible first | exact (aZ h0_) | apply IsS126.alloc | apply IsS126.drewN | apply IsS126.drew | apply IsS126.set_1 | refine IsS126.far ?_ a8.out _ | refine IsS126.far ?_ a5.out _) | exact (aZ h0_))) hb))
     have bv := fun (h0_ : b 2 = true) (h1_ : b 6 = false) => (show IsS126 w0 bX g ar bE from by first | exact (IsS126.below (by repeat (first | (with_reducible first | exact (aw h0_ h1_) | apply IsS126.alloc | apply IsS126.drewN | apply IsS126.drew | apply IsS126.set_1 | refine IsS126.far ?_ a8.out _ | refine IsS126.far ?_ a5.out _) | exact (aw h0_ h1_))) hb))
     have bw := fun (h0_ : b 6 = true) => (show IsS126 w0 bX g ar bk from by first | exact (IsS126.below (by repeat (first | (with_reducible first | exact (al h0_) | apply IsS126.alloc | apply IsS126.drewN | apply IsS126.drew | apply IsS126.set_1 | refine IsS126.far ?_ a8.out _ | refine IsS126.far ?_ a5.out _) | exact (al h0_))) hb))
     have bi := fun (h0_ : b 11 = true) (h1_ : b 12 = false) => (bb_ ⟨(aA h0_ h1_)⟩ hb).out
     clear ac
     clear ab
     clear HK
     clear HB
     have aU := n0_
     have ac := n2_
     have ab := n3_
     have HK := n4_
     have HB := n5_
     clear n0_ n2_ n3_ n4_ n5_
     clear hb ho12
     obtain ⟨fm, dX, dY⟩ := Kd.R_slice aU.out
     subst dY
     obtain ⟨cG, dZ, _⟩ := Kd.at_int (Kd.R_reads' aU.out).2.2 0 (by decide) (by rw [bR.out]; simp)
     cases dZ
     refine hK.out _ _ ⟨.slice (some cG) ao.length dX, cG, ak, bm, aY, (pk_ ha 0 hb_), (tk_ ac.out), (tk_ ab.out), bS, (tc_ HK.out), (tb_ HB.out), fun _ => (rR_ aU.out), fun _ => ⟨_, rfl⟩, bv, bw, bi, ax, ay, an, aj, af, ag, ah, ai, no_ hoff 12, no_ hoff 3, aJ⟩
    refine steps_cons ?_ ?_
    ·
     rintro b a w' ⟨aR, am, ak, bm, aY, ha, ap, aq, aZ, aP, aQ, au, ae, aw, al, aA, ax, ay, an, aj, af, ag, ah, ai, av, aN, aJ⟩ hb_ hon hoff
     refine ⟨_, rfl, fun K hK => ?_⟩
     have e7 : a.tmps[7]? = some (.pointer (some ⟨g, 0, none⟩)) := by rw [ha]; exact (putSel_off rfl).trans rfl
     replace ha := Aside0.mk ha
     have ac := Aside0.mk ap
     have ab := Aside0.mk aq
     have HI0 := Aside0.mk (aZ hb_)
     have HK := Aside0.mk aP
     have HB := Aside0.mk aQ
     refine goes_ Tryd.func101 (by kernel_rfl) rfl #[.pointer (some ⟨g, 0, none⟩), .int .i64 8] (by rfl) rfl rfl (by first | (simp only [List.map_toArray, List.map_cons, List.map_nil, Act.eval, Array.getD_eq_getD_getElem?, Option.getD_some, e7]; done) | (simp only [List.map_toArray, List.map_cons, List.map_nil, Act.eval, Array.getD_eq_getD_getElem?, Option.getD_some, e7]; rfl)) ?_
     with_reducible refine (spec_l20Rd_pick.calls k g ar bo 8 az bE w0 _ ?s1 ?s2 A3.out).mono ?_
     (case s1 => exact ti126_ HI0.out)
     (case s2 => exact tu126_ HB.out)
     rintro e bX ⟨rfl, hi, hb, hk⟩
     refine ⟨_, rfl, ?_⟩
     have n0_ := Aside0.mk (KeepBut.blk hk (g' := bc) (o := .cells #[.slice bp aW.length bs, .int .i64 a1_1, .slice bq bh.length bu] 25 (0, 0)) (tk_ ac.out) aL.out (by simp))
     have n1_ := Aside0.mk (KeepBut.blk hk (g' := a6) (o := .cells #[.int .i64 0, .int .i64 0, .int .i64 0] 30 (0, 0)) (tk_ ab.out) aK.out (by simp))
     have n2_ := Aside0.mk (KeepBut.trans (tc_ HK.out) hk (.inl rfl))
     have n3_ := Aside0.mk (hb)
     have n4_ := Aside0.mk (hi)
     have bj := fun (h0_ : b 0 = true) => (show Kd.R (Kd.int .i64) 3 bX w.heap.size (fun _ => True) aR ao from by first | exact (Kd.R_mono (Kd.R_keep (IsS126.apart (ti126_ HI0.out : IsS126 w0 _ g ar bo) (by refine qR_ ?_; exact (au h0_)) (by decide)) hk (fun _ h => h.2)) (fun _ h => h.1)) | exact Kd.R_mono (Kd.R_mono (Kd.R_keep (IsS126.apart (ti126_ HI0.out : IsS126 w0 _ g ar bo) (by refine qR_ ?_; exact (au h0_)) (by decide)) hk (fun _ h => h.2)) (fun _ h => h.1)) (fun _ h_ => by first | trivial | exact h_ | exact h_.1))
     have bi := fun (h0_ : b 11 = true) (h1_ : b 12 = false) => (show bX.heap[ak]? = some (.cells #[.int .i64 0, .int .i64 0, .int .i64 0] 30 (0, 0)) from by first | exact (KeepBut.blk hk (g' := ak) (o := .cells #[.int .i64 0, .int .i64 0, .int .i64 0] 30 (0, 0)) (by (with_reducible repeat (first | refine blk_drewN ?_ _ | refine blk_drew ?_ | refine blk_alloc ?_ _)); exact (aA h0_ h1_)) (aj h0_) (by simp)))
     clear ac
     clear ab
     clear HK
     clear HB
     clear HI0
     have ac := n0_
     have ab := n1_
     have HK := n2_
     have HB := n3_
     have HI0 := n4_
     clear n0_ n1_ n2_ n3_ n4_
     (try clear hb)
     (try clear hb2)
     (try clear hk)
     (try clear hi)
     refine hK.out _ _ ⟨aR, am, ak, bm, aY, (pk_ ha 1 hb_), (tk_ ac.out), (tk_ ab.out), fun h0_ => absurd ((up_self b 2).symm.trans h0_) (by decide), (tc_ HK.out), (tu126_ HB.out), bj, ae, fun _ _ => (ti126_ HI0.out), no_ hoff 6, bi, ax, ay, an, aj, af, ag, ah, ai, no_ hoff 12, no_ hoff 3, aJ⟩
    refine steps_cons ?_ ?_
    ·
     rintro b a w' ⟨aR, am, ak, bm, aY, ha, ap, aq, aZ, aP, aQ, au, ae, aw, al, aA, ax, ay, an, aj, af, ag, ah, ai, av, aN, aJ⟩ hb_ hon hoff
     refine ⟨_, rfl, fun K hK => ?_⟩
     have e6 : a.tmps[6]? = some (aR) := by rw [ha]; exact putSel_on (e := (0, 6, aR)) 0 rfl rfl (on_ hon 0) rfl
     have e8 : a.tmps[8]? = some (.int .i64 az) := by rw [ha]; exact putSel_on (e := (2, 8, .int .i64 az)) 1 rfl rfl (on_ hon 2) rfl
     replace ha := Aside0.mk ha
     have ac := Aside0.mk ap
     have ab := Aside0.mk aq
     have HK := Aside0.mk aP
     have HB := Aside0.mk aQ
     have aU := Aside0.mk (au (on_ hon 0))
     have aM := Aside0.mk (ae (on_ hon 0))
     obtain ⟨c_, hv_⟩ := aM.out
     rw [hv_] at e6
     refine value_ (w1 := w') (v := .pointer (some (am.add (az).toNat))) (by rfl) rfl ?_ ?_
     ·
      go_simp
      (try simp only [i64_w])
      try rfl
     refine hK.out _ _ ⟨aR, am, ak, (.pointer (some (am.add (az).toNat))), aY, (pk_ ha 2 hb_), ap, aq, nt_ hon 2, aP, aQ, au, ae, aw, al, aA, ax, ay, an, aj, af, ag, ah, ai, no_ hoff 12, fun _ => rfl, aJ⟩
    refine steps_cons ?_ ?_
    ·
     rintro b a w' ⟨aR, am, ak, bm, aY, ha, ap, aq, aZ, aP, aQ, au, ae, aw, al, aA, ax, ay, an, aj, af, ag, ah, ai, av, aN, aJ⟩ hb_ hon hoff
     refine ⟨_, rfl, fun K hK => ?_⟩
     have e9 : a.tmps[9]? = some (bm) := by rw [ha]; exact putSel_on (e := (3, 9, bm)) 2 rfl rfl (on_ hon 3) rfl
     rw [aN (on_ hon 3)] at e9
     replace ha := Aside0.mk ha
     have ac := Aside0.mk ap
     have ab := Aside0.mk aq
     have HK := Aside0.mk aP
     have HB := Aside0.mk aQ
     have aU := Aside0.mk (au (on_ hon 0))
     have aM := Aside0.mk (ae (on_ hon 0))
     obtain ⟨c_, hv_⟩ := aM.out
     have hF_ := aU.out
     rw [hv_] at hF_
     obtain ⟨ad_, ea_, hx_⟩ := Kd.at_int (Kd.R_reads' hF_).2.2 az (of_eq_true cP) (of_eq_true cQ)
     cases ea_
     refine value_ (w1 := w') (v := .int .i64 (rd ao az)) (by rfl) rfl ?_ ?_
     ·
      go_simp
      (try simp only [i64_w])
      try rfl
     refine hK.out _ _ ⟨aR, am, ak, bm, aY, (pk_ ha 3 hb_), ap, aq, nt_ hon 2, aP, aQ, au, ae, aw, al, aA, ax, ay, an, aj, af, ag, ah, ai, no_ hoff 12, aN, aJ⟩
    refine steps_cons ?_ ?_
    ·
     rintro b a w' ⟨aR, am, ak, bm, aY, ha, ap, aq, aZ, aP, aQ, au, ae, aw, al, aA, ax, ay, an, aj, af, ag, ah, ai, av, aN, aJ⟩ hb_ hon hoff
     refine ⟨_, rfl, fun K hK => ?_⟩
     have e11 : a.tmps[11]? = some (.pointer (some ⟨g, 0, none⟩)) := by rw [ha]; exact (putSel_off rfl).trans rfl
     replace ha := Aside0.mk ha
     have ac := Aside0.mk ap
     have ab := Aside0.mk aq
     have HK := Aside0.mk aP
     have HB := Aside0.mk aQ
     have HI0 := Aside0.mk (aw (on_ hon 2) hb_)
     refine goes_ Tryd.func101 (by kernel_rfl) rfl #[.pointer (some ⟨g, 0, none⟩), .int .i64 60] (by rfl) rfl rfl (by first | (simp only [List.map_toArray, List.map_cons, List.map_nil, Act.eval, Array.getD_eq_getD_getElem?, Option.getD_some, e11]; done) | (simp only [List.map_toArray, List.map_cons, List.map_nil, Act.eval, Array.getD_eq_getD_getElem?, Option.getD_some, e11]; rfl)) ?_
     with_reducible refine (spec_l20Rd_pick.calls k g ar bE 60 aD bk w0 _ ?s1 ?s2 A6.out).mono ?_
     (case s1 => exact ti126_ HI0.out)
     (case s2 => exact tu126_ HB.out)
     rintro e ee ⟨rfl, hi, hb, hk⟩
     refine ⟨_, rfl, ?_⟩
     have n0_ := Aside0.mk (KeepBut.blk hk (g' := bc) (o := .cells #[.slice bp aW.length bs, .int .i64 a1_1, .slice bq bh.length bu] 25 (0, 0)) (tk_ ac.out) aL.out (by simp))
     have n1_ := Aside0.mk (KeepBut.blk hk (g' := a6) (o := .cells #[.int .i64 0, .int .i64 0, .int .i64 0] 30 (0, 0)) (tk_ ab.out) aK.out (by simp))
     have n2_ := Aside0.mk (KeepBut.trans (tc_ HK.out) hk (.inl rfl))
     have n3_ := Aside0.mk (hb)
     have n4_ := Aside0.mk (hi)
     have bj := fun (h0_ : b 0 = true) => (show Kd.R (Kd.int .i64) 3 ee w.heap.size (fun _ => True) aR ao from by first | exact (Kd.R_mono (Kd.R_keep (IsS126.apart (ti126_ HI0.out : IsS126 w0 _ g ar bE) (by refine qR_ ?_; exact (au h0_)) (by decide)) hk (fun _ h => h.2)) (fun _ h => h.1)) | exact Kd.R_mono (Kd.R_mono (Kd.R_keep (IsS126.apart (ti126_ HI0.out : IsS126 w0 _ g ar bE) (by refine qR_ ?_; exact (au h0_)) (by decide)) hk (fun _ h => h.2)) (fun _ h => h.1)) (fun _ h_ => by first | trivial | exact h_ | exact h_.1))
     have bi := fun (h0_ : b 11 = true) (h1_ : b 12 = false) => (show ee.heap[ak]? = some (.cells #[.int .i64 0, .int .i64 0, .int .i64 0] 30 (0, 0)) from by first | exact (KeepBut.blk hk (g' := ak) (o := .cells #[.int .i64 0, .int .i64 0, .int .i64 0] 30 (0, 0)) (by (with_reducible repeat (first | refine blk_drewN ?_ _ | refine blk_drew ?_ | refine blk_alloc ?_ _)); exact (aA h0_ h1_)) (aj h0_) (by simp)))
     clear ac
     clear ab
     clear HK
     clear HB
     clear HI0
     have ac := n0_
     have ab := n1_
     have HK := n2_
     have HB := n3_
     have HI0 := n4_
     clear n0_ n1_ n2_ n3_ n4_
     (try clear hb)
     (try clear hb2)
     (try clear hk)
     (try clear hi)
     refine hK.out _ _ ⟨aR, am, ak, bm, aY, (pk_ ha 4 hb_), (tk_ ac.out), (tk_ ab.out), nt_ hon 2, (tc_ HK.out), (tu126_ HB.out), bj, ae, fun _ h1_ => absurd ((up_self b 6).symm.trans h1_) (by decide), fun _ => (ti126_ HI0.out), bi, ax, ay, an, aj, af, ag, ah, ai, no_ hoff 12, aN, aJ⟩
    refine steps_cons ?_ ?_
    ·
     rintro b a w' ⟨aR, am, ak, bm, aY, ha, ap, aq, aZ, aP, aQ, au, ae, aw, al, aA, ax, ay, an, aj, af, ag, ah, ai, av, aN, aJ⟩ hb_ hon hoff
     refine ⟨_, rfl, fun K hK => ?_⟩
     have e12 : a.tmps[12]? = some (.int .i64 aD) := by rw [ha]; exact putSel_on (e := (6, 12, .int .i64 aD)) 4 rfl rfl (on_ hon 6) rfl
     replace ha := Aside0.mk ha
     have ac := Aside0.mk ap
     have ab := Aside0.mk aq
     have HK := Aside0.mk aP
     have HB := Aside0.mk aQ
     have HI0 := Aside0.mk (al (on_ hon 6))
     refine value_ (w1 := w') (v := .int .i64 (wrap64 (Int.tdiv aD 59))) (by rfl) rfl ?_ ?_
     ·
      go_simp
      (try simp only [i64_w])
      try rfl
     refine hK.out _ _ ⟨aR, am, ak, bm, aY, (pk_ ha 5 hb_), ap, aq, nt_ hon 2, aP, aQ, au, ae, fun _ => nt_ hon 6, al, aA, ax, ay, an, aj, af, ag, ah, ai, no_ hoff 12, aN, aJ⟩
    refine steps_cons ?_ ?_
    ·
     rintro b a w' ⟨aR, am, ak, bm, aY, ha, ap, aq, aZ, aP, aQ, au, ae, aw, al, aA, ax, ay, an, aj, af, ag, ah, ai, av, aN, aJ⟩ hb_ hon hoff
     refine ⟨_, rfl, fun K hK => ?_⟩
     have e13 : a.tmps[13]? = some (.int .i64 (wrap64 (Int.tdiv aD 59))) := by rw [ha]; exact putSel_on (e := (7, 13, .int .i64 (wrap64 (Int.tdiv aD 59)))) 5 rfl rfl (on_ hon 7) rfl
     replace ha := Aside0.mk ha
     have ac := Aside0.mk ap
     have ab := Aside0.mk aq
     have HK := Aside0.mk aP
     have HB := Aside0.mk aQ
     have HI0 := Aside0.mk (al (on_ hon 6))
     refine value_ (w1 := w') (v := .int .i64 (wrap64 ((wrap64 (Int.tdiv aD 59)) * 5))) (by rfl) rfl ?_ ?_
     ·
      go_simp
      (try simp only [i64_w])
      try rfl
     refine hK.out _ _ ⟨aR, am, ak, bm, aY, (pk_ ha 6 hb_), ap, aq, nt_ hon 2, aP, aQ, au, ae, fun _ => nt_ hon 6, al, aA, ax, ay, an, aj, af, ag, ah, ai, no_ hoff 12, aN, aJ⟩
    refine steps_cons ?_ ?_
    ·
     rintro b a w' ⟨aR, am, ak, bm, aY, ha, ap, aq, aZ, aP, aQ, au, ae, aw, al, aA, ax, ay, an, aj, af, ag, ah, ai, av, aN, aJ⟩ hb_ hon hoff
     refine ⟨_, rfl, fun K hK => ?_⟩
     have e10 : a.tmps[10]? = some (.int .i64 (rd ao az)) := by rw [ha]; exact putSel_on (e := (4, 10, .int .i64 (rd ao az))) 3 rfl rfl (on_ hon 4) rfl
     have e14 : a.tmps[14]? = some (.int .i64 (wrap64 ((wrap64 (Int.tdiv aD 59)) * 5))) := by rw [ha]; exact putSel_on (e := (8, 14, .int .i64 (wrap64 ((wrap64 (Int.tdiv aD 59)) * 5)))) 6 rfl rfl (on_ hon 8) rfl
     replace ha := Aside0.mk ha
     have ac := Aside0.mk ap
     have ab := Aside0.mk aq
     have HK := Aside0.mk aP
     have HB := Aside0.mk aQ
     have aU := Aside0.mk (au (on_ hon 0))
     have aM := Aside0.mk (ae (on_ hon 0))
     have HI0 := Aside0.mk (al (on_ hon 6))
     refine value_ (w1 := w') (v := .int .i64 (wrap64 ((rd ao az) + (wrap64 ((wrap64 (Int.tdiv aD 59)) * 5))))) (by rfl) rfl ?_ ?_
     ·
      go_simp
      (try simp only [i64_w])
      try rfl
     refine hK.out _ _ ⟨aR, am, ak, bm, aY, (pk_ ha 7 hb_), ap, aq, nt_ hon 2, aP, aQ, au, ae, fun _ => nt_ hon 6, al, aA, ax, ay, an, aj, af, ag, ah, ai, no_ hoff 12, aN, aJ⟩
    refine steps_cons ?_ ?_
    ·
     rintro b a w' ⟨aR, am, ak, bm, aY, ha, ap, aq, aZ, aP, aQ, au, ae, aw, al, aA, ax, ay, an, aj, af, ag, ah, ai, av, aN, aJ⟩ hb_ hon hoff
     refine ⟨_, rfl, fun K hK => ?_⟩
     have e15 : a.tmps[15]? = some (.int .i64 (wrap64 ((rd ao az) + (wrap64 ((wrap64 (Int.tdiv aD 59)) * 5))))) := by rw [ha]; exact putSel_on (e := (9, 15, .int .i64 (wrap64 ((rd ao az) + (wrap64 ((wrap64 (Int.tdiv aD 59)) * 5)))))) 7 rfl rfl (on_ hon 9) rfl
     replace ha := Aside0.mk ha
     have ac := Aside0.mk ap
     have ab := Aside0.mk aq
     have HK := Aside0.mk aP
     have HB := Aside0.mk aQ
     have aU := Aside0.mk (au (on_ hon 0))
     have aM := Aside0.mk (ae (on_ hon 0))
     have HI0 := Aside0.mk (al (on_ hon 6))
     refine value_ (w1 := w') (v := .agg #[.int .i64 (wrap64 ((rd ao az) + (wrap64 ((wrap64 (Int.tdiv aD 59)) * 5)))), .int .i64 0, .int .i64 0]) (by rfl) rfl ?_ ?_
     ·
      go_simp
      (try simp only [i64_w])
      try rfl
     refine hK.out _ _ ⟨aR, am, ak, bm, aY, (pk_ ha 8 hb_), ap, aq, nt_ hon 2, aP, aQ, au, ae, fun _ => nt_ hon 6, al, aA, ax, ay, an, aj, af, ag, ah, ai, no_ hoff 12, aN, aJ⟩
    refine steps_cons ?_ ?_
    ·
     rintro b a w' ⟨aR, am, ak, bm, aY, ha, ap, aq, aZ, aP, aQ, au, ae, aw, al, aA, ax, ay, an, aj, af, ag, ah, ai, av, aN, aJ⟩ hb_ hon hoff
     refine ⟨_, rfl, fun K hK => ?_⟩
     replace ha := Aside0.mk ha
     have ac := Aside0.mk ap
     have ab := Aside0.mk aq
     have HK := Aside0.mk aP
     have HB := Aside0.mk aQ
     refine box_step ?hg (N := 5) ?hd (cs := #[.int .i64 0, .int .i64 0, .int .i64 0]) (t := 30) ?hr ?_; (case hd => rfl); (case hg => rfl); (case hr => first | (go_simp; done) | (go_simp; rfl))
     intro ak hg bX hbox hb
     have n1_ := Aside0.mk (blk_below (g := bc) (o := .cells #[.slice bp aW.length bs, .int .i64 a1_1, .slice bq bh.length bu] 25 (0, 0)) (tk_ ac.out) hb)
     have n2_ := Aside0.mk (blk_below (g := a6) (o := .cells #[.int .i64 0, .int .i64 0, .int .i64 0] 30 (0, 0)) (tk_ ab.out) hb)
     have n3_ := Aside0.mk (KeepBut.trans (tc_ HK.out) (KeepBut.of_below hb g none) (.inl rfl))
     have n4_ := Aside0.mk (below_step (tb_ HB.out) hb)
     have n5_ := Aside0.mk (hbox)
     have n6_ := Aside0.mk ((by rw [hg]; exact (keep_size (w := w) (g := g) (row := none) (tc_ HK.out)) : w.heap.size ≤ ak))
     have n7_ := Aside0.mk ((Nat.le_trans HW0.out (by rw [hg]; exact (keep_size (w := w) (g := g) (row := none) (tc_ HK.out)) : w.heap.size ≤ ak) : w0.heap.size ≤ ak))
     have n8_ := Aside0.mk ((by rw [hg]; exact Nat.ne_of_lt (blk_lt (g := bc) (o := .cells #[.slice bp aW.length bs, .int .i64 a1_1, .slice bq bh.length bu] 25 (0, 0)) (tk_ ac.out)) : bc ≠ ak))
     have n9_ := Aside0.mk ((by rw [hg]; exact Nat.ne_of_gt (blk_lt (g := bc) (o := .cells #[.slice bp aW.length bs, .int .i64 a1_1, .slice bq bh.length bu] 25 (0, 0)) (tk_ ac.out)) : ak ≠ bc))
     have n10_ := Aside0.mk ((by rw [hg]; exact Nat.ne_of_lt (blk_lt (g := a6) (o := .cells #[.int .i64 0, .int .i64 0, .int .i64 0] 30 (0, 0)) (tk_ ab.out)) : a6 ≠ ak))
     have n11_ := Aside0.mk ((by rw [hg]; exact Nat.ne_of_gt (blk_lt (g := a6) (o := .cells #[.int .i64 0, .int .i64 0, .int .i64 0] 30 (0, 0)) (tk_ ab.out)) : ak ≠ a6))
     have n12_ := Aside0.mk ((Nat.ne_of_lt (Nat.lt_of_lt_of_le HLg.out (by rw [hg]; exact (keep_size (w := w) (g := g) (row := none) (tc_ HK.out)))) : g ≠ ak))
     have n13_ := Aside0.mk ((Nat.ne_of_gt (Nat.lt_of_lt_of_le HLg.out (by rw [hg]; exact (keep_size (w := w) (g := g) (row := none) (tc_ HK.out)))) : ak ≠ g))
     have bS := fun (h0_ : b 2 = false) => (show IsS126 w0 bX g ar bo from by first | exact (IsS126.below (by repeat (first | (with_reducible first | exact (aZ h0_) | apply IsS126.alloc | apply IsS126.drewN | apply IsS126.drew | apply IsS126.set_1 | refine IsS126.far ?_ a8.out _ | refine IsS126.far ?_ a5.out _) | exact (aZ h0_))) hb))
     have bj := fun (h0_ : b 0 = true) => (rb_ ⟨(au h0_)⟩ hb).out
     have bv := fun (h0_ : b 2 = true) (h1_ : b 6 = false) => (show IsS126 w0 bX g ar bE from by first | exact (IsS126.below (by repeat (first | (with_reducible first | exact (aw h0_ h1_) | apply IsS126.alloc | apply IsS126.drewN | apply IsS126.drew | apply IsS126.set_1 | refine IsS126.far ?_ a8.out _ | refine IsS126.far ?_ a5.out _) | exact (aw h0_ h1_))) hb))
     have bw := fun (h0_ : b 6 = true) => (show IsS126 w0 bX g ar bk from by first | exact (IsS126.below (by repeat (first | (with_reducible first | exact (al h0_) | apply IsS126.alloc | apply IsS126.drewN | apply IsS126.drew | apply IsS126.set_1 | refine IsS126.far ?_ a8.out _ | refine IsS126.far ?_ a5.out _) | exact (al h0_))) hb))
     clear ac
     clear ab
     clear HK
     clear HB
     have ac := n1_
     have ab := n2_
     have HK := n3_
     have HB := n4_
     have aa := n5_
     have bJ := n6_
     have bK := n7_
     have aE := n8_
     have aF := n9_
     have aG := n10_
     have aH := n11_
     have aV := n12_
     have aB := n13_
     clear n1_ n2_ n3_ n4_ n5_ n6_ n7_ n8_ n9_ n10_ n11_ n12_ n13_
     clear hb hbox hg
     refine hK.out _ _ ⟨aR, am, ak, bm, (.pointer (some ⟨ak, 0, none⟩)), (pk_ ha 9 hb_), (tk_ ac.out), (tk_ ab.out), bS, (tc_ HK.out), (tb_ HB.out), bj, ae, bv, bw, fun _ _ => (tk_ aa.out), fun _ => bJ.out, fun _ => bK.out, fun _ => aV.out, fun _ => aB.out, fun _ => aE.out, fun _ => aF.out, fun _ => aG.out, fun _ => aH.out, no_ hoff 12, aN, fun _ => rfl⟩
    refine steps_cons ?_ ?_
    ·
     rintro b a w' ⟨aR, am, ak, bm, aY, ha, ap, aq, aZ, aP, aQ, au, ae, aw, al, aA, ax, ay, an, aj, af, ag, ah, ai, av, aN, aJ⟩ hb_ hon hoff
     refine ⟨_, rfl, fun K hK => ?_⟩
     have e5 : a.tmps[5]? = some (aY) := by rw [ha]; exact putSel_on (e := (11, 5, aY)) 9 rfl rfl (on_ hon 11) rfl
     rw [aJ (on_ hon 11)] at e5
     have e16 : a.tmps[16]? = some (.agg #[.int .i64 (wrap64 ((rd ao az) + (wrap64 ((wrap64 (Int.tdiv aD 59)) * 5)))), .int .i64 0, .int .i64 0]) := by rw [ha]; exact putSel_on (e := (10, 16, .agg #[.int .i64 (wrap64 ((rd ao az) + (wrap64 ((wrap64 (Int.tdiv aD 59)) * 5)))), .int .i64 0, .int .i64 0])) 8 rfl rfl (on_ hon 10) rfl
     replace ha := Aside0.mk ha
     have ac := Aside0.mk ap
     have ab := Aside0.mk aq
     have HK := Aside0.mk aP
     have HB := Aside0.mk aQ
     have aU := Aside0.mk (au (on_ hon 0))
     have aM := Aside0.mk (ae (on_ hon 0))
     have HI0 := Aside0.mk (al (on_ hon 6))
     have aa := Aside0.mk (aA (on_ hon 11) hb_)
     have bJ := Aside0.mk (ax (on_ hon 11))
     have bK := Aside0.mk (ay (on_ hon 11))
     have aV := Aside0.mk (an (on_ hon 11))
     have aB := Aside0.mk (aj (on_ hon 11))
     have aE := Aside0.mk (af (on_ hon 11))
     have aF := Aside0.mk (ag (on_ hon 11))
     have aG := Aside0.mk (ah (on_ hon 11))
     have aH := Aside0.mk (ai (on_ hon 11))
     obtain ⟨d0, d1⟩ := aM.out
     clear aM
     subst d1
     have hs19 : w'.cell? ⟨ak, 0, none⟩ = some (.int .i64 0) := (blk_cell aa.out 0).trans rfl
     have hfs19 := blk_frozen aa.out 0
     have cZ := aE.out
     have c0 := aG.out
     have c7 := aF.out
     have c8 := aH.out
     have hs20 : w'.cell? ⟨ak, 1, none⟩ = some (.int .i64 0) := (blk_cell aa.out 1).trans rfl
     have hfs20 := blk_frozen aa.out 1
     have c9 := aE.out
     have da := aG.out
     have db := aF.out
     have dc := aH.out
     have hs21 : w'.cell? ⟨ak, 2, none⟩ = some (.int .i64 0) := (blk_cell aa.out 2).trans rfl
     have hfs21 := blk_frozen aa.out 2
     have dd := aE.out
     have de := aG.out
     have df := aF.out
     have dg := aH.out
     refine sk_ rfl ?_
     refine hK.out _ _ ⟨.slice (some am) ao.length d0, am, ak, bm, aY, (by rw [ha.out]; exact putSel_none (v := undef) rfl), (tk_ ac.out), (tk_ ab.out), nt_ hon 2, (tc_ HK.out), (tu126_ HB.out), fun _ => (by refine qR_ ?_; exact Kd.R_mono (Kd.R_far (p := ⟨ak, 2, none⟩) (Kd.R_far (p := ⟨ak, 1, none⟩) (Kd.R_far (p := ⟨ak, 0, none⟩) (Kd.R_types aU.out aa.out (by decide)) (fun _ hk => hk.2) (.int .i64 (wrap64 ((rd ao az) + (wrap64 ((wrap64 (Int.tdiv aD 59)) * 5)))))) (fun _ hk => hk.2) (.int .i64 0)) (fun _ hk => hk.2) (.int .i64 0)) (fun _ hk => trivial)), fun _ => ⟨_, rfl⟩, fun _ => nt_ hon 6, fun _ => (ti126_ HI0.out), fun _ h1_ => absurd ((up_self b 12).symm.trans h1_) (by decide), fun _ => bJ.out, fun _ => bK.out, fun _ => aV.out, fun _ => aB.out, fun _ => aE.out, fun _ => aF.out, fun _ => aG.out, fun _ => aH.out, fun _ => (ps_ aa.out), aN, aJ⟩
    exact steps_nil
   rintro b a ft hall ⟨aR, am, ak, bm, aY, ha, ap, aq, aZ, aP, aQ, au, ae, aw, al, aA, ax, ay, an, aj, af, ag, ah, ai, av, aN, aJ⟩
   clear ac ab HB HI0 HK
   have hb0_ := hall 0 (by kernel_rfl)
   have hb2_ := hall 2 (by kernel_rfl)
   have hb3_ := hall 3 (by kernel_rfl)
   have hb4_ := hall 4 (by kernel_rfl)
   have hb6_ := hall 6 (by kernel_rfl)
   have hb7_ := hall 7 (by kernel_rfl)
   have hb8_ := hall 8 (by kernel_rfl)
   have hb9_ := hall 9 (by kernel_rfl)
   have hb10_ := hall 10 (by kernel_rfl)
   have hb11_ := hall 11 (by kernel_rfl)
   have hb12_ := hall 12 (by kernel_rfl)
   subst ha
   obtain rfl := aN hb3_
   obtain rfl := aJ hb11_
   simp only [putSel, hb0_, hb2_, hb3_, hb4_, hb6_, hb7_, hb8_, hb9_, hb10_, hb11_, hb12_, if_true, Act.put, sa_, sb_, sc_]
   have ac := Aside0.mk ap
   clear ap
   have ab := Aside0.mk aq
   clear aq
   clear aZ
   have HK := Aside0.mk aP
   clear aP
   have HB := Aside0.mk aQ
   clear aQ
   have aU := Aside0.mk (au hb0_)
   clear au
   have aM := Aside0.mk (ae hb0_)
   clear ae
   clear aw
   have HI0 := Aside0.mk (al hb6_)
   clear al
   clear aA
   have bJ := Aside0.mk (ax hb11_)
   clear ax
   have bK := Aside0.mk (ay hb11_)
   clear ay
   have aV := Aside0.mk (an hb11_)
   clear an
   have aB := Aside0.mk (aj hb11_)
   clear aj
   have aE := Aside0.mk (af hb11_)
   clear af
   have aF := Aside0.mk (ag hb11_)
   clear ag
   have aG := Aside0.mk (ah hb11_)
   clear ah
   have aH := Aside0.mk (ai hb11_)
   clear ai
   have aa := Aside0.mk (av hb12_)
   clear av
   clear hall hb0_ hb2_ hb3_ hb4_ hb6_ hb7_ hb8_ hb9_ hb10_ hb11_ hb12_
   obtain ⟨fn, d2⟩ := aM.out
   clear aM
   subst d2
   have ef := aF.out
   have eg := aE.out
   have eh := aH.out
   have ei := aG.out
   have ej := aB.out
   have ek := aV.out
   have bZ := cz_ aa 0
   have b0 := cz_ aa 1
   have b1 := cz_ aa 2
   have b2 := blk_frozen aa.out 0
   have b3 := blk_frozen aa.out 1
   have b4 := blk_frozen aa.out 2
   go_upto_block 0 with (fail)
   go_cut [] (fun wc => ∃ (kq : Nat) (bg : Int) (aX : Int) (aO : Int), Aside0 (spec_l20Deed.j0 kq ar bg (wrap64 ((rd ao az) + (wrap64 ((wrap64 (Int.tdiv aD 59)) * 5)))) aX aO = some (r1, r2, r3, r4)) ∧ Aside0 (kq ≤ k) ∧ Aside0 (wc.heap[bc]? = some (.cells #[(.slice bp aW.length bs), .int .i64 a1_1, (.slice bq bh.length bu)] 25 (0, 0))) ∧ Aside0 (wc.heap[a6]? = some (.cells #[.int .i64 0, .int .i64 0, .int .i64 0] 30 (0, 0))) ∧ Aside0 (wc.heap[ak]? = some (.cells #[.int .i64 (wrap64 ((rd ao az) + (wrap64 ((wrap64 (Int.tdiv aD 59)) * 5)))), .int .i64 aX, .int .i64 aO] 30 (0, 0))) ∧ Aside0 (IsS126 w0 wc g ar bg) ∧ Aside0 (KeepBut w wc g none) ∧ Aside0 (Below w0.heap.size w0 wc))
   case first =>
    have H := HC7.out
    clear HC7
    by_cases c26 : (wrap64 ((rd ao az) + (wrap64 ((wrap64 (Int.tdiv aD 59)) * 5)))) = 0
    ·
     rw [if_pos c26] at H
     have bx : ((wrap64 ((rd ao az) + (wrap64 ((wrap64 (Int.tdiv aD 59)) * 5)))) == 0) = true := beq_iff_eq.mpr c26
     have cH : ((wrap64 ((rd ao az) + (wrap64 ((wrap64 (Int.tdiv aD 59)) * 5)))) != 0) = false := bne_eq_false_iff_eq.mpr c26
     clear c26
     (first | rw [bx] | (simp only [i64_w, i32_w]; rw [bx]) | skip)
     obtain ⟨bM, bC⟩ : ∃ j_ : Int, (mx (aW.length : Int) 1) = j_ := ⟨_, rfl⟩
     replace H : ((spec_l20Rd_pick.f k ar bk (bM)).bind fun bd => ((spec_l20Rd_pick.f k ar bd.2 7).bind fun be => (spec_l20Deed.j0 k ar be.2 (wrap64 ((rd ao az) + (wrap64 ((wrap64 (Int.tdiv aD 59)) * 5)))) bd.1 (wrap64 (be.1 - 3))))) = some (r1, r2, r3, r4) := by first | (rw [bC] at H; exact H) | (simp only [bC] at H ⊢; exact H)
     (try (have hji27l : 1 ≤ bM := by (rw [← bC]; unfold mx; (repeat' split) <;> omega)))
     (try (have hji27m : 0 ≤ bM := by omega))
     have hji27_ : (if (aW.length : Int) < 1 then 1 else (aW.length : Int)) = bM := bC
     obtain ⟨⟨bU, cN⟩, A28, H⟩ := bnd_ H
     try dsimp only at H
     obtain ⟨⟨cR, cS⟩, A29, H⟩ := bnd_ H
     try dsimp only at H
     have H' := Aside0.mk H
     clear H
     have el := a9.out
     have em := bb.out
     have en := aE.out
     have eo := aF.out
     have ep := aL.out
     have eq := a8.out
     have b5 := cz_ ac 0
     have b6 := cz_ ac 1
     have b7 := cz_ ac 2
     have b8 := blk_frozen ac.out 0
     have b9 := blk_frozen ac.out 1
     have ca := blk_frozen ac.out 2
     go_wp2_with (first | ((with_reducible refine gate_callee (f := 101) rfl ?_); refine goesL_ (some 26) rfl rfl Tryd.func101 (by kernel_rfl) rfl #[.pointer (some ⟨g, 0, none⟩), .int .i64 bM] rfl (by (try simp only [List.map_toArray, List.map_cons, List.map_nil]); first | done | (simp only [bC]; rfl) | rfl | (simp only [List.length_drop, List.length_take]; rfl)) ?_; (with_reducible refine (spec_l20Rd_pick.calls k g ar bk bM bU cN w0 _ ?s1 ?s2 A28.out).mono ?_); (case s1 => exact ti126_ HI0.out); (case s2 => exact tu126_ HB.out); rintro e fu ⟨rfl, hi, hb, hk⟩; refine ⟨_, rfl, ?_⟩; replace ac := kb_ ac hk aL; replace ab := kb_ ab hk aK; replace aU := Aside0.mk (Kd.R_mono (Kd.R_keep (IsS126.apart (ti126_ HI0.out : IsS126 w0 _ g ar bk) (rR_ aU.out) (by decide)) hk (fun _ h => h.2)) (fun _ h => h.1)); replace aa := kb_ aa hk aB; replace HK := kt_ HK hk; replace HB := Aside0.mk (hb); replace HI0 := Aside0.mk (hi); (try clear hb); (try clear hb2); (try clear hk); (try clear hi); have er := aH.out; have es := aG.out; have et := aB.out; have eu := aV.out; have cb := cz_ aa 0; have cc := cz_ aa 1; have cd := cz_ aa 2; have ce := blk_frozen aa.out 0; have cf := blk_frozen aa.out 1; have cg := blk_frozen aa.out 2) | ((with_reducible refine gate_callee (f := 101) rfl ?_); refine gl_ (some 29) Tryd.func101 #[.pointer (some ⟨g, 0, none⟩), .int .i64 7] ?_; (with_reducible refine (spec_l20Rd_pick.calls k g ar cN 7 cR cS w0 _ ?s1 ?s2 A29.out).mono ?_); (case s1 => exact ti126_ HI0.out); (case s2 => exact tu126_ HB.out); rintro e fv ⟨rfl, hi, hb, hk⟩; refine ⟨_, rfl, ?_⟩; replace ac := kb_ ac hk aL; replace ab := kb_ ab hk aK; replace aU := Aside0.mk (Kd.R_mono (Kd.R_keep (IsS126.apart (ti126_ HI0.out : IsS126 w0 _ g ar cN) (by refine qR_ ?_; exact (Kd.R_mono (Kd.R_far (p := ⟨ak, 1, none⟩) (Kd.R_types aU.out aa.out (by decide)) (fun _ hk => hk.2) (.int .i64 bU)) (fun _ h_ => h_.1))) (by decide)) hk (fun _ h => h.2)) (fun _ h => h.1)); replace aa := Aside0.mk (KeepBut.blk hk (g' := ak) (o := .cells #[.int .i64 (wrap64 ((rd ao az) + (wrap64 ((wrap64 (Int.tdiv aD 59)) * 5)))), .int .i64 bU, .int .i64 0] 30 (0, 0)) (ps_ aa.out) aB.out (by simp)); replace HK := kt_ HK hk; replace HB := Aside0.mk (hb); replace HI0 := Aside0.mk (hi); (try clear hb); (try clear hb2); (try clear hk); (try clear hi); have ch := cz_ aa 0; have ci := cz_ aa 1; have cj := cz_ aa 2; have ck := blk_frozen aa.out 0; have cl := blk_frozen aa.out 1; have cm := blk_frozen aa.out 2))
     go_meet
     case rel => exact ⟨_, (cS), (bU), (wrap64 (cR - 3)), H', ⟨by first | omega | exact Nat.le_refl _⟩, ⟨tk_ ac.out⟩, ⟨tk_ ab.out⟩, ⟨by refine bq_ ?_; refine blk_put (cs := #[.int .i64 (wrap64 ((rd ao az) + (wrap64 ((wrap64 (Int.tdiv aD 59)) * 5)))), .int .i64 bU, .int .i64 0]) ?_ 2 _ rfl; exact tk_ aa.out⟩, ⟨ti126_ HI0.out⟩, ⟨(tc_ HK.out)⟩, ⟨tu126_ HB.out⟩⟩
    ·
     rw [if_neg c26] at H
     have bx : ((wrap64 ((rd ao az) + (wrap64 ((wrap64 (Int.tdiv aD 59)) * 5)))) == 0) = false := beq_eq_false_iff_ne.mpr c26
     have cH : ((wrap64 ((rd ao az) + (wrap64 ((wrap64 (Int.tdiv aD 59)) * 5)))) != 0) = true := bne_iff_ne.mpr c26
     (first | rw [bx] | (simp only [i64_w, i32_w]; rw [bx]) | skip)
     by_cases c40 : (wrap64 ((rd ao az) + (wrap64 ((wrap64 (Int.tdiv aD 59)) * 5)))) = 1
     ·
      rw [if_pos c40] at H
      have cI : ((wrap64 ((rd ao az) + (wrap64 ((wrap64 (Int.tdiv aD 59)) * 5)))) == 1) = true := beq_iff_eq.mpr c40
      have cJ : ((wrap64 ((rd ao az) + (wrap64 ((wrap64 (Int.tdiv aD 59)) * 5)))) != 1) = false := bne_eq_false_iff_eq.mpr c40
      clear c40
      obtain ⟨⟨cT, cU⟩, A41, H⟩ := bnd_ H
      try dsimp only at H
      have H' := Aside0.mk H
      clear H
      go_wp2_with (first | ((with_reducible refine gate_callee (f := 101) rfl ?_); refine gl_ (some 35) Tryd.func101 #[.pointer (some ⟨g, 0, none⟩), .int .i64 5] ?_; (with_reducible refine (spec_l20Rd_pick.calls k g ar bk 5 cT cU w0 _ ?s1 ?s2 A41.out).mono ?_); (case s1 => exact ti126_ HI0.out); (case s2 => exact tu126_ HB.out); rintro e fw ⟨rfl, hi, hb, hk⟩; refine ⟨_, rfl, ?_⟩; replace ac := kb_ ac hk aL; replace ab := kb_ ab hk aK; replace aU := Aside0.mk (Kd.R_mono (Kd.R_keep (IsS126.apart (ti126_ HI0.out : IsS126 w0 _ g ar bk) (rR_ aU.out) (by decide)) hk (fun _ h => h.2)) (fun _ h => h.1)); replace aa := kb_ aa hk aB; replace HK := kt_ HK hk; replace HB := Aside0.mk (hb); replace HI0 := Aside0.mk (hi); (try clear hb); (try clear hb2); (try clear hk); (try clear hi); have ev := aF.out; have ew := aE.out; have ex := aH.out; have ey := aG.out; have ez := aB.out; have eA := aV.out; have cn := cz_ aa 0; have co := cz_ aa 1; have cp := cz_ aa 2; have cq := blk_frozen aa.out 0; have cr := blk_frozen aa.out 1; have ct := blk_frozen aa.out 2))
      go_meet
      case rel => exact ⟨_, (cU), (wrap64 (cT - 1)), (0), H', ⟨by first | omega | exact Nat.le_refl _⟩, ⟨tk_ ac.out⟩, ⟨tk_ ab.out⟩, ⟨by refine bq_ ?_; refine blk_put (cs := #[.int .i64 (wrap64 ((rd ao az) + (wrap64 ((wrap64 (Int.tdiv aD 59)) * 5)))), .int .i64 0, .int .i64 0]) ?_ 1 _ rfl; exact tk_ aa.out⟩, ⟨ti126_ HI0.out⟩, ⟨(tc_ HK.out)⟩, ⟨tu126_ HB.out⟩⟩
     ·
      rw [if_neg c40] at H
      have cI : ((wrap64 ((rd ao az) + (wrap64 ((wrap64 (Int.tdiv aD 59)) * 5)))) == 1) = false := beq_eq_false_iff_ne.mpr c40
      have cJ : ((wrap64 ((rd ao az) + (wrap64 ((wrap64 (Int.tdiv aD 59)) * 5)))) != 1) = true := bne_iff_ne.mpr c40
      by_cases c47 : (wrap64 ((rd ao az) + (wrap64 ((wrap64 (Int.tdiv aD 59)) * 5)))) = 2
      ·
       rw [if_pos c47] at H
       have cK : ((wrap64 ((rd ao az) + (wrap64 ((wrap64 (Int.tdiv aD 59)) * 5)))) == 2) = true := beq_iff_eq.mpr c47
       have cL : ((wrap64 ((rd ao az) + (wrap64 ((wrap64 (Int.tdiv aD 59)) * 5)))) != 2) = false := bne_eq_false_iff_eq.mpr c47
       clear c47
       obtain ⟨bN, bD⟩ : ∃ j_ : Int, (mx (aW.length : Int) 1) = j_ := ⟨_, rfl⟩
       replace H : ((spec_l20Rd_pick.f k ar bk (bN)).bind fun bf => (spec_l20Deed.j0 k ar bf.2 (wrap64 ((rd ao az) + (wrap64 ((wrap64 (Int.tdiv aD 59)) * 5)))) bf.1 0)) = some (r1, r2, r3, r4) := by first | (rw [bD] at H; exact H) | (simp only [bD] at H ⊢; exact H)
       (try (have hji48l : 1 ≤ bN := by (rw [← bD]; unfold mx; (repeat' split) <;> omega)))
       (try (have hji48m : 0 ≤ bN := by omega))
       have hji48_ : (if (aW.length : Int) < 1 then 1 else (aW.length : Int)) = bN := bD
       obtain ⟨⟨cV, cW⟩, A49, H⟩ := bnd_ H
       try dsimp only at H
       have H' := Aside0.mk H
       clear H
       have eB := a9.out
       have eC := bb.out
       have eD := aE.out
       have eE := aF.out
       have eF := aL.out
       have eG := a8.out
       have cu := cz_ ac 0
       have cv := cz_ ac 1
       have cw := cz_ ac 2
       have cx := blk_frozen ac.out 0
       have cy := blk_frozen ac.out 1
       have cz := blk_frozen ac.out 2
       go_wp2_with (first | ((with_reducible refine gate_callee (f := 101) rfl ?_); refine goesL_ (some 45) rfl rfl Tryd.func101 (by kernel_rfl) rfl #[.pointer (some ⟨g, 0, none⟩), .int .i64 bN] rfl (by (try simp only [List.map_toArray, List.map_cons, List.map_nil]); first | done | (simp only [bD]; rfl) | rfl | (simp only [List.length_drop, List.length_take]; rfl)) ?_; (with_reducible refine (spec_l20Rd_pick.calls k g ar bk bN cV cW w0 _ ?s1 ?s2 A49.out).mono ?_); (case s1 => exact ti126_ HI0.out); (case s2 => exact tu126_ HB.out); rintro e fx ⟨rfl, hi, hb, hk⟩; refine ⟨_, rfl, ?_⟩; replace ac := kb_ ac hk aL; replace ab := kb_ ab hk aK; replace aU := Aside0.mk (Kd.R_mono (Kd.R_keep (IsS126.apart (ti126_ HI0.out : IsS126 w0 _ g ar bk) (rR_ aU.out) (by decide)) hk (fun _ h => h.2)) (fun _ h => h.1)); replace aa := kb_ aa hk aB; replace HK := kt_ HK hk; replace HB := Aside0.mk (hb); replace HI0 := Aside0.mk (hi); (try clear hb); (try clear hb2); (try clear hk); (try clear hi); have eH := aH.out; have eI := aG.out; have eJ := aB.out; have eK := aV.out; have cA := cz_ aa 0; have cB := cz_ aa 1; have cC := cz_ aa 2; have cD := blk_frozen aa.out 0; have cE := blk_frozen aa.out 1; have cF := blk_frozen aa.out 2))
       go_meet
       case rel => exact ⟨_, (cW), (cV), (0), H', ⟨by first | omega | exact Nat.le_refl _⟩, ⟨tk_ ac.out⟩, ⟨tk_ ab.out⟩, ⟨by refine bq_ ?_; refine blk_put (cs := #[.int .i64 (wrap64 ((rd ao az) + (wrap64 ((wrap64 (Int.tdiv aD 59)) * 5)))), .int .i64 0, .int .i64 0]) ?_ 1 _ rfl; exact tk_ aa.out⟩, ⟨ti126_ HI0.out⟩, ⟨(tc_ HK.out)⟩, ⟨tu126_ HB.out⟩⟩
      ·
       rw [if_neg c47] at H
       have cK : ((wrap64 ((rd ao az) + (wrap64 ((wrap64 (Int.tdiv aD 59)) * 5)))) == 2) = false := beq_eq_false_iff_ne.mpr c47
       have cL : ((wrap64 ((rd ao az) + (wrap64 ((wrap64 (Int.tdiv aD 59)) * 5)))) != 2) = true := bne_iff_ne.mpr c47
       have H' := Aside0.mk H
       clear H
       go_wp2
       go_meet
       case rel => exact ⟨_, (bk), (0), (0), H', ⟨by first | omega | exact Nat.le_refl _⟩, ⟨tk_ ac.out⟩, ⟨tk_ ab.out⟩, ⟨tk_ aa.out⟩, ⟨ti126_ HI0.out⟩, ⟨(tc_ HK.out)⟩, ⟨tu126_ HB.out⟩⟩
   case rest =>
    clear HC7
    try clear c1
    try clear fy
    try clear c2
    try clear p2
    try clear c3
    try clear c4
    try clear dV
    try clear c5
    try clear dW
    try clear c6
    try clear p6
    try clear c10
    try clear fo
    try clear c22
    try clear c23
    try clear c24
    try clear c26
    try clear bx
    try clear cH
    try clear c30
    try clear c31
    try clear c32
    try clear c35
    try clear c36
    try clear c40
    try clear cI
    try clear cJ
    try clear c43
    try clear c44
    try clear c45
    try clear c47
    try clear cK
    try clear cL
    try clear c50
    try clear c51
    try clear c52
    try clear c55
    try clear c56
    try clear bZ
    try clear b0
    try clear b1
    try clear b5
    try clear b6
    try clear b7
    try clear cb
    try clear cc
    try clear cd
    try clear ch
    try clear ci
    try clear cj
    try clear cn
    try clear co
    try clear cp
    try clear cu
    try clear cv
    try clear cw
    try clear cA
    try clear cB
    try clear cC
    try clear b2
    try clear b3
    try clear b4
    try clear b8
    try clear b9
    try clear ca
    try clear ce
    try clear cf
    try clear cg
    try clear ck
    try clear cl
    try clear cm
    try clear cq
    try clear cr
    try clear ct
    try clear cx
    try clear cy
    try clear cz
    try clear cD
    try clear cE
    try clear cF
    obtain ⟨kq, bg, aX, aO, HA, HJ6, ac, ab, aa, HI0, HK, HB⟩ := hcut
    cases kq with
    | zero => exact absurd HA.out (by simp [spec_l20Deed.j0])
    | succ kj6 =>
     have H := HA.out
     clear HA
     simp only [spec_l20Deed.j0] at H
     obtain ⟨⟨d3, bF⟩, A58, H⟩ := bnd_ H
     try dsimp only at H
     by_cases c59 : d3 = true
     ·
      subst c59
      have H1 : ((spec_l20Rd_pick.f kj6 ar bF 2).bind fun br => (if br.1 = 0 then ((some (([(-100), 100] : List Int) : List Int)).bind fun bn => ((spec_l20Rd_pick.f kj6 ar br.2 2).bind fun a7 => (if 0 ≤ a7.1 then (if a7.1 < (bn.length : Int) then (some ((wrap64 ((rd ao az) + (wrap64 ((wrap64 (Int.tdiv aD 59)) * 5)))), rd bn a7.1, aO, a7.2)) else (none)) else (none)))) else (some ((wrap64 ((rd ao az) + (wrap64 ((wrap64 (Int.tdiv aD 59)) * 5)))), aX, 99, br.2)))) = some (r1, r2, r3, r4) := by rw [if_pos rfl] at H; exact H
      clear H
      have H := H1
      clear H1
      obtain ⟨⟨bG, bV⟩, A60, H⟩ := bnd_ H
      try dsimp only at H
      by_cases c61 : bG = 0
      ·
       rw [if_pos c61] at H
       have cX : (bG == 0) = true := beq_iff_eq.mpr c61
       have cY : (bG != 0) = false := bne_eq_false_iff_eq.mpr c61
       clear c61
       obtain ⟨bn, bW⟩ : ∃ y_ : List Int, y_ = (([(-100), 100] : List Int)) := ⟨_, rfl⟩
       replace H : ((spec_l20Rd_pick.f kj6 ar bV 2).bind fun a7 => (if 0 ≤ a7.1 then (if a7.1 < (bn.length : Int) then (some ((wrap64 ((rd ao az) + (wrap64 ((wrap64 (Int.tdiv aD 59)) * 5)))), rd bn a7.1, aO, a7.2)) else (none)) else (none))) = some (r1, r2, r3, r4) := yq_ bW H
       have cM := Aside0.mk bW
       clear bW
       obtain ⟨⟨bB, d4⟩, A62, H⟩ := bnd_ H
       try dsimp only at H
       by_cases c63 : 0 ≤ bB
       ·
        rw [if_pos c63] at H
        have eL : decide (0 ≤ bB) = true := decide_eq_true c63
        clear c63
        by_cases c64 : bB < (bn.length : Int)
        ·
         rw [if_pos c64] at H
         have eM : decide (bB < (bn.length : Int)) = true := decide_eq_true c64
         clear c64
         simp only [Option.some.injEq, Prod.mk.injEq] at H
         obtain ⟨rfl, rfl, rfl, rfl⟩ := H
         go_wp2_with (first | ((with_reducible refine gate_callee (f := 80) rfl ?_); refine gl_ (some 48) Tryd.func80 #[.pointer (some ⟨g, 0, none⟩), .int .i64 40] ?_; (with_reducible refine (spec_l20Rd_odd.calls kj6 g ar bg 40 true bF w0 _ ?s1 ?s2 A58.out).mono ?_); (case s1 => exact ti126_ HI0.out); (case s2 => exact tu126_ HB.out); rintro e fz ⟨rfl, hi, hb, hk⟩; refine ⟨_, rfl, ?_⟩; replace ac := kb_ ac hk aL; replace ab := kb_ ab hk aK; replace aa := kb_ aa hk aB; replace HK := kt_ HK hk; replace HB := Aside0.mk (hb); replace HI0 := Aside0.mk (hi); (try clear hb); (try clear hb2); (try clear hk); (try clear hi)) | ((with_reducible refine gate_callee (f := 101) rfl ?_); refine gl_ (some 50) Tryd.func101 #[.pointer (some ⟨g, 0, none⟩), .int .i64 2] ?_; (with_reducible refine (spec_l20Rd_pick.calls kj6 g ar bF 2 bG bV w0 _ ?s1 ?s2 A60.out).mono ?_); (case s1 => exact ti126_ HI0.out); (case s2 => exact tu126_ HB.out); rintro e fA ⟨rfl, hi, hb, hk⟩; refine ⟨_, rfl, ?_⟩; replace ac := kb_ ac hk aL; replace ab := kb_ ab hk aK; replace aa := kb_ aa hk aB; replace HK := kt_ HK hk; replace HB := Aside0.mk (hb); replace HI0 := Aside0.mk (hi); (try clear hb); (try clear hb2); (try clear hk); (try clear hi)) | ((with_reducible refine gate_dst (N := 54) rfl ?_); refine Kd.R_lit (Kd.int .i64) _ 3 ?hg (N := 54) ?hd (xs := ([(-100), 100] : List Int)) (inner := [.int .i64 (-100), .int .i64 100]) (ok := fun _ => True) (okp := fun _ => True) ?hr ?hp (fun _ hk => hk) trivial (Below.refl _ _) (Nat.le_refl _) (by simp) ?_; (case hd => rfl); (case hg => rfl); (case hr => first | (go_simp; done) | (go_simp; rfl)); (case hp => exact (Reps.one (show Kd.M (Kd.int .i64) _ _ _ (-100) [.int .i64 (-100)] from rfl) (Reps.one (show Kd.M (Kd.int .i64) _ _ _ 100 [.int .i64 100] from rfl) (Reps.none _ _)))); intro fp fB ho68 hb hg_ hnew_; clear hg_ hnew_; (first | rw [← cM.out] at ho68 | (simp only [Int.reduceToNat] at ho68; rw [← cM.out] at ho68)); have bL := rl_ ho68 HK; replace ac := bb_ ac hb; replace ab := bb_ ab hb; replace aa := bb_ aa hb; replace HI0 := ti126_b HI0 hb; replace HK := ko_ HK hb; replace HB := tu126_s HB hb; clear hb ho68) | ((with_reducible refine gate_callee (f := 101) rfl ?_); refine gl_ (some 56) Tryd.func101 #[.pointer (some ⟨g, 0, none⟩), .int .i64 2] ?_; (with_reducible refine (spec_l20Rd_pick.calls kj6 g ar bV 2 bB d4 w0 _ ?s1 ?s2 A62.out).mono ?_); (case s1 => exact ti126_ HI0.out); (case s2 => exact tu126_ HB.out); rintro e fC ⟨rfl, hi, hb, hk⟩; refine ⟨_, rfl, ?_⟩; replace ac := kb_ ac hk aL; replace ab := kb_ ab hk aK; replace aa := kb_ aa hk aB; replace bL := Aside0.mk (Kd.R_mono (Kd.R_keep (IsS126.apart (ti126_ HI0.out : IsS126 w0 _ g ar bV) (rR_ bL.out) (by decide)) hk (fun _ h => h.2)) (fun _ h => h.1)); replace HK := kt_ HK hk; replace HB := Aside0.mk (hb); replace HI0 := Aside0.mk (hi); (try clear hb); (try clear hb2); (try clear hk); (try clear hi); obtain ⟨fq, fr, d5⟩ := Kd.R_slice bL.out; subst d5; have p203 : 0 ≤ (bB : Int) := od_; have q203 : bB < (bn.length : Int) := od_; obtain ⟨ad203, e203, dh⟩ := Kd.at_int (Kd.R_reads' bL.out).2.2 bB p203 q203; cases e203; replace p203 := eq_true p203; replace q203 := eq_true q203; have eN := aF.out; have eO := aE.out; have eP := aH.out; have eQ := aG.out; have eR := aB.out; have eS := aV.out; have di := cz_ aa 0; have dj := cz_ aa 1; have dk := cz_ aa 2; have dl := blk_frozen aa.out 0; have dm := blk_frozen aa.out 1; have dn := blk_frozen aa.out 2; have eT := bb.out; have eU := a9.out; have eV := aK.out; have eW := a5.out; have dp := cz_ ab 0; have dq := cz_ ab 1; have dr := cz_ ab 2; have dt := blk_frozen ab.out 0; have du := blk_frozen ab.out 1; have dv := blk_frozen ab.out 2))
         refine bodyPost_ret (results_cell_row rfl _ _ a6 30 #[.int .i64 (wrap64 ((rd ao az) + (wrap64 ((wrap64 (Int.tdiv aD 59)) * 5)))), .int .i64 (rd bn bB), .int .i64 aO] (0, 0) _ rfl (ps_ ab.out) Tryd.underlying30 rfl (by kernel_rfl)) rfl ?_
         exact ⟨tw_, ti126_ HI0.out, tu126_ HB.out, (tc_ HK.out)⟩
        ·
         rw [if_neg c64] at H
         exact absurd H (by simp)
       ·
        rw [if_neg c63] at H
        exact absurd H (by simp)
      ·
       rw [if_neg c61] at H
       have cX : (bG == 0) = false := beq_eq_false_iff_ne.mpr c61
       have cY : (bG != 0) = true := bne_iff_ne.mpr c61
       simp only [Option.some.injEq, Prod.mk.injEq] at H
       obtain ⟨rfl, rfl, rfl, rfl⟩ := H
       go_wp2_with (first | ((with_reducible refine gate_callee (f := 80) rfl ?_); refine gl_ (some 48) Tryd.func80 #[.pointer (some ⟨g, 0, none⟩), .int .i64 40] ?_; (with_reducible refine (spec_l20Rd_odd.calls kj6 g ar bg 40 true bF w0 _ ?s1 ?s2 A58.out).mono ?_); (case s1 => exact ti126_ HI0.out); (case s2 => exact tu126_ HB.out); rintro e fD ⟨rfl, hi, hb, hk⟩; refine ⟨_, rfl, ?_⟩; replace ac := kb_ ac hk aL; replace ab := kb_ ab hk aK; replace aa := kb_ aa hk aB; replace HK := kt_ HK hk; replace HB := Aside0.mk (hb); replace HI0 := Aside0.mk (hi); (try clear hb); (try clear hb2); (try clear hk); (try clear hi)) | ((with_reducible refine gate_callee (f := 101) rfl ?_); refine gl_ (some 50) Tryd.func101 #[.pointer (some ⟨g, 0, none⟩), .int .i64 2] ?_; (with_reducible refine (spec_l20Rd_pick.calls kj6 g ar bF 2 bG bV w0 _ ?s1 ?s2 A60.out).mono ?_); (case s1 => exact ti126_ HI0.out); (case s2 => exact tu126_ HB.out); rintro e fE ⟨rfl, hi, hb, hk⟩; refine ⟨_, rfl, ?_⟩; replace ac := kb_ ac hk aL; replace ab := kb_ ab hk aK; replace aa := kb_ aa hk aB; replace HK := kt_ HK hk; replace HB := Aside0.mk (hb); replace HI0 := Aside0.mk (hi); (try clear hb); (try clear hb2); (try clear hk); (try clear hi); have eX := aF.out; have eY := aE.out; have eZ := aH.out; have e0 := aG.out; have e1 := aB.out; have e2 := aV.out; have dw := cz_ aa 0; have dx := cz_ aa 1; have dy := cz_ aa 2; have dz := blk_frozen aa.out 0; have dA := blk_frozen aa.out 1; have dB := blk_frozen aa.out 2; have e3 := bb.out; have e4 := a9.out; have fa := aK.out; have fb := a5.out; have dC := cz_ ab 0; have dD := cz_ ab 1; have dE := cz_ ab 2; have dF := blk_frozen ab.out 0; have dG := blk_frozen ab.out 1; have dH := blk_frozen ab.out 2))
       refine bodyPost_ret (results_cell_row rfl _ _ a6 30 #[.int .i64 (wrap64 ((rd ao az) + (wrap64 ((wrap64 (Int.tdiv aD 59)) * 5)))), .int .i64 aX, .int .i64 99] (0, 0) _ rfl (ps_ ab.out) Tryd.underlying30 rfl (by kernel_rfl)) rfl ?_
       exact ⟨tw_, ti126_ HI0.out, tu126_ HB.out, (tc_ HK.out)⟩
     ·
      replace c59 := Bool.eq_false_iff.mpr c59
      subst c59
      have H1 : (some ((wrap64 ((rd ao az) + (wrap64 ((wrap64 (Int.tdiv aD 59)) * 5)))), aX, aO, bF)) = some (r1, r2, r3, r4) := by rw [if_neg (show ¬ (false = true) by decide)] at H; exact H
      clear H
      have H := H1
      clear H1
      simp only [Option.some.injEq, Prod.mk.injEq] at H
      obtain ⟨rfl, rfl, rfl, rfl⟩ := H
      go_wp2_with (first | ((with_reducible refine gate_callee (f := 80) rfl ?_); refine gl_ (some 48) Tryd.func80 #[.pointer (some ⟨g, 0, none⟩), .int .i64 40] ?_; (with_reducible refine (spec_l20Rd_odd.calls kj6 g ar bg 40 false bF w0 _ ?s1 ?s2 A58.out).mono ?_); (case s1 => exact ti126_ HI0.out); (case s2 => exact tu126_ HB.out); rintro e fF ⟨rfl, hi, hb, hk⟩; refine ⟨_, rfl, ?_⟩; replace ac := kb_ ac hk aL; replace ab := kb_ ab hk aK; replace aa := kb_ aa hk aB; replace HK := kt_ HK hk; replace HB := Aside0.mk (hb); replace HI0 := Aside0.mk (hi); (try clear hb); (try clear hb2); (try clear hk); (try clear hi); have fc := aF.out; have fd := aE.out; have fe := aH.out; have ff := aG.out; have fg := aB.out; have fh := aV.out; have dI := cz_ aa 0; have dJ := cz_ aa 1; have dK := cz_ aa 2; have dL := blk_frozen aa.out 0; have dM := blk_frozen aa.out 1; have dN := blk_frozen aa.out 2; have fi := bb.out; have fj := a9.out; have fk := aK.out; have fl := a5.out; have dP := cz_ ab 0; have dQ := cz_ ab 1; have dR := cz_ ab 2; have dS := blk_frozen ab.out 0; have dT := blk_frozen ab.out 1; have dU := blk_frozen ab.out 2))
      refine bodyPost_ret (results_cell_row rfl _ _ a6 30 #[.int .i64 (wrap64 ((rd ao az) + (wrap64 ((wrap64 (Int.tdiv aD 59)) * 5)))), .int .i64 aX, .int .i64 aO] (0, 0) _ rfl (ps_ ab.out) Tryd.underlying30 rfl (by kernel_rfl)) rfl ?_
      exact ⟨tw_, ti126_ HI0.out, tu126_ HB.out, (tc_ HK.out)⟩
  ·
   rw [if_neg c5] at H
   exact absurd H (by simp)
 ·
  rw [if_neg c4] at H
  exact absurd H (by simp)

end Go.Proofs.YtlhiienanbpdlaaDoor.MFnJournalText
