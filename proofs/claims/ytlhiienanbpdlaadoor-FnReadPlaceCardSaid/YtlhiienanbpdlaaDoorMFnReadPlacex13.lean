/- For the law FnReadPlace: walks of the functions that it reaches: each call returns what the plain function beside it tells. The conditions stand in each statement. -/
import Derived.Test.YtlhiienanbpdlaaDoorV
import Derived.Test.YtlhiienanbpdlaaDoorMFnReadPlacex0
import Derived.Test.YtlhiienanbpdlaaDoorMFnReadPlacex3
import Derived.Test.YtlhiienanbpdlaaDoorMFnReadPlacex11
import Derived.Test.YtlhiienanbpdlaaDoorMFnReadPlacex12
namespace Go.Proofs.YtlhiienanbpdlaaDoor.MFnReadPlace
open Go.RowKit Go.Proofs.YtlhiienanbpdlaaDoorW.PrintWords Go.Proofs.YtlhiienanbpdlaaDoorW.PrintLast Go.Proofs.YtlhiienanbpdlaaDoorW.PrintMore
attribute [local go_sem] max2_int min2_int max_two min_two max_three min_three max_four min_four   -- for this text's walks alone
set_option linter.unusedVariables false
set_option linter.unusedSimpArgs false

/-! ### spec_l20Place: function 97 -/
def spec_l20Place.l0 : Nat → Int → Int → List Int → Int → List Int → Int → List Int → Option (List Int × Int × List Int × Int)
 | 0, _, _, _, _, _, _, _ => none
 | k + 1, x1, x6, x1000, x1001, x373000, x373001, x373002 => if x6 > 0 then ((some (([] : List Int) : List Int)).bind fun y375 => (if y375.length + x373002.length < 17592186044416 then ((some (y375 ++ x373002 : List Int)).bind fun y378 => ((spec_l20Rd_pick.f k x1000 x1001 (x373000.length : Int)).bind fun bt381 => (if y378.length < 17592186044416 then ((some (y378 ++ [bt381.1] : List Int)).bind fun y383 => ((spec_PlaceOk.f k x373000 x373001 y383).bind fun t386 => (if t386 = true then (spec_l20Place.l0 k x1 (wrap64 (x6 - 1)) x1000 bt381.2 x373000 x373001 y383) else (spec_l20Place.l0 k x1 (wrap64 (x6 - 1)) x1000 bt381.2 x373000 x373001 x373002)))) else (none)))) else (none))) else ((spec_l20Rd_odd.f k x1000 x1001 x1).bind fun bt387 => (if bt387.1 = true then ((spec_l20Rd_pick.f k x1000 bt387.2 3).bind fun bt389 => (if bt389.1 = 0 then (some (x373000, 4, x373002, bt389.2)) else (if bt389.1 = 1 then (if x373002.length < 17592186044416 then (some (x373000, x373001, (x373002 ++ [3]), bt389.2)) else (none)) else (some (([] : List Int), 0, ([] : List Int), bt389.2))))) else (some (x373000, x373001, x373002, bt387.2))))
def spec_l20Place.f (k : Nat) (s0_0 : List Int) (s0_1 : Int) (a1 : Int) : Option (List Int × Int × List Int × Int) := (spec_l20Urn.f k s0_0 s0_1 0).bind fun bt366 => ((spec_l20Rd_pick.f k s0_0 bt366.2 5).bind fun bt370 => ((spec_l20Rd_pick.f k s0_0 bt370.2 5).bind fun bt373 => (spec_l20Place.l0 k a1 bt373.1 s0_0 bt373.2 bt366.1 (wrap64 (bt370.1 - 1)) ([] : List Int))))
theorem spec_l20Place.mono_l : ∀ k, (∀ y0 y1 y2 y3 y4 y5 y6, LeO (spec_l20Place.l0 k y0 y1 y2 y3 y4 y5 y6) (spec_l20Place.l0 (k + 1) y0 y1 y2 y3 y4 y5 y6))
 | 0 => fun _ _ _ _ _ _ _ r h => by simp [spec_l20Place.l0] at h
 | k + 1 => by
  have ih0 := spec_l20Place.mono_l k
  ·
   intro y0 y1 y2 y3 y4 y5 y6
   unfold spec_l20Place.l0
   repeat' first
   | (with_reducible exact ih0 _ _ _ _ _ _ _)
   | (with_reducible exact spec_PlaceOk.mono _ _ _ _)
   | (with_reducible exact spec_l20Rd_odd.mono _ _ _ _)
   | (with_reducible exact spec_l20Rd_pick.mono _ _ _ _)
   | (with_reducible exact spec_l20Urn.mono _ _ _ _)
   | (with_reducible exact LeO.refl _)
   | (with_reducible exact LeO.none _)
   | (with_reducible refine LeO.ite ?_ ?_)
   | (with_reducible refine LeO.bind ?_ (fun _ => ?_))
   | exact ih0 _ _ _ _ _ _ _
   | exact spec_PlaceOk.mono _ _ _ _
   | exact spec_l20Rd_odd.mono _ _ _ _
   | exact spec_l20Rd_pick.mono _ _ _ _
   | exact spec_l20Urn.mono _ _ _ _
   | exact LeO.none _
   | refine LeO.ite ?_ ?_
   | refine LeO.bind ?_ (fun _ => ?_)
theorem spec_l20Place.mono : ∀ a0 a1 a2 k, LeO (spec_l20Place.f k a0 a1 a2) (spec_l20Place.f (k + 1) a0 a1 a2) := by
 intro a0 a1 a2 k
 have ih0 := spec_l20Place.mono_l k
 unfold spec_l20Place.f
 repeat' first
   | (with_reducible exact ih0 _ _ _ _ _ _ _)
   | (with_reducible exact spec_PlaceOk.mono _ _ _ _)
   | (with_reducible exact spec_l20Rd_odd.mono _ _ _ _)
   | (with_reducible exact spec_l20Rd_pick.mono _ _ _ _)
   | (with_reducible exact spec_l20Urn.mono _ _ _ _)
   | (with_reducible exact LeO.refl _)
   | (with_reducible exact LeO.none _)
   | (with_reducible refine LeO.ite ?_ ?_)
   | (with_reducible refine LeO.bind ?_ (fun _ => ?_))
   | exact ih0 _ _ _ _ _ _ _
   | exact spec_PlaceOk.mono _ _ _ _
   | exact spec_l20Rd_odd.mono _ _ _ _
   | exact spec_l20Rd_pick.mono _ _ _ _
   | exact spec_l20Urn.mono _ _ _ _
   | exact LeO.none _
   | refine LeO.ite ?_ ?_
   | refine LeO.bind ?_ (fun _ => ?_)
def spec_l20Place.T5 : Bool × List (List Nat × List Nat) := (true, [([], []), ([], []), ([1], [1]), ([0, 2], [0, 2]), ([], []), ([], []), ([5], [5]), ([6], [6]), ([4, 7, 3], [4, 7]), ([8], [8]), ([3, 9, 8], [3, 9]), ([10, 10, 0, 1, 2, 3, 4, 5, 6, 7, 8, 9, 10], [10])])
def spec_l20Place.B5 : List Nat := [0, 0, 2, 7, 0, 0, 32, 96, 255, 511, 1023, 2047]
theorem spec_l20Place.tab5 : rtab .any (opsOf Tryd.f97 5) = spec_l20Place.T5 := by kernel_rfl
theorem spec_l20Place.bits5 : waitsOk spec_l20Place.T5.2 spec_l20Place.B5 = true := by kernel_rfl
set_option maxHeartbeats 8000000 in
set_option maxRecDepth 100000 in
theorem spec_l20Place.calls (k : Nat) (g : Nat) (s0_0 : List Int) (s0_1 : Int) (a1 : Int) (r1 : List Int) (r2 : Int) (r3 : List Int) (r4 : Int) (w0 w : World) (hI : IsS126 w0 w g s0_0 s0_1) (hB : Below w0.heap.size w0 w) (h : spec_l20Place.f k s0_0 s0_1 a1 = some (r1, r2, r3, r4)) :
  Calls Tryd.prog 97 #[.pointer (some ⟨g, 0, none⟩), .int .i64 a1] w fun e w' => ∃ v0_ v2_ : Value, e = .returned (.agg #[v0_, .int .i64 r2, v2_]) ∧ Kd.R (Kd.int .i64) 3 w' w.heap.size (fun k_ => some k_ ≠ (v2_ : Value).ownBlock) v0_ r1 ∧ Kd.R (Kd.int .i64) 3 w' w.heap.size (fun k_ => some k_ ≠ (v0_ : Value).ownBlock) v2_ r3 ∧ IsS126 w0 w' g s0_0 r4 ∧ Below w0.heap.size w0 w' ∧ KeepBut w w' g none := by
 have hu25 := Tryd.underlying25
 have HI0 := Aside0.mk hI
 have HK := Aside0.mk (KeepBut.refl w g none)
 have HL := Aside0.mk hB.size
 have HLg := Aside0.mk hI.lt
 clear hI
 have HW0 := Aside0.mk hB.size
 have HB := Aside0.mk hB
 clear hB
 have H : ((spec_l20Urn.f k s0_0 s0_1 0).bind fun bt366 => ((spec_l20Rd_pick.f k s0_0 bt366.2 5).bind fun bt370 => ((spec_l20Rd_pick.f k s0_0 bt370.2 5).bind fun bt373 => (spec_l20Place.l0 k a1 bt373.1 s0_0 bt373.2 bt366.1 (wrap64 (bt370.1 - 1)) ([] : List Int))))) = some (r1, r2, r3, r4) := h
 clear h
 replace H := Option.bind_eq_some_iff.mp H
 obtain ⟨⟨t366, t369⟩, A30, H⟩ := H
 replace H : ((spec_l20Rd_pick.f k s0_0 t369 5).bind fun bt370 => ((spec_l20Rd_pick.f k s0_0 bt370.2 5).bind fun bt373 => (spec_l20Place.l0 k a1 bt373.1 s0_0 bt373.2 t366 (wrap64 (bt370.1 - 1)) ([] : List Int)))) = some (r1, r2, r3, r4) := H
 have A3 := Aside0.mk A30
 clear A30
 replace H := Option.bind_eq_some_iff.mp H
 obtain ⟨⟨t370, t371⟩, A40, H⟩ := H
 replace H : ((spec_l20Rd_pick.f k s0_0 t371 5).bind fun bt373 => (spec_l20Place.l0 k a1 bt373.1 s0_0 bt373.2 t366 (wrap64 (t370 - 1)) ([] : List Int))) = some (r1, r2, r3, r4) := H
 have A4 := Aside0.mk A40
 clear A40
 replace H := Option.bind_eq_some_iff.mp H
 obtain ⟨⟨t373, t374⟩, A50, H⟩ := H
 replace H : (spec_l20Place.l0 k a1 t373 s0_0 t374 t366 (wrap64 (t370 - 1)) ([] : List Int)) = some (r1, r2, r3, r4) := H
 have A5 := Aside0.mk A50
 clear A50
 have H' := Aside0.mk H
 clear H
 go_enter Tryd.func97, Tryd.ntmps97
 go_wp2_with (first | ((with_reducible refine gate_dst (N := 4) rfl ?_); refine box_event ?hg (N := 4) ?hd (cs := #[.slice none 0 0, .int .i64 0, .slice none 0 0]) (t := 25) ?hr ?_; (case hd => rfl); (case hg => rfl); (case hr => first | (go_simp; done) | (go_simp; rfl)); intro gb365 hg w6 hbox hb; have n0_ := Aside0.mk (IsS126.below (by repeat (first | (with_reducible first | exact HI0.out | apply IsS126.alloc | apply IsS126.drewN | apply IsS126.drew | apply IsS126.set_1) | exact HI0.out)) hb); have n1_ := Aside0.mk (KeepBut.trans (tc_ HK.out) (KeepBut.of_below hb g none) (.inl rfl)); have n2_ := Aside0.mk (below_step (by repeat (first | (with_reducible first | exact HB.out | apply la_ | apply ln_ | apply ld_ | refine below_set ?_ (IsS126.ge HI0.out)) | exact HB.out)) hb); have n3_ := Aside0.mk (hbox); have n4_ := Aside0.mk ((by rw [hg]; exact (keep_size (w := w) (g := g) (row := none) (tc_ HK.out)) : w.heap.size ≤ gb365)); have n5_ := Aside0.mk ((Nat.le_trans HW0.out (by rw [hg]; exact (keep_size (w := w) (g := g) (row := none) (tc_ HK.out)) : w.heap.size ≤ gb365) : w0.heap.size ≤ gb365)); have n6_ := Aside0.mk ((Nat.ne_of_lt (Nat.lt_of_lt_of_le HLg.out (by rw [hg]; exact (keep_size (w := w) (g := g) (row := none) (tc_ HK.out)))) : g ≠ gb365)); have n7_ := Aside0.mk ((Nat.ne_of_gt (Nat.lt_of_lt_of_le HLg.out (by rw [hg]; exact (keep_size (w := w) (g := g) (row := none) (tc_ HK.out)))) : gb365 ≠ g)); clear HI0 HK HB; have HI0 := n0_; have HK := n1_; have HB := n2_; have BK365 := n3_; have GW365 := n4_; have GE365 := n5_; have NB0_365 := n6_; have NB365_0 := n7_; clear n0_ n1_ n2_ n3_ n4_ n5_ n6_ n7_ hb hbox hg) | ((with_reducible refine gate_callee (f := 127) rfl ?_); refine goesL_ (some 9) rfl rfl Tryd.func127 (by kernel_rfl) rfl #[.pointer (some ⟨g, 0, none⟩), .int .i64 0] rfl tz_ ?_; (with_reducible refine (spec_l20Urn.calls k g s0_0 s0_1 0 t366 t369 w0 _ ?side1 ?side2 A3.out).mono ?_); (case side1 => repeat (first | (with_reducible first | exact HI0.out | apply IsS126.alloc | apply IsS126.drewN | apply IsS126.drew | apply IsS126.set_1 | refine IsS126.far ?_ NB0_365.out _) | exact HI0.out)); (case side2 => repeat (first | (with_reducible first | exact HB.out | apply la_ | apply ln_ | apply ld_ | refine below_set ?_ (IsS126.ge HI0.out) | refine below_set ?_ GE365.out) | exact HB.out)); rintro e w7 ⟨v367, rfl, ho0, hi, hb, hk⟩; refine ⟨_, rfl, ?_⟩; have n0_ := Aside0.mk (KeepBut.blk hk (g' := gb365) (o := .cells #[.slice none 0 0, .int .i64 0, .slice none 0 0] 25 (0, 0)) (tk_ BK365.out) NB365_0.out (by simp)); have n1_ := Aside0.mk (Kd.R_lower ho0 (keep_size (w := w) (g := g) (row := none) (tc_ HK.out))); have n2_ := Aside0.mk (KeepBut.trans (tc_ HK.out) hk (.inl rfl)); have n3_ := Aside0.mk (hb); have n4_ := Aside0.mk (hi); clear BK365 HK HB HI0; have BK365 := n0_; have HO368 := n1_; have HK := n2_; have HB := n3_; have HI0 := n4_; clear n0_ n1_ n2_ n3_ n4_; (try clear hb); (try clear hb2); (try clear hk); (try clear hi); (try clear ho0)) | ((with_reducible refine gate_callee (f := 101) rfl ?_); refine goesL_ (some 11) rfl rfl Tryd.func101 (by kernel_rfl) rfl #[.pointer (some ⟨g, 0, none⟩), .int .i64 5] rfl tz_ ?_; (with_reducible refine (spec_l20Rd_pick.calls k g s0_0 t369 5 t370 t371 w0 _ ?side1 ?side2 A4.out).mono ?_); (case side1 => repeat (first | (with_reducible first | exact HI0.out | apply IsS126.alloc | apply IsS126.drewN | apply IsS126.drew | apply IsS126.set_1 | refine IsS126.far ?_ NB0_365.out _) | exact HI0.out)); (case side2 => repeat (first | (with_reducible first | exact HB.out | apply la_ | apply ln_ | apply ld_ | refine below_set ?_ (IsS126.ge HI0.out) | refine below_set ?_ GE365.out) | exact HB.out)); rintro e w8 ⟨rfl, hi, hb, hk⟩; refine ⟨_, rfl, ?_⟩; have n0_ := Aside0.mk (KeepBut.blk hk (g' := gb365) (o := .cells #[.slice none 0 0, .int .i64 0, .slice none 0 0] 25 (0, 0)) (tk_ BK365.out) NB365_0.out (by simp)); have n1_ := Aside0.mk (Kd.R_mono (Kd.R_keep (IsS126.apart (show IsS126 w0 _ g s0_0 t369 from by repeat (first | (with_reducible first | exact HI0.out | apply IsS126.alloc | apply IsS126.drewN | apply IsS126.drew | apply IsS126.set_1 | refine IsS126.far ?_ NB0_365.out _) | exact HI0.out)) (rR_ HO368.out) (by decide)) hk (fun _ h => h.2)) (fun _ h => h.1)); have n2_ := Aside0.mk (KeepBut.trans (tc_ HK.out) hk (.inl rfl)); have n3_ := Aside0.mk (hb); have n4_ := Aside0.mk (hi); clear BK365 HO368 HK HB HI0; have BK365 := n0_; have HO368 := n1_; have HK := n2_; have HB := n3_; have HI0 := n4_; clear n0_ n1_ n2_ n3_ n4_; (try clear hb); (try clear hb2); (try clear hk); (try clear hi); obtain ⟨Ao9, co9, eo9⟩ := Kd.R_slice HO368.out; subst eo9) | ((with_reducible refine gate_dst (N := 5) rfl ?_); refine box_event ?hg (N := 5) ?hd (cs := #[.slice none 0 0, .int .i64 0, .slice none 0 0]) (t := 25) ?hr ?_; (case hd => rfl); (case hg => rfl); (case hr => first | (go_simp; done) | (go_simp; rfl)); intro gb372 hg w10 hbox hb; have n0_ := Aside0.mk (Kd.R_below (rR_ HO368.out) hb); have n1_ := Aside0.mk (IsS126.below (by repeat (first | (with_reducible first | exact HI0.out | apply IsS126.alloc | apply IsS126.drewN | apply IsS126.drew | apply IsS126.set_1 | refine IsS126.far ?_ NB0_365.out _) | exact HI0.out)) hb); have n2_ := Aside0.mk (blk_below (g := gb365) (o := .cells #[.slice none 0 0, .int .i64 0, .slice none 0 0] 25 (0, 0)) (tk_ BK365.out) hb); have n3_ := Aside0.mk (KeepBut.trans (tc_ HK.out) (KeepBut.of_below hb g none) (.inl rfl)); have n4_ := Aside0.mk (below_step (by repeat (first | (with_reducible first | exact HB.out | apply la_ | apply ln_ | apply ld_ | refine below_set ?_ (IsS126.ge HI0.out) | refine below_set ?_ GE365.out) | exact HB.out)) hb); have n5_ := Aside0.mk (hbox); have n6_ := Aside0.mk ((by rw [hg]; exact (keep_size (w := w) (g := g) (row := none) (tc_ HK.out)) : w.heap.size ≤ gb372)); have n7_ := Aside0.mk ((Nat.le_trans HW0.out (by rw [hg]; exact (keep_size (w := w) (g := g) (row := none) (tc_ HK.out)) : w.heap.size ≤ gb372) : w0.heap.size ≤ gb372)); have n8_ := Aside0.mk ((by rw [hg]; exact Nat.ne_of_lt (blk_lt (g := gb365) (o := .cells #[.slice none 0 0, .int .i64 0, .slice none 0 0] 25 (0, 0)) (tk_ BK365.out)) : gb365 ≠ gb372)); have n9_ := Aside0.mk ((by rw [hg]; exact Nat.ne_of_gt (blk_lt (g := gb365) (o := .cells #[.slice none 0 0, .int .i64 0, .slice none 0 0] 25 (0, 0)) (tk_ BK365.out)) : gb372 ≠ gb365)); have n10_ := Aside0.mk ((Nat.ne_of_lt (Nat.lt_of_lt_of_le HLg.out (by rw [hg]; exact (keep_size (w := w) (g := g) (row := none) (tc_ HK.out)))) : g ≠ gb372)); have n11_ := Aside0.mk ((Nat.ne_of_gt (Nat.lt_of_lt_of_le HLg.out (by rw [hg]; exact (keep_size (w := w) (g := g) (row := none) (tc_ HK.out)))) : gb372 ≠ g)); clear HO368 HI0 BK365 HK HB; have HO368 := n0_; have HI0 := n1_; have BK365 := n2_; have HK := n3_; have HB := n4_; have BK372 := n5_; have GW372 := n6_; have GE372 := n7_; have NB365_372 := n8_; have NB372_365 := n9_; have NB0_372 := n10_; have NB372_0 := n11_; clear n0_ n1_ n2_ n3_ n4_ n5_ n6_ n7_ n8_ n9_ n10_ n11_ hb hbox hg; have hnb11 := NB372_365.out; have hnc11 := NB365_372.out; have hnb12 := NB372_0.out; have hnc12 := NB0_372.out; have hcz13_0 : w10.cell? ⟨gb372, 0, none⟩ = some (.slice none 0 0) := (blk_cell BK372.out 0).trans rfl; have hcz13_1 : w10.cell? ⟨gb372, 1, none⟩ = some (.int .i64 0) := (blk_cell BK372.out 1).trans rfl; have hcz13_2 : w10.cell? ⟨gb372, 2, none⟩ = some (.slice none 0 0) := (blk_cell BK372.out 2).trans rfl; have hfz13_0 := blk_frozen BK372.out 0; have hfz13_1 := blk_frozen BK372.out 1; have hfz13_2 := blk_frozen BK372.out 2) | ((with_reducible refine gate_callee (f := 101) rfl ?_); refine goesL_ (some 15) rfl rfl Tryd.func101 (by kernel_rfl) rfl #[.pointer (some ⟨g, 0, none⟩), .int .i64 5] rfl tz_ ?_; (with_reducible refine (spec_l20Rd_pick.calls k g s0_0 t371 5 t373 t374 w0 _ ?side1 ?side2 A5.out).mono ?_); (case side1 => repeat (first | (with_reducible first | exact HI0.out | apply IsS126.alloc | apply IsS126.drewN | apply IsS126.drew | apply IsS126.set_1 | refine IsS126.far ?_ NB0_365.out _ | refine IsS126.far ?_ NB0_372.out _) | exact HI0.out)); (case side2 => repeat (first | (with_reducible first | exact HB.out | apply la_ | apply ln_ | apply ld_ | refine below_set ?_ (IsS126.ge HI0.out) | refine below_set ?_ GE365.out | refine below_set ?_ GE372.out) | exact HB.out)); rintro e w14 ⟨rfl, hi, hb, hk⟩; refine ⟨_, rfl, ?_⟩; have n0_ := Aside0.mk (KeepBut.blk hk (g' := gb365) (o := .cells #[.slice none 0 0, .int .i64 0, .slice none 0 0] 25 (0, 0)) (tk_ BK365.out) NB365_0.out (by simp)); have n1_ := Aside0.mk (Kd.R_mono (Kd.R_keep (IsS126.apart (show IsS126 w0 _ g s0_0 t371 from by repeat (first | (with_reducible first | exact HI0.out | apply IsS126.alloc | apply IsS126.drewN | apply IsS126.drew | apply IsS126.set_1 | refine IsS126.far ?_ NB0_365.out _ | refine IsS126.far ?_ NB0_372.out _) | exact HI0.out)) (by refine qR_ ?_; exact (Kd.R_mono (Kd.R_far (p := ⟨gb372, 2, none⟩) (Kd.R_far (p := ⟨gb372, 1, none⟩) (Kd.R_far (p := ⟨gb372, 0, none⟩) (Kd.R_types HO368.out BK372.out (by decide)) (fun _ hk => hk.2) (.slice Ao9 t366.length co9)) (fun _ hk => hk.2) (.int .i64 (wrap64 (t370 - 1)))) (fun _ hk => hk.2) (.slice none 0 0)) (fun _ h_ => h_.1))) (by decide)) hk (fun _ h => h.2)) (fun _ h => h.1)); have n2_ := Aside0.mk (KeepBut.blk hk (g' := gb372) (o := .cells #[.slice Ao9 t366.length co9, .int .i64 (wrap64 (t370 - 1)), .slice none 0 0] 25 (0, 0)) (by refine bq_ ?_; refine blk_put (cs := #[.slice Ao9 t366.length co9, .int .i64 (wrap64 (t370 - 1)), .slice none 0 0]) ?_ 2 _ rfl; refine bq_ ?_; refine blk_put (cs := #[.slice Ao9 t366.length co9, .int .i64 0, .slice none 0 0]) ?_ 1 _ rfl; refine bq_ ?_; refine blk_put (cs := #[.slice none 0 0, .int .i64 0, .slice none 0 0]) ?_ 0 _ rfl; exact tk_ BK372.out) NB372_0.out (by simp)); have n3_ := Aside0.mk (KeepBut.trans (tc_ HK.out) hk (.inl rfl)); have n4_ := Aside0.mk (hb); have n5_ := Aside0.mk (hi); clear BK365 HO368 BK372 HK HB HI0; have BK365 := n0_; have HO368 := n1_; have BK372 := n2_; have HK := n3_; have HB := n4_; have HI0 := n5_; clear n0_ n1_ n2_ n3_ n4_ n5_; (try clear hb); (try clear hb2); (try clear hk); (try clear hi)))
 go_loopg [6] k (fun kq v6 w' => ∃ (x6_1 : Int) (x1001_1 : Int) (x373002_1 : List Int) (u373002 : Value), v6 = .int .i64 x6_1 ∧ Aside0 (spec_l20Place.l0 kq a1 x6_1 s0_0 x1001_1 t366 (wrap64 (t370 - 1)) x373002_1 = some (r1, r2, r3, r4)) ∧ Aside0 (kq ≤ k) ∧ Aside0 (Kd.R (Kd.int .i64) 3 w' w.heap.size (fun k_ => some k_ ≠ (u373002 : Value).ownBlock) (.slice Ao9 t366.length co9) t366) ∧ Aside0 (Kd.R (Kd.int .i64) 3 w' w.heap.size (fun k_ => some k_ ≠ ((.slice Ao9 t366.length co9) : Value).ownBlock) u373002 x373002_1) ∧ Aside0 (w'.heap[gb365]? = some (.cells #[(.slice none 0 0), .int .i64 0, (.slice none 0 0)] 25 (0, 0))) ∧ Aside0 (w'.heap[gb372]? = some (.cells #[(.slice Ao9 t366.length co9), .int .i64 (wrap64 (t370 - 1)), u373002] 25 (0, 0))) ∧ Aside0 (IsS126 w0 w' g s0_0 x1001_1) ∧ Aside0 (KeepBut w w' g none) ∧ Aside0 (Below w0.heap.size w0 w'))
 case atStart => exact ⟨(t373), (t374), (([] : List Int)), (.slice none 0 0), tx_, H', ⟨Nat.le_refl _⟩, ⟨by refine qR_ ?_; exact Kd.R_mono HO368.out (fun _ hk => (by simp [Value.ownBlock]))⟩, ⟨by first | exact Kd.R_nil _ _ _ _ _ | exact Kd.N_nil _ _ _ _ _ | exact Kd.V_nil _ _ _ _ _ | exact Kd.Q_nil _ _ _ _ _ | exact Kd.S_nil _ _ _ _ _⟩, ⟨tk_ BK365.out⟩, ⟨tk_ BK372.out⟩, ⟨by repeat (first | (with_reducible first | exact HI0.out | apply IsS126.alloc | apply IsS126.drewN | apply IsS126.drew | apply IsS126.set_1 | refine IsS126.far ?_ NB0_365.out _ | refine IsS126.far ?_ NB0_372.out _) | exact HI0.out)⟩, ⟨(tc_ HK.out)⟩, ⟨by repeat (first | (with_reducible first | exact HB.out | apply la_ | apply ln_ | apply ld_ | refine below_set ?_ (IsS126.ge HI0.out) | refine below_set ?_ GE365.out | refine below_set ?_ GE372.out) | exact HB.out)⟩⟩
 case round =>
  clear H'
  try clear c1
  try clear p2
  try clear p6
  try clear c9
  try clear c10
  try clear c11
  try clear c12
  try clear hcz13_0
  try clear hcz13_1
  try clear hcz13_2
  try clear hfz13_0
  try clear hfz13_1
  try clear hfz13_2
  obtain ⟨x6_1, x1001_1, x373002_1, u373002, rfl, HA, HK1, HO_373000, HO_373002, BK365, BK372, HI0, HK, HB⟩ := hrel
  cases gk with
  | zero => exact absurd HA.out (by simp [spec_l20Place.l0])
  | succ k1 =>
   have H := HA.out
   clear HA
   simp only [spec_l20Place.l0] at H
   by_cases c15 : x6_1 > 0
   ·
    rw [if_pos c15] at H
    have c15b0 : decide (0 < x6_1) = true := decide_eq_true c15
    clear c15
    obtain ⟨y375, hy375⟩ : ∃ y_ : List Int, y_ = (([] : List Int)) := ⟨_, rfl⟩
    replace H : (if y375.length + x373002_1.length < 17592186044416 then ((some (y375 ++ x373002_1 : List Int)).bind fun y378 => ((spec_l20Rd_pick.f k1 s0_0 x1001_1 (t366.length : Int)).bind fun bt381 => (if y378.length < 17592186044416 then ((some (y378 ++ [bt381.1] : List Int)).bind fun y383 => ((spec_PlaceOk.f k1 t366 (wrap64 (t370 - 1)) y383).bind fun t386 => (if t386 = true then (spec_l20Place.l0 k1 a1 (wrap64 (x6_1 - 1)) s0_0 bt381.2 t366 (wrap64 (t370 - 1)) y383) else (spec_l20Place.l0 k1 a1 (wrap64 (x6_1 - 1)) s0_0 bt381.2 t366 (wrap64 (t370 - 1)) x373002_1)))) else (none)))) else (none)) = some (r1, r2, r3, r4) := by first | (rw [hy375]; with_reducible exact H) | (have H2_ := (Option.bind_some _ _).symm.trans H; rw [hy375]; with_reducible exact H2_) | (have H2_ := (Option.bind_some _ _).symm.trans H; with_reducible exact H2_) | with_reducible exact H | (rw [hy375]; exact H) | exact H
    have Ny375 := Aside0.mk hy375
    clear hy375
    by_cases c16 : y375.length + x373002_1.length < 17592186044416
    ·
     rw [if_pos c16] at H
     have LMc16 := Aside0.mk c16
     clear c16
     obtain ⟨y378, hy378⟩ : ∃ y_ : List Int, y_ = (y375 ++ x373002_1) := ⟨_, rfl⟩
     replace H : ((spec_l20Rd_pick.f k1 s0_0 x1001_1 (t366.length : Int)).bind fun bt381 => (if y378.length < 17592186044416 then ((some (y378 ++ [bt381.1] : List Int)).bind fun y383 => ((spec_PlaceOk.f k1 t366 (wrap64 (t370 - 1)) y383).bind fun t386 => (if t386 = true then (spec_l20Place.l0 k1 a1 (wrap64 (x6_1 - 1)) s0_0 bt381.2 t366 (wrap64 (t370 - 1)) y383) else (spec_l20Place.l0 k1 a1 (wrap64 (x6_1 - 1)) s0_0 bt381.2 t366 (wrap64 (t370 - 1)) x373002_1)))) else (none))) = some (r1, r2, r3, r4) := by first | (rw [hy378]; with_reducible exact H) | (have H2_ := (Option.bind_some _ _).symm.trans H; rw [hy378]; with_reducible exact H2_) | (have H2_ := (Option.bind_some _ _).symm.trans H; with_reducible exact H2_) | with_reducible exact H | (rw [hy378]; exact H) | exact H
     have Ny378 := Aside0.mk hy378
     clear hy378
     replace H := Option.bind_eq_some_iff.mp H
     obtain ⟨⟨t381, t382⟩, A170, H⟩ := H
     replace H : (if y378.length < 17592186044416 then ((some (y378 ++ [t381] : List Int)).bind fun y383 => ((spec_PlaceOk.f k1 t366 (wrap64 (t370 - 1)) y383).bind fun t386 => (if t386 = true then (spec_l20Place.l0 k1 a1 (wrap64 (x6_1 - 1)) s0_0 t382 t366 (wrap64 (t370 - 1)) y383) else (spec_l20Place.l0 k1 a1 (wrap64 (x6_1 - 1)) s0_0 t382 t366 (wrap64 (t370 - 1)) x373002_1)))) else (none)) = some (r1, r2, r3, r4) := H
     have A17 := Aside0.mk A170
     clear A170
     by_cases c18 : y378.length < 17592186044416
     ·
      rw [if_pos c18] at H
      have LMc18 := Aside0.mk c18
      clear c18
      obtain ⟨y383, hy383⟩ : ∃ y_ : List Int, y_ = (y378 ++ [t381]) := ⟨_, rfl⟩
      replace H : ((spec_PlaceOk.f k1 t366 (wrap64 (t370 - 1)) y383).bind fun t386 => (if t386 = true then (spec_l20Place.l0 k1 a1 (wrap64 (x6_1 - 1)) s0_0 t382 t366 (wrap64 (t370 - 1)) y383) else (spec_l20Place.l0 k1 a1 (wrap64 (x6_1 - 1)) s0_0 t382 t366 (wrap64 (t370 - 1)) x373002_1))) = some (r1, r2, r3, r4) := by first | (rw [hy383]; with_reducible exact H) | (have H2_ := (Option.bind_some _ _).symm.trans H; rw [hy383]; with_reducible exact H2_) | (have H2_ := (Option.bind_some _ _).symm.trans H; with_reducible exact H2_) | with_reducible exact H | (rw [hy383]; exact H) | exact H
      have Ny383 := Aside0.mk hy383
      clear hy383
      replace H := Option.bind_eq_some_iff.mp H
      obtain ⟨t386, A190, H⟩ := H
      replace H : (if t386 = true then (spec_l20Place.l0 k1 a1 (wrap64 (x6_1 - 1)) s0_0 t382 t366 (wrap64 (t370 - 1)) y383) else (spec_l20Place.l0 k1 a1 (wrap64 (x6_1 - 1)) s0_0 t382 t366 (wrap64 (t370 - 1)) x373002_1)) = some (r1, r2, r3, r4) := H
      have A19 := Aside0.mk A190
      clear A190
      by_cases c20 : t386 = true
      ·
       subst c20
       have H1 : (spec_l20Place.l0 k1 a1 (wrap64 (x6_1 - 1)) s0_0 t382 t366 (wrap64 (t370 - 1)) y383) = some (r1, r2, r3, r4) := by rw [if_pos rfl] at H; exact H
       clear H
       have H := H1
       clear H1
       have H' := Aside0.mk H
       clear H
       try go_wp2
       have n0_ := Aside0.mk (Kd.R_drew HO_373000.out)
       have n1_ := Aside0.mk (Kd.R_drew HO_373002.out)
       have n2_ := Aside0.mk (blk_drew BK365.out)
       have n3_ := Aside0.mk (blk_drew BK372.out)
       have n4_ := Aside0.mk (IsS126.drew HI0.out)
       have n5_ := Aside0.mk (keep_drew HK.out)
       have n6_ := Aside0.mk (ld_ HB.out)
       clear HO_373000
       clear HO_373002
       clear BK365
       clear BK372
       clear HI0
       clear HK
       clear HB
       have HO_373000 := n0_
       have HO_373002 := n1_
       have BK365 := n2_
       have BK372 := n3_
       have HI0 := n4_
       have HK := n5_
       have HB := n6_
       clear n0_ n1_ n2_ n3_ n4_ n5_ n6_
       refine start_ (n := 12) (S := fun w' => w'.cell? ⟨gb372, 0, none⟩ = some (.slice Ao9 t366.length co9) ∧ w'.cell? ⟨gb372, 1, none⟩ = some (.int .i64 (wrap64 (t370 - 1))) ∧ w'.cell? ⟨gb372, 2, none⟩ = some (u373002)) (ds := []) #[false, false, false, false, false, false, false, false, false, false, false, false] (by kernel_rfl) rfl rfl ⟨(blk_cell BK372.out 0).trans rfl, (blk_cell BK372.out 1).trans rfl, (blk_cell BK372.out 2).trans rfl⟩ (fun hHeld => ?_); refine with_tabW spec_l20Place.tab5 spec_l20Place.bits5 (fun HT_ HW_ => ?_)
       generalize wr.drew = w21 at HO_373000 HO_373002 BK365 BK372 HI0 HK HB hHeld ⊢
       refine pure_ (i := 1) (N := some 21) (v := ?_) (a' := ?_) #[false, true, false, false, false, false, false, false, false, false, false, false] rfl rfl (any_of HT_.out (by kernel_rfl)) (fun _ _ _ h => h) (Or.inl ⟨by rfl, ?_⟩) ?_ ?_
       rotate_left
       ·
        intro w'
        go_simp
        first | with_reducible rfl | (rw [if_neg (by omega)]; done)
       rotate_left
       ·
        simp only [Act.put, sa_, sb_, sc_, i64_w, i32_w]
        rfl
       refine pure_ (i := 4) (N := some 24) (v := ?_) (a' := ?_) #[false, true, false, false, true, false, false, false, false, false, false, false] rfl rfl (any_of HT_.out (by kernel_rfl)) (fun _ _ _ h => h) (Or.inl ⟨by rfl, ?_⟩) ?_ ?_
       rotate_left
       ·
        intro w'
        go_simp
        first | with_reducible rfl | (rw [if_neg (by omega)]; done)
       rotate_left
       ·
        simp only [Act.put, sa_, sb_, sc_, i64_w, i32_w]
        rfl
       refine pure_ (i := 5) (N := some 25) (v := ?_) (a' := ?_) #[false, true, false, false, true, true, false, false, false, false, false, false] rfl rfl (any_of HT_.out (by kernel_rfl)) (fun _ _ _ h => h) (Or.inl ⟨by rfl, ?_⟩) ?_ ?_
       rotate_left
       ·
        intro w'
        go_simp
        first | with_reducible rfl | (rw [if_neg (by omega)]; done)
       rotate_left
       ·
        simp only [Act.put, sa_, sb_, sc_, i64_w, i32_w]
        rfl
       refine take_ (i := 2) (N := some 22) (v := ?_) (a' := ?_) #[false, true, true, false, true, true, false, false, false, false, false, false] rfl rfl (take_ofW HT_.out HW_.out (by kernel_rfl)) (fun _ _ _ h => h) (Or.inl ⟨by rfl, ?_⟩) hHeld ?_ ?_
       rotate_left
       ·
        rintro w' ⟨s0, s1, s2⟩
        go_simp
        first | with_reducible rfl | (rw [if_neg (by omega)]; done)
       rotate_left
       ·
        simp only [Act.put, sa_, sb_, sc_, i64_w, i32_w]
        rfl
       refine take_ (i := 6) (N := some 26) (v := ?_) (a' := ?_) #[false, true, true, false, true, true, true, false, false, false, false, false] rfl rfl (take_ofW HT_.out HW_.out (by kernel_rfl)) (fun _ _ _ h => h) (Or.inl ⟨by rfl, ?_⟩) hHeld ?_ ?_
       rotate_left
       ·
        rintro w' ⟨s0, s1, s2⟩
        go_simp
        first | with_reducible rfl | (rw [if_neg (by omega)]; done)
       rotate_left
       ·
        simp only [Act.put, sa_, sb_, sc_, i64_w, i32_w]
        rfl
       refine pure_ (i := 7) (N := some 27) (v := ?_) (a' := ?_) #[false, true, true, false, true, true, true, true, false, false, false, false] rfl rfl (any_of HT_.out (by kernel_rfl)) (fun _ _ _ h => h) (Or.inl ⟨by rfl, ?_⟩) ?_ ?_
       rotate_left
       ·
        intro w'
        go_simp
        first | with_reducible rfl | (rw [if_neg (by omega)]; done)
       rotate_left
       ·
        simp only [Act.put, sa_, sb_, sc_, i64_w, i32_w]
        rfl
       refine one_ (i := 0) (N := some 20) #[true, true, true, false, true, true, true, true, false, false, false, false] rfl rfl (one_of HT_.out (by kernel_rfl)) (by decide) (fun K hK => ?_)
       refine Kd.R_lit_step (Kd.int .i64) _ 3 ?hg (N := 20) ?hd (xs := ([] : List Int)) (inner := []) (ok := fun _ => True) (okp := fun _ => True) ?hr ?hp (fun _ hk => hk) trivial (Below.refl _ _) (Nat.le_refl _) (by simp) ?_; (case hd => rfl); (case hg => rfl); (case hr => first | (go_simp; done) | (go_simp; rfl)); (case hp => exact (Reps.none _ _))
       intro v376 w22 ho23 hb hg_ hnew_
       clear hg_ hnew_
       (first | rw [← Ny375.out] at ho23 | (simp only [Int.reduceToNat] at ho23; rw [← Ny375.out] at ho23))
       have n0_ := Aside0.mk (Kd.R_elder' (rR_ HO_373000.out) (Kd.R_base ho23) hb)
       have n1_ := Aside0.mk (Kd.R_elder' (rR_ HO_373002.out) (Kd.R_base ho23) hb)
       have n2_ := Aside0.mk (Kd.R_lower (Kd.R_new' (Kd.R_new' ho23 (Kd.R_lt (rR_ HO_373000.out))) (Kd.R_lt (rR_ HO_373002.out))) (keep_size (w := w) (g := g) (row := none) (tc_ HK.out)))
       have n3_ := Aside0.mk (blk_below (g := gb365) (o := .cells #[.slice none 0 0, .int .i64 0, .slice none 0 0] 25 (0, 0)) (tk_ BK365.out) hb)
       have n4_ := Aside0.mk (blk_below (g := gb372) (o := .cells #[.slice Ao9 t366.length co9, .int .i64 (wrap64 (t370 - 1)), u373002] 25 (0, 0)) (tk_ BK372.out) hb)
       have n5_ := Aside0.mk (IsS126.below (by repeat (first | (with_reducible first | exact HI0.out | apply IsS126.alloc | apply IsS126.drewN | apply IsS126.drew | apply IsS126.set_1 | refine IsS126.far ?_ NB0_365.out _ | refine IsS126.far ?_ NB0_372.out _) | exact HI0.out)) hb)
       have n6_ := Aside0.mk (KeepBut.trans (tc_ HK.out) (KeepBut.of_below hb g none) (.inl rfl))
       have n7_ := Aside0.mk (below_step (by repeat (first | (with_reducible first | exact HB.out | apply la_ | apply ln_ | apply ld_ | refine below_set ?_ (IsS126.ge HI0.out) | refine below_set ?_ GE365.out | refine below_set ?_ GE372.out) | exact HB.out)) hb)
       clear HO_373000
       clear HO_373002
       clear BK365
       clear BK372
       clear HI0
       clear HK
       clear HB
       have HO_373000 := n0_
       have HO_373002 := n1_
       have HO377 := n2_
       have BK365 := n3_
       have BK372 := n4_
       have HI0 := n5_
       have HK := n6_
       have HB := n7_
       clear n0_ n1_ n2_ n3_ n4_ n5_ n6_ n7_
       clear hb ho23
       obtain ⟨Ao25, co25, eo25⟩ := Kd.R_slice HO_373002.out
       (first | subst eo25 | (injection eo25 with f1_ f2_ f3_; have f4_ := f1_.symm; have f5_ := f3_.symm; clear f1_ f2_ f3_; subst f4_; subst f5_))
       refine hK.out _ _ ⟨(blk_cell BK372.out 0).trans rfl, (blk_cell BK372.out 1).trans rfl, (blk_cell BK372.out 2).trans rfl⟩ (fun hHeld => ?_)
       clear hK K
       refine norm_ (a' := ?_) ?_ ?_
       rotate_left
       ·
        show Act.put _ (some 20) _ = _
        simp only [Act.put, sa_, sb_, sc_, i64_w, i32_w]
        rfl
       refine one_ (i := 3) (N := some 23) #[true, true, true, true, true, true, true, true, false, false, false, false] rfl rfl (one_of HT_.out (by kernel_rfl)) (by decide) (fun K hK => ?_)
       refine Kd.R_append_rows_step (Kd.int .i64) w.heap.size (by rfl) (.tmp 20) (.tmp 22) 23 3 (.int .i64 0) 8 rfl Tryd.underlying23 info3 rfl (by decide) (by omega) v376 y375 x373002_1 _ _ _ (fun k_ => some k_ ≠ (.slice Ao9 t366.length co9 : Value).ownBlock ∧ some k_ ≠ (.slice Ao25 x373002_1.length co25 : Value).ownBlock) (fun _ => False) rfl rfl ?aO ?aR (fun _ _ h => h) (fun _ h => h.elim) ?aF (Below.refl _ _) ?aS ?aL ?_
       (case aR => repeat (first | exact (Kd.R_reads' HO_373002.out).2.2 | (with_reducible refine Kd.C_alloc ?_ _) | (with_reducible refine Kd.C_drewN ?_ _) | (with_reducible refine Kd.C_drew ?_)))
       (case aF => exact (fun k_ hk => ⟨Kd.fresh' (Kd.R_lt (rR_ HO_373000.out)) k_ hk, Kd.fresh' (Kd.R_lt (rR_ HO_373002.out)) k_ hk⟩))
       (case aO => exact (by refine qR_ ?_; exact Kd.R_mono HO377.out (fun _ hk => ⟨hk.1.2, hk.2⟩)))
       (case aS => exact (keep_size (w := w) (g := g) (row := none) (tc_ HK.out)))
       (case aL => have := LMc16.out; omega)
       intro v379 w24 ho hb hg hat
       rw [← Ny378.out] at ho
       have n0_ := Aside0.mk (Kd.R_after (ok := (fun k_ => some k_ ≠ (.slice Ao25 x373002_1.length co25 : Value).ownBlock)) (rR_ HO_373000.out) hg hat)
       have n1_ := Aside0.mk (Kd.R_after (ok := (fun k_ => some k_ ≠ (.slice Ao9 t366.length co9 : Value).ownBlock)) (rR_ HO_373002.out) hg hat)
       have n2_ := Aside0.mk (blk_grown (g := gb365) (o := .cells #[.slice none 0 0, .int .i64 0, .slice none 0 0] 25 (0, 0)) (tk_ BK365.out) hg (Kd.R_ne HO377.out BK365.out (by decide)))
       have n3_ := Aside0.mk (blk_grown (g := gb372) (o := .cells #[.slice Ao9 t366.length co9, .int .i64 (wrap64 (t370 - 1)), .slice Ao25 x373002_1.length co25] 25 (0, 0)) (tk_ BK372.out) hg (Kd.R_ne HO377.out BK372.out (by decide)))
       have n4_ := Aside0.mk (IsS126.grown (by repeat (first | (with_reducible first | exact HI0.out | apply IsS126.alloc | apply IsS126.drewN | apply IsS126.drew | apply IsS126.set_1 | refine IsS126.far ?_ NB0_365.out _ | refine IsS126.far ?_ NB0_372.out _) | exact HI0.out)) hg (IsS126.own_ne HI0.out HO377.out (by decide)))
       have n5_ := Aside0.mk (below_weaken (by repeat (first | (with_reducible first | exact HB.out | apply la_ | apply ln_ | apply ld_ | refine below_set ?_ (IsS126.ge HI0.out) | refine below_set ?_ GE365.out | refine below_set ?_ GE372.out) | exact HB.out)) HL.out hb)
       have n6_ := Aside0.mk (KeepBut.trans (tc_ HK.out) (KeepBut.of_grown hg g) (Kd.R_base2 HO377.out))
       have n7_ := Aside0.mk (ho)
       clear HO_373000
       clear HO_373002
       clear BK365
       clear BK372
       clear HI0
       clear HB
       clear HK
       clear HO377
       have HO_373000 := n0_
       have HO_373002 := n1_
       have BK365 := n2_
       have BK372 := n3_
       have HI0 := n4_
       have HB := n5_
       have HK := n6_
       have HO380 := n7_
       clear n0_ n1_ n2_ n3_ n4_ n5_ n6_ n7_
       clear ho hb hg hat
       refine hK.out _ _ ⟨(blk_cell BK372.out 0).trans rfl, (blk_cell BK372.out 1).trans rfl, (blk_cell BK372.out 2).trans rfl⟩ (fun hHeld => ?_)
       clear hK K
       refine norm_ (a' := ?_) ?_ ?_
       rotate_left
       ·
        show Act.put _ (some 23) _ = _
        simp only [Act.put, sa_, sb_, sc_, i64_w, i32_w]
        rfl
       refine one_ (i := 8) (N := some 28) #[true, true, true, true, true, true, true, true, true, false, false, false] rfl rfl (one_of HT_.out (by kernel_rfl)) (by decide) (fun K hK => ?_)
       refine goes_ Tryd.func101 (by kernel_rfl) rfl #[.pointer (some ⟨g, 0, none⟩), .int .i64 (t366.length : Int)] (by rfl) rfl rfl tz_ ?_
       with_reducible refine (spec_l20Rd_pick.calls k1 g s0_0 x1001_1 (t366.length : Int) t381 t382 w0 _ ?side1 ?side2 A17.out).mono ?_
       (case side1 => repeat (first | (with_reducible first | exact HI0.out | apply IsS126.alloc | apply IsS126.drewN | apply IsS126.drew | apply IsS126.set_1 | refine IsS126.far ?_ NB0_365.out _ | refine IsS126.far ?_ NB0_372.out _) | exact HI0.out))
       (case side2 => repeat (first | (with_reducible first | exact HB.out | apply la_ | apply ln_ | apply ld_ | refine below_set ?_ (IsS126.ge HI0.out) | refine below_set ?_ GE365.out | refine below_set ?_ GE372.out) | exact HB.out))
       rintro e w26 ⟨rfl, hi, hb, hk⟩
       refine ⟨_, rfl, ?_⟩
       have n0_ := Aside0.mk (Kd.R_mono (Kd.R_keep (IsS126.apart (show IsS126 w0 _ g s0_0 x1001_1 from by repeat (first | (with_reducible first | exact HI0.out | apply IsS126.alloc | apply IsS126.drewN | apply IsS126.drew | apply IsS126.set_1 | refine IsS126.far ?_ NB0_365.out _ | refine IsS126.far ?_ NB0_372.out _) | exact HI0.out)) (rR_ HO_373000.out) (by decide)) hk (fun _ h => h.2)) (fun _ h => h.1))
       have n1_ := Aside0.mk (Kd.R_mono (Kd.R_keep (IsS126.apart (show IsS126 w0 _ g s0_0 x1001_1 from by repeat (first | (with_reducible first | exact HI0.out | apply IsS126.alloc | apply IsS126.drewN | apply IsS126.drew | apply IsS126.set_1 | refine IsS126.far ?_ NB0_365.out _ | refine IsS126.far ?_ NB0_372.out _) | exact HI0.out)) (rR_ HO_373002.out) (by decide)) hk (fun _ h => h.2)) (fun _ h => h.1))
       have n2_ := Aside0.mk (KeepBut.blk hk (g' := gb365) (o := .cells #[.slice none 0 0, .int .i64 0, .slice none 0 0] 25 (0, 0)) (tk_ BK365.out) NB365_0.out (by simp))
       have n3_ := Aside0.mk (KeepBut.blk hk (g' := gb372) (o := .cells #[.slice Ao9 t366.length co9, .int .i64 (wrap64 (t370 - 1)), .slice Ao25 x373002_1.length co25] 25 (0, 0)) (tk_ BK372.out) NB372_0.out (by simp))
       have n4_ := Aside0.mk (Kd.R_mono (Kd.R_keep (IsS126.apart (show IsS126 w0 _ g s0_0 x1001_1 from by repeat (first | (with_reducible first | exact HI0.out | apply IsS126.alloc | apply IsS126.drewN | apply IsS126.drew | apply IsS126.set_1 | refine IsS126.far ?_ NB0_365.out _ | refine IsS126.far ?_ NB0_372.out _) | exact HI0.out)) (rR_ HO380.out) (by decide)) hk (fun _ h => h.2)) (fun _ h => h.1))
       have n5_ := Aside0.mk (KeepBut.trans (tc_ HK.out) hk (.inl rfl))
       have n6_ := Aside0.mk (hb)
       have n7_ := Aside0.mk (hi)
       clear HO_373000
       clear HO_373002
       clear BK365
       clear BK372
       clear HO380
       clear HK
       clear HB
       clear HI0
       have HO_373000 := n0_
       have HO_373002 := n1_
       have BK365 := n2_
       have BK372 := n3_
       have HO380 := n4_
       have HK := n5_
       have HB := n6_
       have HI0 := n7_
       clear n0_ n1_ n2_ n3_ n4_ n5_ n6_ n7_
       (try clear hb)
       (try clear hb2)
       (try clear hk)
       (try clear hi)
       refine hK.out _ _ ⟨(blk_cell BK372.out 0).trans rfl, (blk_cell BK372.out 1).trans rfl, (blk_cell BK372.out 2).trans rfl⟩ (fun hHeld => ?_)
       clear hK K
       refine norm_ (a' := ?_) ?_ ?_
       rotate_left
       ·
        show Act.put _ (some 28) _ = _
        simp only [Act.put, sa_, sb_, sc_, i64_w, i32_w]
        rfl
       refine one_ (i := 9) (N := some 29) #[true, true, true, true, true, true, true, true, true, true, false, false] rfl rfl (one_of HT_.out (by kernel_rfl)) (by decide) (fun K hK => ?_)
       refine value_ (w1 := ?_) (v := ?_) (by rfl) rfl ?_ ?_
       rotate_left 2
       ·
        go_simp
        constructor
        ·
         rfl
        ·
         rfl
       refine hK.out _ _ ⟨(blk_cell (blk_alloc BK372.out _) 0).trans rfl, (blk_cell (blk_alloc BK372.out _) 1).trans rfl, (blk_cell (blk_alloc BK372.out _) 2).trans rfl⟩ (fun hHeld => ?_)
       clear hK K
       refine norm_ (a' := ?_) ?_ ?_
       rotate_left
       ·
        show Act.put _ (some 29) _ = _
        simp only [Act.put, sa_, sb_, sc_, i64_w, i32_w]
        rfl
       refine one_ (i := 10) (N := some 30) #[true, true, true, true, true, true, true, true, true, true, true, false] rfl rfl (one_of HT_.out (by kernel_rfl)) (by decide) (fun K hK => ?_)
       refine Kd.R_append_step (Kd.int .i64) w.heap.size (by rfl) (.tmp 23) (.tmp 29) 23 3 (.int .i64 0) 8 rfl Tryd.underlying23 info3 rfl (by decide) (by omega) v379 y378 t381 [.int .i64 t381] (fun k_ => some k_ ≠ (.slice Ao9 t366.length co9 : Value).ownBlock ∧ some k_ ≠ (.slice Ao25 x373002_1.length co25 : Value).ownBlock) (fun _ => False) rfl rfl ?aP (fun _ hk => hk.elim) ?aF ?aO (Below.refl _ _) ?aS ?aL ?_
       (case aP => exact rfl)
       (case aF => exact (fun k_ hk => ⟨Kd.fresh' (Kd.R_lt (rR_ HO_373000.out)) k_ hk, Kd.fresh' (Kd.R_lt (rR_ HO_373002.out)) k_ hk⟩))
       (case aO => exact (rR_ HO380.out))
       (case aS => exact (keep_size (w := w) (g := g) (row := none) (tc_ HK.out)))
       (case aL => have := LMc18.out; omega)
       intro v384 w27 ho hb hg hat
       rw [← Ny383.out] at ho
       have n0_ := Aside0.mk (Kd.R_after (ok := (fun k_ => some k_ ≠ (.slice Ao25 x373002_1.length co25 : Value).ownBlock)) (rR_ HO_373000.out) hg hat)
       have n1_ := Aside0.mk (Kd.R_after (ok := (fun k_ => some k_ ≠ (.slice Ao9 t366.length co9 : Value).ownBlock)) (rR_ HO_373002.out) hg hat)
       have n2_ := Aside0.mk (blk_grown (g := gb365) (o := .cells #[.slice none 0 0, .int .i64 0, .slice none 0 0] 25 (0, 0)) (tk_ BK365.out) hg (Kd.R_ne HO380.out BK365.out (by decide)))
       have n3_ := Aside0.mk (blk_grown (g := gb372) (o := .cells #[.slice Ao9 t366.length co9, .int .i64 (wrap64 (t370 - 1)), .slice Ao25 x373002_1.length co25] 25 (0, 0)) (tk_ BK372.out) hg (Kd.R_ne HO380.out BK372.out (by decide)))
       have n4_ := Aside0.mk (IsS126.grown (by repeat (first | (with_reducible first | exact HI0.out | apply IsS126.alloc | apply IsS126.drewN | apply IsS126.drew | apply IsS126.set_1 | refine IsS126.far ?_ NB0_365.out _ | refine IsS126.far ?_ NB0_372.out _) | exact HI0.out)) hg (IsS126.own_ne HI0.out HO380.out (by decide)))
       have n5_ := Aside0.mk (below_weaken (by repeat (first | (with_reducible first | exact HB.out | apply la_ | apply ln_ | apply ld_ | refine below_set ?_ (IsS126.ge HI0.out) | refine below_set ?_ GE365.out | refine below_set ?_ GE372.out) | exact HB.out)) HL.out hb)
       have n6_ := Aside0.mk (KeepBut.trans (tc_ HK.out) (KeepBut.of_grown hg g) (Kd.R_base2 HO380.out))
       have n7_ := Aside0.mk (ho)
       clear HO_373000
       clear HO_373002
       clear BK365
       clear BK372
       clear HI0
       clear HB
       clear HK
       clear HO380
       have HO_373000 := n0_
       have HO_373002 := n1_
       have BK365 := n2_
       have BK372 := n3_
       have HI0 := n4_
       have HB := n5_
       have HK := n6_
       have HO385 := n7_
       clear n0_ n1_ n2_ n3_ n4_ n5_ n6_ n7_
       clear ho hb hg hat
       refine hK.out _ _ ⟨(blk_cell BK372.out 0).trans rfl, (blk_cell BK372.out 1).trans rfl, (blk_cell BK372.out 2).trans rfl⟩ (fun hHeld => ?_)
       clear hK K
       refine norm_ (a' := ?_) ?_ ?_
       rotate_left
       ·
        show Act.put _ (some 30) _ = _
        simp only [Act.put, sa_, sb_, sc_, i64_w, i32_w]
        rfl
       refine pure_ (i := 11) (N := some 7) (v := ?_) (a' := ?_) #[true, true, true, true, true, true, true, true, true, true, true, true] rfl rfl (any_of HT_.out (by kernel_rfl)) (fun _ _ _ h => h) (Or.inl ⟨by rfl, ?_⟩) ?_ ?_
       rotate_left
       ·
        intro w'
        go_simp
        first | with_reducible rfl | (rw [if_neg (by omega)]; done)
       rotate_left
       ·
        simp only [Act.put, sa_, sb_, sc_, i64_w, i32_w]
        rfl
       refine done_ (done_of HT_.out (by kernel_rfl)) ?_
       have hnb28 := NB372_365.out
       have hnc28 := NB365_372.out
       have hnb29 := NB372_0.out
       have hnc29 := NB0_372.out
       have hcz30_0 : w27.cell? ⟨gb372, 0, none⟩ = some (.slice Ao9 t366.length co9) := (blk_cell BK372.out 0).trans rfl
       have hcz30_1 : w27.cell? ⟨gb372, 1, none⟩ = some (.int .i64 (wrap64 (t370 - 1))) := (blk_cell BK372.out 1).trans rfl
       have hcz30_2 : w27.cell? ⟨gb372, 2, none⟩ = some (.slice Ao25 x373002_1.length co25) := (blk_cell BK372.out 2).trans rfl
       have hfz30_0 := blk_frozen BK372.out 0
       have hfz30_1 := blk_frozen BK372.out 1
       have hfz30_2 := blk_frozen BK372.out 2
       obtain ⟨Ao31, co31, eo31⟩ := Kd.R_slice HO385.out
       subst eo31
       try go_wp2_with (first | ((with_reducible refine gate_callee (f := 73) rfl ?_); refine goesL_ (some 37) rfl rfl Tryd.func73 (by kernel_rfl) rfl #[.agg #[.slice Ao9 t366.length co9, .int .i64 (wrap64 (t370 - 1)), .slice Ao31 y383.length co31]] rfl tz_ ?_; (with_reducible refine (spec_PlaceOk.calls k1 _ _ t366 (wrap64 (t370 - 1)) _ _ y383 true _ ?side1 ?side2 ?side3 ?side4 A19.out).mono ?_); (case side1 => repeat (first | exact (Kd.R_reads' HO_373000.out).2.2 | (with_reducible refine Kd.C_alloc ?_ _) | (with_reducible refine Kd.C_drewN ?_ _) | (with_reducible refine Kd.C_drew ?_))); (case side2 => exact (Kd.R_reads' HO_373000.out).2.1); (case side3 => repeat (first | exact (Kd.R_reads' HO385.out).2.2 | (with_reducible refine Kd.C_alloc ?_ _) | (with_reducible refine Kd.C_drewN ?_ _) | (with_reducible refine Kd.C_drew ?_))); (case side4 => exact (Kd.R_reads' HO385.out).2.1); rintro e w32 ⟨rfl, hb⟩; refine ⟨_, rfl, ?_⟩; have n0_ := Aside0.mk (Kd.R_below (rR_ HO_373000.out) hb); have n1_ := Aside0.mk (Kd.R_below (rR_ HO_373002.out) hb); have n2_ := Aside0.mk (Kd.R_below (rR_ HO385.out) hb); have n3_ := Aside0.mk (blk_below (g := gb365) (o := .cells #[.slice none 0 0, .int .i64 0, .slice none 0 0] 25 (0, 0)) (tk_ BK365.out) hb); have n4_ := Aside0.mk (blk_below (g := gb372) (o := .cells #[.slice Ao9 t366.length co9, .int .i64 (wrap64 (t370 - 1)), .slice Ao25 x373002_1.length co25] 25 (0, 0)) (tk_ BK372.out) hb); have n5_ := Aside0.mk (IsS126.below (by repeat (first | (with_reducible first | exact HI0.out | apply IsS126.alloc | apply IsS126.drewN | apply IsS126.drew | apply IsS126.set_1 | refine IsS126.far ?_ NB0_365.out _ | refine IsS126.far ?_ NB0_372.out _) | exact HI0.out)) hb); have n6_ := Aside0.mk (KeepBut.trans (tc_ HK.out) (KeepBut.of_below hb g none) (.inl rfl)); have n7_ := Aside0.mk (below_step (by repeat (first | (with_reducible first | exact HB.out | apply la_ | apply ln_ | apply ld_ | refine below_set ?_ (IsS126.ge HI0.out) | refine below_set ?_ GE365.out | refine below_set ?_ GE372.out) | exact HB.out)) hb); clear HO_373000 HO_373002 HO385 BK365 BK372 HI0 HK HB; have HO_373000 := n0_; have HO_373002 := n1_; have HO385 := n2_; have BK365 := n3_; have BK372 := n4_; have HI0 := n5_; have HK := n6_; have HB := n7_; clear n0_ n1_ n2_ n3_ n4_ n5_ n6_ n7_; (try clear hb); (try clear hb2); (try clear hk); (try clear hi); have hcz33_0 : w32.cell? ⟨gb372, 0, none⟩ = some (.slice Ao9 t366.length co9) := (blk_cell BK372.out 0).trans rfl; have hcz33_1 : w32.cell? ⟨gb372, 1, none⟩ = some (.int .i64 (wrap64 (t370 - 1))) := (blk_cell BK372.out 1).trans rfl; have hcz33_2 : w32.cell? ⟨gb372, 2, none⟩ = some (.slice Ao25 x373002_1.length co25) := (blk_cell BK372.out 2).trans rfl; have hfz33_0 := blk_frozen BK372.out 0; have hfz33_1 := blk_frozen BK372.out 1; have hfz33_2 := blk_frozen BK372.out 2))
       go_roundg k1
       case measure => have := HK1.out; omega
       case rel => exact ⟨(wrap64 (x6_1 - 1)), (t382), (y383), (.slice Ao31 y383.length co31), tx_, H', ⟨by have := HK1.out; omega⟩, ⟨by refine qR_ ?_; exact Kd.R_mono (Kd.R_far (p := ⟨gb372, 2, none⟩) (Kd.R_types HO_373000.out BK372.out (by decide)) (fun _ hk => hk.2) (.slice Ao31 y383.length co31)) (fun _ hk => hk.1.2)⟩, ⟨by refine qR_ ?_; exact Kd.R_mono (Kd.R_far (p := ⟨gb372, 2, none⟩) (Kd.R_types HO385.out BK372.out (by decide)) (fun _ hk => hk.2) (.slice Ao31 y383.length co31)) (fun _ hk => hk.1.1)⟩, ⟨tk_ BK365.out⟩, ⟨by refine bq_ ?_; refine blk_put (cs := #[.slice Ao9 t366.length co9, .int .i64 (wrap64 (t370 - 1)), .slice Ao25 x373002_1.length co25]) ?_ 2 _ rfl; exact tk_ BK372.out⟩, ⟨by repeat (first | (with_reducible first | exact HI0.out | apply IsS126.alloc | apply IsS126.drewN | apply IsS126.drew | apply IsS126.set_1 | refine IsS126.far ?_ NB0_365.out _ | refine IsS126.far ?_ NB0_372.out _) | exact HI0.out)⟩, ⟨(tc_ HK.out)⟩, ⟨by repeat (first | (with_reducible first | exact HB.out | apply la_ | apply ln_ | apply ld_ | refine below_set ?_ (IsS126.ge HI0.out) | refine below_set ?_ GE365.out | refine below_set ?_ GE372.out) | exact HB.out)⟩⟩
      ·
       replace c20 := Bool.eq_false_iff.mpr c20
       subst c20
       have H1 : (spec_l20Place.l0 k1 a1 (wrap64 (x6_1 - 1)) s0_0 t382 t366 (wrap64 (t370 - 1)) x373002_1) = some (r1, r2, r3, r4) := by rw [if_neg (show ¬ (false = true) by decide)] at H; exact H
       clear H
       have H := H1
       clear H1
       have H' := Aside0.mk H
       clear H
       try go_wp2
       have n0_ := Aside0.mk (Kd.R_drew HO_373000.out)
       have n1_ := Aside0.mk (Kd.R_drew HO_373002.out)
       have n2_ := Aside0.mk (blk_drew BK365.out)
       have n3_ := Aside0.mk (blk_drew BK372.out)
       have n4_ := Aside0.mk (IsS126.drew HI0.out)
       have n5_ := Aside0.mk (keep_drew HK.out)
       have n6_ := Aside0.mk (ld_ HB.out)
       clear HO_373000
       clear HO_373002
       clear BK365
       clear BK372
       clear HI0
       clear HK
       clear HB
       have HO_373000 := n0_
       have HO_373002 := n1_
       have BK365 := n2_
       have BK372 := n3_
       have HI0 := n4_
       have HK := n5_
       have HB := n6_
       clear n0_ n1_ n2_ n3_ n4_ n5_ n6_
       refine start_ (n := 12) (S := fun w' => w'.cell? ⟨gb372, 0, none⟩ = some (.slice Ao9 t366.length co9) ∧ w'.cell? ⟨gb372, 1, none⟩ = some (.int .i64 (wrap64 (t370 - 1))) ∧ w'.cell? ⟨gb372, 2, none⟩ = some (u373002)) (ds := []) #[false, false, false, false, false, false, false, false, false, false, false, false] (by kernel_rfl) rfl rfl ⟨(blk_cell BK372.out 0).trans rfl, (blk_cell BK372.out 1).trans rfl, (blk_cell BK372.out 2).trans rfl⟩ (fun hHeld => ?_); refine with_tabW spec_l20Place.tab5 spec_l20Place.bits5 (fun HT_ HW_ => ?_)
       generalize wr.drew = w34 at HO_373000 HO_373002 BK365 BK372 HI0 HK HB hHeld ⊢
       refine pure_ (i := 1) (N := some 21) (v := ?_) (a' := ?_) #[false, true, false, false, false, false, false, false, false, false, false, false] rfl rfl (any_of HT_.out (by kernel_rfl)) (fun _ _ _ h => h) (Or.inl ⟨by rfl, ?_⟩) ?_ ?_
       rotate_left
       ·
        intro w'
        go_simp
        first | with_reducible rfl | (rw [if_neg (by omega)]; done)
       rotate_left
       ·
        simp only [Act.put, sa_, sb_, sc_, i64_w, i32_w]
        rfl
       refine pure_ (i := 4) (N := some 24) (v := ?_) (a' := ?_) #[false, true, false, false, true, false, false, false, false, false, false, false] rfl rfl (any_of HT_.out (by kernel_rfl)) (fun _ _ _ h => h) (Or.inl ⟨by rfl, ?_⟩) ?_ ?_
       rotate_left
       ·
        intro w'
        go_simp
        first | with_reducible rfl | (rw [if_neg (by omega)]; done)
       rotate_left
       ·
        simp only [Act.put, sa_, sb_, sc_, i64_w, i32_w]
        rfl
       refine pure_ (i := 5) (N := some 25) (v := ?_) (a' := ?_) #[false, true, false, false, true, true, false, false, false, false, false, false] rfl rfl (any_of HT_.out (by kernel_rfl)) (fun _ _ _ h => h) (Or.inl ⟨by rfl, ?_⟩) ?_ ?_
       rotate_left
       ·
        intro w'
        go_simp
        first | with_reducible rfl | (rw [if_neg (by omega)]; done)
       rotate_left
       ·
        simp only [Act.put, sa_, sb_, sc_, i64_w, i32_w]
        rfl
       refine take_ (i := 2) (N := some 22) (v := ?_) (a' := ?_) #[false, true, true, false, true, true, false, false, false, false, false, false] rfl rfl (take_ofW HT_.out HW_.out (by kernel_rfl)) (fun _ _ _ h => h) (Or.inl ⟨by rfl, ?_⟩) hHeld ?_ ?_
       rotate_left
       ·
        rintro w' ⟨s0, s1, s2⟩
        go_simp
        first | with_reducible rfl | (rw [if_neg (by omega)]; done)
       rotate_left
       ·
        simp only [Act.put, sa_, sb_, sc_, i64_w, i32_w]
        rfl
       refine take_ (i := 6) (N := some 26) (v := ?_) (a' := ?_) #[false, true, true, false, true, true, true, false, false, false, false, false] rfl rfl (take_ofW HT_.out HW_.out (by kernel_rfl)) (fun _ _ _ h => h) (Or.inl ⟨by rfl, ?_⟩) hHeld ?_ ?_
       rotate_left
       ·
        rintro w' ⟨s0, s1, s2⟩
        go_simp
        first | with_reducible rfl | (rw [if_neg (by omega)]; done)
       rotate_left
       ·
        simp only [Act.put, sa_, sb_, sc_, i64_w, i32_w]
        rfl
       refine pure_ (i := 7) (N := some 27) (v := ?_) (a' := ?_) #[false, true, true, false, true, true, true, true, false, false, false, false] rfl rfl (any_of HT_.out (by kernel_rfl)) (fun _ _ _ h => h) (Or.inl ⟨by rfl, ?_⟩) ?_ ?_
       rotate_left
       ·
        intro w'
        go_simp
        first | with_reducible rfl | (rw [if_neg (by omega)]; done)
       rotate_left
       ·
        simp only [Act.put, sa_, sb_, sc_, i64_w, i32_w]
        rfl
       refine one_ (i := 0) (N := some 20) #[true, true, true, false, true, true, true, true, false, false, false, false] rfl rfl (one_of HT_.out (by kernel_rfl)) (by decide) (fun K hK => ?_)
       refine Kd.R_lit_step (Kd.int .i64) _ 3 ?hg (N := 20) ?hd (xs := ([] : List Int)) (inner := []) (ok := fun _ => True) (okp := fun _ => True) ?hr ?hp (fun _ hk => hk) trivial (Below.refl _ _) (Nat.le_refl _) (by simp) ?_; (case hd => rfl); (case hg => rfl); (case hr => first | (go_simp; done) | (go_simp; rfl)); (case hp => exact (Reps.none _ _))
       intro v376 w35 ho36 hb hg_ hnew_
       clear hg_ hnew_
       (first | rw [← Ny375.out] at ho36 | (simp only [Int.reduceToNat] at ho36; rw [← Ny375.out] at ho36))
       have n0_ := Aside0.mk (Kd.R_elder' (rR_ HO_373000.out) (Kd.R_base ho36) hb)
       have n1_ := Aside0.mk (Kd.R_elder' (rR_ HO_373002.out) (Kd.R_base ho36) hb)
       have n2_ := Aside0.mk (Kd.R_lower (Kd.R_new' (Kd.R_new' ho36 (Kd.R_lt (rR_ HO_373000.out))) (Kd.R_lt (rR_ HO_373002.out))) (keep_size (w := w) (g := g) (row := none) (tc_ HK.out)))
       have n3_ := Aside0.mk (blk_below (g := gb365) (o := .cells #[.slice none 0 0, .int .i64 0, .slice none 0 0] 25 (0, 0)) (tk_ BK365.out) hb)
       have n4_ := Aside0.mk (blk_below (g := gb372) (o := .cells #[.slice Ao9 t366.length co9, .int .i64 (wrap64 (t370 - 1)), u373002] 25 (0, 0)) (tk_ BK372.out) hb)
       have n5_ := Aside0.mk (IsS126.below (by repeat (first | (with_reducible first | exact HI0.out | apply IsS126.alloc | apply IsS126.drewN | apply IsS126.drew | apply IsS126.set_1 | refine IsS126.far ?_ NB0_365.out _ | refine IsS126.far ?_ NB0_372.out _) | exact HI0.out)) hb)
       have n6_ := Aside0.mk (KeepBut.trans (tc_ HK.out) (KeepBut.of_below hb g none) (.inl rfl))
       have n7_ := Aside0.mk (below_step (by repeat (first | (with_reducible first | exact HB.out | apply la_ | apply ln_ | apply ld_ | refine below_set ?_ (IsS126.ge HI0.out) | refine below_set ?_ GE365.out | refine below_set ?_ GE372.out) | exact HB.out)) hb)
       clear HO_373000
       clear HO_373002
       clear BK365
       clear BK372
       clear HI0
       clear HK
       clear HB
       have HO_373000 := n0_
       have HO_373002 := n1_
       have HO377 := n2_
       have BK365 := n3_
       have BK372 := n4_
       have HI0 := n5_
       have HK := n6_
       have HB := n7_
       clear n0_ n1_ n2_ n3_ n4_ n5_ n6_ n7_
       clear hb ho36
       obtain ⟨Ao38, co38, eo38⟩ := Kd.R_slice HO_373002.out
       (first | subst eo38 | (injection eo38 with f1_ f2_ f3_; have f4_ := f1_.symm; have f5_ := f3_.symm; clear f1_ f2_ f3_; subst f4_; subst f5_))
       refine hK.out _ _ ⟨(blk_cell BK372.out 0).trans rfl, (blk_cell BK372.out 1).trans rfl, (blk_cell BK372.out 2).trans rfl⟩ (fun hHeld => ?_)
       clear hK K
       refine norm_ (a' := ?_) ?_ ?_
       rotate_left
       ·
        show Act.put _ (some 20) _ = _
        simp only [Act.put, sa_, sb_, sc_, i64_w, i32_w]
        rfl
       refine one_ (i := 3) (N := some 23) #[true, true, true, true, true, true, true, true, false, false, false, false] rfl rfl (one_of HT_.out (by kernel_rfl)) (by decide) (fun K hK => ?_)
       refine Kd.R_append_rows_step (Kd.int .i64) w.heap.size (by rfl) (.tmp 20) (.tmp 22) 23 3 (.int .i64 0) 8 rfl Tryd.underlying23 info3 rfl (by decide) (by omega) v376 y375 x373002_1 _ _ _ (fun k_ => some k_ ≠ (.slice Ao9 t366.length co9 : Value).ownBlock ∧ some k_ ≠ (.slice Ao38 x373002_1.length co38 : Value).ownBlock) (fun _ => False) rfl rfl ?aO ?aR (fun _ _ h => h) (fun _ h => h.elim) ?aF (Below.refl _ _) ?aS ?aL ?_
       (case aR => repeat (first | exact (Kd.R_reads' HO_373002.out).2.2 | (with_reducible refine Kd.C_alloc ?_ _) | (with_reducible refine Kd.C_drewN ?_ _) | (with_reducible refine Kd.C_drew ?_)))
       (case aF => exact (fun k_ hk => ⟨Kd.fresh' (Kd.R_lt (rR_ HO_373000.out)) k_ hk, Kd.fresh' (Kd.R_lt (rR_ HO_373002.out)) k_ hk⟩))
       (case aO => exact (by refine qR_ ?_; exact Kd.R_mono HO377.out (fun _ hk => ⟨hk.1.2, hk.2⟩)))
       (case aS => exact (keep_size (w := w) (g := g) (row := none) (tc_ HK.out)))
       (case aL => have := LMc16.out; omega)
       intro v379 w37 ho hb hg hat
       rw [← Ny378.out] at ho
       have n0_ := Aside0.mk (Kd.R_after (ok := (fun k_ => some k_ ≠ (.slice Ao38 x373002_1.length co38 : Value).ownBlock)) (rR_ HO_373000.out) hg hat)
       have n1_ := Aside0.mk (Kd.R_after (ok := (fun k_ => some k_ ≠ (.slice Ao9 t366.length co9 : Value).ownBlock)) (rR_ HO_373002.out) hg hat)
       have n2_ := Aside0.mk (blk_grown (g := gb365) (o := .cells #[.slice none 0 0, .int .i64 0, .slice none 0 0] 25 (0, 0)) (tk_ BK365.out) hg (Kd.R_ne HO377.out BK365.out (by decide)))
       have n3_ := Aside0.mk (blk_grown (g := gb372) (o := .cells #[.slice Ao9 t366.length co9, .int .i64 (wrap64 (t370 - 1)), .slice Ao38 x373002_1.length co38] 25 (0, 0)) (tk_ BK372.out) hg (Kd.R_ne HO377.out BK372.out (by decide)))
       have n4_ := Aside0.mk (IsS126.grown (by repeat (first | (with_reducible first | exact HI0.out | apply IsS126.alloc | apply IsS126.drewN | apply IsS126.drew | apply IsS126.set_1 | refine IsS126.far ?_ NB0_365.out _ | refine IsS126.far ?_ NB0_372.out _) | exact HI0.out)) hg (IsS126.own_ne HI0.out HO377.out (by decide)))
       have n5_ := Aside0.mk (below_weaken (by repeat (first | (with_reducible first | exact HB.out | apply la_ | apply ln_ | apply ld_ | refine below_set ?_ (IsS126.ge HI0.out) | refine below_set ?_ GE365.out | refine below_set ?_ GE372.out) | exact HB.out)) HL.out hb)
       have n6_ := Aside0.mk (KeepBut.trans (tc_ HK.out) (KeepBut.of_grown hg g) (Kd.R_base2 HO377.out))
       have n7_ := Aside0.mk (ho)
       clear HO_373000
       clear HO_373002
       clear BK365
       clear BK372
       clear HI0
       clear HB
       clear HK
       clear HO377
       have HO_373000 := n0_
       have HO_373002 := n1_
       have BK365 := n2_
       have BK372 := n3_
       have HI0 := n4_
       have HB := n5_
       have HK := n6_
       have HO380 := n7_
       clear n0_ n1_ n2_ n3_ n4_ n5_ n6_ n7_
       clear ho hb hg hat
       refine hK.out _ _ ⟨(blk_cell BK372.out 0).trans rfl, (blk_cell BK372.out 1).trans rfl, (blk_cell BK372.out 2).trans rfl⟩ (fun hHeld => ?_)
       clear hK K
       refine norm_ (a' := ?_) ?_ ?_
       rotate_left
       ·
        show Act.put _ (some 23) _ = _
        simp only [Act.put, sa_, sb_, sc_, i64_w, i32_w]
        rfl
       refine one_ (i := 8) (N := some 28) #[true, true, true, true, true, true, true, true, true, false, false, false] rfl rfl (one_of HT_.out (by kernel_rfl)) (by decide) (fun K hK => ?_)
       refine goes_ Tryd.func101 (by kernel_rfl) rfl #[.pointer (some ⟨g, 0, none⟩), .int .i64 (t366.length : Int)] (by rfl) rfl rfl tz_ ?_
       with_reducible refine (spec_l20Rd_pick.calls k1 g s0_0 x1001_1 (t366.length : Int) t381 t382 w0 _ ?side1 ?side2 A17.out).mono ?_
       (case side1 => repeat (first | (with_reducible first | exact HI0.out | apply IsS126.alloc | apply IsS126.drewN | apply IsS126.drew | apply IsS126.set_1 | refine IsS126.far ?_ NB0_365.out _ | refine IsS126.far ?_ NB0_372.out _) | exact HI0.out))
       (case side2 => repeat (first | (with_reducible first | exact HB.out | apply la_ | apply ln_ | apply ld_ | refine below_set ?_ (IsS126.ge HI0.out) | refine below_set ?_ GE365.out | refine below_set ?_ GE372.out) | exact HB.out))
       rintro e w39 ⟨rfl, hi, hb, hk⟩
       refine ⟨_, rfl, ?_⟩
       have n0_ := Aside0.mk (Kd.R_mono (Kd.R_keep (IsS126.apart (show IsS126 w0 _ g s0_0 x1001_1 from by repeat (first | (with_reducible first | exact HI0.out | apply IsS126.alloc | apply IsS126.drewN | apply IsS126.drew | apply IsS126.set_1 | refine IsS126.far ?_ NB0_365.out _ | refine IsS126.far ?_ NB0_372.out _) | exact HI0.out)) (rR_ HO_373000.out) (by decide)) hk (fun _ h => h.2)) (fun _ h => h.1))
       have n1_ := Aside0.mk (Kd.R_mono (Kd.R_keep (IsS126.apart (show IsS126 w0 _ g s0_0 x1001_1 from by repeat (first | (with_reducible first | exact HI0.out | apply IsS126.alloc | apply IsS126.drewN | apply IsS126.drew | apply IsS126.set_1 | refine IsS126.far ?_ NB0_365.out _ | refine IsS126.far ?_ NB0_372.out _) | exact HI0.out)) (rR_ HO_373002.out) (by decide)) hk (fun _ h => h.2)) (fun _ h => h.1))
       have n2_ := Aside0.mk (KeepBut.blk hk (g' := gb365) (o := .cells #[.slice none 0 0, .int .i64 0, .slice none 0 0] 25 (0, 0)) (tk_ BK365.out) NB365_0.out (by simp))
       have n3_ := Aside0.mk (KeepBut.blk hk (g' := gb372) (o := .cells #[.slice Ao9 t366.length co9, .int .i64 (wrap64 (t370 - 1)), .slice Ao38 x373002_1.length co38] 25 (0, 0)) (tk_ BK372.out) NB372_0.out (by simp))
       have n4_ := Aside0.mk (Kd.R_mono (Kd.R_keep (IsS126.apart (show IsS126 w0 _ g s0_0 x1001_1 from by repeat (first | (with_reducible first | exact HI0.out | apply IsS126.alloc | apply IsS126.drewN | apply IsS126.drew | apply IsS126.set_1 | refine IsS126.far ?_ NB0_365.out _ | refine IsS126.far ?_ NB0_372.out _) | exact HI0.out)) (rR_ HO380.out) (by decide)) hk (fun _ h => h.2)) (fun _ h => h.1))
       have n5_ := Aside0.mk (KeepBut.trans (tc_ HK.out) hk (.inl rfl))
       have n6_ := Aside0.mk (hb)
       have n7_ := Aside0.mk (hi)
       clear HO_373000
       clear HO_373002
       clear BK365
       clear BK372
       clear HO380
       clear HK
       clear HB
       clear HI0
       have HO_373000 := n0_
       have HO_373002 := n1_
       have BK365 := n2_
       have BK372 := n3_
       have HO380 := n4_
       have HK := n5_
       have HB := n6_
       have HI0 := n7_
       clear n0_ n1_ n2_ n3_ n4_ n5_ n6_ n7_
       (try clear hb)
       (try clear hb2)
       (try clear hk)
       (try clear hi)
       refine hK.out _ _ ⟨(blk_cell BK372.out 0).trans rfl, (blk_cell BK372.out 1).trans rfl, (blk_cell BK372.out 2).trans rfl⟩ (fun hHeld => ?_)
       clear hK K
       refine norm_ (a' := ?_) ?_ ?_
       rotate_left
       ·
        show Act.put _ (some 28) _ = _
        simp only [Act.put, sa_, sb_, sc_, i64_w, i32_w]
        rfl
       refine one_ (i := 9) (N := some 29) #[true, true, true, true, true, true, true, true, true, true, false, false] rfl rfl (one_of HT_.out (by kernel_rfl)) (by decide) (fun K hK => ?_)
       refine value_ (w1 := ?_) (v := ?_) (by rfl) rfl ?_ ?_
       rotate_left 2
       ·
        go_simp
        constructor
        ·
         rfl
        ·
         rfl
       refine hK.out _ _ ⟨(blk_cell (blk_alloc BK372.out _) 0).trans rfl, (blk_cell (blk_alloc BK372.out _) 1).trans rfl, (blk_cell (blk_alloc BK372.out _) 2).trans rfl⟩ (fun hHeld => ?_)
       clear hK K
       refine norm_ (a' := ?_) ?_ ?_
       rotate_left
       ·
        show Act.put _ (some 29) _ = _
        simp only [Act.put, sa_, sb_, sc_, i64_w, i32_w]
        rfl
       refine one_ (i := 10) (N := some 30) #[true, true, true, true, true, true, true, true, true, true, true, false] rfl rfl (one_of HT_.out (by kernel_rfl)) (by decide) (fun K hK => ?_)
       refine Kd.R_append_step (Kd.int .i64) w.heap.size (by rfl) (.tmp 23) (.tmp 29) 23 3 (.int .i64 0) 8 rfl Tryd.underlying23 info3 rfl (by decide) (by omega) v379 y378 t381 [.int .i64 t381] (fun k_ => some k_ ≠ (.slice Ao9 t366.length co9 : Value).ownBlock ∧ some k_ ≠ (.slice Ao38 x373002_1.length co38 : Value).ownBlock) (fun _ => False) rfl rfl ?aP (fun _ hk => hk.elim) ?aF ?aO (Below.refl _ _) ?aS ?aL ?_
       (case aP => exact rfl)
       (case aF => exact (fun k_ hk => ⟨Kd.fresh' (Kd.R_lt (rR_ HO_373000.out)) k_ hk, Kd.fresh' (Kd.R_lt (rR_ HO_373002.out)) k_ hk⟩))
       (case aO => exact (rR_ HO380.out))
       (case aS => exact (keep_size (w := w) (g := g) (row := none) (tc_ HK.out)))
       (case aL => have := LMc18.out; omega)
       intro v384 w40 ho hb hg hat
       rw [← Ny383.out] at ho
       have n0_ := Aside0.mk (Kd.R_after (ok := (fun k_ => some k_ ≠ (.slice Ao38 x373002_1.length co38 : Value).ownBlock)) (rR_ HO_373000.out) hg hat)
       have n1_ := Aside0.mk (Kd.R_after (ok := (fun k_ => some k_ ≠ (.slice Ao9 t366.length co9 : Value).ownBlock)) (rR_ HO_373002.out) hg hat)
       have n2_ := Aside0.mk (blk_grown (g := gb365) (o := .cells #[.slice none 0 0, .int .i64 0, .slice none 0 0] 25 (0, 0)) (tk_ BK365.out) hg (Kd.R_ne HO380.out BK365.out (by decide)))
       have n3_ := Aside0.mk (blk_grown (g := gb372) (o := .cells #[.slice Ao9 t366.length co9, .int .i64 (wrap64 (t370 - 1)), .slice Ao38 x373002_1.length co38] 25 (0, 0)) (tk_ BK372.out) hg (Kd.R_ne HO380.out BK372.out (by decide)))
       have n4_ := Aside0.mk (IsS126.grown (by repeat (first | (with_reducible first | exact HI0.out | apply IsS126.alloc | apply IsS126.drewN | apply IsS126.drew | apply IsS126.set_1 | refine IsS126.far ?_ NB0_365.out _ | refine IsS126.far ?_ NB0_372.out _) | exact HI0.out)) hg (IsS126.own_ne HI0.out HO380.out (by decide)))
       have n5_ := Aside0.mk (below_weaken (by repeat (first | (with_reducible first | exact HB.out | apply la_ | apply ln_ | apply ld_ | refine below_set ?_ (IsS126.ge HI0.out) | refine below_set ?_ GE365.out | refine below_set ?_ GE372.out) | exact HB.out)) HL.out hb)
       have n6_ := Aside0.mk (KeepBut.trans (tc_ HK.out) (KeepBut.of_grown hg g) (Kd.R_base2 HO380.out))
       have n7_ := Aside0.mk (ho)
       clear HO_373000
       clear HO_373002
       clear BK365
       clear BK372
       clear HI0
       clear HB
       clear HK
       clear HO380
       have HO_373000 := n0_
       have HO_373002 := n1_
       have BK365 := n2_
       have BK372 := n3_
       have HI0 := n4_
       have HB := n5_
       have HK := n6_
       have HO385 := n7_
       clear n0_ n1_ n2_ n3_ n4_ n5_ n6_ n7_
       clear ho hb hg hat
       refine hK.out _ _ ⟨(blk_cell BK372.out 0).trans rfl, (blk_cell BK372.out 1).trans rfl, (blk_cell BK372.out 2).trans rfl⟩ (fun hHeld => ?_)
       clear hK K
       refine norm_ (a' := ?_) ?_ ?_
       rotate_left
       ·
        show Act.put _ (some 30) _ = _
        simp only [Act.put, sa_, sb_, sc_, i64_w, i32_w]
        rfl
       refine pure_ (i := 11) (N := some 7) (v := ?_) (a' := ?_) #[true, true, true, true, true, true, true, true, true, true, true, true] rfl rfl (any_of HT_.out (by kernel_rfl)) (fun _ _ _ h => h) (Or.inl ⟨by rfl, ?_⟩) ?_ ?_
       rotate_left
       ·
        intro w'
        go_simp
        first | with_reducible rfl | (rw [if_neg (by omega)]; done)
       rotate_left
       ·
        simp only [Act.put, sa_, sb_, sc_, i64_w, i32_w]
        rfl
       refine done_ (done_of HT_.out (by kernel_rfl)) ?_
       have hnb41 := NB372_365.out
       have hnc41 := NB365_372.out
       have hnb42 := NB372_0.out
       have hnc42 := NB0_372.out
       have hcz43_0 : w40.cell? ⟨gb372, 0, none⟩ = some (.slice Ao9 t366.length co9) := (blk_cell BK372.out 0).trans rfl
       have hcz43_1 : w40.cell? ⟨gb372, 1, none⟩ = some (.int .i64 (wrap64 (t370 - 1))) := (blk_cell BK372.out 1).trans rfl
       have hcz43_2 : w40.cell? ⟨gb372, 2, none⟩ = some (.slice Ao38 x373002_1.length co38) := (blk_cell BK372.out 2).trans rfl
       have hfz43_0 := blk_frozen BK372.out 0
       have hfz43_1 := blk_frozen BK372.out 1
       have hfz43_2 := blk_frozen BK372.out 2
       obtain ⟨Ao44, co44, eo44⟩ := Kd.R_slice HO385.out
       subst eo44
       try go_wp2_with (first | ((with_reducible refine gate_callee (f := 73) rfl ?_); refine goesL_ (some 37) rfl rfl Tryd.func73 (by kernel_rfl) rfl #[.agg #[.slice Ao9 t366.length co9, .int .i64 (wrap64 (t370 - 1)), .slice Ao44 y383.length co44]] rfl tz_ ?_; (with_reducible refine (spec_PlaceOk.calls k1 _ _ t366 (wrap64 (t370 - 1)) _ _ y383 false _ ?side1 ?side2 ?side3 ?side4 A19.out).mono ?_); (case side1 => repeat (first | exact (Kd.R_reads' HO_373000.out).2.2 | (with_reducible refine Kd.C_alloc ?_ _) | (with_reducible refine Kd.C_drewN ?_ _) | (with_reducible refine Kd.C_drew ?_))); (case side2 => exact (Kd.R_reads' HO_373000.out).2.1); (case side3 => repeat (first | exact (Kd.R_reads' HO385.out).2.2 | (with_reducible refine Kd.C_alloc ?_ _) | (with_reducible refine Kd.C_drewN ?_ _) | (with_reducible refine Kd.C_drew ?_))); (case side4 => exact (Kd.R_reads' HO385.out).2.1); rintro e w45 ⟨rfl, hb⟩; refine ⟨_, rfl, ?_⟩; have n0_ := Aside0.mk (Kd.R_below (rR_ HO_373000.out) hb); have n1_ := Aside0.mk (Kd.R_below (rR_ HO_373002.out) hb); have n2_ := Aside0.mk (Kd.R_below (rR_ HO385.out) hb); have n3_ := Aside0.mk (blk_below (g := gb365) (o := .cells #[.slice none 0 0, .int .i64 0, .slice none 0 0] 25 (0, 0)) (tk_ BK365.out) hb); have n4_ := Aside0.mk (blk_below (g := gb372) (o := .cells #[.slice Ao9 t366.length co9, .int .i64 (wrap64 (t370 - 1)), .slice Ao38 x373002_1.length co38] 25 (0, 0)) (tk_ BK372.out) hb); have n5_ := Aside0.mk (IsS126.below (by repeat (first | (with_reducible first | exact HI0.out | apply IsS126.alloc | apply IsS126.drewN | apply IsS126.drew | apply IsS126.set_1 | refine IsS126.far ?_ NB0_365.out _ | refine IsS126.far ?_ NB0_372.out _) | exact HI0.out)) hb); have n6_ := Aside0.mk (KeepBut.trans (tc_ HK.out) (KeepBut.of_below hb g none) (.inl rfl)); have n7_ := Aside0.mk (below_step (by repeat (first | (with_reducible first | exact HB.out | apply la_ | apply ln_ | apply ld_ | refine below_set ?_ (IsS126.ge HI0.out) | refine below_set ?_ GE365.out | refine below_set ?_ GE372.out) | exact HB.out)) hb); clear HO_373000 HO_373002 HO385 BK365 BK372 HI0 HK HB; have HO_373000 := n0_; have HO_373002 := n1_; have HO385 := n2_; have BK365 := n3_; have BK372 := n4_; have HI0 := n5_; have HK := n6_; have HB := n7_; clear n0_ n1_ n2_ n3_ n4_ n5_ n6_ n7_; (try clear hb); (try clear hb2); (try clear hk); (try clear hi)))
       go_roundg k1
       case measure => have := HK1.out; omega
       case rel => exact ⟨(wrap64 (x6_1 - 1)), (t382), (x373002_1), (.slice Ao38 x373002_1.length co38), tx_, H', ⟨by have := HK1.out; omega⟩, ⟨by refine qR_ ?_; exact Kd.R_mono HO_373000.out (fun _ hk => hk.1)⟩, ⟨by refine qR_ ?_; exact Kd.R_mono HO_373002.out (fun _ hk => hk.1)⟩, ⟨tk_ BK365.out⟩, ⟨tk_ BK372.out⟩, ⟨by repeat (first | (with_reducible first | exact HI0.out | apply IsS126.alloc | apply IsS126.drewN | apply IsS126.drew | apply IsS126.set_1 | refine IsS126.far ?_ NB0_365.out _ | refine IsS126.far ?_ NB0_372.out _) | exact HI0.out)⟩, ⟨(tc_ HK.out)⟩, ⟨by repeat (first | (with_reducible first | exact HB.out | apply la_ | apply ln_ | apply ld_ | refine below_set ?_ (IsS126.ge HI0.out) | refine below_set ?_ GE365.out | refine below_set ?_ GE372.out) | exact HB.out)⟩⟩
     ·
      rw [if_neg c18] at H
      exact absurd H (by simp)
    ·
     rw [if_neg c16] at H
     exact absurd H (by simp)
   ·
    rw [if_neg c15] at H
    have c15b0 : decide (0 < x6_1) = false := decide_eq_false c15
    clear c15
    replace H := Option.bind_eq_some_iff.mp H
    obtain ⟨⟨t387, t388⟩, A460, H⟩ := H
    replace H : (if t387 = true then ((spec_l20Rd_pick.f k1 s0_0 t388 3).bind fun bt389 => (if bt389.1 = 0 then (some (t366, 4, x373002_1, bt389.2)) else (if bt389.1 = 1 then (if x373002_1.length < 17592186044416 then (some (t366, (wrap64 (t370 - 1)), (x373002_1 ++ [3]), bt389.2)) else (none)) else (some (([] : List Int), 0, ([] : List Int), bt389.2))))) else (some (t366, (wrap64 (t370 - 1)), x373002_1, t388))) = some (r1, r2, r3, r4) := H
    have A46 := Aside0.mk A460
    clear A460
    by_cases c47 : t387 = true
    ·
     subst c47
     have H1 : ((spec_l20Rd_pick.f k1 s0_0 t388 3).bind fun bt389 => (if bt389.1 = 0 then (some (t366, 4, x373002_1, bt389.2)) else (if bt389.1 = 1 then (if x373002_1.length < 17592186044416 then (some (t366, (wrap64 (t370 - 1)), (x373002_1 ++ [3]), bt389.2)) else (none)) else (some (([] : List Int), 0, ([] : List Int), bt389.2))))) = some (r1, r2, r3, r4) := by rw [if_pos rfl] at H; exact H
     clear H
     have H := H1
     clear H1
     replace H := Option.bind_eq_some_iff.mp H
     obtain ⟨⟨t389, t390⟩, A480, H⟩ := H
     replace H : (if t389 = 0 then (some (t366, 4, x373002_1, t390)) else (if t389 = 1 then (if x373002_1.length < 17592186044416 then (some (t366, (wrap64 (t370 - 1)), (x373002_1 ++ [3]), t390)) else (none)) else (some (([] : List Int), 0, ([] : List Int), t390)))) = some (r1, r2, r3, r4) := H
     have A48 := Aside0.mk A480
     clear A480
     by_cases c49 : t389 = 0
     ·
      rw [if_pos c49] at H
      have c49b0 : (t389 == 0) = true := beq_iff_eq.mpr c49
      have c49b1 : (t389 != 0) = false := bne_eq_false_iff_eq.mpr c49
      clear c49
      simp only [Option.some.injEq, Prod.mk.injEq] at H
      obtain ⟨rfl, rfl, rfl, rfl⟩ := H
      go_wp2_with (first | ((with_reducible refine gate_callee (f := 80) rfl ?_); refine goesL_ (some 42) rfl rfl Tryd.func80 (by kernel_rfl) rfl #[.pointer (some ⟨g, 0, none⟩), .int .i64 a1] rfl tz_ ?_; (with_reducible refine (spec_l20Rd_odd.calls k1 g s0_0 x1001_1 a1 true t388 w0 _ ?side1 ?side2 A46.out).mono ?_); (case side1 => repeat (first | (with_reducible first | exact HI0.out | apply IsS126.alloc | apply IsS126.drewN | apply IsS126.drew | apply IsS126.set_1 | refine IsS126.far ?_ NB0_365.out _ | refine IsS126.far ?_ NB0_372.out _) | exact HI0.out)); (case side2 => repeat (first | (with_reducible first | exact HB.out | apply la_ | apply ln_ | apply ld_ | refine below_set ?_ (IsS126.ge HI0.out) | refine below_set ?_ GE365.out | refine below_set ?_ GE372.out) | exact HB.out)); rintro e w50 ⟨rfl, hi, hb, hk⟩; refine ⟨_, rfl, ?_⟩; have n0_ := Aside0.mk (Kd.R_mono (Kd.R_keep (IsS126.apart (show IsS126 w0 _ g s0_0 x1001_1 from by repeat (first | (with_reducible first | exact HI0.out | apply IsS126.alloc | apply IsS126.drewN | apply IsS126.drew | apply IsS126.set_1 | refine IsS126.far ?_ NB0_365.out _ | refine IsS126.far ?_ NB0_372.out _) | exact HI0.out)) (rR_ HO_373000.out) (by decide)) hk (fun _ h => h.2)) (fun _ h => h.1)); have n1_ := Aside0.mk (Kd.R_mono (Kd.R_keep (IsS126.apart (show IsS126 w0 _ g s0_0 x1001_1 from by repeat (first | (with_reducible first | exact HI0.out | apply IsS126.alloc | apply IsS126.drewN | apply IsS126.drew | apply IsS126.set_1 | refine IsS126.far ?_ NB0_365.out _ | refine IsS126.far ?_ NB0_372.out _) | exact HI0.out)) (rR_ HO_373002.out) (by decide)) hk (fun _ h => h.2)) (fun _ h => h.1)); have n2_ := Aside0.mk (KeepBut.blk hk (g' := gb365) (o := .cells #[.slice none 0 0, .int .i64 0, .slice none 0 0] 25 (0, 0)) (tk_ BK365.out) NB365_0.out (by simp)); have n3_ := Aside0.mk (KeepBut.blk hk (g' := gb372) (o := .cells #[.slice Ao9 t366.length co9, .int .i64 (wrap64 (t370 - 1)), u373002] 25 (0, 0)) (tk_ BK372.out) NB372_0.out (by simp)); have n4_ := Aside0.mk (KeepBut.trans (tc_ HK.out) hk (.inl rfl)); have n5_ := Aside0.mk (hb); have n6_ := Aside0.mk (hi); clear HO_373000 HO_373002 BK365 BK372 HK HB HI0; have HO_373000 := n0_; have HO_373002 := n1_; have BK365 := n2_; have BK372 := n3_; have HK := n4_; have HB := n5_; have HI0 := n6_; clear n0_ n1_ n2_ n3_ n4_ n5_ n6_; (try clear hb); (try clear hb2); (try clear hk); (try clear hi)) | ((with_reducible refine gate_callee (f := 101) rfl ?_); refine goesL_ (some 44) rfl rfl Tryd.func101 (by kernel_rfl) rfl #[.pointer (some ⟨g, 0, none⟩), .int .i64 3] rfl tz_ ?_; (with_reducible refine (spec_l20Rd_pick.calls k1 g s0_0 t388 3 t389 t390 w0 _ ?side1 ?side2 A48.out).mono ?_); (case side1 => repeat (first | (with_reducible first | exact HI0.out | apply IsS126.alloc | apply IsS126.drewN | apply IsS126.drew | apply IsS126.set_1 | refine IsS126.far ?_ NB0_365.out _ | refine IsS126.far ?_ NB0_372.out _) | exact HI0.out)); (case side2 => repeat (first | (with_reducible first | exact HB.out | apply la_ | apply ln_ | apply ld_ | refine below_set ?_ (IsS126.ge HI0.out) | refine below_set ?_ GE365.out | refine below_set ?_ GE372.out) | exact HB.out)); rintro e w51 ⟨rfl, hi, hb, hk⟩; refine ⟨_, rfl, ?_⟩; have n0_ := Aside0.mk (Kd.R_mono (Kd.R_keep (IsS126.apart (show IsS126 w0 _ g s0_0 t388 from by repeat (first | (with_reducible first | exact HI0.out | apply IsS126.alloc | apply IsS126.drewN | apply IsS126.drew | apply IsS126.set_1 | refine IsS126.far ?_ NB0_365.out _ | refine IsS126.far ?_ NB0_372.out _) | exact HI0.out)) (rR_ HO_373000.out) (by decide)) hk (fun _ h => h.2)) (fun _ h => h.1)); have n1_ := Aside0.mk (Kd.R_mono (Kd.R_keep (IsS126.apart (show IsS126 w0 _ g s0_0 t388 from by repeat (first | (with_reducible first | exact HI0.out | apply IsS126.alloc | apply IsS126.drewN | apply IsS126.drew | apply IsS126.set_1 | refine IsS126.far ?_ NB0_365.out _ | refine IsS126.far ?_ NB0_372.out _) | exact HI0.out)) (rR_ HO_373002.out) (by decide)) hk (fun _ h => h.2)) (fun _ h => h.1)); have n2_ := Aside0.mk (KeepBut.blk hk (g' := gb365) (o := .cells #[.slice none 0 0, .int .i64 0, .slice none 0 0] 25 (0, 0)) (tk_ BK365.out) NB365_0.out (by simp)); have n3_ := Aside0.mk (KeepBut.blk hk (g' := gb372) (o := .cells #[.slice Ao9 t366.length co9, .int .i64 (wrap64 (t370 - 1)), u373002] 25 (0, 0)) (tk_ BK372.out) NB372_0.out (by simp)); have n4_ := Aside0.mk (KeepBut.trans (tc_ HK.out) hk (.inl rfl)); have n5_ := Aside0.mk (hb); have n6_ := Aside0.mk (hi); clear HO_373000 HO_373002 BK365 BK372 HK HB HI0; have HO_373000 := n0_; have HO_373002 := n1_; have BK365 := n2_; have BK372 := n3_; have HK := n4_; have HB := n5_; have HI0 := n6_; clear n0_ n1_ n2_ n3_ n4_ n5_ n6_; (try clear hb); (try clear hb2); (try clear hk); (try clear hi); have hnb52 := NB372_365.out; have hnc52 := NB365_372.out; have hnb53 := NB372_0.out; have hnc53 := NB0_372.out; have hcz54_0 : w51.cell? ⟨gb372, 0, none⟩ = some (.slice Ao9 t366.length co9) := (blk_cell BK372.out 0).trans rfl; have hcz54_1 : w51.cell? ⟨gb372, 1, none⟩ = some (.int .i64 (wrap64 (t370 - 1))) := (blk_cell BK372.out 1).trans rfl; have hcz54_2 : w51.cell? ⟨gb372, 2, none⟩ = some (u373002) := (blk_cell BK372.out 2).trans rfl; have hfz54_0 := blk_frozen BK372.out 0; have hfz54_1 := blk_frozen BK372.out 1; have hfz54_2 := blk_frozen BK372.out 2; have hnb55 := NB365_0.out; have hnc55 := NB0_365.out; have hcz56_0 : w51.cell? ⟨gb365, 0, none⟩ = some (.slice none 0 0) := (blk_cell BK365.out 0).trans rfl; have hcz56_1 : w51.cell? ⟨gb365, 1, none⟩ = some (.int .i64 0) := (blk_cell BK365.out 1).trans rfl; have hcz56_2 : w51.cell? ⟨gb365, 2, none⟩ = some (.slice none 0 0) := (blk_cell BK365.out 2).trans rfl; have hfz56_0 := blk_frozen BK365.out 0; have hfz56_1 := blk_frozen BK365.out 1; have hfz56_2 := blk_frozen BK365.out 2; obtain ⟨Ao57, co57, eo57⟩ := Kd.R_slice HO_373002.out; subst eo57))
      refine bodyPost_ret (results_cell_row rfl _ _ gb365 25 #[.slice Ao9 t366.length co9, .int .i64 4, .slice Ao57 x373002_1.length co57] (0, 0) _ rfl (by refine bq_ ?_; refine blk_put (cs := #[.slice Ao9 t366.length co9, .int .i64 4, .slice none 0 0]) ?_ 2 _ rfl; refine bq_ ?_; refine blk_put (cs := #[.slice Ao9 t366.length co9, .int .i64 0, .slice none 0 0]) ?_ 1 _ rfl; refine bq_ ?_; refine blk_put (cs := #[.slice none 0 0, .int .i64 0, .slice none 0 0]) ?_ 0 _ rfl; exact tk_ BK365.out) Tryd.underlying25 rfl (by kernel_rfl)) rfl ?_
      exact ⟨_, _, by first | rfl | (simp [errW_none, errW_some, Option.map_none, Option.map_some] <;> rfl) | (simp [*, errW_none, errW_some] <;> rfl), by refine qR_ ?_; exact Kd.R_mono (Kd.R_far (p := ⟨gb365, 2, none⟩) (Kd.R_far (p := ⟨gb365, 1, none⟩) (Kd.R_far (p := ⟨gb365, 0, none⟩) (Kd.R_far (p := ⟨gb372, 1, none⟩) (Kd.R_types (Kd.R_types HO_373000.out BK372.out (by decide)) BK365.out (by decide)) (fun _ hk => hk.1.2) (.int .i64 4)) (fun _ hk => hk.2) (.slice Ao9 t366.length co9)) (fun _ hk => hk.2) (.int .i64 4)) (fun _ hk => hk.2) (.slice Ao57 x373002_1.length co57)) (fun _ hk => hk.1.1), by refine qR_ ?_; exact Kd.R_mono (Kd.R_far (p := ⟨gb365, 2, none⟩) (Kd.R_far (p := ⟨gb365, 1, none⟩) (Kd.R_far (p := ⟨gb365, 0, none⟩) (Kd.R_far (p := ⟨gb372, 1, none⟩) (Kd.R_types (Kd.R_types HO_373002.out BK372.out (by decide)) BK365.out (by decide)) (fun _ hk => hk.1.2) (.int .i64 4)) (fun _ hk => hk.2) (.slice Ao9 t366.length co9)) (fun _ hk => hk.2) (.int .i64 4)) (fun _ hk => hk.2) (.slice Ao57 x373002_1.length co57)) (fun _ hk => hk.1.1), by repeat (first | (with_reducible first | exact HI0.out | apply IsS126.alloc | apply IsS126.drewN | apply IsS126.drew | apply IsS126.set_1 | refine IsS126.far ?_ NB0_365.out _ | refine IsS126.far ?_ NB0_372.out _) | exact HI0.out), by repeat (first | (with_reducible first | exact HB.out | apply la_ | apply ln_ | apply ld_ | refine below_set ?_ (IsS126.ge HI0.out) | refine below_set ?_ GE365.out | refine below_set ?_ GE372.out) | exact HB.out), (tc_ HK.out)⟩
     ·
      rw [if_neg c49] at H
      have c49b0 : (t389 == 0) = false := beq_eq_false_iff_ne.mpr c49
      have c49b1 : (t389 != 0) = true := bne_iff_ne.mpr c49
      by_cases c58 : t389 = 1
      ·
       rw [if_pos c58] at H
       have c58b0 : (t389 == 1) = true := beq_iff_eq.mpr c58
       have c58b1 : (t389 != 1) = false := bne_eq_false_iff_eq.mpr c58
       clear c58
       by_cases c59 : x373002_1.length < 17592186044416
       ·
        rw [if_pos c59] at H
        have LMc59 := Aside0.mk c59
        clear c59
        obtain ⟨y391, hy391⟩ : ∃ y_ : List Int, y_ = (x373002_1 ++ [3]) := ⟨_, rfl⟩
        replace H : (some (t366, (wrap64 (t370 - 1)), y391, t390)) = some (r1, r2, r3, r4) := by first | (rw [hy391]; with_reducible exact H) | (have H2_ := (Option.bind_some _ _).symm.trans H; rw [hy391]; with_reducible exact H2_) | (have H2_ := (Option.bind_some _ _).symm.trans H; with_reducible exact H2_) | with_reducible exact H | (rw [hy391]; exact H) | exact H
        have Ny391 := Aside0.mk hy391
        clear hy391
        simp only [Option.some.injEq, Prod.mk.injEq] at H
        obtain ⟨rfl, rfl, rfl, rfl⟩ := H
        go_wp2_with (first | ((with_reducible refine gate_callee (f := 80) rfl ?_); refine goesL_ (some 42) rfl rfl Tryd.func80 (by kernel_rfl) rfl #[.pointer (some ⟨g, 0, none⟩), .int .i64 a1] rfl tz_ ?_; (with_reducible refine (spec_l20Rd_odd.calls k1 g s0_0 x1001_1 a1 true t388 w0 _ ?side1 ?side2 A46.out).mono ?_); (case side1 => repeat (first | (with_reducible first | exact HI0.out | apply IsS126.alloc | apply IsS126.drewN | apply IsS126.drew | apply IsS126.set_1 | refine IsS126.far ?_ NB0_365.out _ | refine IsS126.far ?_ NB0_372.out _) | exact HI0.out)); (case side2 => repeat (first | (with_reducible first | exact HB.out | apply la_ | apply ln_ | apply ld_ | refine below_set ?_ (IsS126.ge HI0.out) | refine below_set ?_ GE365.out | refine below_set ?_ GE372.out) | exact HB.out)); rintro e w60 ⟨rfl, hi, hb, hk⟩; refine ⟨_, rfl, ?_⟩; have n0_ := Aside0.mk (Kd.R_mono (Kd.R_keep (IsS126.apart (show IsS126 w0 _ g s0_0 x1001_1 from by repeat (first | (with_reducible first | exact HI0.out | apply IsS126.alloc | apply IsS126.drewN | apply IsS126.drew | apply IsS126.set_1 | refine IsS126.far ?_ NB0_365.out _ | refine IsS126.far ?_ NB0_372.out _) | exact HI0.out)) (rR_ HO_373000.out) (by decide)) hk (fun _ h => h.2)) (fun _ h => h.1)); have n1_ := Aside0.mk (Kd.R_mono (Kd.R_keep (IsS126.apart (show IsS126 w0 _ g s0_0 x1001_1 from by repeat (first | (with_reducible first | exact HI0.out | apply IsS126.alloc | apply IsS126.drewN | apply IsS126.drew | apply IsS126.set_1 | refine IsS126.far ?_ NB0_365.out _ | refine IsS126.far ?_ NB0_372.out _) | exact HI0.out)) (rR_ HO_373002.out) (by decide)) hk (fun _ h => h.2)) (fun _ h => h.1)); have n2_ := Aside0.mk (KeepBut.blk hk (g' := gb365) (o := .cells #[.slice none 0 0, .int .i64 0, .slice none 0 0] 25 (0, 0)) (tk_ BK365.out) NB365_0.out (by simp)); have n3_ := Aside0.mk (KeepBut.blk hk (g' := gb372) (o := .cells #[.slice Ao9 t366.length co9, .int .i64 (wrap64 (t370 - 1)), u373002] 25 (0, 0)) (tk_ BK372.out) NB372_0.out (by simp)); have n4_ := Aside0.mk (KeepBut.trans (tc_ HK.out) hk (.inl rfl)); have n5_ := Aside0.mk (hb); have n6_ := Aside0.mk (hi); clear HO_373000 HO_373002 BK365 BK372 HK HB HI0; have HO_373000 := n0_; have HO_373002 := n1_; have BK365 := n2_; have BK372 := n3_; have HK := n4_; have HB := n5_; have HI0 := n6_; clear n0_ n1_ n2_ n3_ n4_ n5_ n6_; (try clear hb); (try clear hb2); (try clear hk); (try clear hi)) | ((with_reducible refine gate_callee (f := 101) rfl ?_); refine goesL_ (some 44) rfl rfl Tryd.func101 (by kernel_rfl) rfl #[.pointer (some ⟨g, 0, none⟩), .int .i64 3] rfl tz_ ?_; (with_reducible refine (spec_l20Rd_pick.calls k1 g s0_0 t388 3 t389 t390 w0 _ ?side1 ?side2 A48.out).mono ?_); (case side1 => repeat (first | (with_reducible first | exact HI0.out | apply IsS126.alloc | apply IsS126.drewN | apply IsS126.drew | apply IsS126.set_1 | refine IsS126.far ?_ NB0_365.out _ | refine IsS126.far ?_ NB0_372.out _) | exact HI0.out)); (case side2 => repeat (first | (with_reducible first | exact HB.out | apply la_ | apply ln_ | apply ld_ | refine below_set ?_ (IsS126.ge HI0.out) | refine below_set ?_ GE365.out | refine below_set ?_ GE372.out) | exact HB.out)); rintro e w61 ⟨rfl, hi, hb, hk⟩; refine ⟨_, rfl, ?_⟩; have n0_ := Aside0.mk (Kd.R_mono (Kd.R_keep (IsS126.apart (show IsS126 w0 _ g s0_0 t388 from by repeat (first | (with_reducible first | exact HI0.out | apply IsS126.alloc | apply IsS126.drewN | apply IsS126.drew | apply IsS126.set_1 | refine IsS126.far ?_ NB0_365.out _ | refine IsS126.far ?_ NB0_372.out _) | exact HI0.out)) (rR_ HO_373000.out) (by decide)) hk (fun _ h => h.2)) (fun _ h => h.1)); have n1_ := Aside0.mk (Kd.R_mono (Kd.R_keep (IsS126.apart (show IsS126 w0 _ g s0_0 t388 from by repeat (first | (with_reducible first | exact HI0.out | apply IsS126.alloc | apply IsS126.drewN | apply IsS126.drew | apply IsS126.set_1 | refine IsS126.far ?_ NB0_365.out _ | refine IsS126.far ?_ NB0_372.out _) | exact HI0.out)) (rR_ HO_373002.out) (by decide)) hk (fun _ h => h.2)) (fun _ h => h.1)); have n2_ := Aside0.mk (KeepBut.blk hk (g' := gb365) (o := .cells #[.slice none 0 0, .int .i64 0, .slice none 0 0] 25 (0, 0)) (tk_ BK365.out) NB365_0.out (by simp)); have n3_ := Aside0.mk (KeepBut.blk hk (g' := gb372) (o := .cells #[.slice Ao9 t366.length co9, .int .i64 (wrap64 (t370 - 1)), u373002] 25 (0, 0)) (tk_ BK372.out) NB372_0.out (by simp)); have n4_ := Aside0.mk (KeepBut.trans (tc_ HK.out) hk (.inl rfl)); have n5_ := Aside0.mk (hb); have n6_ := Aside0.mk (hi); clear HO_373000 HO_373002 BK365 BK372 HK HB HI0; have HO_373000 := n0_; have HO_373002 := n1_; have BK365 := n2_; have BK372 := n3_; have HK := n4_; have HB := n5_; have HI0 := n6_; clear n0_ n1_ n2_ n3_ n4_ n5_ n6_; (try clear hb); (try clear hb2); (try clear hk); (try clear hi); have hnb62 := NB372_365.out; have hnc62 := NB365_372.out; have hnb63 := NB372_0.out; have hnc63 := NB0_372.out; have hcz64_0 : w61.cell? ⟨gb372, 0, none⟩ = some (.slice Ao9 t366.length co9) := (blk_cell BK372.out 0).trans rfl; have hcz64_1 : w61.cell? ⟨gb372, 1, none⟩ = some (.int .i64 (wrap64 (t370 - 1))) := (blk_cell BK372.out 1).trans rfl; have hcz64_2 : w61.cell? ⟨gb372, 2, none⟩ = some (u373002) := (blk_cell BK372.out 2).trans rfl; have hfz64_0 := blk_frozen BK372.out 0; have hfz64_1 := blk_frozen BK372.out 1; have hfz64_2 := blk_frozen BK372.out 2) | ((with_reducible refine gate_builtin (b := .append) (xs := #[.tmp 52, .tmp 53]) rfl ?_); at_builtin; refine Kd.R_append (Kd.int .i64) w.heap.size rfl (.tmp 52) (.tmp 53) 23 3 (.int .i64 0) 8 rfl Tryd.underlying23 info3 rfl (by decide) (by omega) u373002 x373002_1 3 [.int .i64 3] (fun k_ => some k_ ≠ (.slice Ao9 t366.length co9 : Value).ownBlock) (fun _ => False) rfl rfl ?aP (fun _ hk => hk.elim) ?aF ?aO (Below.refl _ _) ?aS ?aL ?_; (case aP => exact rfl); (case aF => exact (fun k_ hk => Kd.fresh' (Kd.R_lt (rR_ HO_373000.out)) k_ hk)); (case aO => exact (rR_ HO_373002.out)); (case aS => exact (keep_size (w := w) (g := g) (row := none) (tc_ HK.out))); (case aL => have := LMc59.out; omega); intro v392 w65 ho hb hg hat; rw [← Ny391.out] at ho; have n0_ := Aside0.mk (Kd.R_after (ok := (fun _ => True)) (by refine qR_ ?_; exact Kd.R_mono HO_373000.out (fun _ hk => ⟨trivial, hk⟩)) hg hat); have n1_ := Aside0.mk (blk_grown (g := gb365) (o := .cells #[.slice none 0 0, .int .i64 0, .slice none 0 0] 25 (0, 0)) (tk_ BK365.out) hg (Kd.R_ne HO_373002.out BK365.out (by decide))); have n2_ := Aside0.mk (blk_grown (g := gb372) (o := .cells #[.slice Ao9 t366.length co9, .int .i64 (wrap64 (t370 - 1)), u373002] 25 (0, 0)) (tk_ BK372.out) hg (Kd.R_ne HO_373002.out BK372.out (by decide))); have n3_ := Aside0.mk (IsS126.grown (by repeat (first | (with_reducible first | exact HI0.out | apply IsS126.alloc | apply IsS126.drewN | apply IsS126.drew | apply IsS126.set_1 | refine IsS126.far ?_ NB0_365.out _ | refine IsS126.far ?_ NB0_372.out _) | exact HI0.out)) hg (IsS126.own_ne HI0.out HO_373002.out (by decide))); have n4_ := Aside0.mk (below_weaken (by repeat (first | (with_reducible first | exact HB.out | apply la_ | apply ln_ | apply ld_ | refine below_set ?_ (IsS126.ge HI0.out) | refine below_set ?_ GE365.out | refine below_set ?_ GE372.out) | exact HB.out)) HL.out hb); have n5_ := Aside0.mk (KeepBut.trans (tc_ HK.out) (KeepBut.of_grown hg g) (Kd.R_base2 HO_373002.out)); have n6_ := Aside0.mk (ho); clear HO_373000 BK365 BK372 HI0 HB HK HO_373002; have HO_373000 := n0_; have BK365 := n1_; have BK372 := n2_; have HI0 := n3_; have HB := n4_; have HK := n5_; have HO393 := n6_; clear n0_ n1_ n2_ n3_ n4_ n5_ n6_ ho hb hg hat; obtain ⟨Ao66, co66, eo66⟩ := Kd.R_slice HO393.out; subst eo66; have hcz67_0 : w65.cell? ⟨gb372, 0, none⟩ = some (.slice Ao9 t366.length co9) := (blk_cell BK372.out 0).trans rfl; have hcz67_1 : w65.cell? ⟨gb372, 1, none⟩ = some (.int .i64 (wrap64 (t370 - 1))) := (blk_cell BK372.out 1).trans rfl; have hcz67_2 : w65.cell? ⟨gb372, 2, none⟩ = some (u373002) := (blk_cell BK372.out 2).trans rfl; have hfz67_0 := blk_frozen BK372.out 0; have hfz67_1 := blk_frozen BK372.out 1; have hfz67_2 := blk_frozen BK372.out 2; have hnb68 := NB365_0.out; have hnc68 := NB0_365.out; have hcz69_0 : w65.cell? ⟨gb365, 0, none⟩ = some (.slice none 0 0) := (blk_cell BK365.out 0).trans rfl; have hcz69_1 : w65.cell? ⟨gb365, 1, none⟩ = some (.int .i64 0) := (blk_cell BK365.out 1).trans rfl; have hcz69_2 : w65.cell? ⟨gb365, 2, none⟩ = some (.slice none 0 0) := (blk_cell BK365.out 2).trans rfl; have hfz69_0 := blk_frozen BK365.out 0; have hfz69_1 := blk_frozen BK365.out 1; have hfz69_2 := blk_frozen BK365.out 2))
        refine bodyPost_ret (results_cell_row rfl _ _ gb365 25 #[.slice Ao9 t366.length co9, .int .i64 (wrap64 (t370 - 1)), .slice Ao66 y391.length co66] (0, 0) _ rfl (by refine bq_ ?_; refine blk_put (cs := #[.slice Ao9 t366.length co9, .int .i64 (wrap64 (t370 - 1)), .slice none 0 0]) ?_ 2 _ rfl; refine bq_ ?_; refine blk_put (cs := #[.slice Ao9 t366.length co9, .int .i64 0, .slice none 0 0]) ?_ 1 _ rfl; refine bq_ ?_; refine blk_put (cs := #[.slice none 0 0, .int .i64 0, .slice none 0 0]) ?_ 0 _ rfl; exact tk_ BK365.out) Tryd.underlying25 rfl (by kernel_rfl)) rfl ?_
        exact ⟨_, _, by first | rfl | (simp [errW_none, errW_some, Option.map_none, Option.map_some] <;> rfl) | (simp [*, errW_none, errW_some] <;> rfl), by refine qR_ ?_; exact Kd.R_mono (Kd.R_far (p := ⟨gb365, 2, none⟩) (Kd.R_far (p := ⟨gb365, 1, none⟩) (Kd.R_far (p := ⟨gb365, 0, none⟩) (Kd.R_far (p := ⟨gb372, 2, none⟩) (Kd.R_types (Kd.R_types HO_373000.out BK372.out (by decide)) BK365.out (by decide)) (fun _ hk => hk.1.2) (.slice Ao66 y391.length co66)) (fun _ hk => hk.2) (.slice Ao9 t366.length co9)) (fun _ hk => hk.2) (.int .i64 (wrap64 (t370 - 1)))) (fun _ hk => hk.2) (.slice Ao66 y391.length co66)) (fun _ hk => hk.1.1.2), by refine qR_ ?_; exact Kd.R_mono (Kd.R_far (p := ⟨gb365, 2, none⟩) (Kd.R_far (p := ⟨gb365, 1, none⟩) (Kd.R_far (p := ⟨gb365, 0, none⟩) (Kd.R_far (p := ⟨gb372, 2, none⟩) (Kd.R_types (Kd.R_types HO393.out BK372.out (by decide)) BK365.out (by decide)) (fun _ hk => hk.1.2) (.slice Ao66 y391.length co66)) (fun _ hk => hk.2) (.slice Ao9 t366.length co9)) (fun _ hk => hk.2) (.int .i64 (wrap64 (t370 - 1)))) (fun _ hk => hk.2) (.slice Ao66 y391.length co66)) (fun _ hk => hk.1.1), by repeat (first | (with_reducible first | exact HI0.out | apply IsS126.alloc | apply IsS126.drewN | apply IsS126.drew | apply IsS126.set_1 | refine IsS126.far ?_ NB0_365.out _ | refine IsS126.far ?_ NB0_372.out _) | exact HI0.out), by repeat (first | (with_reducible first | exact HB.out | apply la_ | apply ln_ | apply ld_ | refine below_set ?_ (IsS126.ge HI0.out) | refine below_set ?_ GE365.out | refine below_set ?_ GE372.out) | exact HB.out), (tc_ HK.out)⟩
       ·
        rw [if_neg c59] at H
        exact absurd H (by simp)
      ·
       rw [if_neg c58] at H
       have c58b0 : (t389 == 1) = false := beq_eq_false_iff_ne.mpr c58
       have c58b1 : (t389 != 1) = true := bne_iff_ne.mpr c58
       simp only [Option.some.injEq, Prod.mk.injEq] at H
       obtain ⟨rfl, rfl, rfl, rfl⟩ := H
       go_wp2_with (first | ((with_reducible refine gate_callee (f := 80) rfl ?_); refine goesL_ (some 42) rfl rfl Tryd.func80 (by kernel_rfl) rfl #[.pointer (some ⟨g, 0, none⟩), .int .i64 a1] rfl tz_ ?_; (with_reducible refine (spec_l20Rd_odd.calls k1 g s0_0 x1001_1 a1 true t388 w0 _ ?side1 ?side2 A46.out).mono ?_); (case side1 => repeat (first | (with_reducible first | exact HI0.out | apply IsS126.alloc | apply IsS126.drewN | apply IsS126.drew | apply IsS126.set_1 | refine IsS126.far ?_ NB0_365.out _ | refine IsS126.far ?_ NB0_372.out _) | exact HI0.out)); (case side2 => repeat (first | (with_reducible first | exact HB.out | apply la_ | apply ln_ | apply ld_ | refine below_set ?_ (IsS126.ge HI0.out) | refine below_set ?_ GE365.out | refine below_set ?_ GE372.out) | exact HB.out)); rintro e w70 ⟨rfl, hi, hb, hk⟩; refine ⟨_, rfl, ?_⟩; have n0_ := Aside0.mk (Kd.R_mono (Kd.R_keep (IsS126.apart (show IsS126 w0 _ g s0_0 x1001_1 from by repeat (first | (with_reducible first | exact HI0.out | apply IsS126.alloc | apply IsS126.drewN | apply IsS126.drew | apply IsS126.set_1 | refine IsS126.far ?_ NB0_365.out _ | refine IsS126.far ?_ NB0_372.out _) | exact HI0.out)) (rR_ HO_373000.out) (by decide)) hk (fun _ h => h.2)) (fun _ h => h.1)); have n1_ := Aside0.mk (Kd.R_mono (Kd.R_keep (IsS126.apart (show IsS126 w0 _ g s0_0 x1001_1 from by repeat (first | (with_reducible first | exact HI0.out | apply IsS126.alloc | apply IsS126.drewN | apply IsS126.drew | apply IsS126.set_1 | refine IsS126.far ?_ NB0_365.out _ | refine IsS126.far ?_ NB0_372.out _) | exact HI0.out)) (rR_ HO_373002.out) (by decide)) hk (fun _ h => h.2)) (fun _ h => h.1)); have n2_ := Aside0.mk (KeepBut.blk hk (g' := gb365) (o := .cells #[.slice none 0 0, .int .i64 0, .slice none 0 0] 25 (0, 0)) (tk_ BK365.out) NB365_0.out (by simp)); have n3_ := Aside0.mk (KeepBut.blk hk (g' := gb372) (o := .cells #[.slice Ao9 t366.length co9, .int .i64 (wrap64 (t370 - 1)), u373002] 25 (0, 0)) (tk_ BK372.out) NB372_0.out (by simp)); have n4_ := Aside0.mk (KeepBut.trans (tc_ HK.out) hk (.inl rfl)); have n5_ := Aside0.mk (hb); have n6_ := Aside0.mk (hi); clear HO_373000 HO_373002 BK365 BK372 HK HB HI0; have HO_373000 := n0_; have HO_373002 := n1_; have BK365 := n2_; have BK372 := n3_; have HK := n4_; have HB := n5_; have HI0 := n6_; clear n0_ n1_ n2_ n3_ n4_ n5_ n6_; (try clear hb); (try clear hb2); (try clear hk); (try clear hi)) | ((with_reducible refine gate_callee (f := 101) rfl ?_); refine goesL_ (some 44) rfl rfl Tryd.func101 (by kernel_rfl) rfl #[.pointer (some ⟨g, 0, none⟩), .int .i64 3] rfl tz_ ?_; (with_reducible refine (spec_l20Rd_pick.calls k1 g s0_0 t388 3 t389 t390 w0 _ ?side1 ?side2 A48.out).mono ?_); (case side1 => repeat (first | (with_reducible first | exact HI0.out | apply IsS126.alloc | apply IsS126.drewN | apply IsS126.drew | apply IsS126.set_1 | refine IsS126.far ?_ NB0_365.out _ | refine IsS126.far ?_ NB0_372.out _) | exact HI0.out)); (case side2 => repeat (first | (with_reducible first | exact HB.out | apply la_ | apply ln_ | apply ld_ | refine below_set ?_ (IsS126.ge HI0.out) | refine below_set ?_ GE365.out | refine below_set ?_ GE372.out) | exact HB.out)); rintro e w71 ⟨rfl, hi, hb, hk⟩; refine ⟨_, rfl, ?_⟩; have n0_ := Aside0.mk (Kd.R_mono (Kd.R_keep (IsS126.apart (show IsS126 w0 _ g s0_0 t388 from by repeat (first | (with_reducible first | exact HI0.out | apply IsS126.alloc | apply IsS126.drewN | apply IsS126.drew | apply IsS126.set_1 | refine IsS126.far ?_ NB0_365.out _ | refine IsS126.far ?_ NB0_372.out _) | exact HI0.out)) (rR_ HO_373000.out) (by decide)) hk (fun _ h => h.2)) (fun _ h => h.1)); have n1_ := Aside0.mk (Kd.R_mono (Kd.R_keep (IsS126.apart (show IsS126 w0 _ g s0_0 t388 from by repeat (first | (with_reducible first | exact HI0.out | apply IsS126.alloc | apply IsS126.drewN | apply IsS126.drew | apply IsS126.set_1 | refine IsS126.far ?_ NB0_365.out _ | refine IsS126.far ?_ NB0_372.out _) | exact HI0.out)) (rR_ HO_373002.out) (by decide)) hk (fun _ h => h.2)) (fun _ h => h.1)); have n2_ := Aside0.mk (KeepBut.blk hk (g' := gb365) (o := .cells #[.slice none 0 0, .int .i64 0, .slice none 0 0] 25 (0, 0)) (tk_ BK365.out) NB365_0.out (by simp)); have n3_ := Aside0.mk (KeepBut.blk hk (g' := gb372) (o := .cells #[.slice Ao9 t366.length co9, .int .i64 (wrap64 (t370 - 1)), u373002] 25 (0, 0)) (tk_ BK372.out) NB372_0.out (by simp)); have n4_ := Aside0.mk (KeepBut.trans (tc_ HK.out) hk (.inl rfl)); have n5_ := Aside0.mk (hb); have n6_ := Aside0.mk (hi); clear HO_373000 HO_373002 BK365 BK372 HK HB HI0; have HO_373000 := n0_; have HO_373002 := n1_; have BK365 := n2_; have BK372 := n3_; have HK := n4_; have HB := n5_; have HI0 := n6_; clear n0_ n1_ n2_ n3_ n4_ n5_ n6_; (try clear hb); (try clear hb2); (try clear hk); (try clear hi); have hnb72 := NB365_372.out; have hnc72 := NB372_365.out; have hnb73 := NB365_0.out; have hnc73 := NB0_365.out; have hcz74_0 : w71.cell? ⟨gb365, 0, none⟩ = some (.slice none 0 0) := (blk_cell BK365.out 0).trans rfl; have hcz74_1 : w71.cell? ⟨gb365, 1, none⟩ = some (.int .i64 0) := (blk_cell BK365.out 1).trans rfl; have hcz74_2 : w71.cell? ⟨gb365, 2, none⟩ = some (.slice none 0 0) := (blk_cell BK365.out 2).trans rfl; have hfz74_0 := blk_frozen BK365.out 0; have hfz74_1 := blk_frozen BK365.out 1; have hfz74_2 := blk_frozen BK365.out 2))
       refine bodyPost_ret (results_cell_row rfl _ _ gb365 25 #[.slice none 0 0, .int .i64 0, .slice none 0 0] (0, 0) _ rfl (by refine bq_ ?_; refine blk_put (cs := #[.slice none 0 0, .int .i64 0, .slice none 0 0]) ?_ 2 _ rfl; refine bq_ ?_; refine blk_put (cs := #[.slice none 0 0, .int .i64 0, .slice none 0 0]) ?_ 1 _ rfl; refine bq_ ?_; refine blk_put (cs := #[.slice none 0 0, .int .i64 0, .slice none 0 0]) ?_ 0 _ rfl; exact tk_ BK365.out) Tryd.underlying25 rfl (by kernel_rfl)) rfl ?_
       exact ⟨_, _, by first | rfl | (simp [errW_none, errW_some, Option.map_none, Option.map_some] <;> rfl) | (simp [*, errW_none, errW_some] <;> rfl), by first | exact Kd.R_nil _ _ _ _ _ | exact Kd.N_nil _ _ _ _ _ | exact Kd.V_nil _ _ _ _ _ | exact Kd.Q_nil _ _ _ _ _ | exact Kd.S_nil _ _ _ _ _, by first | exact Kd.R_nil _ _ _ _ _ | exact Kd.N_nil _ _ _ _ _ | exact Kd.V_nil _ _ _ _ _ | exact Kd.Q_nil _ _ _ _ _ | exact Kd.S_nil _ _ _ _ _, by repeat (first | (with_reducible first | exact HI0.out | apply IsS126.alloc | apply IsS126.drewN | apply IsS126.drew | apply IsS126.set_1 | refine IsS126.far ?_ NB0_365.out _ | refine IsS126.far ?_ NB0_372.out _) | exact HI0.out), by repeat (first | (with_reducible first | exact HB.out | apply la_ | apply ln_ | apply ld_ | refine below_set ?_ (IsS126.ge HI0.out) | refine below_set ?_ GE365.out | refine below_set ?_ GE372.out) | exact HB.out), (tc_ HK.out)⟩
    ·
     replace c47 := Bool.eq_false_iff.mpr c47
     subst c47
     have H1 : (some (t366, (wrap64 (t370 - 1)), x373002_1, t388)) = some (r1, r2, r3, r4) := by rw [if_neg (show ¬ (false = true) by decide)] at H; exact H
     clear H
     have H := H1
     clear H1
     simp only [Option.some.injEq, Prod.mk.injEq] at H
     obtain ⟨rfl, rfl, rfl, rfl⟩ := H
     go_wp2_with (first | ((with_reducible refine gate_callee (f := 80) rfl ?_); refine goesL_ (some 42) rfl rfl Tryd.func80 (by kernel_rfl) rfl #[.pointer (some ⟨g, 0, none⟩), .int .i64 a1] rfl tz_ ?_; (with_reducible refine (spec_l20Rd_odd.calls k1 g s0_0 x1001_1 a1 false t388 w0 _ ?side1 ?side2 A46.out).mono ?_); (case side1 => repeat (first | (with_reducible first | exact HI0.out | apply IsS126.alloc | apply IsS126.drewN | apply IsS126.drew | apply IsS126.set_1 | refine IsS126.far ?_ NB0_365.out _ | refine IsS126.far ?_ NB0_372.out _) | exact HI0.out)); (case side2 => repeat (first | (with_reducible first | exact HB.out | apply la_ | apply ln_ | apply ld_ | refine below_set ?_ (IsS126.ge HI0.out) | refine below_set ?_ GE365.out | refine below_set ?_ GE372.out) | exact HB.out)); rintro e w75 ⟨rfl, hi, hb, hk⟩; refine ⟨_, rfl, ?_⟩; have n0_ := Aside0.mk (Kd.R_mono (Kd.R_keep (IsS126.apart (show IsS126 w0 _ g s0_0 x1001_1 from by repeat (first | (with_reducible first | exact HI0.out | apply IsS126.alloc | apply IsS126.drewN | apply IsS126.drew | apply IsS126.set_1 | refine IsS126.far ?_ NB0_365.out _ | refine IsS126.far ?_ NB0_372.out _) | exact HI0.out)) (rR_ HO_373000.out) (by decide)) hk (fun _ h => h.2)) (fun _ h => h.1)); have n1_ := Aside0.mk (Kd.R_mono (Kd.R_keep (IsS126.apart (show IsS126 w0 _ g s0_0 x1001_1 from by repeat (first | (with_reducible first | exact HI0.out | apply IsS126.alloc | apply IsS126.drewN | apply IsS126.drew | apply IsS126.set_1 | refine IsS126.far ?_ NB0_365.out _ | refine IsS126.far ?_ NB0_372.out _) | exact HI0.out)) (rR_ HO_373002.out) (by decide)) hk (fun _ h => h.2)) (fun _ h => h.1)); have n2_ := Aside0.mk (KeepBut.blk hk (g' := gb365) (o := .cells #[.slice none 0 0, .int .i64 0, .slice none 0 0] 25 (0, 0)) (tk_ BK365.out) NB365_0.out (by simp)); have n3_ := Aside0.mk (KeepBut.blk hk (g' := gb372) (o := .cells #[.slice Ao9 t366.length co9, .int .i64 (wrap64 (t370 - 1)), u373002] 25 (0, 0)) (tk_ BK372.out) NB372_0.out (by simp)); have n4_ := Aside0.mk (KeepBut.trans (tc_ HK.out) hk (.inl rfl)); have n5_ := Aside0.mk (hb); have n6_ := Aside0.mk (hi); clear HO_373000 HO_373002 BK365 BK372 HK HB HI0; have HO_373000 := n0_; have HO_373002 := n1_; have BK365 := n2_; have BK372 := n3_; have HK := n4_; have HB := n5_; have HI0 := n6_; clear n0_ n1_ n2_ n3_ n4_ n5_ n6_; (try clear hb); (try clear hb2); (try clear hk); (try clear hi); have hnb76 := NB372_365.out; have hnc76 := NB365_372.out; have hnb77 := NB372_0.out; have hnc77 := NB0_372.out; have hcz78_0 : w75.cell? ⟨gb372, 0, none⟩ = some (.slice Ao9 t366.length co9) := (blk_cell BK372.out 0).trans rfl; have hcz78_1 : w75.cell? ⟨gb372, 1, none⟩ = some (.int .i64 (wrap64 (t370 - 1))) := (blk_cell BK372.out 1).trans rfl; have hcz78_2 : w75.cell? ⟨gb372, 2, none⟩ = some (u373002) := (blk_cell BK372.out 2).trans rfl; have hfz78_0 := blk_frozen BK372.out 0; have hfz78_1 := blk_frozen BK372.out 1; have hfz78_2 := blk_frozen BK372.out 2; have hnb79 := NB365_0.out; have hnc79 := NB0_365.out; have hcz80_0 : w75.cell? ⟨gb365, 0, none⟩ = some (.slice none 0 0) := (blk_cell BK365.out 0).trans rfl; have hcz80_1 : w75.cell? ⟨gb365, 1, none⟩ = some (.int .i64 0) := (blk_cell BK365.out 1).trans rfl; have hcz80_2 : w75.cell? ⟨gb365, 2, none⟩ = some (.slice none 0 0) := (blk_cell BK365.out 2).trans rfl; have hfz80_0 := blk_frozen BK365.out 0; have hfz80_1 := blk_frozen BK365.out 1; have hfz80_2 := blk_frozen BK365.out 2; obtain ⟨Ao81, co81, eo81⟩ := Kd.R_slice HO_373002.out; subst eo81))
     refine bodyPost_ret (results_cell_row rfl _ _ gb365 25 #[.slice Ao9 t366.length co9, .int .i64 (wrap64 (t370 - 1)), .slice Ao81 x373002_1.length co81] (0, 0) _ rfl (by refine bq_ ?_; refine blk_put (cs := #[.slice Ao9 t366.length co9, .int .i64 (wrap64 (t370 - 1)), .slice none 0 0]) ?_ 2 _ rfl; refine bq_ ?_; refine blk_put (cs := #[.slice Ao9 t366.length co9, .int .i64 0, .slice none 0 0]) ?_ 1 _ rfl; refine bq_ ?_; refine blk_put (cs := #[.slice none 0 0, .int .i64 0, .slice none 0 0]) ?_ 0 _ rfl; exact tk_ BK365.out) Tryd.underlying25 rfl (by kernel_rfl)) rfl ?_
     exact ⟨_, _, by first | rfl | (simp [errW_none, errW_some, Option.map_none, Option.map_some] <;> rfl) | (simp [*, errW_none, errW_some] <;> rfl), by refine qR_ ?_; exact Kd.R_mono (Kd.R_far (p := ⟨gb365, 2, none⟩) (Kd.R_far (p := ⟨gb365, 1, none⟩) (Kd.R_far (p := ⟨gb365, 0, none⟩) (Kd.R_types HO_373000.out BK365.out (by decide)) (fun _ hk => hk.2) (.slice Ao9 t366.length co9)) (fun _ hk => hk.2) (.int .i64 (wrap64 (t370 - 1)))) (fun _ hk => hk.2) (.slice Ao81 x373002_1.length co81)) (fun _ hk => hk.1), by refine qR_ ?_; exact Kd.R_mono (Kd.R_far (p := ⟨gb365, 2, none⟩) (Kd.R_far (p := ⟨gb365, 1, none⟩) (Kd.R_far (p := ⟨gb365, 0, none⟩) (Kd.R_types HO_373002.out BK365.out (by decide)) (fun _ hk => hk.2) (.slice Ao9 t366.length co9)) (fun _ hk => hk.2) (.int .i64 (wrap64 (t370 - 1)))) (fun _ hk => hk.2) (.slice Ao81 x373002_1.length co81)) (fun _ hk => hk.1), by repeat (first | (with_reducible first | exact HI0.out | apply IsS126.alloc | apply IsS126.drewN | apply IsS126.drew | apply IsS126.set_1 | refine IsS126.far ?_ NB0_365.out _ | refine IsS126.far ?_ NB0_372.out _) | exact HI0.out), by repeat (first | (with_reducible first | exact HB.out | apply la_ | apply ln_ | apply ld_ | refine below_set ?_ (IsS126.ge HI0.out) | refine below_set ?_ GE365.out | refine below_set ?_ GE372.out) | exact HB.out), (tc_ HK.out)⟩

end Go.Proofs.YtlhiienanbpdlaaDoor.MFnReadPlace
