/- For the law FnDeskNew: walks of the functions that it reaches: each call returns what the plain function beside it tells. The conditions stand in each statement. -/
import Derived.Test.YtlnbobpmjbcejaaMFnDeskNewx0
import Derived.Test.YtlnbobpmjbcejaaMFnDeskNewx5
import Derived.Test.YtlnbobpmjbcejaaMFnDeskNewx6
namespace Go.Proofs.Ytlnbobpmjbcejaa.MFnDeskNew
open Go.RowKit Go.Proofs.YtlnbobpmjbcejaaW.PrintWords Go.Proofs.YtlnbobpmjbcejaaW.PrintLast Go.Proofs.YtlnbobpmjbcejaaW.PrintMore
attribute [local go_sem] max2_int min2_int max_two min_two max_three min_three max_four min_four   -- for this text's walks alone
set_option linter.unusedVariables false
set_option linter.unusedSimpArgs false

/-! ### spec_l20Place: function 42 -/
def spec_l20Place.l0 : Nat → Int → Int → List Int → Int → List Int → Int → List Int → Option (List Int × Int × List Int × Int)
 | 0, _, _, _, _, _, _, _ => none
 | k + 1, x1, x6, x1000, x1001, x260000, x260001, x260002 => if x6 > 0 then ((some (([] : List Int) : List Int)).bind fun y262 => (if y262.length + x260002.length < 17592186044416 then ((some (y262 ++ x260002 : List Int)).bind fun y265 => ((spec_l20Rd_pick.f k x1000 x1001 (x260000.length : Int)).bind fun bt268 => (if y265.length < 17592186044416 then ((some (y265 ++ [bt268.1] : List Int)).bind fun y270 => ((spec_PlaceOk.f k x260000 x260001 y270).bind fun t273 => (if t273 = true then (spec_l20Place.l0 k x1 (wrap64 (x6 - 1)) x1000 bt268.2 x260000 x260001 y270) else (spec_l20Place.l0 k x1 (wrap64 (x6 - 1)) x1000 bt268.2 x260000 x260001 x260002)))) else (none)))) else (none))) else ((spec_l20Rd_odd.f k x1000 x1001 x1).bind fun bt274 => (if bt274.1 = true then ((spec_l20Rd_pick.f k x1000 bt274.2 3).bind fun bt276 => (if bt276.1 = 0 then (some (x260000, 4, x260002, bt276.2)) else (if bt276.1 = 1 then (if x260002.length < 17592186044416 then (some (x260000, x260001, (x260002 ++ [3]), bt276.2)) else (none)) else (some (([] : List Int), 0, ([] : List Int), bt276.2))))) else (some (x260000, x260001, x260002, bt274.2))))
def spec_l20Place.f (k : Nat) (s0_0 : List Int) (s0_1 : Int) (a1 : Int) : Option (List Int × Int × List Int × Int) := (spec_l20Urn.f k s0_0 s0_1 0).bind fun bt253 => ((spec_l20Rd_pick.f k s0_0 bt253.2 5).bind fun bt257 => ((spec_l20Rd_pick.f k s0_0 bt257.2 5).bind fun bt260 => (spec_l20Place.l0 k a1 bt260.1 s0_0 bt260.2 bt253.1 (wrap64 (bt257.1 - 1)) ([] : List Int))))
theorem spec_l20Place.mono_l : ∀ k, (∀ y0 y1 y2 y3 y4 y5 y6, LeO (spec_l20Place.l0 k y0 y1 y2 y3 y4 y5 y6) (spec_l20Place.l0 (k + 1) y0 y1 y2 y3 y4 y5 y6))
 | 0 => fun _ _ _ _ _ _ _ r h => by simp [spec_l20Place.l0] at h
 | k + 1 => by
  have ih0 := spec_l20Place.mono_l k
  ·
   intro y0 y1 y2 y3 y4 y5 y6
   unfold spec_l20Place.l0
   repeat' first
   | (with_reducible exact ih0 _ _ _ _ _ _ _)
   | (with_reducible exact spec_PlaceOk.mono _ _ _ _)
   | (with_reducible exact spec_l20Rd_odd.mono _ _ _ _)
   | (with_reducible exact spec_l20Rd_pick.mono _ _ _ _)
   | (with_reducible exact spec_l20Urn.mono _ _ _ _)
   | (with_reducible exact LeO.refl _)
   | (with_reducible exact LeO.none _)
   | (with_reducible refine LeO.ite ?_ ?_)
   | (with_reducible refine LeO.bind ?_ (fun _ => ?_))
   | exact ih0 _ _ _ _ _ _ _
   | exact spec_PlaceOk.mono _ _ _ _
   | exact spec_l20Rd_odd.mono _ _ _ _
   | exact spec_l20Rd_pick.mono _ _ _ _
   | exact spec_l20Urn.mono _ _ _ _
   | exact LeO.none _
   | refine LeO.ite ?_ ?_
   | refine LeO.bind ?_ (fun _ => ?_)
theorem spec_l20Place.mono : ∀ a0 a1 a2 k, LeO (spec_l20Place.f k a0 a1 a2) (spec_l20Place.f (k + 1) a0 a1 a2) := by
 intro a0 a1 a2 k
 have ih0 := spec_l20Place.mono_l k
 unfold spec_l20Place.f
 repeat' first
   | (with_reducible exact ih0 _ _ _ _ _ _ _)
   | (with_reducible exact spec_PlaceOk.mono _ _ _ _)
   | (with_reducible exact spec_l20Rd_odd.mono _ _ _ _)
   | (with_reducible exact spec_l20Rd_pick.mono _ _ _ _)
   | (with_reducible exact spec_l20Urn.mono _ _ _ _)
   | (with_reducible exact LeO.refl _)
   | (with_reducible exact LeO.none _)
   | (with_reducible refine LeO.ite ?_ ?_)
   | (with_reducible refine LeO.bind ?_ (fun _ => ?_))
   | exact ih0 _ _ _ _ _ _ _
   | exact spec_PlaceOk.mono _ _ _ _
   | exact spec_l20Rd_odd.mono _ _ _ _
   | exact spec_l20Rd_pick.mono _ _ _ _
   | exact spec_l20Urn.mono _ _ _ _
   | exact LeO.none _
   | refine LeO.ite ?_ ?_
   | refine LeO.bind ?_ (fun _ => ?_)
def spec_l20Place.T5 : Bool × List (List Nat × List Nat) := (true, [([], []), ([], []), ([1], [1]), ([0, 2], [0, 2]), ([], []), ([], []), ([5], [5]), ([6], [6]), ([4, 7, 3], [4, 7]), ([8], [8]), ([3, 9, 8], [3, 9]), ([10, 10, 0, 1, 2, 3, 4, 5, 6, 7, 8, 9, 10], [10])])
def spec_l20Place.B5 : List Nat := [0, 0, 2, 7, 0, 0, 32, 96, 255, 511, 1023, 2047]
theorem spec_l20Place.tab5 : rtab .any (opsOf Try.f42 5) = spec_l20Place.T5 := by kernel_rfl
theorem spec_l20Place.bits5 : waitsOk spec_l20Place.T5.2 spec_l20Place.B5 = true := by kernel_rfl
set_option maxHeartbeats 8000000 in
set_option maxRecDepth 100000 in
theorem spec_l20Place.calls (k : Nat) (g : Nat) (s0_0 : List Int) (s0_1 : Int) (a1 : Int) (r1 : List Int) (r2 : Int) (r3 : List Int) (r4 : Int) (w0 w : World) (hI : IsS78 w0 w g s0_0 s0_1) (hB : Below w0.heap.size w0 w) (h : spec_l20Place.f k s0_0 s0_1 a1 = some (r1, r2, r3, r4)) :
  Calls Try.prog 42 #[.pointer (some ⟨g, 0, none⟩), .int .i64 a1] w fun e w' => ∃ v0_ v2_ : Value, e = .returned (.agg #[v0_, .int .i64 r2, v2_]) ∧ Kd.R (Kd.int .i64) 3 w' w.heap.size (fun k_ => some k_ ≠ (v2_ : Value).ownBlock) v0_ r1 ∧ Kd.R (Kd.int .i64) 3 w' w.heap.size (fun k_ => some k_ ≠ (v0_ : Value).ownBlock) v2_ r3 ∧ IsS78 w0 w' g s0_0 r4 ∧ Below w0.heap.size w0 w' ∧ KeepBut w w' g none := by
 have hu27 := Try.underlying27
 have HI0 := Aside0.mk hI
 have HK := Aside0.mk (KeepBut.refl w g none)
 have HL := Aside0.mk hB.size
 clear hI
 have HW0 := Aside0.mk hB.size
 have HB := Aside0.mk hB
 clear hB
 have H : ((spec_l20Urn.f k s0_0 s0_1 0).bind fun bt253 => ((spec_l20Rd_pick.f k s0_0 bt253.2 5).bind fun bt257 => ((spec_l20Rd_pick.f k s0_0 bt257.2 5).bind fun bt260 => (spec_l20Place.l0 k a1 bt260.1 s0_0 bt260.2 bt253.1 (wrap64 (bt257.1 - 1)) ([] : List Int))))) = some (r1, r2, r3, r4) := h
 clear h
 replace H := Option.bind_eq_some_iff.mp H
 obtain ⟨⟨t253, t256⟩, A30, H⟩ := H
 replace H : ((spec_l20Rd_pick.f k s0_0 t256 5).bind fun bt257 => ((spec_l20Rd_pick.f k s0_0 bt257.2 5).bind fun bt260 => (spec_l20Place.l0 k a1 bt260.1 s0_0 bt260.2 t253 (wrap64 (bt257.1 - 1)) ([] : List Int)))) = some (r1, r2, r3, r4) := H
 have A3 := Aside0.mk A30
 clear A30
 replace H := Option.bind_eq_some_iff.mp H
 obtain ⟨⟨t257, t258⟩, A40, H⟩ := H
 replace H : ((spec_l20Rd_pick.f k s0_0 t258 5).bind fun bt260 => (spec_l20Place.l0 k a1 bt260.1 s0_0 bt260.2 t253 (wrap64 (t257 - 1)) ([] : List Int))) = some (r1, r2, r3, r4) := H
 have A4 := Aside0.mk A40
 clear A40
 replace H := Option.bind_eq_some_iff.mp H
 obtain ⟨⟨t260, t261⟩, A50, H⟩ := H
 replace H : (spec_l20Place.l0 k a1 t260 s0_0 t261 t253 (wrap64 (t257 - 1)) ([] : List Int)) = some (r1, r2, r3, r4) := H
 have A5 := Aside0.mk A50
 clear A50
 have H' := Aside0.mk H
 clear H
 go_enter Try.func42, Try.ntmps42
 go_wp2_with (first | ((with_reducible refine gate_dst (N := 4) rfl ?_); refine box_event ?hg (N := 4) ?hd (cs := #[.slice none 0 0, .int .i64 0, .slice none 0 0]) (t := 27) ?hr ?_; (case hd => rfl); (case hg => rfl); (case hr => first | (go_simp; done) | (go_simp; rfl)); intro gb252 hg w6 hbox hb; have n0_ := Aside0.mk (IsS78.below (by repeat (first | (with_reducible first | exact HI0.out | apply IsS78.alloc | apply IsS78.drewN | apply IsS78.drew | apply IsS78.set_1) | exact HI0.out)) hb); have n1_ := Aside0.mk (KeepBut.trans (tc_ HK.out) (KeepBut.of_below hb g none) (.inl rfl)); have n2_ := Aside0.mk (below_step (by repeat (first | (with_reducible first | exact HB.out | apply la_ | apply ln_ | apply ld_ | refine below_set ?_ (IsS78.ge HI0.out)) | exact HB.out)) hb); have n3_ := Aside0.mk (hbox); have n4_ := Aside0.mk ((by rw [hg]; exact (keep_size (w := w) (g := g) (row := none) (tc_ HK.out)) : w.heap.size ≤ gb252)); have n5_ := Aside0.mk ((Nat.le_trans HW0.out (by rw [hg]; exact (keep_size (w := w) (g := g) (row := none) (tc_ HK.out)) : w.heap.size ≤ gb252) : w0.heap.size ≤ gb252)); have n6_ := Aside0.mk ((by rw [hg]; exact Nat.ne_of_lt (IsS78.lt (show IsS78 w0 _ g s0_0 s0_1 from by repeat (first | (with_reducible first | exact HI0.out | apply IsS78.alloc | apply IsS78.drewN | apply IsS78.drew | apply IsS78.set_1) | exact HI0.out))) : g ≠ gb252)); have n7_ := Aside0.mk ((by rw [hg]; exact Nat.ne_of_gt (IsS78.lt (show IsS78 w0 _ g s0_0 s0_1 from by repeat (first | (with_reducible first | exact HI0.out | apply IsS78.alloc | apply IsS78.drewN | apply IsS78.drew | apply IsS78.set_1) | exact HI0.out))) : gb252 ≠ g)); clear HI0 HK HB; have HI0 := n0_; have HK := n1_; have HB := n2_; have BK252 := n3_; have GW252 := n4_; have GE252 := n5_; have NB0_252 := n6_; have NB252_0 := n7_; clear n0_ n1_ n2_ n3_ n4_ n5_ n6_ n7_ hb hbox hg) | ((with_reducible refine gate_callee (f := 62) rfl ?_); refine goesL_ (some 9) rfl rfl Try.func62 (by kernel_rfl) rfl #[.pointer (some ⟨g, 0, none⟩), .int .i64 0] rfl tz_ ?_; (with_reducible refine (spec_l20Urn.calls k g s0_0 s0_1 0 t253 t256 w0 _ ?side1 ?side2 A3.out).mono ?_); (case side1 => repeat (first | (with_reducible first | exact HI0.out | apply IsS78.alloc | apply IsS78.drewN | apply IsS78.drew | apply IsS78.set_1 | refine IsS78.far ?_ NB0_252.out _) | exact HI0.out)); (case side2 => repeat (first | (with_reducible first | exact HB.out | apply la_ | apply ln_ | apply ld_ | refine below_set ?_ (IsS78.ge HI0.out) | refine below_set ?_ GE252.out) | exact HB.out)); rintro e w7 ⟨v254, rfl, ho0, hi, hb, hk⟩; refine ⟨_, rfl, ?_⟩; have n0_ := Aside0.mk (KeepBut.blk hk (g' := gb252) (o := .cells #[.slice none 0 0, .int .i64 0, .slice none 0 0] 27 (0, 0)) (tk_ BK252.out) NB252_0.out (by simp)); have n1_ := Aside0.mk (Kd.R_lower ho0 (keep_size (w := w) (g := g) (row := none) (tc_ HK.out))); have n2_ := Aside0.mk (KeepBut.trans (tc_ HK.out) hk (.inl rfl)); have n3_ := Aside0.mk (hb); have n4_ := Aside0.mk (hi); clear BK252 HK HB HI0; have BK252 := n0_; have HO255 := n1_; have HK := n2_; have HB := n3_; have HI0 := n4_; clear n0_ n1_ n2_ n3_ n4_; (try clear hb); (try clear hb2); (try clear hk); (try clear hi); (try clear ho0)) | ((with_reducible refine gate_callee (f := 63) rfl ?_); refine goesL_ (some 11) rfl rfl Try.func63 (by kernel_rfl) rfl #[.pointer (some ⟨g, 0, none⟩), .int .i64 5] rfl tz_ ?_; (with_reducible refine (spec_l20Rd_pick.calls k g s0_0 t256 5 t257 t258 w0 _ ?side1 ?side2 A4.out).mono ?_); (case side1 => repeat (first | (with_reducible first | exact HI0.out | apply IsS78.alloc | apply IsS78.drewN | apply IsS78.drew | apply IsS78.set_1 | refine IsS78.far ?_ NB0_252.out _) | exact HI0.out)); (case side2 => repeat (first | (with_reducible first | exact HB.out | apply la_ | apply ln_ | apply ld_ | refine below_set ?_ (IsS78.ge HI0.out) | refine below_set ?_ GE252.out) | exact HB.out)); rintro e w8 ⟨rfl, hi, hb, hk⟩; refine ⟨_, rfl, ?_⟩; have n0_ := Aside0.mk (KeepBut.blk hk (g' := gb252) (o := .cells #[.slice none 0 0, .int .i64 0, .slice none 0 0] 27 (0, 0)) (tk_ BK252.out) NB252_0.out (by simp)); have n1_ := Aside0.mk (Kd.R_mono (Kd.R_keep (IsS78.apart (show IsS78 w0 _ g s0_0 t256 from by repeat (first | (with_reducible first | exact HI0.out | apply IsS78.alloc | apply IsS78.drewN | apply IsS78.drew | apply IsS78.set_1 | refine IsS78.far ?_ NB0_252.out _) | exact HI0.out)) (rR_ HO255.out) (by decide)) hk (fun _ h => h.2)) (fun _ h => h.1)); have n2_ := Aside0.mk (KeepBut.trans (tc_ HK.out) hk (.inl rfl)); have n3_ := Aside0.mk (hb); have n4_ := Aside0.mk (hi); clear BK252 HO255 HK HB HI0; have BK252 := n0_; have HO255 := n1_; have HK := n2_; have HB := n3_; have HI0 := n4_; clear n0_ n1_ n2_ n3_ n4_; (try clear hb); (try clear hb2); (try clear hk); (try clear hi); obtain ⟨Ao9, co9, eo9⟩ := Kd.R_slice HO255.out; subst eo9) | ((with_reducible refine gate_dst (N := 5) rfl ?_); refine box_event ?hg (N := 5) ?hd (cs := #[.slice none 0 0, .int .i64 0, .slice none 0 0]) (t := 27) ?hr ?_; (case hd => rfl); (case hg => rfl); (case hr => first | (go_simp; done) | (go_simp; rfl)); intro gb259 hg w10 hbox hb; have n0_ := Aside0.mk (Kd.R_below (rR_ HO255.out) hb); have n1_ := Aside0.mk (IsS78.below (by repeat (first | (with_reducible first | exact HI0.out | apply IsS78.alloc | apply IsS78.drewN | apply IsS78.drew | apply IsS78.set_1 | refine IsS78.far ?_ NB0_252.out _) | exact HI0.out)) hb); have n2_ := Aside0.mk (blk_below (g := gb252) (o := .cells #[.slice none 0 0, .int .i64 0, .slice none 0 0] 27 (0, 0)) (tk_ BK252.out) hb); have n3_ := Aside0.mk (KeepBut.trans (tc_ HK.out) (KeepBut.of_below hb g none) (.inl rfl)); have n4_ := Aside0.mk (below_step (by repeat (first | (with_reducible first | exact HB.out | apply la_ | apply ln_ | apply ld_ | refine below_set ?_ (IsS78.ge HI0.out) | refine below_set ?_ GE252.out) | exact HB.out)) hb); have n5_ := Aside0.mk (hbox); have n6_ := Aside0.mk ((by rw [hg]; exact (keep_size (w := w) (g := g) (row := none) (tc_ HK.out)) : w.heap.size ≤ gb259)); have n7_ := Aside0.mk ((Nat.le_trans HW0.out (by rw [hg]; exact (keep_size (w := w) (g := g) (row := none) (tc_ HK.out)) : w.heap.size ≤ gb259) : w0.heap.size ≤ gb259)); have n8_ := Aside0.mk ((by rw [hg]; exact Nat.ne_of_lt (blk_lt (g := gb252) (o := .cells #[.slice none 0 0, .int .i64 0, .slice none 0 0] 27 (0, 0)) (tk_ BK252.out)) : gb252 ≠ gb259)); have n9_ := Aside0.mk ((by rw [hg]; exact Nat.ne_of_gt (blk_lt (g := gb252) (o := .cells #[.slice none 0 0, .int .i64 0, .slice none 0 0] 27 (0, 0)) (tk_ BK252.out)) : gb259 ≠ gb252)); have n10_ := Aside0.mk ((by rw [hg]; exact Nat.ne_of_lt (IsS78.lt (show IsS78 w0 _ g s0_0 t258 from by repeat (first | (with_reducible first | exact HI0.out | apply IsS78.alloc | apply IsS78.drewN | apply IsS78.drew | apply IsS78.set_1 | refine IsS78.far ?_ NB0_252.out _) | exact HI0.out))) : g ≠ gb259)); have n11_ := Aside0.mk ((by rw [hg]; exact Nat.ne_of_gt (IsS78.lt (show IsS78 w0 _ g s0_0 t258 from by repeat (first | (with_reducible first | exact HI0.out | apply IsS78.alloc | apply IsS78.drewN | apply IsS78.drew | apply IsS78.set_1 | refine IsS78.far ?_ NB0_252.out _) | exact HI0.out))) : gb259 ≠ g)); clear HO255 HI0 BK252 HK HB; have HO255 := n0_; have HI0 := n1_; have BK252 := n2_; have HK := n3_; have HB := n4_; have BK259 := n5_; have GW259 := n6_; have GE259 := n7_; have NB252_259 := n8_; have NB259_252 := n9_; have NB0_259 := n10_; have NB259_0 := n11_; clear n0_ n1_ n2_ n3_ n4_ n5_ n6_ n7_ n8_ n9_ n10_ n11_ hb hbox hg; have hnb11 := NB259_252.out; have hnc11 := NB252_259.out; have hnb12 := NB259_0.out; have hnc12 := NB0_259.out; have hcz13_0 : w10.cell? ⟨gb259, 0, none⟩ = some (.slice none 0 0) := (blk_cell BK259.out 0).trans rfl; have hcz13_1 : w10.cell? ⟨gb259, 1, none⟩ = some (.int .i64 0) := (blk_cell BK259.out 1).trans rfl; have hcz13_2 : w10.cell? ⟨gb259, 2, none⟩ = some (.slice none 0 0) := (blk_cell BK259.out 2).trans rfl; have hfz13_0 := blk_frozen BK259.out 0; have hfz13_1 := blk_frozen BK259.out 1; have hfz13_2 := blk_frozen BK259.out 2) | ((with_reducible refine gate_callee (f := 63) rfl ?_); refine goesL_ (some 15) rfl rfl Try.func63 (by kernel_rfl) rfl #[.pointer (some ⟨g, 0, none⟩), .int .i64 5] rfl tz_ ?_; (with_reducible refine (spec_l20Rd_pick.calls k g s0_0 t258 5 t260 t261 w0 _ ?side1 ?side2 A5.out).mono ?_); (case side1 => repeat (first | (with_reducible first | exact HI0.out | apply IsS78.alloc | apply IsS78.drewN | apply IsS78.drew | apply IsS78.set_1 | refine IsS78.far ?_ NB0_252.out _ | refine IsS78.far ?_ NB0_259.out _) | exact HI0.out)); (case side2 => repeat (first | (with_reducible first | exact HB.out | apply la_ | apply ln_ | apply ld_ | refine below_set ?_ (IsS78.ge HI0.out) | refine below_set ?_ GE252.out | refine below_set ?_ GE259.out) | exact HB.out)); rintro e w14 ⟨rfl, hi, hb, hk⟩; refine ⟨_, rfl, ?_⟩; have n0_ := Aside0.mk (KeepBut.blk hk (g' := gb252) (o := .cells #[.slice none 0 0, .int .i64 0, .slice none 0 0] 27 (0, 0)) (tk_ BK252.out) NB252_0.out (by simp)); have n1_ := Aside0.mk (Kd.R_mono (Kd.R_keep (IsS78.apart (show IsS78 w0 _ g s0_0 t258 from by repeat (first | (with_reducible first | exact HI0.out | apply IsS78.alloc | apply IsS78.drewN | apply IsS78.drew | apply IsS78.set_1 | refine IsS78.far ?_ NB0_252.out _ | refine IsS78.far ?_ NB0_259.out _) | exact HI0.out)) (by refine qR_ ?_; exact (Kd.R_mono (Kd.R_far (p := ⟨gb259, 2, none⟩) (Kd.R_far (p := ⟨gb259, 1, none⟩) (Kd.R_far (p := ⟨gb259, 0, none⟩) (Kd.R_types HO255.out BK259.out (by decide)) (fun _ hk => hk.2) (.slice Ao9 t253.length co9)) (fun _ hk => hk.2) (.int .i64 (wrap64 (t257 - 1)))) (fun _ hk => hk.2) (.slice none 0 0)) (fun _ h_ => h_.1))) (by decide)) hk (fun _ h => h.2)) (fun _ h => h.1)); have n2_ := Aside0.mk (KeepBut.blk hk (g' := gb259) (o := .cells #[.slice Ao9 t253.length co9, .int .i64 (wrap64 (t257 - 1)), .slice none 0 0] 27 (0, 0)) (by refine bq_ ?_; refine blk_put (cs := #[.slice Ao9 t253.length co9, .int .i64 (wrap64 (t257 - 1)), .slice none 0 0]) ?_ 2 _ rfl; refine bq_ ?_; refine blk_put (cs := #[.slice Ao9 t253.length co9, .int .i64 0, .slice none 0 0]) ?_ 1 _ rfl; refine bq_ ?_; refine blk_put (cs := #[.slice none 0 0, .int .i64 0, .slice none 0 0]) ?_ 0 _ rfl; exact tk_ BK259.out) NB259_0.out (by simp)); have n3_ := Aside0.mk (KeepBut.trans (tc_ HK.out) hk (.inl rfl)); have n4_ := Aside0.mk (hb); have n5_ := Aside0.mk (hi); clear BK252 HO255 BK259 HK HB HI0; have BK252 := n0_; have HO255 := n1_; have BK259 := n2_; have HK := n3_; have HB := n4_; have HI0 := n5_; clear n0_ n1_ n2_ n3_ n4_ n5_; (try clear hb); (try clear hb2); (try clear hk); (try clear hi)))
 go_loopg [6] k (fun kq v6 w' => ∃ (x6_1 : Int) (x1001_1 : Int) (x260002_1 : List Int) (u260002 : Value), v6 = .int .i64 x6_1 ∧ Aside0 (spec_l20Place.l0 kq a1 x6_1 s0_0 x1001_1 t253 (wrap64 (t257 - 1)) x260002_1 = some (r1, r2, r3, r4)) ∧ Aside0 (kq ≤ k) ∧ Aside0 (Kd.R (Kd.int .i64) 3 w' w.heap.size (fun k_ => some k_ ≠ (u260002 : Value).ownBlock) (.slice Ao9 t253.length co9) t253) ∧ Aside0 (Kd.R (Kd.int .i64) 3 w' w.heap.size (fun k_ => some k_ ≠ ((.slice Ao9 t253.length co9) : Value).ownBlock) u260002 x260002_1) ∧ Aside0 (w'.heap[gb252]? = some (.cells #[(.slice none 0 0), .int .i64 0, (.slice none 0 0)] 27 (0, 0))) ∧ Aside0 (w'.heap[gb259]? = some (.cells #[(.slice Ao9 t253.length co9), .int .i64 (wrap64 (t257 - 1)), u260002] 27 (0, 0))) ∧ Aside0 (IsS78 w0 w' g s0_0 x1001_1) ∧ Aside0 (KeepBut w w' g none) ∧ Aside0 (Below w0.heap.size w0 w'))
 case atStart => exact ⟨(t260), (t261), (([] : List Int)), (.slice none 0 0), tx_, H', ⟨Nat.le_refl _⟩, ⟨by refine qR_ ?_; exact Kd.R_mono HO255.out (fun _ hk => (by simp [Value.ownBlock]))⟩, ⟨by first | exact Kd.R_nil _ _ _ _ _ | exact Kd.N_nil _ _ _ _ _ | exact Kd.V_nil _ _ _ _ _ | exact Kd.Q_nil _ _ _ _ _ | exact Kd.S_nil _ _ _ _ _⟩, ⟨tk_ BK252.out⟩, ⟨tk_ BK259.out⟩, ⟨by repeat (first | (with_reducible first | exact HI0.out | apply IsS78.alloc | apply IsS78.drewN | apply IsS78.drew | apply IsS78.set_1 | refine IsS78.far ?_ NB0_252.out _ | refine IsS78.far ?_ NB0_259.out _) | exact HI0.out)⟩, ⟨(tc_ HK.out)⟩, ⟨by repeat (first | (with_reducible first | exact HB.out | apply la_ | apply ln_ | apply ld_ | refine below_set ?_ (IsS78.ge HI0.out) | refine below_set ?_ GE252.out | refine below_set ?_ GE259.out) | exact HB.out)⟩⟩
 case round =>
  clear H'
  try clear c1
  try clear p2
  try clear c4
  try clear c6
  try clear p6
  try clear c11
  try clear c12
  try clear hcz13_0
  try clear hcz13_1
  try clear hcz13_2
  try clear hfz13_0
  try clear hfz13_1
  try clear hfz13_2
  obtain ⟨x6_1, x1001_1, x260002_1, u260002, rfl, HA, HK1, HO_260000, HO_260002, BK252, BK259, HI0, HK, HB⟩ := hrel
  cases gk with
  | zero => exact absurd HA.out (by simp [spec_l20Place.l0])
  | succ k1 =>
   have H := HA.out
   clear HA
   simp only [spec_l20Place.l0] at H
   by_cases c15 : x6_1 > 0
   ·
    rw [if_pos c15] at H
    have c15b0 : decide (0 < x6_1) = true := decide_eq_true c15
    clear c15
    obtain ⟨y262, hy262⟩ : ∃ y_ : List Int, y_ = (([] : List Int)) := ⟨_, rfl⟩
    replace H : (if y262.length + x260002_1.length < 17592186044416 then ((some (y262 ++ x260002_1 : List Int)).bind fun y265 => ((spec_l20Rd_pick.f k1 s0_0 x1001_1 (t253.length : Int)).bind fun bt268 => (if y265.length < 17592186044416 then ((some (y265 ++ [bt268.1] : List Int)).bind fun y270 => ((spec_PlaceOk.f k1 t253 (wrap64 (t257 - 1)) y270).bind fun t273 => (if t273 = true then (spec_l20Place.l0 k1 a1 (wrap64 (x6_1 - 1)) s0_0 bt268.2 t253 (wrap64 (t257 - 1)) y270) else (spec_l20Place.l0 k1 a1 (wrap64 (x6_1 - 1)) s0_0 bt268.2 t253 (wrap64 (t257 - 1)) x260002_1)))) else (none)))) else (none)) = some (r1, r2, r3, r4) := by first | (rw [hy262]; with_reducible exact H) | (have H2_ := (Option.bind_some _ _).symm.trans H; rw [hy262]; with_reducible exact H2_) | (have H2_ := (Option.bind_some _ _).symm.trans H; with_reducible exact H2_) | with_reducible exact H | (rw [hy262]; exact H) | exact H
    have Ny262 := Aside0.mk hy262
    clear hy262
    by_cases c16 : y262.length + x260002_1.length < 17592186044416
    ·
     rw [if_pos c16] at H
     have LMc16 := Aside0.mk c16
     clear c16
     obtain ⟨y265, hy265⟩ : ∃ y_ : List Int, y_ = (y262 ++ x260002_1) := ⟨_, rfl⟩
     replace H : ((spec_l20Rd_pick.f k1 s0_0 x1001_1 (t253.length : Int)).bind fun bt268 => (if y265.length < 17592186044416 then ((some (y265 ++ [bt268.1] : List Int)).bind fun y270 => ((spec_PlaceOk.f k1 t253 (wrap64 (t257 - 1)) y270).bind fun t273 => (if t273 = true then (spec_l20Place.l0 k1 a1 (wrap64 (x6_1 - 1)) s0_0 bt268.2 t253 (wrap64 (t257 - 1)) y270) else (spec_l20Place.l0 k1 a1 (wrap64 (x6_1 - 1)) s0_0 bt268.2 t253 (wrap64 (t257 - 1)) x260002_1)))) else (none))) = some (r1, r2, r3, r4) := by first | (rw [hy265]; with_reducible exact H) | (have H2_ := (Option.bind_some _ _).symm.trans H; rw [hy265]; with_reducible exact H2_) | (have H2_ := (Option.bind_some _ _).symm.trans H; with_reducible exact H2_) | with_reducible exact H | (rw [hy265]; exact H) | exact H
     have Ny265 := Aside0.mk hy265
     clear hy265
     replace H := Option.bind_eq_some_iff.mp H
     obtain ⟨⟨t268, t269⟩, A170, H⟩ := H
     replace H : (if y265.length < 17592186044416 then ((some (y265 ++ [t268] : List Int)).bind fun y270 => ((spec_PlaceOk.f k1 t253 (wrap64 (t257 - 1)) y270).bind fun t273 => (if t273 = true then (spec_l20Place.l0 k1 a1 (wrap64 (x6_1 - 1)) s0_0 t269 t253 (wrap64 (t257 - 1)) y270) else (spec_l20Place.l0 k1 a1 (wrap64 (x6_1 - 1)) s0_0 t269 t253 (wrap64 (t257 - 1)) x260002_1)))) else (none)) = some (r1, r2, r3, r4) := H
     have A17 := Aside0.mk A170
     clear A170
     by_cases c18 : y265.length < 17592186044416
     ·
      rw [if_pos c18] at H
      have LMc18 := Aside0.mk c18
      clear c18
      obtain ⟨y270, hy270⟩ : ∃ y_ : List Int, y_ = (y265 ++ [t268]) := ⟨_, rfl⟩
      replace H : ((spec_PlaceOk.f k1 t253 (wrap64 (t257 - 1)) y270).bind fun t273 => (if t273 = true then (spec_l20Place.l0 k1 a1 (wrap64 (x6_1 - 1)) s0_0 t269 t253 (wrap64 (t257 - 1)) y270) else (spec_l20Place.l0 k1 a1 (wrap64 (x6_1 - 1)) s0_0 t269 t253 (wrap64 (t257 - 1)) x260002_1))) = some (r1, r2, r3, r4) := by first | (rw [hy270]; with_reducible exact H) | (have H2_ := (Option.bind_some _ _).symm.trans H; rw [hy270]; with_reducible exact H2_) | (have H2_ := (Option.bind_some _ _).symm.trans H; with_reducible exact H2_) | with_reducible exact H | (rw [hy270]; exact H) | exact H
      have Ny270 := Aside0.mk hy270
      clear hy270
      replace H := Option.bind_eq_some_iff.mp H
      obtain ⟨t273, A190, H⟩ := H
      replace H : (if t273 = true then (spec_l20Place.l0 k1 a1 (wrap64 (x6_1 - 1)) s0_0 t269 t253 (wrap64 (t257 - 1)) y270) else (spec_l20Place.l0 k1 a1 (wrap64 (x6_1 - 1)) s0_0 t269 t253 (wrap64 (t257 - 1)) x260002_1)) = some (r1, r2, r3, r4) := H
      have A19 := Aside0.mk A190
      clear A190
      by_cases c20 : t273 = true
      ·
       subst c20
       have H1 : (spec_l20Place.l0 k1 a1 (wrap64 (x6_1 - 1)) s0_0 t269 t253 (wrap64 (t257 - 1)) y270) = some (r1, r2, r3, r4) := by rw [if_pos rfl] at H; exact H
       clear H
       have H := H1
       clear H1
       have H' := Aside0.mk H
       clear H
       try go_wp2
       have n0_ := Aside0.mk (Kd.R_drew HO_260000.out)
       have n1_ := Aside0.mk (Kd.R_drew HO_260002.out)
       have n2_ := Aside0.mk (blk_drew BK252.out)
       have n3_ := Aside0.mk (blk_drew BK259.out)
       have n4_ := Aside0.mk (IsS78.drew HI0.out)
       have n5_ := Aside0.mk (keep_drew HK.out)
       have n6_ := Aside0.mk (ld_ HB.out)
       clear HO_260000
       clear HO_260002
       clear BK252
       clear BK259
       clear HI0
       clear HK
       clear HB
       have HO_260000 := n0_
       have HO_260002 := n1_
       have BK252 := n2_
       have BK259 := n3_
       have HI0 := n4_
       have HK := n5_
       have HB := n6_
       clear n0_ n1_ n2_ n3_ n4_ n5_ n6_
       refine start_ (n := 12) (S := fun w' => w'.cell? ⟨gb259, 0, none⟩ = some (.slice Ao9 t253.length co9) ∧ w'.cell? ⟨gb259, 1, none⟩ = some (.int .i64 (wrap64 (t257 - 1))) ∧ w'.cell? ⟨gb259, 2, none⟩ = some (u260002)) (ds := []) #[false, false, false, false, false, false, false, false, false, false, false, false] (by kernel_rfl) rfl rfl ⟨(blk_cell BK259.out 0).trans rfl, (blk_cell BK259.out 1).trans rfl, (blk_cell BK259.out 2).trans rfl⟩ (fun hHeld => ?_); refine with_tabW spec_l20Place.tab5 spec_l20Place.bits5 (fun HT_ HW_ => ?_)
       generalize wr.drew = w21 at HO_260000 HO_260002 BK252 BK259 HI0 HK HB hHeld ⊢
       refine pure_ (i := 1) (N := some 21) (v := ?_) (a' := ?_) #[false, true, false, false, false, false, false, false, false, false, false, false] rfl rfl (any_of HT_.out (by kernel_rfl)) (fun _ _ _ h => h) (Or.inl ⟨by rfl, ?_⟩) ?_ ?_
       rotate_left
       ·
        intro w'
        go_simp
        with_reducible rfl
       rotate_left
       ·
        simp only [Act.put, sa_, sb_, sc_, i64_w, i32_w]
        rfl
       refine pure_ (i := 4) (N := some 24) (v := ?_) (a' := ?_) #[false, true, false, false, true, false, false, false, false, false, false, false] rfl rfl (any_of HT_.out (by kernel_rfl)) (fun _ _ _ h => h) (Or.inl ⟨by rfl, ?_⟩) ?_ ?_
       rotate_left
       ·
        intro w'
        go_simp
        with_reducible rfl
       rotate_left
       ·
        simp only [Act.put, sa_, sb_, sc_, i64_w, i32_w]
        rfl
       refine pure_ (i := 5) (N := some 25) (v := ?_) (a' := ?_) #[false, true, false, false, true, true, false, false, false, false, false, false] rfl rfl (any_of HT_.out (by kernel_rfl)) (fun _ _ _ h => h) (Or.inl ⟨by rfl, ?_⟩) ?_ ?_
       rotate_left
       ·
        intro w'
        go_simp
        with_reducible rfl
       rotate_left
       ·
        simp only [Act.put, sa_, sb_, sc_, i64_w, i32_w]
        rfl
       refine take_ (i := 2) (N := some 22) (v := ?_) (a' := ?_) #[false, true, true, false, true, true, false, false, false, false, false, false] rfl rfl (take_ofW HT_.out HW_.out (by kernel_rfl)) (fun _ _ _ h => h) (Or.inl ⟨by rfl, ?_⟩) hHeld ?_ ?_
       rotate_left
       ·
        rintro w' ⟨s0, s1, s2⟩
        go_simp
        with_reducible rfl
       rotate_left
       ·
        simp only [Act.put, sa_, sb_, sc_, i64_w, i32_w]
        rfl
       refine take_ (i := 6) (N := some 26) (v := ?_) (a' := ?_) #[false, true, true, false, true, true, true, false, false, false, false, false] rfl rfl (take_ofW HT_.out HW_.out (by kernel_rfl)) (fun _ _ _ h => h) (Or.inl ⟨by rfl, ?_⟩) hHeld ?_ ?_
       rotate_left
       ·
        rintro w' ⟨s0, s1, s2⟩
        go_simp
        with_reducible rfl
       rotate_left
       ·
        simp only [Act.put, sa_, sb_, sc_, i64_w, i32_w]
        rfl
       refine pure_ (i := 7) (N := some 27) (v := ?_) (a' := ?_) #[false, true, true, false, true, true, true, true, false, false, false, false] rfl rfl (any_of HT_.out (by kernel_rfl)) (fun _ _ _ h => h) (Or.inl ⟨by rfl, ?_⟩) ?_ ?_
       rotate_left
       ·
        intro w'
        go_simp
        with_reducible rfl
       rotate_left
       ·
        simp only [Act.put, sa_, sb_, sc_, i64_w, i32_w]
        rfl
       refine one_ (i := 0) (N := some 20) #[true, true, true, false, true, true, true, true, false, false, false, false] rfl rfl (one_of HT_.out (by kernel_rfl)) (by decide) (fun K hK => ?_)
       refine Kd.R_lit_step (Kd.int .i64) _ 3 ?hg (N := 20) ?hd (xs := ([] : List Int)) (inner := []) (ok := fun _ => True) (okp := fun _ => True) ?hr ?hp (fun _ hk => hk) trivial (Below.refl _ _) (Nat.le_refl _) (by simp) ?_; (case hd => rfl); (case hg => rfl); (case hr => first | (go_simp; done) | (go_simp; rfl)); (case hp => exact (Reps.none _ _))
       intro v263 w22 ho23 hb hg_ hnew_
       clear hg_ hnew_
       (first | rw [← Ny262.out] at ho23 | (simp only [Int.reduceToNat] at ho23; rw [← Ny262.out] at ho23))
       have n0_ := Aside0.mk (Kd.R_elder' (rR_ HO_260000.out) (Kd.R_base ho23) hb)
       have n1_ := Aside0.mk (Kd.R_elder' (rR_ HO_260002.out) (Kd.R_base ho23) hb)
       have n2_ := Aside0.mk (Kd.R_lower (Kd.R_new' (Kd.R_new' ho23 (Kd.R_lt (rR_ HO_260000.out))) (Kd.R_lt (rR_ HO_260002.out))) (keep_size (w := w) (g := g) (row := none) (tc_ HK.out)))
       have n3_ := Aside0.mk (blk_below (g := gb252) (o := .cells #[.slice none 0 0, .int .i64 0, .slice none 0 0] 27 (0, 0)) (tk_ BK252.out) hb)
       have n4_ := Aside0.mk (blk_below (g := gb259) (o := .cells #[.slice Ao9 t253.length co9, .int .i64 (wrap64 (t257 - 1)), u260002] 27 (0, 0)) (tk_ BK259.out) hb)
       have n5_ := Aside0.mk (IsS78.below (by repeat (first | (with_reducible first | exact HI0.out | apply IsS78.alloc | apply IsS78.drewN | apply IsS78.drew | apply IsS78.set_1 | refine IsS78.far ?_ NB0_252.out _ | refine IsS78.far ?_ NB0_259.out _) | exact HI0.out)) hb)
       have n6_ := Aside0.mk (KeepBut.trans (tc_ HK.out) (KeepBut.of_below hb g none) (.inl rfl))
       have n7_ := Aside0.mk (below_step (by repeat (first | (with_reducible first | exact HB.out | apply la_ | apply ln_ | apply ld_ | refine below_set ?_ (IsS78.ge HI0.out) | refine below_set ?_ GE252.out | refine below_set ?_ GE259.out) | exact HB.out)) hb)
       clear HO_260000
       clear HO_260002
       clear BK252
       clear BK259
       clear HI0
       clear HK
       clear HB
       have HO_260000 := n0_
       have HO_260002 := n1_
       have HO264 := n2_
       have BK252 := n3_
       have BK259 := n4_
       have HI0 := n5_
       have HK := n6_
       have HB := n7_
       clear n0_ n1_ n2_ n3_ n4_ n5_ n6_ n7_
       clear hb ho23
       obtain ⟨Ao25, co25, eo25⟩ := Kd.R_slice HO_260002.out
       (first | subst eo25 | (injection eo25 with f1_ f2_ f3_; have f4_ := f1_.symm; have f5_ := f3_.symm; clear f1_ f2_ f3_; subst f4_; subst f5_))
       refine hK.out _ _ ⟨(blk_cell BK259.out 0).trans rfl, (blk_cell BK259.out 1).trans rfl, (blk_cell BK259.out 2).trans rfl⟩ (fun hHeld => ?_)
       clear hK K
       refine norm_ (a' := ?_) ?_ ?_
       rotate_left
       ·
        show Act.put _ (some 20) _ = _
        simp only [Act.put, sa_, sb_, sc_, i64_w, i32_w]
        rfl
       refine one_ (i := 3) (N := some 23) #[true, true, true, true, true, true, true, true, false, false, false, false] rfl rfl (one_of HT_.out (by kernel_rfl)) (by decide) (fun K hK => ?_)
       refine Kd.R_append_rows_step (Kd.int .i64) w.heap.size (by rfl) (.tmp 20) (.tmp 22) 22 3 (.int .i64 0) 8 rfl Try.underlying22 info3 rfl (by decide) (by omega) v263 y262 x260002_1 _ _ _ (fun k_ => some k_ ≠ (.slice Ao9 t253.length co9 : Value).ownBlock ∧ some k_ ≠ (.slice Ao25 x260002_1.length co25 : Value).ownBlock) (fun _ => False) rfl rfl ?aO ?aR (fun _ _ h => h) (fun _ h => h.elim) ?aF (Below.refl _ _) ?aS ?aL ?_
       (case aR => repeat (first | exact (Kd.R_reads' HO_260002.out).2.2 | (with_reducible refine Kd.C_alloc ?_ _) | (with_reducible refine Kd.C_drewN ?_ _) | (with_reducible refine Kd.C_drew ?_)))
       (case aF => exact (fun k_ hk => ⟨Kd.fresh' (Kd.R_lt (rR_ HO_260000.out)) k_ hk, Kd.fresh' (Kd.R_lt (rR_ HO_260002.out)) k_ hk⟩))
       (case aO => exact (by refine qR_ ?_; exact Kd.R_mono HO264.out (fun _ hk => ⟨hk.1.2, hk.2⟩)))
       (case aS => exact (keep_size (w := w) (g := g) (row := none) (tc_ HK.out)))
       (case aL => have := LMc16.out; omega)
       intro v266 w24 ho hb hg hat
       rw [← Ny265.out] at ho
       have n0_ := Aside0.mk (Kd.R_after (ok := (fun k_ => some k_ ≠ (.slice Ao25 x260002_1.length co25 : Value).ownBlock)) (rR_ HO_260000.out) hg hat)
       have n1_ := Aside0.mk (Kd.R_after (ok := (fun k_ => some k_ ≠ (.slice Ao9 t253.length co9 : Value).ownBlock)) (rR_ HO_260002.out) hg hat)
       have n2_ := Aside0.mk (blk_grown (g := gb252) (o := .cells #[.slice none 0 0, .int .i64 0, .slice none 0 0] 27 (0, 0)) (tk_ BK252.out) hg (Kd.R_ne HO264.out BK252.out (by decide)))
       have n3_ := Aside0.mk (blk_grown (g := gb259) (o := .cells #[.slice Ao9 t253.length co9, .int .i64 (wrap64 (t257 - 1)), .slice Ao25 x260002_1.length co25] 27 (0, 0)) (tk_ BK259.out) hg (Kd.R_ne HO264.out BK259.out (by decide)))
       have n4_ := Aside0.mk (IsS78.grown (by repeat (first | (with_reducible first | exact HI0.out | apply IsS78.alloc | apply IsS78.drewN | apply IsS78.drew | apply IsS78.set_1 | refine IsS78.far ?_ NB0_252.out _ | refine IsS78.far ?_ NB0_259.out _) | exact HI0.out)) hg (IsS78.own_ne HI0.out HO264.out (by decide)))
       have n5_ := Aside0.mk (below_weaken (by repeat (first | (with_reducible first | exact HB.out | apply la_ | apply ln_ | apply ld_ | refine below_set ?_ (IsS78.ge HI0.out) | refine below_set ?_ GE252.out | refine below_set ?_ GE259.out) | exact HB.out)) HL.out hb)
       have n6_ := Aside0.mk (KeepBut.trans (tc_ HK.out) (KeepBut.of_grown hg g) (Kd.R_base2 HO264.out))
       have n7_ := Aside0.mk (ho)
       clear HO_260000
       clear HO_260002
       clear BK252
       clear BK259
       clear HI0
       clear HB
       clear HK
       clear HO264
       have HO_260000 := n0_
       have HO_260002 := n1_
       have BK252 := n2_
       have BK259 := n3_
       have HI0 := n4_
       have HB := n5_
       have HK := n6_
       have HO267 := n7_
       clear n0_ n1_ n2_ n3_ n4_ n5_ n6_ n7_
       clear ho hb hg hat
       refine hK.out _ _ ⟨(blk_cell BK259.out 0).trans rfl, (blk_cell BK259.out 1).trans rfl, (blk_cell BK259.out 2).trans rfl⟩ (fun hHeld => ?_)
       clear hK K
       refine norm_ (a' := ?_) ?_ ?_
       rotate_left
       ·
        show Act.put _ (some 23) _ = _
        simp only [Act.put, sa_, sb_, sc_, i64_w, i32_w]
        rfl
       refine one_ (i := 8) (N := some 28) #[true, true, true, true, true, true, true, true, true, false, false, false] rfl rfl (one_of HT_.out (by kernel_rfl)) (by decide) (fun K hK => ?_)
       refine goes_ Try.func63 (by kernel_rfl) rfl #[.pointer (some ⟨g, 0, none⟩), .int .i64 (t253.length : Int)] (by rfl) rfl rfl tz_ ?_
       with_reducible refine (spec_l20Rd_pick.calls k1 g s0_0 x1001_1 (t253.length : Int) t268 t269 w0 _ ?side1 ?side2 A17.out).mono ?_
       (case side1 => repeat (first | (with_reducible first | exact HI0.out | apply IsS78.alloc | apply IsS78.drewN | apply IsS78.drew | apply IsS78.set_1 | refine IsS78.far ?_ NB0_252.out _ | refine IsS78.far ?_ NB0_259.out _) | exact HI0.out))
       (case side2 => repeat (first | (with_reducible first | exact HB.out | apply la_ | apply ln_ | apply ld_ | refine below_set ?_ (IsS78.ge HI0.out) | refine below_set ?_ GE252.out | refine below_set ?_ GE259.out) | exact HB.out))
       rintro e w26 ⟨rfl, hi, hb, hk⟩
       refine ⟨_, rfl, ?_⟩
       have n0_ := Aside0.mk (Kd.R_mono (Kd.R_keep (IsS78.apart (show IsS78 w0 _ g s0_0 x1001_1 from by repeat (first | (with_reducible first | exact HI0.out | apply IsS78.alloc | apply IsS78.drewN | apply IsS78.drew | apply IsS78.set_1 | refine IsS78.far ?_ NB0_252.out _ | refine IsS78.far ?_ NB0_259.out _) | exact HI0.out)) (rR_ HO_260000.out) (by decide)) hk (fun _ h => h.2)) (fun _ h => h.1))
       have n1_ := Aside0.mk (Kd.R_mono (Kd.R_keep (IsS78.apart (show IsS78 w0 _ g s0_0 x1001_1 from by repeat (first | (with_reducible first | exact HI0.out | apply IsS78.alloc | apply IsS78.drewN | apply IsS78.drew | apply IsS78.set_1 | refine IsS78.far ?_ NB0_252.out _ | refine IsS78.far ?_ NB0_259.out _) | exact HI0.out)) (rR_ HO_260002.out) (by decide)) hk (fun _ h => h.2)) (fun _ h => h.1))
       have n2_ := Aside0.mk (KeepBut.blk hk (g' := gb252) (o := .cells #[.slice none 0 0, .int .i64 0, .slice none 0 0] 27 (0, 0)) (tk_ BK252.out) NB252_0.out (by simp))
       have n3_ := Aside0.mk (KeepBut.blk hk (g' := gb259) (o := .cells #[.slice Ao9 t253.length co9, .int .i64 (wrap64 (t257 - 1)), .slice Ao25 x260002_1.length co25] 27 (0, 0)) (tk_ BK259.out) NB259_0.out (by simp))
       have n4_ := Aside0.mk (Kd.R_mono (Kd.R_keep (IsS78.apart (show IsS78 w0 _ g s0_0 x1001_1 from by repeat (first | (with_reducible first | exact HI0.out | apply IsS78.alloc | apply IsS78.drewN | apply IsS78.drew | apply IsS78.set_1 | refine IsS78.far ?_ NB0_252.out _ | refine IsS78.far ?_ NB0_259.out _) | exact HI0.out)) (rR_ HO267.out) (by decide)) hk (fun _ h => h.2)) (fun _ h => h.1))
       have n5_ := Aside0.mk (KeepBut.trans (tc_ HK.out) hk (.inl rfl))
       have n6_ := Aside0.mk (hb)
       have n7_ := Aside0.mk (hi)
       clear HO_260000
       clear HO_260002
       clear BK252
       clear BK259
       clear HO267
       clear HK
       clear HB
       clear HI0
       have HO_260000 := n0_
       have HO_260002 := n1_
       have BK252 := n2_
       have BK259 := n3_
       have HO267 := n4_
       have HK := n5_
       have HB := n6_
       have HI0 := n7_
       clear n0_ n1_ n2_ n3_ n4_ n5_ n6_ n7_
       (try clear hb)
       (try clear hb2)
       (try clear hk)
       (try clear hi)
       refine hK.out _ _ ⟨(blk_cell BK259.out 0).trans rfl, (blk_cell BK259.out 1).trans rfl, (blk_cell BK259.out 2).trans rfl⟩ (fun hHeld => ?_)
       clear hK K
       refine norm_ (a' := ?_) ?_ ?_
       rotate_left
       ·
        show Act.put _ (some 28) _ = _
        simp only [Act.put, sa_, sb_, sc_, i64_w, i32_w]
        rfl
       refine one_ (i := 9) (N := some 29) #[true, true, true, true, true, true, true, true, true, true, false, false] rfl rfl (one_of HT_.out (by kernel_rfl)) (by decide) (fun K hK => ?_)
       refine value_ (w1 := ?_) (v := ?_) (by rfl) rfl ?_ ?_
       rotate_left 2
       ·
        go_simp
        constructor
        ·
         rfl
        ·
         rfl
       refine hK.out _ _ ⟨(blk_cell (blk_alloc BK259.out _) 0).trans rfl, (blk_cell (blk_alloc BK259.out _) 1).trans rfl, (blk_cell (blk_alloc BK259.out _) 2).trans rfl⟩ (fun hHeld => ?_)
       clear hK K
       refine norm_ (a' := ?_) ?_ ?_
       rotate_left
       ·
        show Act.put _ (some 29) _ = _
        simp only [Act.put, sa_, sb_, sc_, i64_w, i32_w]
        rfl
       refine one_ (i := 10) (N := some 30) #[true, true, true, true, true, true, true, true, true, true, true, false] rfl rfl (one_of HT_.out (by kernel_rfl)) (by decide) (fun K hK => ?_)
       refine Kd.R_append_step (Kd.int .i64) w.heap.size (by rfl) (.tmp 23) (.tmp 29) 22 3 (.int .i64 0) 8 rfl Try.underlying22 info3 rfl (by decide) (by omega) v266 y265 t268 [.int .i64 t268] (fun k_ => some k_ ≠ (.slice Ao9 t253.length co9 : Value).ownBlock ∧ some k_ ≠ (.slice Ao25 x260002_1.length co25 : Value).ownBlock) (fun _ => False) rfl rfl ?aP (fun _ hk => hk.elim) ?aF ?aO (Below.refl _ _) ?aS ?aL ?_
       (case aP => exact rfl)
       (case aF => exact (fun k_ hk => ⟨Kd.fresh' (Kd.R_lt (rR_ HO_260000.out)) k_ hk, Kd.fresh' (Kd.R_lt (rR_ HO_260002.out)) k_ hk⟩))
       (case aO => exact (rR_ HO267.out))
       (case aS => exact (keep_size (w := w) (g := g) (row := none) (tc_ HK.out)))
       (case aL => have := LMc18.out; omega)
       intro v271 w27 ho hb hg hat
       rw [← Ny270.out] at ho
       have n0_ := Aside0.mk (Kd.R_after (ok := (fun k_ => some k_ ≠ (.slice Ao25 x260002_1.length co25 : Value).ownBlock)) (rR_ HO_260000.out) hg hat)
       have n1_ := Aside0.mk (Kd.R_after (ok := (fun k_ => some k_ ≠ (.slice Ao9 t253.length co9 : Value).ownBlock)) (rR_ HO_260002.out) hg hat)
       have n2_ := Aside0.mk (blk_grown (g := gb252) (o := .cells #[.slice none 0 0, .int .i64 0, .slice none 0 0] 27 (0, 0)) (tk_ BK252.out) hg (Kd.R_ne HO267.out BK252.out (by decide)))
       have n3_ := Aside0.mk (blk_grown (g := gb259) (o := .cells #[.slice Ao9 t253.length co9, .int .i64 (wrap64 (t257 - 1)), .slice Ao25 x260002_1.length co25] 27 (0, 0)) (tk_ BK259.out) hg (Kd.R_ne HO267.out BK259.out (by decide)))
       have n4_ := Aside0.mk (IsS78.grown (by repeat (first | (with_reducible first | exact HI0.out | apply IsS78.alloc | apply IsS78.drewN | apply IsS78.drew | apply IsS78.set_1 | refine IsS78.far ?_ NB0_252.out _ | refine IsS78.far ?_ NB0_259.out _) | exact HI0.out)) hg (IsS78.own_ne HI0.out HO267.out (by decide)))
       have n5_ := Aside0.mk (below_weaken (by repeat (first | (with_reducible first | exact HB.out | apply la_ | apply ln_ | apply ld_ | refine below_set ?_ (IsS78.ge HI0.out) | refine below_set ?_ GE252.out | refine below_set ?_ GE259.out) | exact HB.out)) HL.out hb)
       have n6_ := Aside0.mk (KeepBut.trans (tc_ HK.out) (KeepBut.of_grown hg g) (Kd.R_base2 HO267.out))
       have n7_ := Aside0.mk (ho)
       clear HO_260000
       clear HO_260002
       clear BK252
       clear BK259
       clear HI0
       clear HB
       clear HK
       clear HO267
       have HO_260000 := n0_
       have HO_260002 := n1_
       have BK252 := n2_
       have BK259 := n3_
       have HI0 := n4_
       have HB := n5_
       have HK := n6_
       have HO272 := n7_
       clear n0_ n1_ n2_ n3_ n4_ n5_ n6_ n7_
       clear ho hb hg hat
       refine hK.out _ _ ⟨(blk_cell BK259.out 0).trans rfl, (blk_cell BK259.out 1).trans rfl, (blk_cell BK259.out 2).trans rfl⟩ (fun hHeld => ?_)
       clear hK K
       refine norm_ (a' := ?_) ?_ ?_
       rotate_left
       ·
        show Act.put _ (some 30) _ = _
        simp only [Act.put, sa_, sb_, sc_, i64_w, i32_w]
        rfl
       refine pure_ (i := 11) (N := some 7) (v := ?_) (a' := ?_) #[true, true, true, true, true, true, true, true, true, true, true, true] rfl rfl (any_of HT_.out (by kernel_rfl)) (fun _ _ _ h => h) (Or.inl ⟨by rfl, ?_⟩) ?_ ?_
       rotate_left
       ·
        intro w'
        go_simp
        with_reducible rfl
       rotate_left
       ·
        simp only [Act.put, sa_, sb_, sc_, i64_w, i32_w]
        rfl
       refine done_ (done_of HT_.out (by kernel_rfl)) ?_
       have hnb28 := NB259_252.out
       have hnc28 := NB252_259.out
       have hnb29 := NB259_0.out
       have hnc29 := NB0_259.out
       have hcz30_0 : w27.cell? ⟨gb259, 0, none⟩ = some (.slice Ao9 t253.length co9) := (blk_cell BK259.out 0).trans rfl
       have hcz30_1 : w27.cell? ⟨gb259, 1, none⟩ = some (.int .i64 (wrap64 (t257 - 1))) := (blk_cell BK259.out 1).trans rfl
       have hcz30_2 : w27.cell? ⟨gb259, 2, none⟩ = some (.slice Ao25 x260002_1.length co25) := (blk_cell BK259.out 2).trans rfl
       have hfz30_0 := blk_frozen BK259.out 0
       have hfz30_1 := blk_frozen BK259.out 1
       have hfz30_2 := blk_frozen BK259.out 2
       obtain ⟨Ao31, co31, eo31⟩ := Kd.R_slice HO272.out
       subst eo31
       try go_wp2_with (first | ((with_reducible refine gate_callee (f := 10) rfl ?_); refine goesL_ (some 37) rfl rfl Try.func10 (by kernel_rfl) rfl #[.agg #[.slice Ao9 t253.length co9, .int .i64 (wrap64 (t257 - 1)), .slice Ao31 y270.length co31]] rfl tz_ ?_; (with_reducible refine (spec_PlaceOk.calls k1 _ _ t253 (wrap64 (t257 - 1)) _ _ y270 true _ ?side1 ?side2 ?side3 ?side4 A19.out).mono ?_); (case side1 => repeat (first | exact (Kd.R_reads' HO_260000.out).2.2 | (with_reducible refine Kd.C_alloc ?_ _) | (with_reducible refine Kd.C_drewN ?_ _) | (with_reducible refine Kd.C_drew ?_))); (case side2 => exact (Kd.R_reads' HO_260000.out).2.1); (case side3 => repeat (first | exact (Kd.R_reads' HO272.out).2.2 | (with_reducible refine Kd.C_alloc ?_ _) | (with_reducible refine Kd.C_drewN ?_ _) | (with_reducible refine Kd.C_drew ?_))); (case side4 => exact (Kd.R_reads' HO272.out).2.1); rintro e w32 ⟨rfl, hb⟩; refine ⟨_, rfl, ?_⟩; have n0_ := Aside0.mk (Kd.R_below (rR_ HO_260000.out) hb); have n1_ := Aside0.mk (Kd.R_below (rR_ HO_260002.out) hb); have n2_ := Aside0.mk (Kd.R_below (rR_ HO272.out) hb); have n3_ := Aside0.mk (blk_below (g := gb252) (o := .cells #[.slice none 0 0, .int .i64 0, .slice none 0 0] 27 (0, 0)) (tk_ BK252.out) hb); have n4_ := Aside0.mk (blk_below (g := gb259) (o := .cells #[.slice Ao9 t253.length co9, .int .i64 (wrap64 (t257 - 1)), .slice Ao25 x260002_1.length co25] 27 (0, 0)) (tk_ BK259.out) hb); have n5_ := Aside0.mk (IsS78.below (by repeat (first | (with_reducible first | exact HI0.out | apply IsS78.alloc | apply IsS78.drewN | apply IsS78.drew | apply IsS78.set_1 | refine IsS78.far ?_ NB0_252.out _ | refine IsS78.far ?_ NB0_259.out _) | exact HI0.out)) hb); have n6_ := Aside0.mk (KeepBut.trans (tc_ HK.out) (KeepBut.of_below hb g none) (.inl rfl)); have n7_ := Aside0.mk (below_step (by repeat (first | (with_reducible first | exact HB.out | apply la_ | apply ln_ | apply ld_ | refine below_set ?_ (IsS78.ge HI0.out) | refine below_set ?_ GE252.out | refine below_set ?_ GE259.out) | exact HB.out)) hb); clear HO_260000 HO_260002 HO272 BK252 BK259 HI0 HK HB; have HO_260000 := n0_; have HO_260002 := n1_; have HO272 := n2_; have BK252 := n3_; have BK259 := n4_; have HI0 := n5_; have HK := n6_; have HB := n7_; clear n0_ n1_ n2_ n3_ n4_ n5_ n6_ n7_; (try clear hb); (try clear hb2); (try clear hk); (try clear hi); have hcz33_0 : w32.cell? ⟨gb259, 0, none⟩ = some (.slice Ao9 t253.length co9) := (blk_cell BK259.out 0).trans rfl; have hcz33_1 : w32.cell? ⟨gb259, 1, none⟩ = some (.int .i64 (wrap64 (t257 - 1))) := (blk_cell BK259.out 1).trans rfl; have hcz33_2 : w32.cell? ⟨gb259, 2, none⟩ = some (.slice Ao25 x260002_1.length co25) := (blk_cell BK259.out 2).trans rfl; have hfz33_0 := blk_frozen BK259.out 0; have hfz33_1 := blk_frozen BK259.out 1; have hfz33_2 := blk_frozen BK259.out 2))
       go_roundg k1
       case measure => have := HK1.out; omega
       case rel => exact ⟨(wrap64 (x6_1 - 1)), (t269), (y270), (.slice Ao31 y270.length co31), tx_, H', ⟨by have := HK1.out; omega⟩, ⟨by refine qR_ ?_; exact Kd.R_mono (Kd.R_far (p := ⟨gb259, 2, none⟩) (Kd.R_types HO_260000.out BK259.out (by decide)) (fun _ hk => hk.2) (.slice Ao31 y270.length co31)) (fun _ hk => hk.1.2)⟩, ⟨by refine qR_ ?_; exact Kd.R_mono (Kd.R_far (p := ⟨gb259, 2, none⟩) (Kd.R_types HO272.out BK259.out (by decide)) (fun _ hk => hk.2) (.slice Ao31 y270.length co31)) (fun _ hk => hk.1.1)⟩, ⟨tk_ BK252.out⟩, ⟨by refine bq_ ?_; refine blk_put (cs := #[.slice Ao9 t253.length co9, .int .i64 (wrap64 (t257 - 1)), .slice Ao25 x260002_1.length co25]) ?_ 2 _ rfl; exact tk_ BK259.out⟩, ⟨by repeat (first | (with_reducible first | exact HI0.out | apply IsS78.alloc | apply IsS78.drewN | apply IsS78.drew | apply IsS78.set_1 | refine IsS78.far ?_ NB0_252.out _ | refine IsS78.far ?_ NB0_259.out _) | exact HI0.out)⟩, ⟨(tc_ HK.out)⟩, ⟨by repeat (first | (with_reducible first | exact HB.out | apply la_ | apply ln_ | apply ld_ | refine below_set ?_ (IsS78.ge HI0.out) | refine below_set ?_ GE252.out | refine below_set ?_ GE259.out) | exact HB.out)⟩⟩
      ·
       replace c20 := Bool.eq_false_iff.mpr c20
       subst c20
       have H1 : (spec_l20Place.l0 k1 a1 (wrap64 (x6_1 - 1)) s0_0 t269 t253 (wrap64 (t257 - 1)) x260002_1) = some (r1, r2, r3, r4) := by rw [if_neg (show ¬ (false = true) by decide)] at H; exact H
       clear H
       have H := H1
       clear H1
       have H' := Aside0.mk H
       clear H
       try go_wp2
       have n0_ := Aside0.mk (Kd.R_drew HO_260000.out)
       have n1_ := Aside0.mk (Kd.R_drew HO_260002.out)
       have n2_ := Aside0.mk (blk_drew BK252.out)
       have n3_ := Aside0.mk (blk_drew BK259.out)
       have n4_ := Aside0.mk (IsS78.drew HI0.out)
       have n5_ := Aside0.mk (keep_drew HK.out)
       have n6_ := Aside0.mk (ld_ HB.out)
       clear HO_260000
       clear HO_260002
       clear BK252
       clear BK259
       clear HI0
       clear HK
       clear HB
       have HO_260000 := n0_
       have HO_260002 := n1_
       have BK252 := n2_
       have BK259 := n3_
       have HI0 := n4_
       have HK := n5_
       have HB := n6_
       clear n0_ n1_ n2_ n3_ n4_ n5_ n6_
       refine start_ (n := 12) (S := fun w' => w'.cell? ⟨gb259, 0, none⟩ = some (.slice Ao9 t253.length co9) ∧ w'.cell? ⟨gb259, 1, none⟩ = some (.int .i64 (wrap64 (t257 - 1))) ∧ w'.cell? ⟨gb259, 2, none⟩ = some (u260002)) (ds := []) #[false, false, false, false, false, false, false, false, false, false, false, false] (by kernel_rfl) rfl rfl ⟨(blk_cell BK259.out 0).trans rfl, (blk_cell BK259.out 1).trans rfl, (blk_cell BK259.out 2).trans rfl⟩ (fun hHeld => ?_); refine with_tabW spec_l20Place.tab5 spec_l20Place.bits5 (fun HT_ HW_ => ?_)
       generalize wr.drew = w34 at HO_260000 HO_260002 BK252 BK259 HI0 HK HB hHeld ⊢
       refine pure_ (i := 1) (N := some 21) (v := ?_) (a' := ?_) #[false, true, false, false, false, false, false, false, false, false, false, false] rfl rfl (any_of HT_.out (by kernel_rfl)) (fun _ _ _ h => h) (Or.inl ⟨by rfl, ?_⟩) ?_ ?_
       rotate_left
       ·
        intro w'
        go_simp
        with_reducible rfl
       rotate_left
       ·
        simp only [Act.put, sa_, sb_, sc_, i64_w, i32_w]
        rfl
       refine pure_ (i := 4) (N := some 24) (v := ?_) (a' := ?_) #[false, true, false, false, true, false, false, false, false, false, false, false] rfl rfl (any_of HT_.out (by kernel_rfl)) (fun _ _ _ h => h) (Or.inl ⟨by rfl, ?_⟩) ?_ ?_
       rotate_left
       ·
        intro w'
        go_simp
        with_reducible rfl
       rotate_left
       ·
        simp only [Act.put, sa_, sb_, sc_, i64_w, i32_w]
        rfl
       refine pure_ (i := 5) (N := some 25) (v := ?_) (a' := ?_) #[false, true, false, false, true, true, false, false, false, false, false, false] rfl rfl (any_of HT_.out (by kernel_rfl)) (fun _ _ _ h => h) (Or.inl ⟨by rfl, ?_⟩) ?_ ?_
       rotate_left
       ·
        intro w'
        go_simp
        with_reducible rfl
       rotate_left
       ·
        simp only [Act.put, sa_, sb_, sc_, i64_w, i32_w]
        rfl
       refine take_ (i := 2) (N := some 22) (v := ?_) (a' := ?_) #[false, true, true, false, true, true, false, false, false, false, false, false] rfl rfl (take_ofW HT_.out HW_.out (by kernel_rfl)) (fun _ _ _ h => h) (Or.inl ⟨by rfl, ?_⟩) hHeld ?_ ?_
       rotate_left
       ·
        rintro w' ⟨s0, s1, s2⟩
        go_simp
        with_reducible rfl
       rotate_left
       ·
        simp only [Act.put, sa_, sb_, sc_, i64_w, i32_w]
        rfl
       refine take_ (i := 6) (N := some 26) (v := ?_) (a' := ?_) #[false, true, true, false, true, true, true, false, false, false, false, false] rfl rfl (take_ofW HT_.out HW_.out (by kernel_rfl)) (fun _ _ _ h => h) (Or.inl ⟨by rfl, ?_⟩) hHeld ?_ ?_
       rotate_left
       ·
        rintro w' ⟨s0, s1, s2⟩
        go_simp
        with_reducible rfl
       rotate_left
       ·
        simp only [Act.put, sa_, sb_, sc_, i64_w, i32_w]
        rfl
       refine pure_ (i := 7) (N := some 27) (v := ?_) (a' := ?_) #[false, true, true, false, true, true, true, true, false, false, false, false] rfl rfl (any_of HT_.out (by kernel_rfl)) (fun _ _ _ h => h) (Or.inl ⟨by rfl, ?_⟩) ?_ ?_
       rotate_left
       ·
        intro w'
        go_simp
        with_reducible rfl
       rotate_left
       ·
        simp only [Act.put, sa_, sb_, sc_, i64_w, i32_w]
        rfl
       refine one_ (i := 0) (N := some 20) #[true, true, true, false, true, true, true, true, false, false, false, false] rfl rfl (one_of HT_.out (by kernel_rfl)) (by decide) (fun K hK => ?_)
       refine Kd.R_lit_step (Kd.int .i64) _ 3 ?hg (N := 20) ?hd (xs := ([] : List Int)) (inner := []) (ok := fun _ => True) (okp := fun _ => True) ?hr ?hp (fun _ hk => hk) trivial (Below.refl _ _) (Nat.le_refl _) (by simp) ?_; (case hd => rfl); (case hg => rfl); (case hr => first | (go_simp; done) | (go_simp; rfl)); (case hp => exact (Reps.none _ _))
       intro v263 w35 ho36 hb hg_ hnew_
       clear hg_ hnew_
       (first | rw [← Ny262.out] at ho36 | (simp only [Int.reduceToNat] at ho36; rw [← Ny262.out] at ho36))
       have n0_ := Aside0.mk (Kd.R_elder' (rR_ HO_260000.out) (Kd.R_base ho36) hb)
       have n1_ := Aside0.mk (Kd.R_elder' (rR_ HO_260002.out) (Kd.R_base ho36) hb)
       have n2_ := Aside0.mk (Kd.R_lower (Kd.R_new' (Kd.R_new' ho36 (Kd.R_lt (rR_ HO_260000.out))) (Kd.R_lt (rR_ HO_260002.out))) (keep_size (w := w) (g := g) (row := none) (tc_ HK.out)))
       have n3_ := Aside0.mk (blk_below (g := gb252) (o := .cells #[.slice none 0 0, .int .i64 0, .slice none 0 0] 27 (0, 0)) (tk_ BK252.out) hb)
       have n4_ := Aside0.mk (blk_below (g := gb259) (o := .cells #[.slice Ao9 t253.length co9, .int .i64 (wrap64 (t257 - 1)), u260002] 27 (0, 0)) (tk_ BK259.out) hb)
       have n5_ := Aside0.mk (IsS78.below (by repeat (first | (with_reducible first | exact HI0.out | apply IsS78.alloc | apply IsS78.drewN | apply IsS78.drew | apply IsS78.set_1 | refine IsS78.far ?_ NB0_252.out _ | refine IsS78.far ?_ NB0_259.out _) | exact HI0.out)) hb)
       have n6_ := Aside0.mk (KeepBut.trans (tc_ HK.out) (KeepBut.of_below hb g none) (.inl rfl))
       have n7_ := Aside0.mk (below_step (by repeat (first | (with_reducible first | exact HB.out | apply la_ | apply ln_ | apply ld_ | refine below_set ?_ (IsS78.ge HI0.out) | refine below_set ?_ GE252.out | refine below_set ?_ GE259.out) | exact HB.out)) hb)
       clear HO_260000
       clear HO_260002
       clear BK252
       clear BK259
       clear HI0
       clear HK
       clear HB
       have HO_260000 := n0_
       have HO_260002 := n1_
       have HO264 := n2_
       have BK252 := n3_
       have BK259 := n4_
       have HI0 := n5_
       have HK := n6_
       have HB := n7_
       clear n0_ n1_ n2_ n3_ n4_ n5_ n6_ n7_
       clear hb ho36
       obtain ⟨Ao38, co38, eo38⟩ := Kd.R_slice HO_260002.out
       (first | subst eo38 | (injection eo38 with f1_ f2_ f3_; have f4_ := f1_.symm; have f5_ := f3_.symm; clear f1_ f2_ f3_; subst f4_; subst f5_))
       refine hK.out _ _ ⟨(blk_cell BK259.out 0).trans rfl, (blk_cell BK259.out 1).trans rfl, (blk_cell BK259.out 2).trans rfl⟩ (fun hHeld => ?_)
       clear hK K
       refine norm_ (a' := ?_) ?_ ?_
       rotate_left
       ·
        show Act.put _ (some 20) _ = _
        simp only [Act.put, sa_, sb_, sc_, i64_w, i32_w]
        rfl
       refine one_ (i := 3) (N := some 23) #[true, true, true, true, true, true, true, true, false, false, false, false] rfl rfl (one_of HT_.out (by kernel_rfl)) (by decide) (fun K hK => ?_)
       refine Kd.R_append_rows_step (Kd.int .i64) w.heap.size (by rfl) (.tmp 20) (.tmp 22) 22 3 (.int .i64 0) 8 rfl Try.underlying22 info3 rfl (by decide) (by omega) v263 y262 x260002_1 _ _ _ (fun k_ => some k_ ≠ (.slice Ao9 t253.length co9 : Value).ownBlock ∧ some k_ ≠ (.slice Ao38 x260002_1.length co38 : Value).ownBlock) (fun _ => False) rfl rfl ?aO ?aR (fun _ _ h => h) (fun _ h => h.elim) ?aF (Below.refl _ _) ?aS ?aL ?_
       (case aR => repeat (first | exact (Kd.R_reads' HO_260002.out).2.2 | (with_reducible refine Kd.C_alloc ?_ _) | (with_reducible refine Kd.C_drewN ?_ _) | (with_reducible refine Kd.C_drew ?_)))
       (case aF => exact (fun k_ hk => ⟨Kd.fresh' (Kd.R_lt (rR_ HO_260000.out)) k_ hk, Kd.fresh' (Kd.R_lt (rR_ HO_260002.out)) k_ hk⟩))
       (case aO => exact (by refine qR_ ?_; exact Kd.R_mono HO264.out (fun _ hk => ⟨hk.1.2, hk.2⟩)))
       (case aS => exact (keep_size (w := w) (g := g) (row := none) (tc_ HK.out)))
       (case aL => have := LMc16.out; omega)
       intro v266 w37 ho hb hg hat
       rw [← Ny265.out] at ho
       have n0_ := Aside0.mk (Kd.R_after (ok := (fun k_ => some k_ ≠ (.slice Ao38 x260002_1.length co38 : Value).ownBlock)) (rR_ HO_260000.out) hg hat)
       have n1_ := Aside0.mk (Kd.R_after (ok := (fun k_ => some k_ ≠ (.slice Ao9 t253.length co9 : Value).ownBlock)) (rR_ HO_260002.out) hg hat)
       have n2_ := Aside0.mk (blk_grown (g := gb252) (o := .cells #[.slice none 0 0, .int .i64 0, .slice none 0 0] 27 (0, 0)) (tk_ BK252.out) hg (Kd.R_ne HO264.out BK252.out (by decide)))
       have n3_ := Aside0.mk (blk_grown (g := gb259) (o := .cells #[.slice Ao9 t253.length co9, .int .i64 (wrap64 (t257 - 1)), .slice Ao38 x260002_1.length co38] 27 (0, 0)) (tk_ BK259.out) hg (Kd.R_ne HO264.out BK259.out (by decide)))
       have n4_ := Aside0.mk (IsS78.grown (by repeat (first | (with_reducible first | exact HI0.out | apply IsS78.alloc | apply IsS78.drewN | apply IsS78.drew | apply IsS78.set_1 | refine IsS78.far ?_ NB0_252.out _ | refine IsS78.far ?_ NB0_259.out _) | exact HI0.out)) hg (IsS78.own_ne HI0.out HO264.out (by decide)))
       have n5_ := Aside0.mk (below_weaken (by repeat (first | (with_reducible first | exact HB.out | apply la_ | apply ln_ | apply ld_ | refine below_set ?_ (IsS78.ge HI0.out) | refine below_set ?_ GE252.out | refine below_set ?_ GE259.out) | exact HB.out)) HL.out hb)
       have n6_ := Aside0.mk (KeepBut.trans (tc_ HK.out) (KeepBut.of_grown hg g) (Kd.R_base2 HO264.out))
       have n7_ := Aside0.mk (ho)
       clear HO_260000
       clear HO_260002
       clear BK252
       clear BK259
       clear HI0
       clear HB
       clear HK
       clear HO264
       have HO_260000 := n0_
       have HO_260002 := n1_
       have BK252 := n2_
       have BK259 := n3_
       have HI0 := n4_
       have HB := n5_
       have HK := n6_
       have HO267 := n7_
       clear n0_ n1_ n2_ n3_ n4_ n5_ n6_ n7_
       clear ho hb hg hat
       refine hK.out _ _ ⟨(blk_cell BK259.out 0).trans rfl, (blk_cell BK259.out 1).trans rfl, (blk_cell BK259.out 2).trans rfl⟩ (fun hHeld => ?_)
       clear hK K
       refine norm_ (a' := ?_) ?_ ?_
       rotate_left
       ·
        show Act.put _ (some 23) _ = _
        simp only [Act.put, sa_, sb_, sc_, i64_w, i32_w]
        rfl
       refine one_ (i := 8) (N := some 28) #[true, true, true, true, true, true, true, true, true, false, false, false] rfl rfl (one_of HT_.out (by kernel_rfl)) (by decide) (fun K hK => ?_)
       refine goes_ Try.func63 (by kernel_rfl) rfl #[.pointer (some ⟨g, 0, none⟩), .int .i64 (t253.length : Int)] (by rfl) rfl rfl tz_ ?_
       with_reducible refine (spec_l20Rd_pick.calls k1 g s0_0 x1001_1 (t253.length : Int) t268 t269 w0 _ ?side1 ?side2 A17.out).mono ?_
       (case side1 => repeat (first | (with_reducible first | exact HI0.out | apply IsS78.alloc | apply IsS78.drewN | apply IsS78.drew | apply IsS78.set_1 | refine IsS78.far ?_ NB0_252.out _ | refine IsS78.far ?_ NB0_259.out _) | exact HI0.out))
       (case side2 => repeat (first | (with_reducible first | exact HB.out | apply la_ | apply ln_ | apply ld_ | refine below_set ?_ (IsS78.ge HI0.out) | refine below_set ?_ GE252.out | refine below_set ?_ GE259.out) | exact HB.out))
       rintro e w39 ⟨rfl, hi, hb, hk⟩
       refine ⟨_, rfl, ?_⟩
       have n0_ := Aside0.mk (Kd.R_mono (Kd.R_keep (IsS78.apart (show IsS78 w0 _ g s0_0 x1001_1 from by repeat (first | (with_reducible first | exact HI0.out | apply IsS78.alloc | apply IsS78.drewN | apply IsS78.drew | apply IsS78.set_1 | refine IsS78.far ?_ NB0_252.out _ | refine IsS78.far ?_ NB0_259.out _) | exact HI0.out)) (rR_ HO_260000.out) (by decide)) hk (fun _ h => h.2)) (fun _ h => h.1))
       have n1_ := Aside0.mk (Kd.R_mono (Kd.R_keep (IsS78.apart (show IsS78 w0 _ g s0_0 x1001_1 from by repeat (first | (with_reducible first | exact HI0.out | apply IsS78.alloc | apply IsS78.drewN | apply IsS78.drew | apply IsS78.set_1 | refine IsS78.far ?_ NB0_252.out _ | refine IsS78.far ?_ NB0_259.out _) | exact HI0.out)) (rR_ HO_260002.out) (by decide)) hk (fun _ h => h.2)) (fun _ h => h.1))
       have n2_ := Aside0.mk (KeepBut.blk hk (g' := gb252) (o := .cells #[.slice none 0 0, .int .i64 0, .slice none 0 0] 27 (0, 0)) (tk_ BK252.out) NB252_0.out (by simp))
       have n3_ := Aside0.mk (KeepBut.blk hk (g' := gb259) (o := .cells #[.slice Ao9 t253.length co9, .int .i64 (wrap64 (t257 - 1)), .slice Ao38 x260002_1.length co38] 27 (0, 0)) (tk_ BK259.out) NB259_0.out (by simp))
       have n4_ := Aside0.mk (Kd.R_mono (Kd.R_keep (IsS78.apart (show IsS78 w0 _ g s0_0 x1001_1 from by repeat (first | (with_reducible first | exact HI0.out | apply IsS78.alloc | apply IsS78.drewN | apply IsS78.drew | apply IsS78.set_1 | refine IsS78.far ?_ NB0_252.out _ | refine IsS78.far ?_ NB0_259.out _) | exact HI0.out)) (rR_ HO267.out) (by decide)) hk (fun _ h => h.2)) (fun _ h => h.1))
       have n5_ := Aside0.mk (KeepBut.trans (tc_ HK.out) hk (.inl rfl))
       have n6_ := Aside0.mk (hb)
       have n7_ := Aside0.mk (hi)
       clear HO_260000
       clear HO_260002
       clear BK252
       clear BK259
       clear HO267
       clear HK
       clear HB
       clear HI0
       have HO_260000 := n0_
       have HO_260002 := n1_
       have BK252 := n2_
       have BK259 := n3_
       have HO267 := n4_
       have HK := n5_
       have HB := n6_
       have HI0 := n7_
       clear n0_ n1_ n2_ n3_ n4_ n5_ n6_ n7_
       (try clear hb)
       (try clear hb2)
       (try clear hk)
       (try clear hi)
       refine hK.out _ _ ⟨(blk_cell BK259.out 0).trans rfl, (blk_cell BK259.out 1).trans rfl, (blk_cell BK259.out 2).trans rfl⟩ (fun hHeld => ?_)
       clear hK K
       refine norm_ (a' := ?_) ?_ ?_
       rotate_left
       ·
        show Act.put _ (some 28) _ = _
        simp only [Act.put, sa_, sb_, sc_, i64_w, i32_w]
        rfl
       refine one_ (i := 9) (N := some 29) #[true, true, true, true, true, true, true, true, true, true, false, false] rfl rfl (one_of HT_.out (by kernel_rfl)) (by decide) (fun K hK => ?_)
       refine value_ (w1 := ?_) (v := ?_) (by rfl) rfl ?_ ?_
       rotate_left 2
       ·
        go_simp
        constructor
        ·
         rfl
        ·
         rfl
       refine hK.out _ _ ⟨(blk_cell (blk_alloc BK259.out _) 0).trans rfl, (blk_cell (blk_alloc BK259.out _) 1).trans rfl, (blk_cell (blk_alloc BK259.out _) 2).trans rfl⟩ (fun hHeld => ?_)
       clear hK K
       refine norm_ (a' := ?_) ?_ ?_
       rotate_left
       ·
        show Act.put _ (some 29) _ = _
        simp only [Act.put, sa_, sb_, sc_, i64_w, i32_w]
        rfl
       refine one_ (i := 10) (N := some 30) #[true, true, true, true, true, true, true, true, true, true, true, false] rfl rfl (one_of HT_.out (by kernel_rfl)) (by decide) (fun K hK => ?_)
       refine Kd.R_append_step (Kd.int .i64) w.heap.size (by rfl) (.tmp 23) (.tmp 29) 22 3 (.int .i64 0) 8 rfl Try.underlying22 info3 rfl (by decide) (by omega) v266 y265 t268 [.int .i64 t268] (fun k_ => some k_ ≠ (.slice Ao9 t253.length co9 : Value).ownBlock ∧ some k_ ≠ (.slice Ao38 x260002_1.length co38 : Value).ownBlock) (fun _ => False) rfl rfl ?aP (fun _ hk => hk.elim) ?aF ?aO (Below.refl _ _) ?aS ?aL ?_
       (case aP => exact rfl)
       (case aF => exact (fun k_ hk => ⟨Kd.fresh' (Kd.R_lt (rR_ HO_260000.out)) k_ hk, Kd.fresh' (Kd.R_lt (rR_ HO_260002.out)) k_ hk⟩))
       (case aO => exact (rR_ HO267.out))
       (case aS => exact (keep_size (w := w) (g := g) (row := none) (tc_ HK.out)))
       (case aL => have := LMc18.out; omega)
       intro v271 w40 ho hb hg hat
       rw [← Ny270.out] at ho
       have n0_ := Aside0.mk (Kd.R_after (ok := (fun k_ => some k_ ≠ (.slice Ao38 x260002_1.length co38 : Value).ownBlock)) (rR_ HO_260000.out) hg hat)
       have n1_ := Aside0.mk (Kd.R_after (ok := (fun k_ => some k_ ≠ (.slice Ao9 t253.length co9 : Value).ownBlock)) (rR_ HO_260002.out) hg hat)
       have n2_ := Aside0.mk (blk_grown (g := gb252) (o := .cells #[.slice none 0 0, .int .i64 0, .slice none 0 0] 27 (0, 0)) (tk_ BK252.out) hg (Kd.R_ne HO267.out BK252.out (by decide)))
       have n3_ := Aside0.mk (blk_grown (g := gb259) (o := .cells #[.slice Ao9 t253.length co9, .int .i64 (wrap64 (t257 - 1)), .slice Ao38 x260002_1.length co38] 27 (0, 0)) (tk_ BK259.out) hg (Kd.R_ne HO267.out BK259.out (by decide)))
       have n4_ := Aside0.mk (IsS78.grown (by repeat (first | (with_reducible first | exact HI0.out | apply IsS78.alloc | apply IsS78.drewN | apply IsS78.drew | apply IsS78.set_1 | refine IsS78.far ?_ NB0_252.out _ | refine IsS78.far ?_ NB0_259.out _) | exact HI0.out)) hg (IsS78.own_ne HI0.out HO267.out (by decide)))
       have n5_ := Aside0.mk (below_weaken (by repeat (first | (with_reducible first | exact HB.out | apply la_ | apply ln_ | apply ld_ | refine below_set ?_ (IsS78.ge HI0.out) | refine below_set ?_ GE252.out | refine below_set ?_ GE259.out) | exact HB.out)) HL.out hb)
       have n6_ := Aside0.mk (KeepBut.trans (tc_ HK.out) (KeepBut.of_grown hg g) (Kd.R_base2 HO267.out))
       have n7_ := Aside0.mk (ho)
       clear HO_260000
       clear HO_260002
       clear BK252
       clear BK259
       clear HI0
       clear HB
       clear HK
       clear HO267
       have HO_260000 := n0_
       have HO_260002 := n1_
       have BK252 := n2_
       have BK259 := n3_
       have HI0 := n4_
       have HB := n5_
       have HK := n6_
       have HO272 := n7_
       clear n0_ n1_ n2_ n3_ n4_ n5_ n6_ n7_
       clear ho hb hg hat
       refine hK.out _ _ ⟨(blk_cell BK259.out 0).trans rfl, (blk_cell BK259.out 1).trans rfl, (blk_cell BK259.out 2).trans rfl⟩ (fun hHeld => ?_)
       clear hK K
       refine norm_ (a' := ?_) ?_ ?_
       rotate_left
       ·
        show Act.put _ (some 30) _ = _
        simp only [Act.put, sa_, sb_, sc_, i64_w, i32_w]
        rfl
       refine pure_ (i := 11) (N := some 7) (v := ?_) (a' := ?_) #[true, true, true, true, true, true, true, true, true, true, true, true] rfl rfl (any_of HT_.out (by kernel_rfl)) (fun _ _ _ h => h) (Or.inl ⟨by rfl, ?_⟩) ?_ ?_
       rotate_left
       ·
        intro w'
        go_simp
        with_reducible rfl
       rotate_left
       ·
        simp only [Act.put, sa_, sb_, sc_, i64_w, i32_w]
        rfl
       refine done_ (done_of HT_.out (by kernel_rfl)) ?_
       have hnb41 := NB259_252.out
       have hnc41 := NB252_259.out
       have hnb42 := NB259_0.out
       have hnc42 := NB0_259.out
       have hcz43_0 : w40.cell? ⟨gb259, 0, none⟩ = some (.slice Ao9 t253.length co9) := (blk_cell BK259.out 0).trans rfl
       have hcz43_1 : w40.cell? ⟨gb259, 1, none⟩ = some (.int .i64 (wrap64 (t257 - 1))) := (blk_cell BK259.out 1).trans rfl
       have hcz43_2 : w40.cell? ⟨gb259, 2, none⟩ = some (.slice Ao38 x260002_1.length co38) := (blk_cell BK259.out 2).trans rfl
       have hfz43_0 := blk_frozen BK259.out 0
       have hfz43_1 := blk_frozen BK259.out 1
       have hfz43_2 := blk_frozen BK259.out 2
       obtain ⟨Ao44, co44, eo44⟩ := Kd.R_slice HO272.out
       subst eo44
       try go_wp2_with (first | ((with_reducible refine gate_callee (f := 10) rfl ?_); refine goesL_ (some 37) rfl rfl Try.func10 (by kernel_rfl) rfl #[.agg #[.slice Ao9 t253.length co9, .int .i64 (wrap64 (t257 - 1)), .slice Ao44 y270.length co44]] rfl tz_ ?_; (with_reducible refine (spec_PlaceOk.calls k1 _ _ t253 (wrap64 (t257 - 1)) _ _ y270 false _ ?side1 ?side2 ?side3 ?side4 A19.out).mono ?_); (case side1 => repeat (first | exact (Kd.R_reads' HO_260000.out).2.2 | (with_reducible refine Kd.C_alloc ?_ _) | (with_reducible refine Kd.C_drewN ?_ _) | (with_reducible refine Kd.C_drew ?_))); (case side2 => exact (Kd.R_reads' HO_260000.out).2.1); (case side3 => repeat (first | exact (Kd.R_reads' HO272.out).2.2 | (with_reducible refine Kd.C_alloc ?_ _) | (with_reducible refine Kd.C_drewN ?_ _) | (with_reducible refine Kd.C_drew ?_))); (case side4 => exact (Kd.R_reads' HO272.out).2.1); rintro e w45 ⟨rfl, hb⟩; refine ⟨_, rfl, ?_⟩; have n0_ := Aside0.mk (Kd.R_below (rR_ HO_260000.out) hb); have n1_ := Aside0.mk (Kd.R_below (rR_ HO_260002.out) hb); have n2_ := Aside0.mk (Kd.R_below (rR_ HO272.out) hb); have n3_ := Aside0.mk (blk_below (g := gb252) (o := .cells #[.slice none 0 0, .int .i64 0, .slice none 0 0] 27 (0, 0)) (tk_ BK252.out) hb); have n4_ := Aside0.mk (blk_below (g := gb259) (o := .cells #[.slice Ao9 t253.length co9, .int .i64 (wrap64 (t257 - 1)), .slice Ao38 x260002_1.length co38] 27 (0, 0)) (tk_ BK259.out) hb); have n5_ := Aside0.mk (IsS78.below (by repeat (first | (with_reducible first | exact HI0.out | apply IsS78.alloc | apply IsS78.drewN | apply IsS78.drew | apply IsS78.set_1 | refine IsS78.far ?_ NB0_252.out _ | refine IsS78.far ?_ NB0_259.out _) | exact HI0.out)) hb); have n6_ := Aside0.mk (KeepBut.trans (tc_ HK.out) (KeepBut.of_below hb g none) (.inl rfl)); have n7_ := Aside0.mk (below_step (by repeat (first | (with_reducible first | exact HB.out | apply la_ | apply ln_ | apply ld_ | refine below_set ?_ (IsS78.ge HI0.out) | refine below_set ?_ GE252.out | refine below_set ?_ GE259.out) | exact HB.out)) hb); clear HO_260000 HO_260002 HO272 BK252 BK259 HI0 HK HB; have HO_260000 := n0_; have HO_260002 := n1_; have HO272 := n2_; have BK252 := n3_; have BK259 := n4_; have HI0 := n5_; have HK := n6_; have HB := n7_; clear n0_ n1_ n2_ n3_ n4_ n5_ n6_ n7_; (try clear hb); (try clear hb2); (try clear hk); (try clear hi)))
       go_roundg k1
       case measure => have := HK1.out; omega
       case rel => exact ⟨(wrap64 (x6_1 - 1)), (t269), (x260002_1), (.slice Ao38 x260002_1.length co38), tx_, H', ⟨by have := HK1.out; omega⟩, ⟨by refine qR_ ?_; exact Kd.R_mono HO_260000.out (fun _ hk => hk.1)⟩, ⟨by refine qR_ ?_; exact Kd.R_mono HO_260002.out (fun _ hk => hk.1)⟩, ⟨tk_ BK252.out⟩, ⟨tk_ BK259.out⟩, ⟨by repeat (first | (with_reducible first | exact HI0.out | apply IsS78.alloc | apply IsS78.drewN | apply IsS78.drew | apply IsS78.set_1 | refine IsS78.far ?_ NB0_252.out _ | refine IsS78.far ?_ NB0_259.out _) | exact HI0.out)⟩, ⟨(tc_ HK.out)⟩, ⟨by repeat (first | (with_reducible first | exact HB.out | apply la_ | apply ln_ | apply ld_ | refine below_set ?_ (IsS78.ge HI0.out) | refine below_set ?_ GE252.out | refine below_set ?_ GE259.out) | exact HB.out)⟩⟩
     ·
      rw [if_neg c18] at H
      exact absurd H (by simp)
    ·
     rw [if_neg c16] at H
     exact absurd H (by simp)
   ·
    rw [if_neg c15] at H
    have c15b0 : decide (0 < x6_1) = false := decide_eq_false c15
    clear c15
    replace H := Option.bind_eq_some_iff.mp H
    obtain ⟨⟨t274, t275⟩, A460, H⟩ := H
    replace H : (if t274 = true then ((spec_l20Rd_pick.f k1 s0_0 t275 3).bind fun bt276 => (if bt276.1 = 0 then (some (t253, 4, x260002_1, bt276.2)) else (if bt276.1 = 1 then (if x260002_1.length < 17592186044416 then (some (t253, (wrap64 (t257 - 1)), (x260002_1 ++ [3]), bt276.2)) else (none)) else (some (([] : List Int), 0, ([] : List Int), bt276.2))))) else (some (t253, (wrap64 (t257 - 1)), x260002_1, t275))) = some (r1, r2, r3, r4) := H
    have A46 := Aside0.mk A460
    clear A460
    by_cases c47 : t274 = true
    ·
     subst c47
     have H1 : ((spec_l20Rd_pick.f k1 s0_0 t275 3).bind fun bt276 => (if bt276.1 = 0 then (some (t253, 4, x260002_1, bt276.2)) else (if bt276.1 = 1 then (if x260002_1.length < 17592186044416 then (some (t253, (wrap64 (t257 - 1)), (x260002_1 ++ [3]), bt276.2)) else (none)) else (some (([] : List Int), 0, ([] : List Int), bt276.2))))) = some (r1, r2, r3, r4) := by rw [if_pos rfl] at H; exact H
     clear H
     have H := H1
     clear H1
     replace H := Option.bind_eq_some_iff.mp H
     obtain ⟨⟨t276, t277⟩, A480, H⟩ := H
     replace H : (if t276 = 0 then (some (t253, 4, x260002_1, t277)) else (if t276 = 1 then (if x260002_1.length < 17592186044416 then (some (t253, (wrap64 (t257 - 1)), (x260002_1 ++ [3]), t277)) else (none)) else (some (([] : List Int), 0, ([] : List Int), t277)))) = some (r1, r2, r3, r4) := H
     have A48 := Aside0.mk A480
     clear A480
     by_cases c49 : t276 = 0
     ·
      rw [if_pos c49] at H
      have c49b0 : (t276 == 0) = true := beq_iff_eq.mpr c49
      have c49b1 : (t276 != 0) = false := bne_eq_false_iff_eq.mpr c49
      clear c49
      simp only [Option.some.injEq, Prod.mk.injEq] at H
      obtain ⟨rfl, rfl, rfl, rfl⟩ := H
      go_wp2_with (first | ((with_reducible refine gate_callee (f := 64) rfl ?_); refine goesL_ (some 42) rfl rfl Try.func64 (by kernel_rfl) rfl #[.pointer (some ⟨g, 0, none⟩), .int .i64 a1] rfl tz_ ?_; (with_reducible refine (spec_l20Rd_odd.calls k1 g s0_0 x1001_1 a1 true t275 w0 _ ?side1 ?side2 A46.out).mono ?_); (case side1 => repeat (first | (with_reducible first | exact HI0.out | apply IsS78.alloc | apply IsS78.drewN | apply IsS78.drew | apply IsS78.set_1 | refine IsS78.far ?_ NB0_252.out _ | refine IsS78.far ?_ NB0_259.out _) | exact HI0.out)); (case side2 => repeat (first | (with_reducible first | exact HB.out | apply la_ | apply ln_ | apply ld_ | refine below_set ?_ (IsS78.ge HI0.out) | refine below_set ?_ GE252.out | refine below_set ?_ GE259.out) | exact HB.out)); rintro e w50 ⟨rfl, hi, hb, hk⟩; refine ⟨_, rfl, ?_⟩; have n0_ := Aside0.mk (Kd.R_mono (Kd.R_keep (IsS78.apart (show IsS78 w0 _ g s0_0 x1001_1 from by repeat (first | (with_reducible first | exact HI0.out | apply IsS78.alloc | apply IsS78.drewN | apply IsS78.drew | apply IsS78.set_1 | refine IsS78.far ?_ NB0_252.out _ | refine IsS78.far ?_ NB0_259.out _) | exact HI0.out)) (rR_ HO_260000.out) (by decide)) hk (fun _ h => h.2)) (fun _ h => h.1)); have n1_ := Aside0.mk (Kd.R_mono (Kd.R_keep (IsS78.apart (show IsS78 w0 _ g s0_0 x1001_1 from by repeat (first | (with_reducible first | exact HI0.out | apply IsS78.alloc | apply IsS78.drewN | apply IsS78.drew | apply IsS78.set_1 | refine IsS78.far ?_ NB0_252.out _ | refine IsS78.far ?_ NB0_259.out _) | exact HI0.out)) (rR_ HO_260002.out) (by decide)) hk (fun _ h => h.2)) (fun _ h => h.1)); have n2_ := Aside0.mk (KeepBut.blk hk (g' := gb252) (o := .cells #[.slice none 0 0, .int .i64 0, .slice none 0 0] 27 (0, 0)) (tk_ BK252.out) NB252_0.out (by simp)); have n3_ := Aside0.mk (KeepBut.blk hk (g' := gb259) (o := .cells #[.slice Ao9 t253.length co9, .int .i64 (wrap64 (t257 - 1)), u260002] 27 (0, 0)) (tk_ BK259.out) NB259_0.out (by simp)); have n4_ := Aside0.mk (KeepBut.trans (tc_ HK.out) hk (.inl rfl)); have n5_ := Aside0.mk (hb); have n6_ := Aside0.mk (hi); clear HO_260000 HO_260002 BK252 BK259 HK HB HI0; have HO_260000 := n0_; have HO_260002 := n1_; have BK252 := n2_; have BK259 := n3_; have HK := n4_; have HB := n5_; have HI0 := n6_; clear n0_ n1_ n2_ n3_ n4_ n5_ n6_; (try clear hb); (try clear hb2); (try clear hk); (try clear hi)) | ((with_reducible refine gate_callee (f := 63) rfl ?_); refine goesL_ (some 44) rfl rfl Try.func63 (by kernel_rfl) rfl #[.pointer (some ⟨g, 0, none⟩), .int .i64 3] rfl tz_ ?_; (with_reducible refine (spec_l20Rd_pick.calls k1 g s0_0 t275 3 t276 t277 w0 _ ?side1 ?side2 A48.out).mono ?_); (case side1 => repeat (first | (with_reducible first | exact HI0.out | apply IsS78.alloc | apply IsS78.drewN | apply IsS78.drew | apply IsS78.set_1 | refine IsS78.far ?_ NB0_252.out _ | refine IsS78.far ?_ NB0_259.out _) | exact HI0.out)); (case side2 => repeat (first | (with_reducible first | exact HB.out | apply la_ | apply ln_ | apply ld_ | refine below_set ?_ (IsS78.ge HI0.out) | refine below_set ?_ GE252.out | refine below_set ?_ GE259.out) | exact HB.out)); rintro e w51 ⟨rfl, hi, hb, hk⟩; refine ⟨_, rfl, ?_⟩; have n0_ := Aside0.mk (Kd.R_mono (Kd.R_keep (IsS78.apart (show IsS78 w0 _ g s0_0 t275 from by repeat (first | (with_reducible first | exact HI0.out | apply IsS78.alloc | apply IsS78.drewN | apply IsS78.drew | apply IsS78.set_1 | refine IsS78.far ?_ NB0_252.out _ | refine IsS78.far ?_ NB0_259.out _) | exact HI0.out)) (rR_ HO_260000.out) (by decide)) hk (fun _ h => h.2)) (fun _ h => h.1)); have n1_ := Aside0.mk (Kd.R_mono (Kd.R_keep (IsS78.apart (show IsS78 w0 _ g s0_0 t275 from by repeat (first | (with_reducible first | exact HI0.out | apply IsS78.alloc | apply IsS78.drewN | apply IsS78.drew | apply IsS78.set_1 | refine IsS78.far ?_ NB0_252.out _ | refine IsS78.far ?_ NB0_259.out _) | exact HI0.out)) (rR_ HO_260002.out) (by decide)) hk (fun _ h => h.2)) (fun _ h => h.1)); have n2_ := Aside0.mk (KeepBut.blk hk (g' := gb252) (o := .cells #[.slice none 0 0, .int .i64 0, .slice none 0 0] 27 (0, 0)) (tk_ BK252.out) NB252_0.out (by simp)); have n3_ := Aside0.mk (KeepBut.blk hk (g' := gb259) (o := .cells #[.slice Ao9 t253.length co9, .int .i64 (wrap64 (t257 - 1)), u260002] 27 (0, 0)) (tk_ BK259.out) NB259_0.out (by simp)); have n4_ := Aside0.mk (KeepBut.trans (tc_ HK.out) hk (.inl rfl)); have n5_ := Aside0.mk (hb); have n6_ := Aside0.mk (hi); clear HO_260000 HO_260002 BK252 BK259 HK HB HI0; have HO_260000 := n0_; have HO_260002 := n1_; have BK252 := n2_; have BK259 := n3_; have HK := n4_; have HB := n5_; have HI0 := n6_; clear n0_ n1_ n2_ n3_ n4_ n5_ n6_; (try clear hb); (try clear hb2); (try clear hk); (try clear hi); have hnb52 := NB259_252.out; have hnc52 := NB252_259.out; have hnb53 := NB259_0.out; have hnc53 := NB0_259.out; have hcz54_0 : w51.cell? ⟨gb259, 0, none⟩ = some (.slice Ao9 t253.length co9) := (blk_cell BK259.out 0).trans rfl; have hcz54_1 : w51.cell? ⟨gb259, 1, none⟩ = some (.int .i64 (wrap64 (t257 - 1))) := (blk_cell BK259.out 1).trans rfl; have hcz54_2 : w51.cell? ⟨gb259, 2, none⟩ = some (u260002) := (blk_cell BK259.out 2).trans rfl; have hfz54_0 := blk_frozen BK259.out 0; have hfz54_1 := blk_frozen BK259.out 1; have hfz54_2 := blk_frozen BK259.out 2; have hnb55 := NB252_0.out; have hnc55 := NB0_252.out; have hcz56_0 : w51.cell? ⟨gb252, 0, none⟩ = some (.slice none 0 0) := (blk_cell BK252.out 0).trans rfl; have hcz56_1 : w51.cell? ⟨gb252, 1, none⟩ = some (.int .i64 0) := (blk_cell BK252.out 1).trans rfl; have hcz56_2 : w51.cell? ⟨gb252, 2, none⟩ = some (.slice none 0 0) := (blk_cell BK252.out 2).trans rfl; have hfz56_0 := blk_frozen BK252.out 0; have hfz56_1 := blk_frozen BK252.out 1; have hfz56_2 := blk_frozen BK252.out 2; obtain ⟨Ao57, co57, eo57⟩ := Kd.R_slice HO_260002.out; subst eo57))
      refine bodyPost_ret (results_cell_row rfl _ _ gb252 27 #[.slice Ao9 t253.length co9, .int .i64 4, .slice Ao57 x260002_1.length co57] (0, 0) _ rfl (by refine bq_ ?_; refine blk_put (cs := #[.slice Ao9 t253.length co9, .int .i64 4, .slice none 0 0]) ?_ 2 _ rfl; refine bq_ ?_; refine blk_put (cs := #[.slice Ao9 t253.length co9, .int .i64 0, .slice none 0 0]) ?_ 1 _ rfl; refine bq_ ?_; refine blk_put (cs := #[.slice none 0 0, .int .i64 0, .slice none 0 0]) ?_ 0 _ rfl; exact tk_ BK252.out) Try.underlying27 rfl (by kernel_rfl)) rfl ?_
      exact ⟨_, _, by first | rfl | (simp [errW_none, errW_some] <;> rfl) | (simp [*, errW_none, errW_some] <;> rfl), by refine qR_ ?_; exact Kd.R_mono (Kd.R_far (p := ⟨gb252, 2, none⟩) (Kd.R_far (p := ⟨gb252, 1, none⟩) (Kd.R_far (p := ⟨gb252, 0, none⟩) (Kd.R_far (p := ⟨gb259, 1, none⟩) (Kd.R_types (Kd.R_types HO_260000.out BK259.out (by decide)) BK252.out (by decide)) (fun _ hk => hk.1.2) (.int .i64 4)) (fun _ hk => hk.2) (.slice Ao9 t253.length co9)) (fun _ hk => hk.2) (.int .i64 4)) (fun _ hk => hk.2) (.slice Ao57 x260002_1.length co57)) (fun _ hk => hk.1.1), by refine qR_ ?_; exact Kd.R_mono (Kd.R_far (p := ⟨gb252, 2, none⟩) (Kd.R_far (p := ⟨gb252, 1, none⟩) (Kd.R_far (p := ⟨gb252, 0, none⟩) (Kd.R_far (p := ⟨gb259, 1, none⟩) (Kd.R_types (Kd.R_types HO_260002.out BK259.out (by decide)) BK252.out (by decide)) (fun _ hk => hk.1.2) (.int .i64 4)) (fun _ hk => hk.2) (.slice Ao9 t253.length co9)) (fun _ hk => hk.2) (.int .i64 4)) (fun _ hk => hk.2) (.slice Ao57 x260002_1.length co57)) (fun _ hk => hk.1.1), by repeat (first | (with_reducible first | exact HI0.out | apply IsS78.alloc | apply IsS78.drewN | apply IsS78.drew | apply IsS78.set_1 | refine IsS78.far ?_ NB0_252.out _ | refine IsS78.far ?_ NB0_259.out _) | exact HI0.out), by repeat (first | (with_reducible first | exact HB.out | apply la_ | apply ln_ | apply ld_ | refine below_set ?_ (IsS78.ge HI0.out) | refine below_set ?_ GE252.out | refine below_set ?_ GE259.out) | exact HB.out), (tc_ HK.out)⟩
     ·
      rw [if_neg c49] at H
      have c49b0 : (t276 == 0) = false := beq_eq_false_iff_ne.mpr c49
      have c49b1 : (t276 != 0) = true := bne_iff_ne.mpr c49
      by_cases c58 : t276 = 1
      ·
       rw [if_pos c58] at H
       have c58b0 : (t276 == 1) = true := beq_iff_eq.mpr c58
       have c58b1 : (t276 != 1) = false := bne_eq_false_iff_eq.mpr c58
       clear c58
       by_cases c59 : x260002_1.length < 17592186044416
       ·
        rw [if_pos c59] at H
        have LMc59 := Aside0.mk c59
        clear c59
        obtain ⟨y278, hy278⟩ : ∃ y_ : List Int, y_ = (x260002_1 ++ [3]) := ⟨_, rfl⟩
        replace H : (some (t253, (wrap64 (t257 - 1)), y278, t277)) = some (r1, r2, r3, r4) := by first | (rw [hy278]; with_reducible exact H) | (have H2_ := (Option.bind_some _ _).symm.trans H; rw [hy278]; with_reducible exact H2_) | (have H2_ := (Option.bind_some _ _).symm.trans H; with_reducible exact H2_) | with_reducible exact H | (rw [hy278]; exact H) | exact H
        have Ny278 := Aside0.mk hy278
        clear hy278
        simp only [Option.some.injEq, Prod.mk.injEq] at H
        obtain ⟨rfl, rfl, rfl, rfl⟩ := H
        go_wp2_with (first | ((with_reducible refine gate_callee (f := 64) rfl ?_); refine goesL_ (some 42) rfl rfl Try.func64 (by kernel_rfl) rfl #[.pointer (some ⟨g, 0, none⟩), .int .i64 a1] rfl tz_ ?_; (with_reducible refine (spec_l20Rd_odd.calls k1 g s0_0 x1001_1 a1 true t275 w0 _ ?side1 ?side2 A46.out).mono ?_); (case side1 => repeat (first | (with_reducible first | exact HI0.out | apply IsS78.alloc | apply IsS78.drewN | apply IsS78.drew | apply IsS78.set_1 | refine IsS78.far ?_ NB0_252.out _ | refine IsS78.far ?_ NB0_259.out _) | exact HI0.out)); (case side2 => repeat (first | (with_reducible first | exact HB.out | apply la_ | apply ln_ | apply ld_ | refine below_set ?_ (IsS78.ge HI0.out) | refine below_set ?_ GE252.out | refine below_set ?_ GE259.out) | exact HB.out)); rintro e w60 ⟨rfl, hi, hb, hk⟩; refine ⟨_, rfl, ?_⟩; have n0_ := Aside0.mk (Kd.R_mono (Kd.R_keep (IsS78.apart (show IsS78 w0 _ g s0_0 x1001_1 from by repeat (first | (with_reducible first | exact HI0.out | apply IsS78.alloc | apply IsS78.drewN | apply IsS78.drew | apply IsS78.set_1 | refine IsS78.far ?_ NB0_252.out _ | refine IsS78.far ?_ NB0_259.out _) | exact HI0.out)) (rR_ HO_260000.out) (by decide)) hk (fun _ h => h.2)) (fun _ h => h.1)); have n1_ := Aside0.mk (Kd.R_mono (Kd.R_keep (IsS78.apart (show IsS78 w0 _ g s0_0 x1001_1 from by repeat (first | (with_reducible first | exact HI0.out | apply IsS78.alloc | apply IsS78.drewN | apply IsS78.drew | apply IsS78.set_1 | refine IsS78.far ?_ NB0_252.out _ | refine IsS78.far ?_ NB0_259.out _) | exact HI0.out)) (rR_ HO_260002.out) (by decide)) hk (fun _ h => h.2)) (fun _ h => h.1)); have n2_ := Aside0.mk (KeepBut.blk hk (g' := gb252) (o := .cells #[.slice none 0 0, .int .i64 0, .slice none 0 0] 27 (0, 0)) (tk_ BK252.out) NB252_0.out (by simp)); have n3_ := Aside0.mk (KeepBut.blk hk (g' := gb259) (o := .cells #[.slice Ao9 t253.length co9, .int .i64 (wrap64 (t257 - 1)), u260002] 27 (0, 0)) (tk_ BK259.out) NB259_0.out (by simp)); have n4_ := Aside0.mk (KeepBut.trans (tc_ HK.out) hk (.inl rfl)); have n5_ := Aside0.mk (hb); have n6_ := Aside0.mk (hi); clear HO_260000 HO_260002 BK252 BK259 HK HB HI0; have HO_260000 := n0_; have HO_260002 := n1_; have BK252 := n2_; have BK259 := n3_; have HK := n4_; have HB := n5_; have HI0 := n6_; clear n0_ n1_ n2_ n3_ n4_ n5_ n6_; (try clear hb); (try clear hb2); (try clear hk); (try clear hi)) | ((with_reducible refine gate_callee (f := 63) rfl ?_); refine goesL_ (some 44) rfl rfl Try.func63 (by kernel_rfl) rfl #[.pointer (some ⟨g, 0, none⟩), .int .i64 3] rfl tz_ ?_; (with_reducible refine (spec_l20Rd_pick.calls k1 g s0_0 t275 3 t276 t277 w0 _ ?side1 ?side2 A48.out).mono ?_); (case side1 => repeat (first | (with_reducible first | exact HI0.out | apply IsS78.alloc | apply IsS78.drewN | apply IsS78.drew | apply IsS78.set_1 | refine IsS78.far ?_ NB0_252.out _ | refine IsS78.far ?_ NB0_259.out _) | exact HI0.out)); (case side2 => repeat (first | (with_reducible first | exact HB.out | apply la_ | apply ln_ | apply ld_ | refine below_set ?_ (IsS78.ge HI0.out) | refine below_set ?_ GE252.out | refine below_set ?_ GE259.out) | exact HB.out)); rintro e w61 ⟨rfl, hi, hb, hk⟩; refine ⟨_, rfl, ?_⟩; have n0_ := Aside0.mk (Kd.R_mono (Kd.R_keep (IsS78.apart (show IsS78 w0 _ g s0_0 t275 from by repeat (first | (with_reducible first | exact HI0.out | apply IsS78.alloc | apply IsS78.drewN | apply IsS78.drew | apply IsS78.set_1 | refine IsS78.far ?_ NB0_252.out _ | refine IsS78.far ?_ NB0_259.out _) | exact HI0.out)) (rR_ HO_260000.out) (by decide)) hk (fun _ h => h.2)) (fun _ h => h.1)); have n1_ := Aside0.mk (Kd.R_mono (Kd.R_keep (IsS78.apart (show IsS78 w0 _ g s0_0 t275 from by repeat (first | (with_reducible first | exact HI0.out | apply IsS78.alloc | apply IsS78.drewN | apply IsS78.drew | apply IsS78.set_1 | refine IsS78.far ?_ NB0_252.out _ | refine IsS78.far ?_ NB0_259.out _) | exact HI0.out)) (rR_ HO_260002.out) (by decide)) hk (fun _ h => h.2)) (fun _ h => h.1)); have n2_ := Aside0.mk (KeepBut.blk hk (g' := gb252) (o := .cells #[.slice none 0 0, .int .i64 0, .slice none 0 0] 27 (0, 0)) (tk_ BK252.out) NB252_0.out (by simp)); have n3_ := Aside0.mk (KeepBut.blk hk (g' := gb259) (o := .cells #[.slice Ao9 t253.length co9, .int .i64 (wrap64 (t257 - 1)), u260002] 27 (0, 0)) (tk_ BK259.out) NB259_0.out (by simp)); have n4_ := Aside0.mk (KeepBut.trans (tc_ HK.out) hk (.inl rfl)); have n5_ := Aside0.mk (hb); have n6_ := Aside0.mk (hi); clear HO_260000 HO_260002 BK252 BK259 HK HB HI0; have HO_260000 := n0_; have HO_260002 := n1_; have BK252 := n2_; have BK259 := n3_; have HK := n4_; have HB := n5_; have HI0 := n6_; clear n0_ n1_ n2_ n3_ n4_ n5_ n6_; (try clear hb); (try clear hb2); (try clear hk); (try clear hi); have hnb62 := NB259_252.out; have hnc62 := NB252_259.out; have hnb63 := NB259_0.out; have hnc63 := NB0_259.out; have hcz64_0 : w61.cell? ⟨gb259, 0, none⟩ = some (.slice Ao9 t253.length co9) := (blk_cell BK259.out 0).trans rfl; have hcz64_1 : w61.cell? ⟨gb259, 1, none⟩ = some (.int .i64 (wrap64 (t257 - 1))) := (blk_cell BK259.out 1).trans rfl; have hcz64_2 : w61.cell? ⟨gb259, 2, none⟩ = some (u260002) := (blk_cell BK259.out 2).trans rfl; have hfz64_0 := blk_frozen BK259.out 0; have hfz64_1 := blk_frozen BK259.out 1; have hfz64_2 := blk_frozen BK259.out 2) | ((with_reducible refine gate_builtin (b := .append) (xs := #[.tmp 52, .tmp 53]) rfl ?_); at_builtin; refine Kd.R_append (Kd.int .i64) w.heap.size rfl (.tmp 52) (.tmp 53) 22 3 (.int .i64 0) 8 rfl Try.underlying22 info3 rfl (by decide) (by omega) u260002 x260002_1 3 [.int .i64 3] (fun k_ => some k_ ≠ (.slice Ao9 t253.length co9 : Value).ownBlock) (fun _ => False) rfl rfl ?aP (fun _ hk => hk.elim) ?aF ?aO (Below.refl _ _) ?aS ?aL ?_; (case aP => exact rfl); (case aF => exact (fun k_ hk => Kd.fresh' (Kd.R_lt (rR_ HO_260000.out)) k_ hk)); (case aO => exact (rR_ HO_260002.out)); (case aS => exact (keep_size (w := w) (g := g) (row := none) (tc_ HK.out))); (case aL => have := LMc59.out; omega); intro v279 w65 ho hb hg hat; rw [← Ny278.out] at ho; have n0_ := Aside0.mk (Kd.R_after (ok := (fun _ => True)) (by refine qR_ ?_; exact Kd.R_mono HO_260000.out (fun _ hk => ⟨trivial, hk⟩)) hg hat); have n1_ := Aside0.mk (blk_grown (g := gb252) (o := .cells #[.slice none 0 0, .int .i64 0, .slice none 0 0] 27 (0, 0)) (tk_ BK252.out) hg (Kd.R_ne HO_260002.out BK252.out (by decide))); have n2_ := Aside0.mk (blk_grown (g := gb259) (o := .cells #[.slice Ao9 t253.length co9, .int .i64 (wrap64 (t257 - 1)), u260002] 27 (0, 0)) (tk_ BK259.out) hg (Kd.R_ne HO_260002.out BK259.out (by decide))); have n3_ := Aside0.mk (IsS78.grown (by repeat (first | (with_reducible first | exact HI0.out | apply IsS78.alloc | apply IsS78.drewN | apply IsS78.drew | apply IsS78.set_1 | refine IsS78.far ?_ NB0_252.out _ | refine IsS78.far ?_ NB0_259.out _) | exact HI0.out)) hg (IsS78.own_ne HI0.out HO_260002.out (by decide))); have n4_ := Aside0.mk (below_weaken (by repeat (first | (with_reducible first | exact HB.out | apply la_ | apply ln_ | apply ld_ | refine below_set ?_ (IsS78.ge HI0.out) | refine below_set ?_ GE252.out | refine below_set ?_ GE259.out) | exact HB.out)) HL.out hb); have n5_ := Aside0.mk (KeepBut.trans (tc_ HK.out) (KeepBut.of_grown hg g) (Kd.R_base2 HO_260002.out)); have n6_ := Aside0.mk (ho); clear HO_260000 BK252 BK259 HI0 HB HK HO_260002; have HO_260000 := n0_; have BK252 := n1_; have BK259 := n2_; have HI0 := n3_; have HB := n4_; have HK := n5_; have HO280 := n6_; clear n0_ n1_ n2_ n3_ n4_ n5_ n6_ ho hb hg hat; obtain ⟨Ao66, co66, eo66⟩ := Kd.R_slice HO280.out; subst eo66; have hcz67_0 : w65.cell? ⟨gb259, 0, none⟩ = some (.slice Ao9 t253.length co9) := (blk_cell BK259.out 0).trans rfl; have hcz67_1 : w65.cell? ⟨gb259, 1, none⟩ = some (.int .i64 (wrap64 (t257 - 1))) := (blk_cell BK259.out 1).trans rfl; have hcz67_2 : w65.cell? ⟨gb259, 2, none⟩ = some (u260002) := (blk_cell BK259.out 2).trans rfl; have hfz67_0 := blk_frozen BK259.out 0; have hfz67_1 := blk_frozen BK259.out 1; have hfz67_2 := blk_frozen BK259.out 2; have hnb68 := NB252_0.out; have hnc68 := NB0_252.out; have hcz69_0 : w65.cell? ⟨gb252, 0, none⟩ = some (.slice none 0 0) := (blk_cell BK252.out 0).trans rfl; have hcz69_1 : w65.cell? ⟨gb252, 1, none⟩ = some (.int .i64 0) := (blk_cell BK252.out 1).trans rfl; have hcz69_2 : w65.cell? ⟨gb252, 2, none⟩ = some (.slice none 0 0) := (blk_cell BK252.out 2).trans rfl; have hfz69_0 := blk_frozen BK252.out 0; have hfz69_1 := blk_frozen BK252.out 1; have hfz69_2 := blk_frozen BK252.out 2))
        refine bodyPost_ret (results_cell_row rfl _ _ gb252 27 #[.slice Ao9 t253.length co9, .int .i64 (wrap64 (t257 - 1)), .slice Ao66 y278.length co66] (0, 0) _ rfl (by refine bq_ ?_; refine blk_put (cs := #[.slice Ao9 t253.length co9, .int .i64 (wrap64 (t257 - 1)), .slice none 0 0]) ?_ 2 _ rfl; refine bq_ ?_; refine blk_put (cs := #[.slice Ao9 t253.length co9, .int .i64 0, .slice none 0 0]) ?_ 1 _ rfl; refine bq_ ?_; refine blk_put (cs := #[.slice none 0 0, .int .i64 0, .slice none 0 0]) ?_ 0 _ rfl; exact tk_ BK252.out) Try.underlying27 rfl (by kernel_rfl)) rfl ?_
        exact ⟨_, _, by first | rfl | (simp [errW_none, errW_some] <;> rfl) | (simp [*, errW_none, errW_some] <;> rfl), by refine qR_ ?_; exact Kd.R_mono (Kd.R_far (p := ⟨gb252, 2, none⟩) (Kd.R_far (p := ⟨gb252, 1, none⟩) (Kd.R_far (p := ⟨gb252, 0, none⟩) (Kd.R_far (p := ⟨gb259, 2, none⟩) (Kd.R_types (Kd.R_types HO_260000.out BK259.out (by decide)) BK252.out (by decide)) (fun _ hk => hk.1.2) (.slice Ao66 y278.length co66)) (fun _ hk => hk.2) (.slice Ao9 t253.length co9)) (fun _ hk => hk.2) (.int .i64 (wrap64 (t257 - 1)))) (fun _ hk => hk.2) (.slice Ao66 y278.length co66)) (fun _ hk => hk.1.1.2), by refine qR_ ?_; exact Kd.R_mono (Kd.R_far (p := ⟨gb252, 2, none⟩) (Kd.R_far (p := ⟨gb252, 1, none⟩) (Kd.R_far (p := ⟨gb252, 0, none⟩) (Kd.R_far (p := ⟨gb259, 2, none⟩) (Kd.R_types (Kd.R_types HO280.out BK259.out (by decide)) BK252.out (by decide)) (fun _ hk => hk.1.2) (.slice Ao66 y278.length co66)) (fun _ hk => hk.2) (.slice Ao9 t253.length co9)) (fun _ hk => hk.2) (.int .i64 (wrap64 (t257 - 1)))) (fun _ hk => hk.2) (.slice Ao66 y278.length co66)) (fun _ hk => hk.1.1), by repeat (first | (with_reducible first | exact HI0.out | apply IsS78.alloc | apply IsS78.drewN | apply IsS78.drew | apply IsS78.set_1 | refine IsS78.far ?_ NB0_252.out _ | refine IsS78.far ?_ NB0_259.out _) | exact HI0.out), by repeat (first | (with_reducible first | exact HB.out | apply la_ | apply ln_ | apply ld_ | refine below_set ?_ (IsS78.ge HI0.out) | refine below_set ?_ GE252.out | refine below_set ?_ GE259.out) | exact HB.out), (tc_ HK.out)⟩
       ·
        rw [if_neg c59] at H
        exact absurd H (by simp)
      ·
       rw [if_neg c58] at H
       have c58b0 : (t276 == 1) = false := beq_eq_false_iff_ne.mpr c58
       have c58b1 : (t276 != 1) = true := bne_iff_ne.mpr c58
       simp only [Option.some.injEq, Prod.mk.injEq] at H
       obtain ⟨rfl, rfl, rfl, rfl⟩ := H
       go_wp2_with (first | ((with_reducible refine gate_callee (f := 64) rfl ?_); refine goesL_ (some 42) rfl rfl Try.func64 (by kernel_rfl) rfl #[.pointer (some ⟨g, 0, none⟩), .int .i64 a1] rfl tz_ ?_; (with_reducible refine (spec_l20Rd_odd.calls k1 g s0_0 x1001_1 a1 true t275 w0 _ ?side1 ?side2 A46.out).mono ?_); (case side1 => repeat (first | (with_reducible first | exact HI0.out | apply IsS78.alloc | apply IsS78.drewN | apply IsS78.drew | apply IsS78.set_1 | refine IsS78.far ?_ NB0_252.out _ | refine IsS78.far ?_ NB0_259.out _) | exact HI0.out)); (case side2 => repeat (first | (with_reducible first | exact HB.out | apply la_ | apply ln_ | apply ld_ | refine below_set ?_ (IsS78.ge HI0.out) | refine below_set ?_ GE252.out | refine below_set ?_ GE259.out) | exact HB.out)); rintro e w70 ⟨rfl, hi, hb, hk⟩; refine ⟨_, rfl, ?_⟩; have n0_ := Aside0.mk (Kd.R_mono (Kd.R_keep (IsS78.apart (show IsS78 w0 _ g s0_0 x1001_1 from by repeat (first | (with_reducible first | exact HI0.out | apply IsS78.alloc | apply IsS78.drewN | apply IsS78.drew | apply IsS78.set_1 | refine IsS78.far ?_ NB0_252.out _ | refine IsS78.far ?_ NB0_259.out _) | exact HI0.out)) (rR_ HO_260000.out) (by decide)) hk (fun _ h => h.2)) (fun _ h => h.1)); have n1_ := Aside0.mk (Kd.R_mono (Kd.R_keep (IsS78.apart (show IsS78 w0 _ g s0_0 x1001_1 from by repeat (first | (with_reducible first | exact HI0.out | apply IsS78.alloc | apply IsS78.drewN | apply IsS78.drew | apply IsS78.set_1 | refine IsS78.far ?_ NB0_252.out _ | refine IsS78.far ?_ NB0_259.out _) | exact HI0.out)) (rR_ HO_260002.out) (by decide)) hk (fun _ h => h.2)) (fun _ h => h.1)); have n2_ := Aside0.mk (KeepBut.blk hk (g' := gb252) (o := .cells #[.slice none 0 0, .int .i64 0, .slice none 0 0] 27 (0, 0)) (tk_ BK252.out) NB252_0.out (by simp)); have n3_ := Aside0.mk (KeepBut.blk hk (g' := gb259) (o := .cells #[.slice Ao9 t253.length co9, .int .i64 (wrap64 (t257 - 1)), u260002] 27 (0, 0)) (tk_ BK259.out) NB259_0.out (by simp)); have n4_ := Aside0.mk (KeepBut.trans (tc_ HK.out) hk (.inl rfl)); have n5_ := Aside0.mk (hb); have n6_ := Aside0.mk (hi); clear HO_260000 HO_260002 BK252 BK259 HK HB HI0; have HO_260000 := n0_; have HO_260002 := n1_; have BK252 := n2_; have BK259 := n3_; have HK := n4_; have HB := n5_; have HI0 := n6_; clear n0_ n1_ n2_ n3_ n4_ n5_ n6_; (try clear hb); (try clear hb2); (try clear hk); (try clear hi)) | ((with_reducible refine gate_callee (f := 63) rfl ?_); refine goesL_ (some 44) rfl rfl Try.func63 (by kernel_rfl) rfl #[.pointer (some ⟨g, 0, none⟩), .int .i64 3] rfl tz_ ?_; (with_reducible refine (spec_l20Rd_pick.calls k1 g s0_0 t275 3 t276 t277 w0 _ ?side1 ?side2 A48.out).mono ?_); (case side1 => repeat (first | (with_reducible first | exact HI0.out | apply IsS78.alloc | apply IsS78.drewN | apply IsS78.drew | apply IsS78.set_1 | refine IsS78.far ?_ NB0_252.out _ | refine IsS78.far ?_ NB0_259.out _) | exact HI0.out)); (case side2 => repeat (first | (with_reducible first | exact HB.out | apply la_ | apply ln_ | apply ld_ | refine below_set ?_ (IsS78.ge HI0.out) | refine below_set ?_ GE252.out | refine below_set ?_ GE259.out) | exact HB.out)); rintro e w71 ⟨rfl, hi, hb, hk⟩; refine ⟨_, rfl, ?_⟩; have n0_ := Aside0.mk (Kd.R_mono (Kd.R_keep (IsS78.apart (show IsS78 w0 _ g s0_0 t275 from by repeat (first | (with_reducible first | exact HI0.out | apply IsS78.alloc | apply IsS78.drewN | apply IsS78.drew | apply IsS78.set_1 | refine IsS78.far ?_ NB0_252.out _ | refine IsS78.far ?_ NB0_259.out _) | exact HI0.out)) (rR_ HO_260000.out) (by decide)) hk (fun _ h => h.2)) (fun _ h => h.1)); have n1_ := Aside0.mk (Kd.R_mono (Kd.R_keep (IsS78.apart (show IsS78 w0 _ g s0_0 t275 from by repeat (first | (with_reducible first | exact HI0.out | apply IsS78.alloc | apply IsS78.drewN | apply IsS78.drew | apply IsS78.set_1 | refine IsS78.far ?_ NB0_252.out _ | refine IsS78.far ?_ NB0_259.out _) | exact HI0.out)) (rR_ HO_260002.out) (by decide)) hk (fun _ h => h.2)) (fun _ h => h.1)); have n2_ := Aside0.mk (KeepBut.blk hk (g' := gb252) (o := .cells #[.slice none 0 0, .int .i64 0, .slice none 0 0] 27 (0, 0)) (tk_ BK252.out) NB252_0.out (by simp)); have n3_ := Aside0.mk (KeepBut.blk hk (g' := gb259) (o := .cells #[.slice Ao9 t253.length co9, .int .i64 (wrap64 (t257 - 1)), u260002] 27 (0, 0)) (tk_ BK259.out) NB259_0.out (by simp)); have n4_ := Aside0.mk (KeepBut.trans (tc_ HK.out) hk (.inl rfl)); have n5_ := Aside0.mk (hb); have n6_ := Aside0.mk (hi); clear HO_260000 HO_260002 BK252 BK259 HK HB HI0; have HO_260000 := n0_; have HO_260002 := n1_; have BK252 := n2_; have BK259 := n3_; have HK := n4_; have HB := n5_; have HI0 := n6_; clear n0_ n1_ n2_ n3_ n4_ n5_ n6_; (try clear hb); (try clear hb2); (try clear hk); (try clear hi); have hnb72 := NB252_259.out; have hnc72 := NB259_252.out; have hnb73 := NB252_0.out; have hnc73 := NB0_252.out; have hcz74_0 : w71.cell? ⟨gb252, 0, none⟩ = some (.slice none 0 0) := (blk_cell BK252.out 0).trans rfl; have hcz74_1 : w71.cell? ⟨gb252, 1, none⟩ = some (.int .i64 0) := (blk_cell BK252.out 1).trans rfl; have hcz74_2 : w71.cell? ⟨gb252, 2, none⟩ = some (.slice none 0 0) := (blk_cell BK252.out 2).trans rfl; have hfz74_0 := blk_frozen BK252.out 0; have hfz74_1 := blk_frozen BK252.out 1; have hfz74_2 := blk_frozen BK252.out 2))
       refine bodyPost_ret (results_cell_row rfl _ _ gb252 27 #[.slice none 0 0, .int .i64 0, .slice none 0 0] (0, 0) _ rfl (by refine bq_ ?_; refine blk_put (cs := #[.slice none 0 0, .int .i64 0, .slice none 0 0]) ?_ 2 _ rfl; refine bq_ ?_; refine blk_put (cs := #[.slice none 0 0, .int .i64 0, .slice none 0 0]) ?_ 1 _ rfl; refine bq_ ?_; refine blk_put (cs := #[.slice none 0 0, .int .i64 0, .slice none 0 0]) ?_ 0 _ rfl; exact tk_ BK252.out) Try.underlying27 rfl (by kernel_rfl)) rfl ?_
       exact ⟨_, _, by first | rfl | (simp [errW_none, errW_some] <;> rfl) | (simp [*, errW_none, errW_some] <;> rfl), by first | exact Kd.R_nil _ _ _ _ _ | exact Kd.N_nil _ _ _ _ _ | exact Kd.V_nil _ _ _ _ _ | exact Kd.Q_nil _ _ _ _ _ | exact Kd.S_nil _ _ _ _ _, by first | exact Kd.R_nil _ _ _ _ _ | exact Kd.N_nil _ _ _ _ _ | exact Kd.V_nil _ _ _ _ _ | exact Kd.Q_nil _ _ _ _ _ | exact Kd.S_nil _ _ _ _ _, by repeat (first | (with_reducible first | exact HI0.out | apply IsS78.alloc | apply IsS78.drewN | apply IsS78.drew | apply IsS78.set_1 | refine IsS78.far ?_ NB0_252.out _ | refine IsS78.far ?_ NB0_259.out _) | exact HI0.out), by repeat (first | (with_reducible first | exact HB.out | apply la_ | apply ln_ | apply ld_ | refine below_set ?_ (IsS78.ge HI0.out) | refine below_set ?_ GE252.out | refine below_set ?_ GE259.out) | exact HB.out), (tc_ HK.out)⟩
    ·
     replace c47 := Bool.eq_false_iff.mpr c47
     subst c47
     have H1 : (some (t253, (wrap64 (t257 - 1)), x260002_1, t275)) = some (r1, r2, r3, r4) := by rw [if_neg (show ¬ (false = true) by decide)] at H; exact H
     clear H
     have H := H1
     clear H1
     simp only [Option.some.injEq, Prod.mk.injEq] at H
     obtain ⟨rfl, rfl, rfl, rfl⟩ := H
     go_wp2_with (first | ((with_reducible refine gate_callee (f := 64) rfl ?_); refine goesL_ (some 42) rfl rfl Try.func64 (by kernel_rfl) rfl #[.pointer (some ⟨g, 0, none⟩), .int .i64 a1] rfl tz_ ?_; (with_reducible refine (spec_l20Rd_odd.calls k1 g s0_0 x1001_1 a1 false t275 w0 _ ?side1 ?side2 A46.out).mono ?_); (case side1 => repeat (first | (with_reducible first | exact HI0.out | apply IsS78.alloc | apply IsS78.drewN | apply IsS78.drew | apply IsS78.set_1 | refine IsS78.far ?_ NB0_252.out _ | refine IsS78.far ?_ NB0_259.out _) | exact HI0.out)); (case side2 => repeat (first | (with_reducible first | exact HB.out | apply la_ | apply ln_ | apply ld_ | refine below_set ?_ (IsS78.ge HI0.out) | refine below_set ?_ GE252.out | refine below_set ?_ GE259.out) | exact HB.out)); rintro e w75 ⟨rfl, hi, hb, hk⟩; refine ⟨_, rfl, ?_⟩; have n0_ := Aside0.mk (Kd.R_mono (Kd.R_keep (IsS78.apart (show IsS78 w0 _ g s0_0 x1001_1 from by repeat (first | (with_reducible first | exact HI0.out | apply IsS78.alloc | apply IsS78.drewN | apply IsS78.drew | apply IsS78.set_1 | refine IsS78.far ?_ NB0_252.out _ | refine IsS78.far ?_ NB0_259.out _) | exact HI0.out)) (rR_ HO_260000.out) (by decide)) hk (fun _ h => h.2)) (fun _ h => h.1)); have n1_ := Aside0.mk (Kd.R_mono (Kd.R_keep (IsS78.apart (show IsS78 w0 _ g s0_0 x1001_1 from by repeat (first | (with_reducible first | exact HI0.out | apply IsS78.alloc | apply IsS78.drewN | apply IsS78.drew | apply IsS78.set_1 | refine IsS78.far ?_ NB0_252.out _ | refine IsS78.far ?_ NB0_259.out _) | exact HI0.out)) (rR_ HO_260002.out) (by decide)) hk (fun _ h => h.2)) (fun _ h => h.1)); have n2_ := Aside0.mk (KeepBut.blk hk (g' := gb252) (o := .cells #[.slice none 0 0, .int .i64 0, .slice none 0 0] 27 (0, 0)) (tk_ BK252.out) NB252_0.out (by simp)); have n3_ := Aside0.mk (KeepBut.blk hk (g' := gb259) (o := .cells #[.slice Ao9 t253.length co9, .int .i64 (wrap64 (t257 - 1)), u260002] 27 (0, 0)) (tk_ BK259.out) NB259_0.out (by simp)); have n4_ := Aside0.mk (KeepBut.trans (tc_ HK.out) hk (.inl rfl)); have n5_ := Aside0.mk (hb); have n6_ := Aside0.mk (hi); clear HO_260000 HO_260002 BK252 BK259 HK HB HI0; have HO_260000 := n0_; have HO_260002 := n1_; have BK252 := n2_; have BK259 := n3_; have HK := n4_; have HB := n5_; have HI0 := n6_; clear n0_ n1_ n2_ n3_ n4_ n5_ n6_; (try clear hb); (try clear hb2); (try clear hk); (try clear hi); have hnb76 := NB259_252.out; have hnc76 := NB252_259.out; have hnb77 := NB259_0.out; have hnc77 := NB0_259.out; have hcz78_0 : w75.cell? ⟨gb259, 0, none⟩ = some (.slice Ao9 t253.length co9) := (blk_cell BK259.out 0).trans rfl; have hcz78_1 : w75.cell? ⟨gb259, 1, none⟩ = some (.int .i64 (wrap64 (t257 - 1))) := (blk_cell BK259.out 1).trans rfl; have hcz78_2 : w75.cell? ⟨gb259, 2, none⟩ = some (u260002) := (blk_cell BK259.out 2).trans rfl; have hfz78_0 := blk_frozen BK259.out 0; have hfz78_1 := blk_frozen BK259.out 1; have hfz78_2 := blk_frozen BK259.out 2; have hnb79 := NB252_0.out; have hnc79 := NB0_252.out; have hcz80_0 : w75.cell? ⟨gb252, 0, none⟩ = some (.slice none 0 0) := (blk_cell BK252.out 0).trans rfl; have hcz80_1 : w75.cell? ⟨gb252, 1, none⟩ = some (.int .i64 0) := (blk_cell BK252.out 1).trans rfl; have hcz80_2 : w75.cell? ⟨gb252, 2, none⟩ = some (.slice none 0 0) := (blk_cell BK252.out 2).trans rfl; have hfz80_0 := blk_frozen BK252.out 0; have hfz80_1 := blk_frozen BK252.out 1; have hfz80_2 := blk_frozen BK252.out 2; obtain ⟨Ao81, co81, eo81⟩ := Kd.R_slice HO_260002.out; subst eo81))
     refine bodyPost_ret (results_cell_row rfl _ _ gb252 27 #[.slice Ao9 t253.length co9, .int .i64 (wrap64 (t257 - 1)), .slice Ao81 x260002_1.length co81] (0, 0) _ rfl (by refine bq_ ?_; refine blk_put (cs := #[.slice Ao9 t253.length co9, .int .i64 (wrap64 (t257 - 1)), .slice none 0 0]) ?_ 2 _ rfl; refine bq_ ?_; refine blk_put (cs := #[.slice Ao9 t253.length co9, .int .i64 0, .slice none 0 0]) ?_ 1 _ rfl; refine bq_ ?_; refine blk_put (cs := #[.slice none 0 0, .int .i64 0, .slice none 0 0]) ?_ 0 _ rfl; exact tk_ BK252.out) Try.underlying27 rfl (by kernel_rfl)) rfl ?_
     exact ⟨_, _, by first | rfl | (simp [errW_none, errW_some] <;> rfl) | (simp [*, errW_none, errW_some] <;> rfl), by refine qR_ ?_; exact Kd.R_mono (Kd.R_far (p := ⟨gb252, 2, none⟩) (Kd.R_far (p := ⟨gb252, 1, none⟩) (Kd.R_far (p := ⟨gb252, 0, none⟩) (Kd.R_types HO_260000.out BK252.out (by decide)) (fun _ hk => hk.2) (.slice Ao9 t253.length co9)) (fun _ hk => hk.2) (.int .i64 (wrap64 (t257 - 1)))) (fun _ hk => hk.2) (.slice Ao81 x260002_1.length co81)) (fun _ hk => hk.1), by refine qR_ ?_; exact Kd.R_mono (Kd.R_far (p := ⟨gb252, 2, none⟩) (Kd.R_far (p := ⟨gb252, 1, none⟩) (Kd.R_far (p := ⟨gb252, 0, none⟩) (Kd.R_types HO_260002.out BK252.out (by decide)) (fun _ hk => hk.2) (.slice Ao9 t253.length co9)) (fun _ hk => hk.2) (.int .i64 (wrap64 (t257 - 1)))) (fun _ hk => hk.2) (.slice Ao81 x260002_1.length co81)) (fun _ hk => hk.1), by repeat (first | (with_reducible first | exact HI0.out | apply IsS78.alloc | apply IsS78.drewN | apply IsS78.drew | apply IsS78.set_1 | refine IsS78.far ?_ NB0_252.out _ | refine IsS78.far ?_ NB0_259.out _) | exact HI0.out), by repeat (first | (with_reducible first | exact HB.out | apply la_ | apply ln_ | apply ld_ | refine below_set ?_ (IsS78.ge HI0.out) | refine below_set ?_ GE252.out | refine below_set ?_ GE259.out) | exact HB.out), (tc_ HK.out)⟩

/-! ### spec_l20Open: function 43 -/
def spec_l20Open.f (l0 : List Int) : Option (List Int × Int) := if (l0.length : Int) > 2000 then (if 2000 ≤ (l0.length : Int) then (some (l0.take 2000, 0)) else (none)) else (some (l0, 0))
set_option maxHeartbeats 8000000 in
set_option maxRecDepth 100000 in
theorem spec_l20Open.calls (A0 : Option Addr) (c0 : Nat) (l0 : List Int) (r1 : List Int) (r2 : Int) (w0 w : World) (hB : Below w0.heap.size w0 w) (hr0 : Kd.C (Kd.int .u8) w0 A0 l0.length l0) (hc0 : l0.length ≤ c0) (h : spec_l20Open.f l0 = some (r1, r2)) :
  Calls Try.prog 43 #[.slice A0 l0.length c0] w fun e w' => ∃ g_ : Nat, e = .returned (.pointer (some ⟨g_, 0, none⟩)) ∧ IsS78 w0 w' g_ r1 r2 ∧ Below w0.heap.size w0 w' ∧ Below w.heap.size w w' := by
 have hu78 := Try.underlying78
 have HR0 := Aside0.mk hr0
 have HC0 := Aside0.mk hc0
 clear hr0 hc0
 have HBW := Aside0.mk (Below.refl w.heap.size w)
 have HW0 := Aside0.mk hB.size
 have HB := Aside0.mk hB
 clear hB
 have H : (if (l0.length : Int) > 2000 then (if 2000 ≤ (l0.length : Int) then (some (l0.take 2000, 0)) else (none)) else (some (l0, 0))) = some (r1, r2) := h
 clear h
 by_cases c2 : (l0.length : Int) > 2000
 ·
  rw [if_pos c2] at H
  have c2b0 : decide (2000 < (l0.length : Int)) = true := decide_eq_true c2
  have c2b1 : decide (2000 < l0.length) = true := decide_eq_true (by omega)
  clear c2
  by_cases c3 : 2000 ≤ (l0.length : Int)
  ·
   rw [if_pos c3] at H
   have c3b0 := eq_true c3
   have c3b1 : decide (2000 ≤ (l0.length : Int)) = true := decide_eq_true c3
   clear c3
   simp only [Option.some.injEq, Prod.mk.injEq] at H
   obtain ⟨rfl, rfl⟩ := H
   obtain ⟨i04, hi04, _, hsz4, _⟩ := info_parts info5
   obtain ⟨hcut4, hA4, hC4⟩ := print_take_of (P := Try.prog) (Value.int .u8) 0 31 5 .i64 Try.underlying31 hi04 hsz4 A0 c0 l0 2000 (by omega) (od_) HC0.out
   have HR281 := Aside0.mk (Kd.C_of_reads (h1 := fun _ => rfl) (hA4 _ (Kd.reads_of_C HR0.out)))
   have HC281 := Aside0.mk hC4
   clear hA4 hC4 hi04 hsz4
   go_enter Try.func43, Try.ntmps43
   go_wp2_with (first | ((with_reducible refine gate_dst (N := 10) rfl ?_); refine box_event ?hg (N := 10) ?hd (cs := #[.slice A0 (l0.take 2000).length c0, .int .i64 0]) (t := 78) ?hr ?_; (case hd => rfl); (case hg => rfl); (case hr => first | (go_simp; done) | (go_simp; rfl)); intro gb282 hg w5 hbox hb; have n0_ := Aside0.mk (below_step HBW.out hb); have n1_ := Aside0.mk (below_step (tb_ HB.out) hb); have n2_ := Aside0.mk (hbox); have n3_ := Aside0.mk ((by rw [hg]; exact (below_size (by repeat (first | (with_reducible first | exact HBW.out | apply la_ | apply ln_ | apply ld_) | exact HBW.out))) : w.heap.size ≤ gb282)); have n4_ := Aside0.mk ((Nat.le_trans HW0.out (by rw [hg]; exact (below_size (by repeat (first | (with_reducible first | exact HBW.out | apply la_ | apply ln_ | apply ld_) | exact HBW.out))) : w.heap.size ≤ gb282) : w0.heap.size ≤ gb282)); clear HBW HB; have HBW := n0_; have HB := n1_; have BK282 := n2_; have GW282 := n3_; have GE282 := n4_; clear n0_ n1_ n2_ n3_ n4_ hb hbox hg))
   go_ret
   exact ⟨_, rfl, (show IsS78 w0 _ gb282 (l0.take 2000) 0 from ⟨_, _, by exact tk_ BK282.out, GE282.out, HR281.out⟩), (tb_ HB.out), by repeat (first | (with_reducible first | exact HBW.out | apply la_ | apply ln_ | apply ld_ | refine below_set ?_ GW282.out) | exact HBW.out)⟩
  ·
   rw [if_neg c3] at H
   exact absurd H (by simp)
 ·
  rw [if_neg c2] at H
  have c2b0 : decide (2000 < (l0.length : Int)) = false := decide_eq_false c2
  have c2b1 : decide (2000 < l0.length) = false := decide_eq_false (by omega)
  clear c2
  simp only [Option.some.injEq, Prod.mk.injEq] at H
  obtain ⟨rfl, rfl⟩ := H
  go_enter Try.func43, Try.ntmps43
  go_wp2_with (first | ((with_reducible refine gate_dst (N := 10) rfl ?_); refine box_event ?hg (N := 10) ?hd (cs := #[.slice A0 l0.length c0, .int .i64 0]) (t := 78) ?hr ?_; (case hd => rfl); (case hg => rfl); (case hr => first | (go_simp; done) | (go_simp; rfl)); intro gb283 hg w6 hbox hb; have n0_ := Aside0.mk (below_step HBW.out hb); have n1_ := Aside0.mk (below_step (tb_ HB.out) hb); have n2_ := Aside0.mk (hbox); have n3_ := Aside0.mk ((by rw [hg]; exact (below_size (by repeat (first | (with_reducible first | exact HBW.out | apply la_ | apply ln_ | apply ld_) | exact HBW.out))) : w.heap.size ≤ gb283)); have n4_ := Aside0.mk ((Nat.le_trans HW0.out (by rw [hg]; exact (below_size (by repeat (first | (with_reducible first | exact HBW.out | apply la_ | apply ln_ | apply ld_) | exact HBW.out))) : w.heap.size ≤ gb283) : w0.heap.size ≤ gb283)); clear HBW HB; have HBW := n0_; have HB := n1_; have BK283 := n2_; have GW283 := n3_; have GE283 := n4_; clear n0_ n1_ n2_ n3_ n4_ hb hbox hg))
  go_ret
  exact ⟨_, rfl, (show IsS78 w0 _ gb283 l0 0 from ⟨_, _, by exact tk_ BK283.out, GE283.out, HR0.out⟩), (tb_ HB.out), by repeat (first | (with_reducible first | exact HBW.out | apply la_ | apply ln_ | apply ld_ | refine below_set ?_ GW283.out) | exact HBW.out)⟩

/-! ### spec_DrawDeskNew: function 16 -/
def spec_DrawDeskNew.f (k : Nat) (l0 : List Int) : Option (List Int × Int × List Int) := (spec_l20Open.f l0).bind fun bt285 => ((spec_l20Place.f k bt285.1 bt285.2 3).bind fun bt288 => (some (bt288.1, bt288.2.1, bt288.2.2.1)))
theorem spec_DrawDeskNew.mono : ∀ a0 k, LeO (spec_DrawDeskNew.f k a0) (spec_DrawDeskNew.f (k + 1) a0) := by
 intro a0 k
 unfold spec_DrawDeskNew.f
 repeat' first
   | (with_reducible exact spec_l20Place.mono _ _ _ _)
   | (with_reducible exact LeO.refl _)
   | (with_reducible exact LeO.none _)
   | (with_reducible refine LeO.ite ?_ ?_)
   | (with_reducible refine LeO.bind ?_ (fun _ => ?_))
   | exact spec_l20Place.mono _ _ _ _
   | exact LeO.none _
   | refine LeO.ite ?_ ?_
   | refine LeO.bind ?_ (fun _ => ?_)
set_option maxHeartbeats 8000000 in
set_option maxRecDepth 100000 in
theorem spec_DrawDeskNew.calls (k : Nat) (A0 : Option Addr) (c0 : Nat) (l0 : List Int) (r1 : List Int) (r2 : Int) (r3 : List Int) (w : World) (hr0 : Kd.C (Kd.int .u8) w A0 l0.length l0) (hc0 : l0.length ≤ c0) (h : spec_DrawDeskNew.f k l0 = some (r1, r2, r3)) :
  Calls Try.prog 16 #[.slice A0 l0.length c0] w fun e w' => ∃ v0_ v2_ : Value, e = .returned (.agg #[v0_, .int .i64 r2, v2_]) ∧ Kd.R (Kd.int .i64) 3 w' w.heap.size (fun k_ => some k_ ≠ (v2_ : Value).ownBlock) v0_ r1 ∧ Kd.R (Kd.int .i64) 3 w' w.heap.size (fun k_ => some k_ ≠ (v0_ : Value).ownBlock) v2_ r3 ∧ Below w.heap.size w w' := by
 have hu27 := Try.underlying27
 have HR0 := Aside0.mk hr0
 have HC0 := Aside0.mk hc0
 clear hr0 hc0
 have HB := Aside0.mk (Below.refl w.heap.size w)
 have H : ((spec_l20Open.f l0).bind fun bt285 => ((spec_l20Place.f k bt285.1 bt285.2 3).bind fun bt288 => (some (bt288.1, bt288.2.1, bt288.2.2.1)))) = some (r1, r2, r3) := h
 clear h
 replace H := Option.bind_eq_some_iff.mp H
 obtain ⟨⟨t285, t286⟩, A20, H⟩ := H
 replace H : ((spec_l20Place.f k t285 t286 3).bind fun bt288 => (some (bt288.1, bt288.2.1, bt288.2.2.1))) = some (r1, r2, r3) := H
 have A2 := Aside0.mk A20
 clear A20
 replace H := Option.bind_eq_some_iff.mp H
 obtain ⟨⟨t288, t291, t292, t295⟩, A30, H⟩ := H
 replace H : (some (t288, t291, t292)) = some (r1, r2, r3) := H
 have A3 := Aside0.mk A30
 clear A30
 simp only [Option.some.injEq, Prod.mk.injEq] at H
 obtain ⟨rfl, rfl, rfl⟩ := H
 go_enter Try.func16, Try.ntmps16
 go_wp2_with (first | ((with_reducible refine gate_dst (N := 2) rfl ?_); refine box_event ?hg (N := 2) ?hd (cs := #[.slice none 0 0, .int .i64 0, .slice none 0 0]) (t := 27) ?hr ?_; (case hd => rfl); (case hg => rfl); (case hr => first | (go_simp; done) | (go_simp; rfl)); intro gb284 hg w4 hbox hb; have n0_ := Aside0.mk (below_step (tb_ HB.out) hb); have n1_ := Aside0.mk (hbox); have n2_ := Aside0.mk ((by rw [hg]; exact (below_size (tb_ HB.out)) : w.heap.size ≤ gb284)); have n3_ := Aside0.mk ((by rw [hg]; exact (below_size (tb_ HB.out)) : w.heap.size ≤ gb284)); clear HB; have HB := n0_; have BK284 := n1_; have GW284 := n2_; have GE284 := n3_; clear n0_ n1_ n2_ n3_ hb hbox hg) | ((with_reducible refine gate_callee (f := 43) rfl ?_); refine goesL_ (some 4) rfl rfl Try.func43 (by kernel_rfl) rfl #[.slice A0 l0.length c0] rfl tz_ ?_; (with_reducible refine (spec_l20Open.calls _ _ l0 t285 t286 w _ ?side1 ?side2 ?side3 A2.out).mono ?_); (case side1 => repeat (first | (with_reducible first | exact HB.out | apply la_ | apply ln_ | apply ld_ | refine below_set ?_ GE284.out) | exact HB.out)); (case side2 => exact HR0.out); (case side3 => exact HC0.out); rintro e w5 ⟨g287, rfl, hi, hb, hb2⟩; refine ⟨_, rfl, ?_⟩; have n0_ := Aside0.mk (blk_below (g := gb284) (o := .cells #[.slice none 0 0, .int .i64 0, .slice none 0 0] 27 (0, 0)) (tk_ BK284.out) hb2); have n1_ := Aside0.mk (hb); have n2_ := Aside0.mk (hi); have n3_ := Aside0.mk (IsS78.ne_blk hi (blk_below (g := gb284) (o := .cells #[.slice none 0 0, .int .i64 0, .slice none 0 0] 27 (0, 0)) (tk_ BK284.out) hb2) (by decide)); have n4_ := Aside0.mk (Ne.symm (IsS78.ne_blk hi (blk_below (g := gb284) (o := .cells #[.slice none 0 0, .int .i64 0, .slice none 0 0] 27 (0, 0)) (tk_ BK284.out) hb2) (by decide))); clear BK284 HB; have BK284 := n0_; have HB := n1_; have HI287 := n2_; have NB287_284 := n3_; have NB284_287 := n4_; clear n0_ n1_ n2_ n3_ n4_; (try clear hb); (try clear hb2); (try clear hk); (try clear hi)) | ((with_reducible refine gate_callee (f := 42) rfl ?_); refine goesL_ (some 5) rfl rfl Try.func42 (by kernel_rfl) rfl #[.pointer (some ⟨g287, 0, none⟩), .int .i64 3] rfl tz_ ?_; (with_reducible refine (spec_l20Place.calls k g287 t285 t286 3 t288 t291 t292 t295 w _ ?side1 ?side2 A3.out).mono ?_); (case side1 => repeat (first | (with_reducible first | exact HI287.out | apply IsS78.alloc | apply IsS78.drewN | apply IsS78.drew | apply IsS78.set_1 | refine IsS78.far ?_ NB287_284.out _) | exact HI287.out)); (case side2 => repeat (first | (with_reducible first | exact HB.out | apply la_ | apply ln_ | apply ld_ | refine below_set ?_ (IsS78.ge HI287.out) | refine below_set ?_ GE284.out) | exact HB.out)); rintro e w6 ⟨v289, v293, rfl, ho0, ho1, hi, hb, hk⟩; refine ⟨_, rfl, ?_⟩; have n0_ := Aside0.mk (KeepBut.blk hk (g' := gb284) (o := .cells #[.slice none 0 0, .int .i64 0, .slice none 0 0] 27 (0, 0)) (tk_ BK284.out) NB284_287.out (by simp)); have n1_ := Aside0.mk (Kd.R_lower ho0 (below_size (by repeat (first | (with_reducible first | exact HB.out | apply la_ | apply ln_ | apply ld_ | refine below_set ?_ (IsS78.ge HI287.out) | refine below_set ?_ GE284.out) | exact HB.out)))); have n2_ := Aside0.mk (Kd.R_lower ho1 (below_size (by repeat (first | (with_reducible first | exact HB.out | apply la_ | apply ln_ | apply ld_ | refine below_set ?_ (IsS78.ge HI287.out) | refine below_set ?_ GE284.out) | exact HB.out)))); have n3_ := Aside0.mk (hb); have n4_ := Aside0.mk (hi); clear BK284 HB HI287; have BK284 := n0_; have HO290 := n1_; have HO294 := n2_; have HB := n3_; have HI287 := n4_; clear n0_ n1_ n2_ n3_ n4_; (try clear hb); (try clear hb2); (try clear hk); (try clear hi); (try clear ho0); (try clear ho1); obtain ⟨Ao7, co7, eo7⟩ := Kd.R_slice HO290.out; subst eo7; have hnb8 := NB284_287.out; have hnc8 := NB287_284.out; have hcz9_0 : w6.cell? ⟨gb284, 0, none⟩ = some (.slice none 0 0) := (blk_cell BK284.out 0).trans rfl; have hcz9_1 : w6.cell? ⟨gb284, 1, none⟩ = some (.int .i64 0) := (blk_cell BK284.out 1).trans rfl; have hcz9_2 : w6.cell? ⟨gb284, 2, none⟩ = some (.slice none 0 0) := (blk_cell BK284.out 2).trans rfl; have hfz9_0 := blk_frozen BK284.out 0; have hfz9_1 := blk_frozen BK284.out 1; have hfz9_2 := blk_frozen BK284.out 2; obtain ⟨Ao10, co10, eo10⟩ := Kd.R_slice HO294.out; subst eo10))
 refine bodyPost_ret (results_cell_row rfl _ _ gb284 27 #[.slice Ao7 t288.length co7, .int .i64 t291, .slice Ao10 t292.length co10] (0, 0) _ rfl (by refine bq_ ?_; refine blk_put (cs := #[.slice Ao7 t288.length co7, .int .i64 t291, .slice none 0 0]) ?_ 2 _ rfl; refine bq_ ?_; refine blk_put (cs := #[.slice Ao7 t288.length co7, .int .i64 0, .slice none 0 0]) ?_ 1 _ rfl; refine bq_ ?_; refine blk_put (cs := #[.slice none 0 0, .int .i64 0, .slice none 0 0]) ?_ 0 _ rfl; exact tk_ BK284.out) Try.underlying27 rfl (by kernel_rfl)) rfl ?_
 exact ⟨_, _, by first | rfl | (simp [errW_none, errW_some] <;> rfl) | (simp [*, errW_none, errW_some] <;> rfl), by refine qR_ ?_; exact Kd.R_mono (Kd.R_far (p := ⟨gb284, 2, none⟩) (Kd.R_far (p := ⟨gb284, 1, none⟩) (Kd.R_far (p := ⟨gb284, 0, none⟩) (Kd.R_types HO290.out BK284.out (by decide)) (fun _ hk => hk.2) (.slice Ao7 t288.length co7)) (fun _ hk => hk.2) (.int .i64 t291)) (fun _ hk => hk.2) (.slice Ao10 t292.length co10)) (fun _ hk => hk.1), by refine qR_ ?_; exact Kd.R_mono (Kd.R_far (p := ⟨gb284, 2, none⟩) (Kd.R_far (p := ⟨gb284, 1, none⟩) (Kd.R_far (p := ⟨gb284, 0, none⟩) (Kd.R_types HO294.out BK284.out (by decide)) (fun _ hk => hk.2) (.slice Ao7 t288.length co7)) (fun _ hk => hk.2) (.int .i64 t291)) (fun _ hk => hk.2) (.slice Ao10 t292.length co10)) (fun _ hk => hk.1), by repeat (first | (with_reducible first | exact HB.out | apply la_ | apply ln_ | apply ld_ | refine below_set ?_ (IsS78.ge HI287.out) | refine below_set ?_ GE284.out) | exact HB.out)⟩

end Go.Proofs.Ytlnbobpmjbcejaa.MFnDeskNew
