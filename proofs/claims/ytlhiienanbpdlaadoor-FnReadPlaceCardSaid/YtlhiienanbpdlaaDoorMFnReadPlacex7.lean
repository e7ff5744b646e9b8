/- For the law FnReadPlace: walks of the functions that it reaches: each call returns what the plain function beside it tells. The conditions stand in each statement. -/
import Derived.Test.YtlhiienanbpdlaaDoorV
import Derived.Test.YtlhiienanbpdlaaDoorMFnReadPlacex0
import Derived.Test.YtlhiienanbpdlaaDoorMFnReadPlacex5
import Derived.Test.YtlhiienanbpdlaaDoorMFnReadPlacex6
namespace Go.Proofs.YtlhiienanbpdlaaDoor.MFnReadPlace
open Go.RowKit Go.Proofs.YtlhiienanbpdlaaDoorW.PrintWords Go.Proofs.YtlhiienanbpdlaaDoorW.PrintLast Go.Proofs.YtlhiienanbpdlaaDoorW.PrintMore
attribute [local go_sem] max2_int min2_int max_two min_two max_three min_three max_four min_four   -- for this text's walks alone
set_option linter.unusedVariables false
set_option linter.unusedSimpArgs false

/-! ### spec_ReadPlace: function 53 -/
mutual
def spec_ReadPlace.l0 : Nat → ByteArray → List ByteArray → List ByteArray → Int → List Int → Int → Option (List Int × Int × List Int × Bool)
 | 0, _, _, _, _, _, _ => none
 | k + 1, x0, x4, x6, x7, x219000, x219001 => if x7 < (x6.length : Int) then (if 0 ≤ x7 then ((spec_l1Digits.f k (rdOf ByteArray.empty x6 x7)).bind fun t224 => (if x219000.length < 17592186044416 then (spec_ReadPlace.l0 k x0 x4 x6 (wrap64 (x7 + 1)) (x219000 ++ [t224]) x219001) else (none))) else (none)) else (spec_ReadPlace.l1 k x0 x4 0 x219000 x219001 ([] : List Int))
def spec_ReadPlace.l1 : Nat → ByteArray → List ByteArray → Int → List Int → Int → List Int → Option (List Int × Int × List Int × Bool)
 | 0, _, _, _, _, _, _ => none
 | k + 1, x0, x4, x8, x219000, x219001, x219002 => if 2 < (x4.length : Int) then (if x8 < ((rdOf ByteArray.empty x4 2).size : Int) then (if (rdOf ByteArray.empty x4 2).toList = ([46] : List UInt8) then (if x0.toList = ([] : List UInt8) then (some (([] : List Int), 0, ([] : List Int), false)) else ((spec_PlaceText.f k x219000 x219001 x219002).bind fun t230 => (if t230.toList = x0.toList then (some (x219000, x219001, x219002, true)) else (some (([] : List Int), 0, ([] : List Int), false))))) else (if 0 ≤ x8 then (if x219002.length < 17592186044416 then (spec_ReadPlace.l1 k x0 x4 (wrap64 (x8 + 1)) x219000 x219001 (x219002 ++ [wrap64 ((wrap64 (bt (rdOf ByteArray.empty x4 2) x8)) - 97)])) else (none)) else (none))) else (if x0.toList = ([] : List UInt8) then (some (([] : List Int), 0, ([] : List Int), false)) else ((spec_PlaceText.f k x219000 x219001 x219002).bind fun t235 => (if t235.toList = x0.toList then (some (x219000, x219001, x219002, true)) else (some (([] : List Int), 0, ([] : List Int), false)))))) else (none)
end
def spec_ReadPlace.f (k : Nat) (a0 : ByteArray) : Option (List Int × Int × List Int × Bool) := (spec_l1Cut.f k a0 32).bind fun t213 => (if (t213.length : Int) = 3 then (if 1 < (t213.length : Int) then ((spec_l15Signed.f k (rdOf ByteArray.empty t213 1)).bind fun t217 => (if 0 < (t213.length : Int) then ((spec_l1Cut.f k (rdOf ByteArray.empty t213 0) 44).bind fun t220 => (spec_ReadPlace.l0 k a0 t213 t220 0 ([] : List Int) t217)) else (none))) else (none)) else (some (([] : List Int), 0, ([] : List Int), false)))
theorem spec_ReadPlace.mono_l : ∀ k, (∀ y0 y1 y2 y3 y4 y5, LeO (spec_ReadPlace.l0 k y0 y1 y2 y3 y4 y5) (spec_ReadPlace.l0 (k + 1) y0 y1 y2 y3 y4 y5)) ∧ (∀ y0 y1 y2 y3 y4 y5, LeO (spec_ReadPlace.l1 k y0 y1 y2 y3 y4 y5) (spec_ReadPlace.l1 (k + 1) y0 y1 y2 y3 y4 y5))
 | 0 => ⟨fun _ _ _ _ _ _ r h => by simp [spec_ReadPlace.l0] at h, fun _ _ _ _ _ _ r h => by simp [spec_ReadPlace.l1] at h⟩
 | k + 1 => by
  obtain ⟨ih0, ih1⟩ := spec_ReadPlace.mono_l k
  refine ⟨?_, ?_⟩
  ·
   intro y0 y1 y2 y3 y4 y5
   unfold spec_ReadPlace.l0
   repeat' first
   | (with_reducible exact ih0 _ _ _ _ _ _)
   | (with_reducible exact ih1 _ _ _ _ _ _)
   | (with_reducible exact spec_PlaceText.mono _ _ _ _)
   | (with_reducible exact spec_l15Signed.mono _ _)
   | (with_reducible exact spec_l1Cut.mono _ _ _)
   | (with_reducible exact spec_l1Digits.mono _ _)
   | (with_reducible exact LeO.refl _)
   | (with_reducible exact LeO.none _)
   | (with_reducible refine LeO.ite ?_ ?_)
   | (with_reducible refine LeO.bind ?_ (fun _ => ?_))
   | exact ih0 _ _ _ _ _ _
   | exact ih1 _ _ _ _ _ _
   | exact spec_PlaceText.mono _ _ _ _
   | exact spec_l15Signed.mono _ _
   | exact spec_l1Cut.mono _ _ _
   | exact spec_l1Digits.mono _ _
   | exact LeO.none _
   | refine LeO.ite ?_ ?_
   | refine LeO.bind ?_ (fun _ => ?_)
  ·
   intro y0 y1 y2 y3 y4 y5
   unfold spec_ReadPlace.l1
   repeat' first
   | (with_reducible exact ih0 _ _ _ _ _ _)
   | (with_reducible exact ih1 _ _ _ _ _ _)
   | (with_reducible exact spec_PlaceText.mono _ _ _ _)
   | (with_reducible exact spec_l15Signed.mono _ _)
   | (with_reducible exact spec_l1Cut.mono _ _ _)
   | (with_reducible exact spec_l1Digits.mono _ _)
   | (with_reducible exact LeO.refl _)
   | (with_reducible exact LeO.none _)
   | (with_reducible refine LeO.ite ?_ ?_)
   | (with_reducible refine LeO.bind ?_ (fun _ => ?_))
   | exact ih0 _ _ _ _ _ _
   | exact ih1 _ _ _ _ _ _
   | exact spec_PlaceText.mono _ _ _ _
   | exact spec_l15Signed.mono _ _
   | exact spec_l1Cut.mono _ _ _
   | exact spec_l1Digits.mono _ _
   | exact LeO.none _
   | refine LeO.ite ?_ ?_
   | refine LeO.bind ?_ (fun _ => ?_)
theorem spec_ReadPlace.mono : ∀ a0 k, LeO (spec_ReadPlace.f k a0) (spec_ReadPlace.f (k + 1) a0) := by
 intro a0 k
 obtain ⟨ih0, ih1⟩ := spec_ReadPlace.mono_l k
 unfold spec_ReadPlace.f
 repeat' first
   | (with_reducible exact ih0 _ _ _ _ _ _)
   | (with_reducible exact ih1 _ _ _ _ _ _)
   | (with_reducible exact spec_PlaceText.mono _ _ _ _)
   | (with_reducible exact spec_l15Signed.mono _ _)
   | (with_reducible exact spec_l1Cut.mono _ _ _)
   | (with_reducible exact spec_l1Digits.mono _ _)
   | (with_reducible exact LeO.refl _)
   | (with_reducible exact LeO.none _)
   | (with_reducible refine LeO.ite ?_ ?_)
   | (with_reducible refine LeO.bind ?_ (fun _ => ?_))
   | exact ih0 _ _ _ _ _ _
   | exact ih1 _ _ _ _ _ _
   | exact spec_PlaceText.mono _ _ _ _
   | exact spec_l15Signed.mono _ _
   | exact spec_l1Cut.mono _ _ _
   | exact spec_l1Digits.mono _ _
   | exact LeO.none _
   | refine LeO.ite ?_ ?_
   | refine LeO.bind ?_ (fun _ => ?_)
def spec_ReadPlace.T9 : Bool × List (List Nat × List Nat) := (true, [([], []), ([0], [0]), ([], []), ([], []), ([2, 3], [2, 3]), ([4], [4]), ([5], [5]), ([6], [6]), ([1, 7, 6], [1, 7]), ([0, 1, 2, 3, 4, 5, 6, 7, 8], []), ([9, 8, 8, 0, 1, 2, 3, 4, 5, 6, 7, 8], [8, 9])])
def spec_ReadPlace.B9 : List Nat := [0, 1, 0, 0, 12, 28, 60, 124, 255, 511, 1023]
theorem spec_ReadPlace.tab9 : rtab .any (opsOf Tryd.f53 9) = spec_ReadPlace.T9 := by kernel_rfl
theorem spec_ReadPlace.bits9 : waitsOk spec_ReadPlace.T9.2 spec_ReadPlace.B9 = true := by kernel_rfl
def spec_ReadPlace.T13 : Bool × List (List Nat × List Nat) := (true, [([], []), ([0], [0]), ([], []), ([2], [2]), ([3], [3]), ([], []), ([4, 5], [4, 5]), ([6], [6]), ([7], [7]), ([8], [8]), ([1, 9], [1, 9]), ([0, 1, 2, 3, 4, 5, 6, 7, 8, 9, 10], []), ([11, 10, 10, 0, 1, 2, 3, 4, 5, 6, 7, 8, 9, 10], [10, 11])])
def spec_ReadPlace.B13 : List Nat := [0, 1, 0, 4, 12, 0, 60, 124, 252, 508, 1023, 2047, 4095]
theorem spec_ReadPlace.tab13 : rtab .any (opsOf Tryd.f53 13) = spec_ReadPlace.T13 := by kernel_rfl
theorem spec_ReadPlace.bits13 : waitsOk spec_ReadPlace.T13.2 spec_ReadPlace.B13 = true := by kernel_rfl
set_option maxHeartbeats 8000000 in
set_option maxRecDepth 100000 in
theorem spec_ReadPlace.calls (k : Nat) (a0 : ByteArray) (r1 : List Int) (r2 : Int) (r3 : List Int) (r4 : Bool) (w : World) (h : spec_ReadPlace.f k a0 = some (r1, r2, r3, r4)) :
  Calls Tryd.prog 53 #[.string a0] w fun e w' => ∃ v0_ v2_ : Value, e = .returned (.tuple #[.agg #[v0_, .int .i64 r2, v2_], .bool r4]) ∧ Kd.R (Kd.int .i64) 3 w' w.heap.size (fun k_ => some k_ ≠ (v2_ : Value).ownBlock) v0_ r1 ∧ Kd.R (Kd.int .i64) 3 w' w.heap.size (fun k_ => some k_ ≠ (v0_ : Value).ownBlock) v2_ r3 ∧ Below w.heap.size w w' := by
 have hu25 := Tryd.underlying25
 have HB := Aside0.mk (Below.refl w.heap.size w)
 have H : ((spec_l1Cut.f k a0 32).bind fun t213 => (if (t213.length : Int) = 3 then (if 1 < (t213.length : Int) then ((spec_l15Signed.f k (rdOf ByteArray.empty t213 1)).bind fun t217 => (if 0 < (t213.length : Int) then ((spec_l1Cut.f k (rdOf ByteArray.empty t213 0) 44).bind fun t220 => (spec_ReadPlace.l0 k a0 t213 t220 0 ([] : List Int) t217)) else (none))) else (none)) else (some (([] : List Int), 0, ([] : List Int), false)))) = some (r1, r2, r3, r4) := h
 clear h
 replace H := Option.bind_eq_some_iff.mp H
 obtain ⟨t213, A20, H⟩ := H
 replace H : (if (t213.length : Int) = 3 then (if 1 < (t213.length : Int) then ((spec_l15Signed.f k (rdOf ByteArray.empty t213 1)).bind fun t217 => (if 0 < (t213.length : Int) then ((spec_l1Cut.f k (rdOf ByteArray.empty t213 0) 44).bind fun t220 => (spec_ReadPlace.l0 k a0 t213 t220 0 ([] : List Int) t217)) else (none))) else (none)) else (some (([] : List Int), 0, ([] : List Int), false))) = some (r1, r2, r3, r4) := H
 have A2 := Aside0.mk A20
 clear A20
 by_cases c3 : (t213.length : Int) = 3
 ·
  rw [if_pos c3] at H
  have c3b0 : ((t213.length : Int) == 3) = true := beq_iff_eq.mpr c3
  have c3b1 : ((t213.length : Int) != 3) = false := bne_eq_false_iff_eq.mpr c3
  clear c3
  by_cases c4 : 1 < (t213.length : Int)
  ·
   rw [if_pos c4] at H
   have c4b0 : decide (1 < (t213.length : Int)) = true := decide_eq_true c4
   have c4b1 : decide (1 < t213.length) = true := decide_eq_true (by omega)
   clear c4
   replace H := Option.bind_eq_some_iff.mp H
   obtain ⟨t217, A50, H⟩ := H
   replace H : (if 0 < (t213.length : Int) then ((spec_l1Cut.f k (rdOf ByteArray.empty t213 0) 44).bind fun t220 => (spec_ReadPlace.l0 k a0 t213 t220 0 ([] : List Int) t217)) else (none)) = some (r1, r2, r3, r4) := H
   have A5 := Aside0.mk A50
   clear A50
   by_cases c6 : 0 < (t213.length : Int)
   ·
    rw [if_pos c6] at H
    have c6b0 : decide (0 < (t213.length : Int)) = true := decide_eq_true c6
    have c6b1 : decide (0 < t213.length) = true := decide_eq_true (by omega)
    clear c6
    replace H := Option.bind_eq_some_iff.mp H
    obtain ⟨t220, A70, H⟩ := H
    replace H : (spec_ReadPlace.l0 k a0 t213 t220 0 ([] : List Int) t217) = some (r1, r2, r3, r4) := H
    have A7 := Aside0.mk A70
    clear A70
    have H' := Aside0.mk H
    clear H
    go_enter Tryd.func53, Tryd.ntmps53
    go_wp2_with (first | ((with_reducible refine gate_dst (N := 2) rfl ?_); refine box_event ?hg (N := 2) ?hd (cs := #[.slice none 0 0, .int .i64 0, .slice none 0 0]) (t := 25) ?hr ?_; (case hd => rfl); (case hg => rfl); (case hr => first | (go_simp; done) | (go_simp; rfl)); intro gb212 hg w8 hbox hb; have n0_ := Aside0.mk (below_step (tb_ HB.out) hb); have n1_ := Aside0.mk (hbox); have n2_ := Aside0.mk ((by rw [hg]; exact (below_size (tb_ HB.out)) : w.heap.size ≤ gb212)); have n3_ := Aside0.mk ((by rw [hg]; exact (below_size (tb_ HB.out)) : w.heap.size ≤ gb212)); clear HB; have HB := n0_; have BK212 := n1_; have GW212 := n2_; have GE212 := n3_; clear n0_ n1_ n2_ n3_ hb hbox hg) | ((with_reducible refine gate_callee (f := 91) rfl ?_); refine goesL_ (some 10) rfl rfl Tryd.func91 (by kernel_rfl) rfl #[.string a0, .int .u8 32] rfl tz_ ?_; (with_reducible refine (spec_l1Cut.calls k a0 32 t213 _ A2.out).mono ?_); rintro e w9 ⟨v214, rfl, ho0, hb⟩; refine ⟨_, rfl, ?_⟩; have n0_ := Aside0.mk (Kd.R_lower ho0 (below_size (tb_ HB.out))); have n1_ := Aside0.mk (blk_below (g := gb212) (o := .cells #[.slice none 0 0, .int .i64 0, .slice none 0 0] 25 (0, 0)) (tk_ BK212.out) hb); have n2_ := Aside0.mk (below_step (tb_ HB.out) hb); clear BK212 HB; have HO215 := n0_; have BK212 := n1_; have HB := n2_; clear n0_ n1_ n2_; (try clear hb); (try clear hb2); (try clear hk); (try clear hi); (try clear ho0); obtain ⟨Ao10, co10, eo10⟩ := Kd.R_slice HO215.out; subst eo10; have p216 : 0 ≤ (1 : Int) := (by omega); have q216 : 1 < (t213.length : Int) := od_; obtain ⟨ad216, e216, hx216_0⟩ := Kd.at_string (Kd.R_reads' HO215.out).2.2 1 p216 q216; cases e216; (try simp only [show (1 : Int).toNat = 1 from rfl, Nat.reduceMul, Nat.reduceEqDiff, Go.Addr.add, ↓reduceIte] at hx216_0); have qi216 : (1 < t213.length) = True := eq_true (by omega); (try rw [show ((1 : Int)).toNat = 1 from rfl] at hx216_0); replace p216 := eq_true p216; replace q216 := eq_true q216) | ((with_reducible refine gate_callee (f := 92) rfl ?_); refine goesL_ (some 18) rfl rfl Tryd.func92 (by kernel_rfl) rfl #[.string (rdOf ByteArray.empty t213 1)] rfl tz_ ?_; (with_reducible refine (spec_l15Signed.calls k (rdOf ByteArray.empty t213 1) t217 _ A5.out).mono ?_); rintro e w' ⟨rfl, ⟨nd, rfl⟩⟩; refine ⟨_, rfl, ?_⟩; (try (rw [drewN_self w9]; generalize hq_ : World.drewN w9 _ = w9; have n0_ : Aside0 (Kd.R Kd.string 9 w9 w.heap.size (fun _ => True) (.slice (some ad216) t213.length co10) t213) := ⟨by rw [← hq_]; exact (rR_ HO215.out)⟩; have n1_ : Aside0 (w9.heap[gb212]? = some (.cells #[.slice none 0 0, .int .i64 0, .slice none 0 0] 25 (0, 0))) := ⟨by rw [← hq_]; exact (tk_ BK212.out)⟩; have n2_ : Aside0 (Below w.heap.size w w9) := ⟨by rw [← hq_]; exact (tb_ HB.out)⟩; clear HO215 BK212 HB hq_; have HO215 := n0_; have BK212 := n1_; have HB := n2_; clear n0_ n1_ n2_))) | ((with_reducible refine gate_dst (N := 5) rfl ?_); refine box_event ?hg (N := 5) ?hd (cs := #[.slice none 0 0, .int .i64 0, .slice none 0 0]) (t := 25) ?hr ?_; (case hd => rfl); (case hg => rfl); (case hr => first | (go_simp; done) | (go_simp; rfl)); intro gb218 hg w11 hbox hb; have n0_ := Aside0.mk (Kd.R_below (rR_ HO215.out) hb); have n1_ := Aside0.mk (blk_below (g := gb212) (o := .cells #[.slice none 0 0, .int .i64 0, .slice none 0 0] 25 (0, 0)) (tk_ BK212.out) hb); have n2_ := Aside0.mk (below_step (tb_ HB.out) hb); have n3_ := Aside0.mk (hbox); have n4_ := Aside0.mk ((by rw [hg]; exact (below_size (tb_ HB.out)) : w.heap.size ≤ gb218)); have n5_ := Aside0.mk ((by rw [hg]; exact (below_size (tb_ HB.out)) : w.heap.size ≤ gb218)); have n6_ := Aside0.mk ((by rw [hg]; exact Nat.ne_of_lt (blk_lt (g := gb212) (o := .cells #[.slice none 0 0, .int .i64 0, .slice none 0 0] 25 (0, 0)) (tk_ BK212.out)) : gb212 ≠ gb218)); have n7_ := Aside0.mk ((by rw [hg]; exact Nat.ne_of_gt (blk_lt (g := gb212) (o := .cells #[.slice none 0 0, .int .i64 0, .slice none 0 0] 25 (0, 0)) (tk_ BK212.out)) : gb218 ≠ gb212)); clear HO215 BK212 HB; have HO215 := n0_; have BK212 := n1_; have HB := n2_; have BK218 := n3_; have GW218 := n4_; have GE218 := n5_; have NB212_218 := n6_; have NB218_212 := n7_; clear n0_ n1_ n2_ n3_ n4_ n5_ n6_ n7_ hb hbox hg; have hnb12 := NB218_212.out; have hnc12 := NB212_218.out; have hcz13_0 : w11.cell? ⟨gb218, 0, none⟩ = some (.slice none 0 0) := (blk_cell BK218.out 0).trans rfl; have hcz13_1 : w11.cell? ⟨gb218, 1, none⟩ = some (.int .i64 0) := (blk_cell BK218.out 1).trans rfl; have hcz13_2 : w11.cell? ⟨gb218, 2, none⟩ = some (.slice none 0 0) := (blk_cell BK218.out 2).trans rfl; have hfz13_0 := blk_frozen BK218.out 0; have hfz13_1 := blk_frozen BK218.out 1; have hfz13_2 := blk_frozen BK218.out 2; have p219 : 0 ≤ (0 : Int) := (by omega); have q219 : 0 < (t213.length : Int) := od_; obtain ⟨ad219, e219, hx219_0⟩ := Kd.at_string (Kd.R_reads' HO215.out).2.2 0 p219 q219; obtain rfl : ad216 = ad219 := (by injection e219); have qi219 : (0 < t213.length) = True := eq_true (by omega); (try rw [show ((0 : Int)).toNat = 0 from rfl] at hx219_0); (try rw [Addr.add_zero'] at hx219_0); have hn219_0 : ad216.block ≠ gb218 := Kd.own_blk (Kd.R_ne HO215.out BK218.out (by decide)); have hn219_1 : ad216.block ≠ gb218 := Kd.own_blk (Kd.R_ne HO215.out BK218.out (by decide)); have hn219_2 : ad216.block ≠ gb218 := Kd.own_blk (Kd.R_ne HO215.out BK218.out (by decide)); replace hx219_0 := (cell_far (p := ⟨gb218, 0, none⟩) (by first | (rw [add_block]; exact hn219_0) | (show (Addr.add _ _).block ≠ _; rw [add_block]; exact hn219_0) | exact hn219_0) (.slice none 0 0)).trans hx219_0; replace hx219_0 := (cell_far (p := ⟨gb218, 1, none⟩) (by first | (rw [add_block]; exact hn219_1) | (show (Addr.add _ _).block ≠ _; rw [add_block]; exact hn219_1) | exact hn219_1) (.int .i64 t217)).trans hx219_0; replace hx219_0 := (cell_far (p := ⟨gb218, 2, none⟩) (by first | (rw [add_block]; exact hn219_2) | (show (Addr.add _ _).block ≠ _; rw [add_block]; exact hn219_2) | exact hn219_2) (.slice none 0 0)).trans hx219_0; clear hn219_0 hn219_1 hn219_2; replace p219 := eq_true p219; replace q219 := eq_true q219) | ((with_reducible refine gate_callee (f := 91) rfl ?_); refine goesL_ (some 23) rfl rfl Tryd.func91 (by kernel_rfl) rfl #[.string (rdOf ByteArray.empty t213 0), .int .u8 44] rfl tz_ ?_; (with_reducible refine (spec_l1Cut.calls k (rdOf ByteArray.empty t213 0) 44 t220 _ A7.out).mono ?_); rintro e w14 ⟨v221, rfl, ho0, hb⟩; refine ⟨_, rfl, ?_⟩; have n0_ := Aside0.mk (Kd.R_elder' (by refine qR_ ?_; exact (Kd.R_mono (Kd.R_far (p := ⟨gb218, 2, none⟩) (Kd.R_far (p := ⟨gb218, 1, none⟩) (Kd.R_far (p := ⟨gb218, 0, none⟩) (Kd.R_types HO215.out BK218.out (by decide)) (fun _ hk => hk.2) (.slice none 0 0)) (fun _ hk => hk.2) (.int .i64 t217)) (fun _ hk => hk.2) (.slice none 0 0)) (fun _ h_ => h_.1))) (Kd.R_base ho0) hb); have n1_ := Aside0.mk (Kd.R_lower (Kd.R_new' ho0 (Kd.R_lt (by refine qR_ ?_; exact (Kd.R_mono (Kd.R_far (p := ⟨gb218, 2, none⟩) (Kd.R_far (p := ⟨gb218, 1, none⟩) (Kd.R_far (p := ⟨gb218, 0, none⟩) (Kd.R_types HO215.out BK218.out (by decide)) (fun _ hk => hk.2) (.slice none 0 0)) (fun _ hk => hk.2) (.int .i64 t217)) (fun _ hk => hk.2) (.slice none 0 0)) (fun _ h_ => h_.1))))) (below_size (tb_ HB.out))); have n2_ := Aside0.mk (blk_below (g := gb212) (o := .cells #[.slice none 0 0, .int .i64 0, .slice none 0 0] 25 (0, 0)) (tk_ BK212.out) hb); have n3_ := Aside0.mk (blk_below (g := gb218) (o := .cells #[.slice none 0 0, .int .i64 t217, .slice none 0 0] 25 (0, 0)) (by refine bq_ ?_; refine blk_put (cs := #[.slice none 0 0, .int .i64 t217, .slice none 0 0]) ?_ 2 _ rfl; refine bq_ ?_; refine blk_put (cs := #[.slice none 0 0, .int .i64 0, .slice none 0 0]) ?_ 1 _ rfl; refine bq_ ?_; refine blk_put (cs := #[.slice none 0 0, .int .i64 0, .slice none 0 0]) ?_ 0 _ rfl; exact tk_ BK218.out) hb); have n4_ := Aside0.mk (below_step (tb_ HB.out) hb); clear HO215 BK212 BK218 HB; have HO215 := n0_; have HO222 := n1_; have BK212 := n2_; have BK218 := n3_; have HB := n4_; clear n0_ n1_ n2_ n3_ n4_; (try clear hb); (try clear hb2); (try clear hk); (try clear hi); (try clear ho0)))
    go_loopg [7] k (fun kq v7 w' => ∃ (x7_1 : Int) (x219000_1 : List Int) (u219000 : Value), v7 = .int .i64 x7_1 ∧ Aside0 (spec_ReadPlace.l0 kq a0 t213 t220 x7_1 x219000_1 t217 = some (r1, r2, r3, r4)) ∧ Aside0 (kq ≤ k) ∧ Aside0 (Kd.R Kd.string 9 w' w.heap.size (fun k_ => some k_ ≠ (v221 : Value).ownBlock) (.slice (some ad216) t213.length co10) t213) ∧ Aside0 (Kd.R Kd.string 9 w' w.heap.size (fun k_ => some k_ ≠ ((.slice (some ad216) t213.length co10) : Value).ownBlock) v221 t220) ∧ Aside0 (Kd.R (Kd.int .i64) 3 w' w.heap.size (fun _ => True) u219000 x219000_1) ∧ Aside0 (w'.heap[gb212]? = some (.cells #[(.slice none 0 0), .int .i64 0, (.slice none 0 0)] 25 (0, 0))) ∧ Aside0 (w'.heap[gb218]? = some (.cells #[u219000, .int .i64 t217, (.slice none 0 0)] 25 (0, 0))) ∧ Aside0 (Below w.heap.size w w'))
    case atStart => exact ⟨(0), (([] : List Int)), (.slice none 0 0), tx_, H', ⟨Nat.le_refl _⟩, ⟨by refine qR_ ?_; exact Kd.R_mono HO215.out (fun _ hk => hk.2)⟩, ⟨by refine qR_ ?_; exact Kd.R_mono HO222.out (fun _ hk => hk.2)⟩, ⟨by first | exact Kd.R_nil _ _ _ _ _ | exact Kd.N_nil _ _ _ _ _ | exact Kd.V_nil _ _ _ _ _ | exact Kd.Q_nil _ _ _ _ _ | exact Kd.S_nil _ _ _ _ _⟩, ⟨tk_ BK212.out⟩, ⟨tk_ BK218.out⟩, ⟨(tb_ HB.out)⟩⟩
    case round =>
     clear H'
     try clear c1
     try clear p2
     try clear q2
     try clear hx2
     try clear qi2
     try clear c3
     try clear c3b0
     try clear c3b1
     try clear c4
     try clear c4b0
     try clear c4b1
     try clear c5
     try clear c6
     try clear c6b0
     try clear c6b1
     try clear c9
     try clear c12
     try clear hcz13_0
     try clear hcz13_1
     try clear hcz13_2
     try clear hfz13_0
     try clear hfz13_1
     try clear hfz13_2
     try clear hx216_0
     try clear hx219_0
     try clear p216
     try clear p219
     try clear q216
     try clear q219
     obtain ⟨x7_1, x219000_1, u219000, rfl, HA, HK1, HO_4, HO_6, HO_219000, BK212, BK218, HB⟩ := hrel
     cases gk with
     | zero => exact absurd HA.out (by simp [spec_ReadPlace.l0])
     | succ k1 =>
      have H := HA.out
      clear HA
      simp only [spec_ReadPlace.l0] at H
      by_cases c15 : x7_1 < (t220.length : Int)
      ·
       rw [if_pos c15] at H
       have c15b0 : decide (x7_1 < (t220.length : Int)) = true := decide_eq_true c15
       clear c15
       by_cases c16 : 0 ≤ x7_1
       ·
        rw [if_pos c16] at H
        have c16b0 : decide (0 ≤ x7_1) = true := decide_eq_true c16
        clear c16
        replace H := Option.bind_eq_some_iff.mp H
        obtain ⟨t224, A170, H⟩ := H
        replace H : (if x219000_1.length < 17592186044416 then (spec_ReadPlace.l0 k1 a0 t213 t220 (wrap64 (x7_1 + 1)) (x219000_1 ++ [t224]) t217) else (none)) = some (r1, r2, r3, r4) := H
        have A17 := Aside0.mk A170
        clear A170
        by_cases c18 : x219000_1.length < 17592186044416
        ·
         rw [if_pos c18] at H
         have LMc18 := Aside0.mk c18
         clear c18
         obtain ⟨y225, hy225⟩ : ∃ y_ : List Int, y_ = (x219000_1 ++ [t224]) := ⟨_, rfl⟩
         replace H : (spec_ReadPlace.l0 k1 a0 t213 t220 (wrap64 (x7_1 + 1)) y225 t217) = some (r1, r2, r3, r4) := by first | (rw [hy225]; with_reducible exact H) | (have H2_ := (Option.bind_some _ _).symm.trans H; rw [hy225]; with_reducible exact H2_) | (have H2_ := (Option.bind_some _ _).symm.trans H; with_reducible exact H2_) | with_reducible exact H | (rw [hy225]; exact H) | exact H
         have Ny225 := Aside0.mk hy225
         clear hy225
         have H' := Aside0.mk H
         clear H
         obtain ⟨Ao19, co19, eo19⟩ := Kd.R_slice HO_6.out
         subst eo19
         try go_wp2
         have n0_ := Aside0.mk (Kd.R_drew HO_4.out)
         have n1_ := Aside0.mk (Kd.R_drew HO_6.out)
         have n2_ := Aside0.mk (Kd.R_drew HO_219000.out)
         have n3_ := Aside0.mk (blk_drew BK212.out)
         have n4_ := Aside0.mk (blk_drew BK218.out)
         have n5_ := Aside0.mk (ld_ HB.out)
         clear HO_4
         clear HO_6
         clear HO_219000
         clear BK212
         clear BK218
         clear HB
         have HO_4 := n0_
         have HO_6 := n1_
         have HO_219000 := n2_
         have BK212 := n3_
         have BK218 := n4_
         have HB := n5_
         clear n0_ n1_ n2_ n3_ n4_ n5_
         have p223 : 0 ≤ (x7_1 : Int) := od_
         have q223 : x7_1 < (t220.length : Int) := od_
         obtain ⟨ad223, e223, hx223_0⟩ := Kd.at_string (Kd.R_reads' HO_6.out).2.2 x7_1 p223 q223
         cases e223
         replace p223 := eq_true p223
         replace q223 := eq_true q223
         refine start_ (n := 11) (S := fun w' => w'.cell? ⟨gb218, 0, none⟩ = some (u219000) ∧ w'.cell? ⟨gb218, 1, none⟩ = some (.int .i64 t217) ∧ w'.cell? ⟨gb218, 2, none⟩ = some (.slice none 0 0) ∧ w'.cell? (ad223.add (x7_1).toNat) = some (.string (rdOf ByteArray.empty t220 x7_1))) (ds := [8, 10]) #[false, false, false, false, false, false, false, false, false, false, false] (by kernel_rfl) rfl rfl ⟨(blk_cell BK218.out 0).trans rfl, (blk_cell BK218.out 1).trans rfl, (blk_cell BK218.out 2).trans rfl, hx223_0⟩ (fun hHeld => ?_); refine with_tabW spec_ReadPlace.tab9 spec_ReadPlace.bits9 (fun HT_ HW_ => ?_)
         generalize wr.drew = w20 at HO_4 HO_6 HO_219000 BK212 BK218 HB hx223_0 hHeld ⊢
         refine pure_ (i := 0) (N := some 30) (v := ?_) (a' := ?_) #[true, false, false, false, false, false, false, false, false, false, false] rfl rfl (any_of HT_.out (by kernel_rfl)) (fun _ _ _ h => h) (Or.inl ⟨by rfl, ?_⟩) ?_ ?_
         rotate_left
         ·
          intro w'
          go_simp
          first | with_reducible rfl | (rw [if_neg (by omega)]; done)
         rotate_left
         ·
          simp only [Act.put, sa_, sb_, sc_, i64_w, i32_w]
          rfl
         refine pure_ (i := 2) (N := some 32) (v := ?_) (a' := ?_) #[true, false, true, false, false, false, false, false, false, false, false] rfl rfl (any_of HT_.out (by kernel_rfl)) (fun _ _ _ h => h) (Or.inl ⟨by rfl, ?_⟩) ?_ ?_
         rotate_left
         ·
          intro w'
          go_simp
          first | with_reducible rfl | (rw [if_neg (by omega)]; done)
         rotate_left
         ·
          simp only [Act.put, sa_, sb_, sc_, i64_w, i32_w]
          rfl
         refine pure_ (i := 3) (N := some 33) (v := ?_) (a' := ?_) #[true, false, true, true, false, false, false, false, false, false, false] rfl rfl (any_of HT_.out (by kernel_rfl)) (fun _ _ _ h => h) (Or.inl ⟨by rfl, ?_⟩) ?_ ?_
         rotate_left
         ·
          intro w'
          go_simp
          first | with_reducible rfl | (rw [if_neg (by omega)]; done)
         rotate_left
         ·
          simp only [Act.put, sa_, sb_, sc_, i64_w, i32_w]
          rfl
         refine pure_ (i := 4) (N := some 34) (v := ?_) (a' := ?_) #[true, false, true, true, true, false, false, false, false, false, false] rfl rfl (any_of HT_.out (by kernel_rfl)) (fun _ _ _ h => h) (Or.inl ⟨by rfl, ?_⟩) ?_ ?_
         rotate_left
         ·
          intro w'
          go_simp
          first | with_reducible rfl | (rw [if_neg (by omega)]; done)
         rotate_left
         ·
          simp only [Act.put, sa_, sb_, sc_, i64_w, i32_w]
          rfl
         refine take_ (i := 1) (N := some 31) (v := ?_) (a' := ?_) #[true, true, true, true, true, false, false, false, false, false, false] rfl rfl (take_ofW HT_.out HW_.out (by kernel_rfl)) (fun _ _ _ h => h) (Or.inl ⟨by rfl, ?_⟩) hHeld ?_ ?_
         rotate_left
         ·
          rintro w' ⟨s0, s1, s2, s3⟩
          go_simp
          first | with_reducible rfl | (rw [if_neg (by omega)]; done)
         rotate_left
         ·
          simp only [Act.put, sa_, sb_, sc_, i64_w, i32_w]
          rfl
         refine take_ (i := 5) (N := some 35) (v := ?_) (a' := ?_) #[true, true, true, true, true, true, false, false, false, false, false] rfl rfl (take_ofW HT_.out HW_.out (by kernel_rfl)) (fun _ _ _ h => h) (Or.inl ⟨by rfl, ?_⟩) hHeld ?_ ?_
         rotate_left
         ·
          rintro w' ⟨s0, s1, s2, s3⟩
          go_simp
          first | with_reducible rfl | (rw [if_neg (by omega)]; done)
         rotate_left
         ·
          simp only [Act.put, sa_, sb_, sc_, i64_w, i32_w]
          rfl
         refine one_ (i := 6) (N := some 36) #[true, true, true, true, true, true, true, false, false, false, false] rfl rfl (one_of HT_.out (by kernel_rfl)) (by decide) (fun K hK => ?_)
         refine goes_ Tryd.func104 (by kernel_rfl) rfl #[.string (rdOf ByteArray.empty t220 x7_1)] (by rfl) rfl rfl tz_ ?_
         with_reducible refine (spec_l1Digits.calls k1 (rdOf ByteArray.empty t220 x7_1) t224 _ A17.out).mono ?_
         rintro e w' ⟨rfl, ⟨nd, rfl⟩⟩
         refine ⟨_, rfl, ?_⟩
         refine hK.out _ _ ⟨(blk_cell BK218.out 0).trans rfl, (blk_cell BK218.out 1).trans rfl, (blk_cell BK218.out 2).trans rfl, hHeld.2.2.2⟩ (fun hHeld => ?_)
         clear hK K
         refine norm_ (a' := ?_) ?_ ?_
         rotate_left
         ·
          show Act.put _ (some 36) _ = _
          simp only [Act.put, sa_, sb_, sc_, i64_w, i32_w]
          rfl
         refine one_ (i := 7) (N := some 37) #[true, true, true, true, true, true, true, true, false, false, false] rfl rfl (one_of HT_.out (by kernel_rfl)) (by decide) (fun K hK => ?_)
         refine value_ (w1 := ?_) (v := ?_) (by rfl) rfl ?_ ?_
         rotate_left 2
         ·
          go_simp
          constructor
          ·
           rfl
          ·
           rfl
         refine hK.out _ _ ⟨(blk_cell (blk_alloc BK218.out _) 0).trans rfl, (blk_cell (blk_alloc BK218.out _) 1).trans rfl, (blk_cell (blk_alloc BK218.out _) 2).trans rfl, (World.cell?_alloc_lt _ _ _ (World.block_lt_of_cell? _ _ (hHeld.2.2.2))).trans (hHeld.2.2.2)⟩ (fun hHeld => ?_)
         clear hK K
         refine norm_ (a' := ?_) ?_ ?_
         rotate_left
         ·
          show Act.put _ (some 37) _ = _
          simp only [Act.put, sa_, sb_, sc_, i64_w, i32_w]
          rfl
         refine last_ (i := 8) (N := some 38) #[true, true, true, true, true, true, true, true, true, false, false] rfl rfl (one_of HT_.out (by kernel_rfl)) (by decide) (fun K hK => ?_)
         refine Kd.R_append_step (Kd.int .i64) (w0 := w) w.heap.size (by rfl) (.tmp 31) (.tmp 37) 23 3 (.int .i64 0) 8 rfl Tryd.underlying23 info3 rfl (by decide) (by omega) u219000 x219000_1 t224 [.int .i64 t224] (fun _ => True) (fun _ => False) rfl rfl ?aP (fun _ hk => hk.elim) ?aF ?aO ?aB ?aS ?aL ?_
         (case aP => exact rfl)
         (case aB => exact (tb_ HB.out))
         (case aF => exact (fun _ _ => trivial))
         (case aO => exact (rR_ HO_219000.out))
         (case aS => exact (below_size (tb_ HB.out)))
         (case aL => have := LMc18.out; omega)
         intro v226 w21 ho hb hg hat
         rw [← Ny225.out] at ho
         have n0_ := Aside0.mk (Kd.R_over' (rR_ HO_4.out) (Kd.R_typed (rR_ HO_219000.out)) (by decide) hg)
         have n1_ := Aside0.mk (Kd.R_over' (rR_ HO_6.out) (Kd.R_typed (rR_ HO_219000.out)) (by decide) hg)
         have n2_ := Aside0.mk (blk_grown (g := gb212) (o := .cells #[.slice none 0 0, .int .i64 0, .slice none 0 0] 25 (0, 0)) (tk_ BK212.out) hg (Kd.R_ne HO_219000.out BK212.out (by decide)))
         have n3_ := Aside0.mk (blk_grown (g := gb218) (o := .cells #[u219000, .int .i64 t217, .slice none 0 0] 25 (0, 0)) (tk_ BK218.out) hg (Kd.R_ne HO_219000.out BK218.out (by decide)))
         have n4_ := Aside0.mk (hb)
         have n5_ := Aside0.mk (ho)
         clear HO_4
         clear HO_6
         clear BK212
         clear BK218
         clear HB
         clear HO_219000
         have HO_4 := n0_
         have HO_6 := n1_
         have BK212 := n2_
         have BK218 := n3_
         have HB := n4_
         have HO227 := n5_
         clear n0_ n1_ n2_ n3_ n4_ n5_
         clear ho hb hg hat
         obtain ⟨Ao22, co22, eo22⟩ := Kd.R_slice HO227.out
         (first | subst eo22 | (injection eo22 with f1_ f2_ f3_; have f4_ := f1_.symm; have f5_ := f3_.symm; clear f1_ f2_ f3_; subst f4_; subst f5_))
         refine hK.out _ _ ?_
         clear hK K
         refine norm_ (a' := ?_) ?_ ?_
         rotate_left
         ·
          show Act.put _ (some 38) _ = _
          simp only [Act.put, sa_, sb_, sc_, i64_w, i32_w]
          rfl
         refine pure_ (i := 9) (N := some 39) (v := ?_) (a' := ?_) #[true, true, true, true, true, true, true, true, true, true, false] rfl rfl (any_of HT_.out (by kernel_rfl)) (fun _ _ _ h => h) (Or.inl ⟨by rfl, ?_⟩) ?_ ?_
         rotate_left
         ·
          intro w'
          go_simp
          first | with_reducible rfl | (rw [if_neg (by omega)]; done)
         rotate_left
         ·
          simp only [Act.put, sa_, sb_, sc_, i64_w, i32_w]
          rfl
         refine last_ (i := 10) (N := none) #[true, true, true, true, true, true, true, true, true, true, true] rfl rfl (one_of HT_.out (by kernel_rfl)) (by decide) (fun K hK => ?_)
         have hs23 : w21.cell? ⟨gb218, 0, none⟩ = some (u219000) := (blk_cell BK218.out 0).trans rfl
         have hfs23 := blk_frozen BK218.out 0
         have hns23_0 := NB212_218.out
         have hms23_0 := NB218_212.out
         refine skip_ (w1 := ?_) (by rfl) rfl ?_ ?_
         rotate_left
         ·
          go_simp
          rfl
         refine hK.out _ _ ?_
         clear hK K
         refine done_ (done_of HT_.out (by kernel_rfl)) ?_
         try go_wp2
         go_roundg k1
         case measure => have := HK1.out; omega
         case rel => exact ⟨(wrap64 (x7_1 + 1)), (y225), (.slice Ao22 y225.length co22), tx_, H', ⟨by have := HK1.out; omega⟩, ⟨by refine qR_ ?_; exact Kd.R_mono (Kd.R_far (p := ⟨gb218, 0, none⟩) (Kd.R_types HO_4.out BK218.out (by decide)) (fun _ hk => hk.2) (.slice Ao22 y225.length co22)) (fun _ hk => hk.1)⟩, ⟨by refine qR_ ?_; exact Kd.R_mono (Kd.R_far (p := ⟨gb218, 0, none⟩) (Kd.R_types HO_6.out BK218.out (by decide)) (fun _ hk => hk.2) (.slice Ao22 y225.length co22)) (fun _ hk => hk.1)⟩, ⟨by refine qR_ ?_; exact Kd.R_mono (Kd.R_far (p := ⟨gb218, 0, none⟩) (Kd.R_types HO227.out BK218.out (by decide)) (fun _ hk => hk.2) (.slice Ao22 y225.length co22)) (fun _ hk => trivial)⟩, ⟨tk_ BK212.out⟩, ⟨by refine bq_ ?_; refine blk_put (cs := #[u219000, .int .i64 t217, .slice none 0 0]) ?_ 0 _ rfl; exact tk_ BK218.out⟩, ⟨(tb_ HB.out)⟩⟩
        ·
         rw [if_neg c18] at H
         exact absurd H (by simp)
       ·
        rw [if_neg c16] at H
        exact absurd H (by simp)
      ·
       rw [if_neg c15] at H
       have c15b0 : decide (x7_1 < (t220.length : Int)) = false := decide_eq_false c15
       clear c15
       have H' := Aside0.mk H
       clear H
       obtain ⟨Ao24, co24, eo24⟩ := Kd.R_slice HO_6.out
       subst eo24
       go_wp2
       go_loopg [8] k1 (fun kq v8 w' => ∃ (x8_2 : Int) (x219002_2 : List Int) (u219002 : Value), v8 = .int .i64 x8_2 ∧ Aside0 (spec_ReadPlace.l1 kq a0 t213 x8_2 x219000_1 t217 x219002_2 = some (r1, r2, r3, r4)) ∧ Aside0 (kq ≤ k1) ∧ Aside0 (Kd.R Kd.string 9 w' w.heap.size (fun _ => True) (.slice (some ad216) t213.length co10) t213) ∧ Aside0 (Kd.R (Kd.int .i64) 3 w' w.heap.size (fun k_ => some k_ ≠ (u219002 : Value).ownBlock) u219000 x219000_1) ∧ Aside0 (Kd.R (Kd.int .i64) 3 w' w.heap.size (fun k_ => some k_ ≠ (u219000 : Value).ownBlock) u219002 x219002_2) ∧ Aside0 (w'.heap[gb212]? = some (.cells #[(.slice none 0 0), .int .i64 0, (.slice none 0 0)] 25 (0, 0))) ∧ Aside0 (w'.heap[gb218]? = some (.cells #[u219000, .int .i64 t217, u219002] 25 (0, 0))) ∧ Aside0 (Below w.heap.size w w'))
       case atStart => exact ⟨(0), (([] : List Int)), (.slice none 0 0), tx_, H', ⟨Nat.le_refl _⟩, ⟨by refine qR_ ?_; exact Kd.R_mono HO_4.out (fun _ hk => trivial)⟩, ⟨by refine qR_ ?_; exact Kd.R_mono HO_219000.out (fun _ hk => (by simp [Value.ownBlock]))⟩, ⟨by first | exact Kd.R_nil _ _ _ _ _ | exact Kd.N_nil _ _ _ _ _ | exact Kd.V_nil _ _ _ _ _ | exact Kd.Q_nil _ _ _ _ _ | exact Kd.S_nil _ _ _ _ _⟩, ⟨tk_ BK212.out⟩, ⟨tk_ BK218.out⟩, ⟨(tb_ HB.out)⟩⟩
       case round =>
        clear H'
        try clear c1
        try clear p2
        try clear q2
        try clear hx2
        try clear qi2
        try clear c3
        try clear c3b0
        try clear c3b1
        try clear c4
        try clear c4b0
        try clear c4b1
        try clear c5
        try clear c6
        try clear c6b0
        try clear c6b1
        try clear p6
        try clear c9
        try clear c10
        try clear c12
        try clear c15
        try clear c15b0
        try clear c16
        try clear c16b0
        try clear c18
        try clear p21
        try clear q21
        try clear hx21
        try clear qi21
        try clear p22
        try clear q22
        try clear hx22
        try clear hcz13_0
        try clear hcz13_1
        try clear hcz13_2
        try clear hfz13_0
        try clear hfz13_1
        try clear hfz13_2
        try clear hx216_0
        try clear hx219_0
        try clear hx223_0
        try clear p2
        try clear p216
        try clear p219
        try clear p223
        try clear q2
        try clear q216
        try clear q219
        try clear q223
        obtain ⟨x8_2, x219002_2, u219002, rfl, HA, HK2, HO_4, HO_219000, HO_219002, BK212, BK218, HB⟩ := hrel
        cases gk with
        | zero => exact absurd HA.out (by simp [spec_ReadPlace.l1])
        | succ k2 =>
         have H := HA.out
         clear HA
         simp only [spec_ReadPlace.l1] at H
         by_cases c25 : 2 < (t213.length : Int)
         ·
          rw [if_pos c25] at H
          have c25b0 : decide (2 < (t213.length : Int)) = true := decide_eq_true c25
          have c25b1 : decide (2 < t213.length) = true := decide_eq_true (by omega)
          clear c25
          by_cases c26 : x8_2 < ((rdOf ByteArray.empty t213 2).size : Int)
          ·
           rw [if_pos c26] at H
           have c26b0 : decide (x8_2 < ((rdOf ByteArray.empty t213 2).size : Int)) = true := decide_eq_true c26
           clear c26
           by_cases c27 : (rdOf ByteArray.empty t213 2).toList = ([46] : List UInt8)
           ·
            rw [if_pos c27] at H
            have c27b0 : ((rdOf ByteArray.empty t213 2).toList == ([46] : List UInt8)) = true := beq_iff_eq.mpr c27
            have c27b1 : ((rdOf ByteArray.empty t213 2).toList != ([46] : List UInt8)) = false := bne_eq_false_iff_eq.mpr c27
            clear c27
            by_cases c28 : a0.toList = ([] : List UInt8)
            ·
             rw [if_pos c28] at H
             have c28b0 : (a0.toList == ([] : List UInt8)) = true := beq_iff_eq.mpr c28
             have c28b1 : (a0.toList != ([] : List UInt8)) = false := bne_eq_false_iff_eq.mpr c28
             clear c28
             simp only [Option.some.injEq, Prod.mk.injEq] at H
             obtain ⟨rfl, rfl, rfl, rfl⟩ := H
             have p228 : 0 ≤ (2 : Int) := (by omega)
             have q228 : 2 < (t213.length : Int) := od_
             obtain ⟨ad228, e228, hx228_0⟩ := Kd.at_string (Kd.R_reads' HO_4.out).2.2 2 p228 q228
             obtain rfl : ad216 = ad228 := (by injection e228)
             (try simp only [show (2 : Int).toNat = 2 from rfl, Nat.reduceMul, Nat.reduceEqDiff, Go.Addr.add, ↓reduceIte] at hx228_0)
             have qi228 : (2 < t213.length) = True := eq_true (by omega)
             (try rw [show ((2 : Int)).toNat = 2 from rfl] at hx228_0)
             replace p228 := eq_true p228
             replace q228 := eq_true q228
             have p229 : 0 ≤ (2 : Int) := (by omega)
             have q229 : 2 < (t213.length : Int) := od_
             obtain ⟨ad229, e229, hx229_0⟩ := Kd.at_string (Kd.R_reads' HO_4.out).2.2 2 p229 q229
             obtain rfl : ad216 = ad229 := (by injection e229)
             (try simp only [show (2 : Int).toNat = 2 from rfl, Nat.reduceMul, Nat.reduceEqDiff, Go.Addr.add, ↓reduceIte] at hx229_0)
             have qi229 : (2 < t213.length) = True := eq_true (by omega)
             (try rw [show ((2 : Int)).toNat = 2 from rfl] at hx229_0)
             replace p229 := eq_true p229
             replace q229 := eq_true q229
             have hnb29 := NB212_218.out
             have hnc29 := NB218_212.out
             have hcz30_0 : wr.cell? ⟨gb212, 0, none⟩ = some (.slice none 0 0) := (blk_cell BK212.out 0).trans rfl
             have hcz30_1 : wr.cell? ⟨gb212, 1, none⟩ = some (.int .i64 0) := (blk_cell BK212.out 1).trans rfl
             have hcz30_2 : wr.cell? ⟨gb212, 2, none⟩ = some (.slice none 0 0) := (blk_cell BK212.out 2).trans rfl
             have hfz30_0 := blk_frozen BK212.out 0
             have hfz30_1 := blk_frozen BK212.out 1
             have hfz30_2 := blk_frozen BK212.out 2
             go_wp2
             refine bodyPost_ret (results_ct rfl _ _ gb212 25 #[.slice none 0 0, .int .i64 0, .slice none 0 0] (0, 0) _ rfl (by refine bq_ ?_; refine blk_put (cs := #[.slice none 0 0, .int .i64 0, .slice none 0 0]) ?_ 2 _ rfl; refine bq_ ?_; refine blk_put (cs := #[.slice none 0 0, .int .i64 0, .slice none 0 0]) ?_ 1 _ rfl; refine bq_ ?_; refine blk_put (cs := #[.slice none 0 0, .int .i64 0, .slice none 0 0]) ?_ 0 _ rfl; exact tk_ BK212.out) Tryd.underlying25 rfl (by kernel_rfl)) rfl ?_
             exact ⟨_, _, by first | rfl | (simp [errW_none, errW_some, Option.map_none, Option.map_some] <;> rfl) | (simp [*, errW_none, errW_some] <;> rfl), by first | exact Kd.R_nil _ _ _ _ _ | exact Kd.N_nil _ _ _ _ _ | exact Kd.V_nil _ _ _ _ _ | exact Kd.Q_nil _ _ _ _ _ | exact Kd.S_nil _ _ _ _ _, by first | exact Kd.R_nil _ _ _ _ _ | exact Kd.N_nil _ _ _ _ _ | exact Kd.V_nil _ _ _ _ _ | exact Kd.Q_nil _ _ _ _ _ | exact Kd.S_nil _ _ _ _ _, (tb_ HB.out)⟩
            ·
             rw [if_neg c28] at H
             have c28b0 : (a0.toList == ([] : List UInt8)) = false := beq_eq_false_iff_ne.mpr c28
             have c28b1 : (a0.toList != ([] : List UInt8)) = true := bne_iff_ne.mpr c28
             replace H := Option.bind_eq_some_iff.mp H
             obtain ⟨t230, A310, H⟩ := H
             replace H : (if t230.toList = a0.toList then (some (x219000_1, t217, x219002_2, true)) else (some (([] : List Int), 0, ([] : List Int), false))) = some (r1, r2, r3, r4) := H
             have A31 := Aside0.mk A310
             clear A310
             by_cases c32 : t230.toList = a0.toList
             ·
              rw [if_pos c32] at H
              have c32b0 : (t230.toList == a0.toList) = true := beq_iff_eq.mpr c32
              have c32b1 : (t230.toList != a0.toList) = false := bne_eq_false_iff_eq.mpr c32
              clear c32
              simp only [Option.some.injEq, Prod.mk.injEq] at H
              obtain ⟨rfl, rfl, rfl, rfl⟩ := H
              have p228 : 0 ≤ (2 : Int) := (by omega)
              have q228 : 2 < (t213.length : Int) := od_
              obtain ⟨ad228, e228, hx228_0⟩ := Kd.at_string (Kd.R_reads' HO_4.out).2.2 2 p228 q228
              obtain rfl : ad216 = ad228 := (by injection e228)
              (try simp only [show (2 : Int).toNat = 2 from rfl, Nat.reduceMul, Nat.reduceEqDiff, Go.Addr.add, ↓reduceIte] at hx228_0)
              have qi228 : (2 < t213.length) = True := eq_true (by omega)
              (try rw [show ((2 : Int)).toNat = 2 from rfl] at hx228_0)
              replace p228 := eq_true p228
              replace q228 := eq_true q228
              have p229 : 0 ≤ (2 : Int) := (by omega)
              have q229 : 2 < (t213.length : Int) := od_
              obtain ⟨ad229, e229, hx229_0⟩ := Kd.at_string (Kd.R_reads' HO_4.out).2.2 2 p229 q229
              obtain rfl : ad216 = ad229 := (by injection e229)
              (try simp only [show (2 : Int).toNat = 2 from rfl, Nat.reduceMul, Nat.reduceEqDiff, Go.Addr.add, ↓reduceIte] at hx229_0)
              have qi229 : (2 < t213.length) = True := eq_true (by omega)
              (try rw [show ((2 : Int)).toNat = 2 from rfl] at hx229_0)
              replace p229 := eq_true p229
              replace q229 := eq_true q229
              have hnb33 := NB218_212.out
              have hnc33 := NB212_218.out
              have hcz34_0 : wr.cell? ⟨gb218, 0, none⟩ = some (u219000) := (blk_cell BK218.out 0).trans rfl
              have hcz34_1 : wr.cell? ⟨gb218, 1, none⟩ = some (.int .i64 t217) := (blk_cell BK218.out 1).trans rfl
              have hcz34_2 : wr.cell? ⟨gb218, 2, none⟩ = some (u219002) := (blk_cell BK218.out 2).trans rfl
              have hfz34_0 := blk_frozen BK218.out 0
              have hfz34_1 := blk_frozen BK218.out 1
              have hfz34_2 := blk_frozen BK218.out 2
              obtain ⟨Ao35, co35, eo35⟩ := Kd.R_slice HO_219000.out
              subst eo35
              obtain ⟨Ao36, co36, eo36⟩ := Kd.R_slice HO_219002.out
              subst eo36
              go_wp2_with (first | (go_at_call 62; (with_reducible refine (spec_PlaceText.calls k2 _ _ x219000_1 t217 _ _ x219002_2 t230 _ ?side1 ?side2 ?side3 ?side4 A31.out).mono ?_); (case side1 => repeat (first | exact (Kd.R_reads' HO_219000.out).2.2 | (with_reducible refine Kd.C_alloc ?_ _) | (with_reducible refine Kd.C_drewN ?_ _) | (with_reducible refine Kd.C_drew ?_))); (case side2 => exact (Kd.R_reads' HO_219000.out).2.1); (case side3 => repeat (first | exact (Kd.R_reads' HO_219002.out).2.2 | (with_reducible refine Kd.C_alloc ?_ _) | (with_reducible refine Kd.C_drewN ?_ _) | (with_reducible refine Kd.C_drew ?_))); (case side4 => exact (Kd.R_reads' HO_219002.out).2.1); rintro e w37 ⟨rfl, hb⟩; have n0_ := Aside0.mk (Kd.R_below (rR_ HO_4.out) hb); have n1_ := Aside0.mk (Kd.R_below (rR_ HO_219000.out) hb); have n2_ := Aside0.mk (Kd.R_below (rR_ HO_219002.out) hb); have n3_ := Aside0.mk (blk_below (g := gb212) (o := .cells #[.slice none 0 0, .int .i64 0, .slice none 0 0] 25 (0, 0)) (tk_ BK212.out) hb); have n4_ := Aside0.mk (blk_below (g := gb218) (o := .cells #[.slice Ao35 x219000_1.length co35, .int .i64 t217, .slice Ao36 x219002_2.length co36] 25 (0, 0)) (tk_ BK218.out) hb); have n5_ := Aside0.mk (below_step (tb_ HB.out) hb); clear HO_4 HO_219000 HO_219002 BK212 BK218 HB; have HO_4 := n0_; have HO_219000 := n1_; have HO_219002 := n2_; have BK212 := n3_; have BK218 := n4_; have HB := n5_; clear n0_ n1_ n2_ n3_ n4_ n5_; (try clear hb); (try clear hb2); (try clear hk); (try clear hi); have hcz38_0 : w37.cell? ⟨gb218, 0, none⟩ = some (.slice Ao35 x219000_1.length co35) := (blk_cell BK218.out 0).trans rfl; have hcz38_1 : w37.cell? ⟨gb218, 1, none⟩ = some (.int .i64 t217) := (blk_cell BK218.out 1).trans rfl; have hcz38_2 : w37.cell? ⟨gb218, 2, none⟩ = some (.slice Ao36 x219002_2.length co36) := (blk_cell BK218.out 2).trans rfl; have hfz38_0 := blk_frozen BK218.out 0; have hfz38_1 := blk_frozen BK218.out 1; have hfz38_2 := blk_frozen BK218.out 2; have hcz39_0 : w37.cell? ⟨gb212, 0, none⟩ = some (.slice none 0 0) := (blk_cell BK212.out 0).trans rfl; have hcz39_1 : w37.cell? ⟨gb212, 1, none⟩ = some (.int .i64 0) := (blk_cell BK212.out 1).trans rfl; have hcz39_2 : w37.cell? ⟨gb212, 2, none⟩ = some (.slice none 0 0) := (blk_cell BK212.out 2).trans rfl; have hfz39_0 := blk_frozen BK212.out 0; have hfz39_1 := blk_frozen BK212.out 1; have hfz39_2 := blk_frozen BK212.out 2))
              refine bodyPost_ret (results_ct rfl _ _ gb212 25 #[.slice Ao35 x219000_1.length co35, .int .i64 t217, .slice Ao36 x219002_2.length co36] (0, 0) _ rfl (by refine bq_ ?_; refine blk_put (cs := #[.slice Ao35 x219000_1.length co35, .int .i64 t217, .slice none 0 0]) ?_ 2 _ rfl; refine bq_ ?_; refine blk_put (cs := #[.slice Ao35 x219000_1.length co35, .int .i64 0, .slice none 0 0]) ?_ 1 _ rfl; refine bq_ ?_; refine blk_put (cs := #[.slice none 0 0, .int .i64 0, .slice none 0 0]) ?_ 0 _ rfl; exact tk_ BK212.out) Tryd.underlying25 rfl (by kernel_rfl)) rfl ?_
              exact ⟨_, _, by first | rfl | (simp [errW_none, errW_some, Option.map_none, Option.map_some] <;> rfl) | (simp [*, errW_none, errW_some] <;> rfl), by refine qR_ ?_; exact Kd.R_mono (Kd.R_far (p := ⟨gb212, 2, none⟩) (Kd.R_far (p := ⟨gb212, 1, none⟩) (Kd.R_far (p := ⟨gb212, 0, none⟩) (Kd.R_types HO_219000.out BK212.out (by decide)) (fun _ hk => hk.2) (.slice Ao35 x219000_1.length co35)) (fun _ hk => hk.2) (.int .i64 t217)) (fun _ hk => hk.2) (.slice Ao36 x219002_2.length co36)) (fun _ hk => hk.1), by refine qR_ ?_; exact Kd.R_mono (Kd.R_far (p := ⟨gb212, 2, none⟩) (Kd.R_far (p := ⟨gb212, 1, none⟩) (Kd.R_far (p := ⟨gb212, 0, none⟩) (Kd.R_types HO_219002.out BK212.out (by decide)) (fun _ hk => hk.2) (.slice Ao35 x219000_1.length co35)) (fun _ hk => hk.2) (.int .i64 t217)) (fun _ hk => hk.2) (.slice Ao36 x219002_2.length co36)) (fun _ hk => hk.1), (tb_ HB.out)⟩
             ·
              rw [if_neg c32] at H
              have c32b0 : (t230.toList == a0.toList) = false := beq_eq_false_iff_ne.mpr c32
              have c32b1 : (t230.toList != a0.toList) = true := bne_iff_ne.mpr c32
              simp only [Option.some.injEq, Prod.mk.injEq] at H
              obtain ⟨rfl, rfl, rfl, rfl⟩ := H
              have p228 : 0 ≤ (2 : Int) := (by omega)
              have q228 : 2 < (t213.length : Int) := od_
              obtain ⟨ad228, e228, hx228_0⟩ := Kd.at_string (Kd.R_reads' HO_4.out).2.2 2 p228 q228
              obtain rfl : ad216 = ad228 := (by injection e228)
              (try simp only [show (2 : Int).toNat = 2 from rfl, Nat.reduceMul, Nat.reduceEqDiff, Go.Addr.add, ↓reduceIte] at hx228_0)
              have qi228 : (2 < t213.length) = True := eq_true (by omega)
              (try rw [show ((2 : Int)).toNat = 2 from rfl] at hx228_0)
              replace p228 := eq_true p228
              replace q228 := eq_true q228
              have p229 : 0 ≤ (2 : Int) := (by omega)
              have q229 : 2 < (t213.length : Int) := od_
              obtain ⟨ad229, e229, hx229_0⟩ := Kd.at_string (Kd.R_reads' HO_4.out).2.2 2 p229 q229
              obtain rfl : ad216 = ad229 := (by injection e229)
              (try simp only [show (2 : Int).toNat = 2 from rfl, Nat.reduceMul, Nat.reduceEqDiff, Go.Addr.add, ↓reduceIte] at hx229_0)
              have qi229 : (2 < t213.length) = True := eq_true (by omega)
              (try rw [show ((2 : Int)).toNat = 2 from rfl] at hx229_0)
              replace p229 := eq_true p229
              replace q229 := eq_true q229
              have hnb40 := NB218_212.out
              have hnc40 := NB212_218.out
              have hcz41_0 : wr.cell? ⟨gb218, 0, none⟩ = some (u219000) := (blk_cell BK218.out 0).trans rfl
              have hcz41_1 : wr.cell? ⟨gb218, 1, none⟩ = some (.int .i64 t217) := (blk_cell BK218.out 1).trans rfl
              have hcz41_2 : wr.cell? ⟨gb218, 2, none⟩ = some (u219002) := (blk_cell BK218.out 2).trans rfl
              have hfz41_0 := blk_frozen BK218.out 0
              have hfz41_1 := blk_frozen BK218.out 1
              have hfz41_2 := blk_frozen BK218.out 2
              obtain ⟨Ao42, co42, eo42⟩ := Kd.R_slice HO_219000.out
              subst eo42
              obtain ⟨Ao43, co43, eo43⟩ := Kd.R_slice HO_219002.out
              subst eo43
              go_wp2_with (first | (go_at_call 62; (with_reducible refine (spec_PlaceText.calls k2 _ _ x219000_1 t217 _ _ x219002_2 t230 _ ?side1 ?side2 ?side3 ?side4 A31.out).mono ?_); (case side1 => repeat (first | exact (Kd.R_reads' HO_219000.out).2.2 | (with_reducible refine Kd.C_alloc ?_ _) | (with_reducible refine Kd.C_drewN ?_ _) | (with_reducible refine Kd.C_drew ?_))); (case side2 => exact (Kd.R_reads' HO_219000.out).2.1); (case side3 => repeat (first | exact (Kd.R_reads' HO_219002.out).2.2 | (with_reducible refine Kd.C_alloc ?_ _) | (with_reducible refine Kd.C_drewN ?_ _) | (with_reducible refine Kd.C_drew ?_))); (case side4 => exact (Kd.R_reads' HO_219002.out).2.1); rintro e w44 ⟨rfl, hb⟩; have n0_ := Aside0.mk (Kd.R_below (rR_ HO_4.out) hb); have n1_ := Aside0.mk (Kd.R_below (rR_ HO_219000.out) hb); have n2_ := Aside0.mk (Kd.R_below (rR_ HO_219002.out) hb); have n3_ := Aside0.mk (blk_below (g := gb212) (o := .cells #[.slice none 0 0, .int .i64 0, .slice none 0 0] 25 (0, 0)) (tk_ BK212.out) hb); have n4_ := Aside0.mk (blk_below (g := gb218) (o := .cells #[.slice Ao42 x219000_1.length co42, .int .i64 t217, .slice Ao43 x219002_2.length co43] 25 (0, 0)) (tk_ BK218.out) hb); have n5_ := Aside0.mk (below_step (tb_ HB.out) hb); clear HO_4 HO_219000 HO_219002 BK212 BK218 HB; have HO_4 := n0_; have HO_219000 := n1_; have HO_219002 := n2_; have BK212 := n3_; have BK218 := n4_; have HB := n5_; clear n0_ n1_ n2_ n3_ n4_ n5_; (try clear hb); (try clear hb2); (try clear hk); (try clear hi); have hcz45_0 : w44.cell? ⟨gb212, 0, none⟩ = some (.slice none 0 0) := (blk_cell BK212.out 0).trans rfl; have hcz45_1 : w44.cell? ⟨gb212, 1, none⟩ = some (.int .i64 0) := (blk_cell BK212.out 1).trans rfl; have hcz45_2 : w44.cell? ⟨gb212, 2, none⟩ = some (.slice none 0 0) := (blk_cell BK212.out 2).trans rfl; have hfz45_0 := blk_frozen BK212.out 0; have hfz45_1 := blk_frozen BK212.out 1; have hfz45_2 := blk_frozen BK212.out 2))
              refine bodyPost_ret (results_ct rfl _ _ gb212 25 #[.slice none 0 0, .int .i64 0, .slice none 0 0] (0, 0) _ rfl (by refine bq_ ?_; refine blk_put (cs := #[.slice none 0 0, .int .i64 0, .slice none 0 0]) ?_ 2 _ rfl; refine bq_ ?_; refine blk_put (cs := #[.slice none 0 0, .int .i64 0, .slice none 0 0]) ?_ 1 _ rfl; refine bq_ ?_; refine blk_put (cs := #[.slice none 0 0, .int .i64 0, .slice none 0 0]) ?_ 0 _ rfl; exact tk_ BK212.out) Tryd.underlying25 rfl (by kernel_rfl)) rfl ?_
              exact ⟨_, _, by first | rfl | (simp [errW_none, errW_some, Option.map_none, Option.map_some] <;> rfl) | (simp [*, errW_none, errW_some] <;> rfl), by first | exact Kd.R_nil _ _ _ _ _ | exact Kd.N_nil _ _ _ _ _ | exact Kd.V_nil _ _ _ _ _ | exact Kd.Q_nil _ _ _ _ _ | exact Kd.S_nil _ _ _ _ _, by first | exact Kd.R_nil _ _ _ _ _ | exact Kd.N_nil _ _ _ _ _ | exact Kd.V_nil _ _ _ _ _ | exact Kd.Q_nil _ _ _ _ _ | exact Kd.S_nil _ _ _ _ _, (tb_ HB.out)⟩
           ·
            rw [if_neg c27] at H
            have c27b0 : ((rdOf ByteArray.empty t213 2).toList == ([46] : List UInt8)) = false := beq_eq_false_iff_ne.mpr c27
            have c27b1 : ((rdOf ByteArray.empty t213 2).toList != ([46] : List UInt8)) = true := bne_iff_ne.mpr c27
            by_cases c46 : 0 ≤ x8_2
            ·
             rw [if_pos c46] at H
             have c46b0 : decide (0 ≤ x8_2) = true := decide_eq_true c46
             clear c46
             by_cases c48 : x219002_2.length < 17592186044416
             ·
              rw [if_pos c48] at H
              have LMc48 := Aside0.mk c48
              clear c48
              obtain ⟨y232, hy232⟩ : ∃ y_ : List Int, y_ = (x219002_2 ++ [wrap64 ((wrap64 (bt (rdOf ByteArray.empty t213 2) x8_2)) - 97)]) := ⟨_, rfl⟩
              replace H : (spec_ReadPlace.l1 k2 a0 t213 (wrap64 (x8_2 + 1)) x219000_1 t217 y232) = some (r1, r2, r3, r4) := by first | (rw [hy232]; with_reducible exact H) | (have H2_ := (Option.bind_some _ _).symm.trans H; rw [hy232]; with_reducible exact H2_) | (have H2_ := (Option.bind_some _ _).symm.trans H; with_reducible exact H2_) | with_reducible exact H | (rw [hy232]; exact H) | exact H
              have Ny232 := Aside0.mk hy232
              clear hy232
              have H' := Aside0.mk H
              clear H
              have p228 : 0 ≤ (2 : Int) := (by omega)
              have q228 : 2 < (t213.length : Int) := od_
              obtain ⟨ad228, e228, hx228_0⟩ := Kd.at_string (Kd.R_reads' HO_4.out).2.2 2 p228 q228
              obtain rfl : ad216 = ad228 := (by injection e228)
              (try simp only [show (2 : Int).toNat = 2 from rfl, Nat.reduceMul, Nat.reduceEqDiff, Go.Addr.add, ↓reduceIte] at hx228_0)
              have qi228 : (2 < t213.length) = True := eq_true (by omega)
              (try rw [show ((2 : Int)).toNat = 2 from rfl] at hx228_0)
              replace p228 := eq_true p228
              replace q228 := eq_true q228
              have p229 : 0 ≤ (2 : Int) := (by omega)
              have q229 : 2 < (t213.length : Int) := od_
              obtain ⟨ad229, e229, hx229_0⟩ := Kd.at_string (Kd.R_reads' HO_4.out).2.2 2 p229 q229
              obtain rfl : ad216 = ad229 := (by injection e229)
              (try simp only [show (2 : Int).toNat = 2 from rfl, Nat.reduceMul, Nat.reduceEqDiff, Go.Addr.add, ↓reduceIte] at hx229_0)
              have qi229 : (2 < t213.length) = True := eq_true (by omega)
              (try rw [show ((2 : Int)).toNat = 2 from rfl] at hx229_0)
              replace p229 := eq_true p229
              replace q229 := eq_true q229
              try go_wp2
              have n0_ := Aside0.mk (Kd.R_drew HO_4.out)
              have n1_ := Aside0.mk (Kd.R_drew HO_219000.out)
              have n2_ := Aside0.mk (Kd.R_drew HO_219002.out)
              have n3_ := Aside0.mk (blk_drew BK212.out)
              have n4_ := Aside0.mk (blk_drew BK218.out)
              have n5_ := Aside0.mk (ld_ HB.out)
              clear HO_4
              clear HO_219000
              clear HO_219002
              clear BK212
              clear BK218
              clear HB
              have HO_4 := n0_
              have HO_219000 := n1_
              have HO_219002 := n2_
              have BK212 := n3_
              have BK218 := n4_
              have HB := n5_
              clear n0_ n1_ n2_ n3_ n4_ n5_
              have p231 : 0 ≤ (2 : Int) := (by omega)
              have q231 : 2 < (t213.length : Int) := od_
              obtain ⟨ad231, e231, hx231_0⟩ := Kd.at_string (Kd.R_reads' HO_4.out).2.2 2 p231 q231
              obtain rfl : ad216 = ad231 := (by injection e231)
              (try simp only [show (2 : Int).toNat = 2 from rfl, Nat.reduceMul, Nat.reduceEqDiff, Go.Addr.add, ↓reduceIte] at hx231_0)
              have qi231 : (2 < t213.length) = True := eq_true (by omega)
              (try rw [show ((2 : Int)).toNat = 2 from rfl] at hx231_0)
              replace p231 := eq_true p231
              replace q231 := eq_true q231
              have p47 : 0 ≤ (x8_2 : Int) := od_
              have q47 : x8_2 < ((rdOf ByteArray.empty t213 2).size : Int) := od_
              have hx47 := bt_at (rdOf ByteArray.empty t213 2) x8_2
              replace p47 := eq_true p47
              replace q47 := eq_true q47
              refine start_ (n := 13) (S := fun w' => w'.cell? ⟨gb218, 0, none⟩ = some (u219000) ∧ w'.cell? ⟨gb218, 1, none⟩ = some (.int .i64 t217) ∧ w'.cell? ⟨gb218, 2, none⟩ = some (u219002) ∧ w'.cell? ⟨ad216.block, ad216.off + 2, none⟩ = some (.string (rdOf ByteArray.empty t213 2))) (ds := [10, 12]) #[false, false, false, false, false, false, false, false, false, false, false, false, false] (by kernel_rfl) rfl rfl ⟨(blk_cell BK218.out 0).trans rfl, (blk_cell BK218.out 1).trans rfl, (blk_cell BK218.out 2).trans rfl, hx231_0⟩ (fun hHeld => ?_); refine with_tabW spec_ReadPlace.tab13 spec_ReadPlace.bits13 (fun HT_ HW_ => ?_)
              generalize wr.drew = w49 at HO_4 HO_219000 HO_219002 BK212 BK218 HB hx231_0 hHeld ⊢
              refine pure_ (i := 0) (N := some 54) (v := ?_) (a' := ?_) #[true, false, false, false, false, false, false, false, false, false, false, false, false] rfl rfl (any_of HT_.out (by kernel_rfl)) (fun _ _ _ h => h) (Or.inl ⟨by rfl, ?_⟩) ?_ ?_
              rotate_left
              ·
               intro w'
               go_simp
               first | with_reducible rfl | (rw [if_neg (by omega)]; done)
              rotate_left
              ·
               simp only [Act.put, sa_, sb_, sc_, i64_w, i32_w]
               rfl
              refine pure_ (i := 2) (N := some 56) (v := ?_) (a' := ?_) #[true, false, true, false, false, false, false, false, false, false, false, false, false] rfl rfl (any_of HT_.out (by kernel_rfl)) (fun _ _ _ h => h) (Or.inl ⟨by rfl, ?_⟩) ?_ ?_
              rotate_left
              ·
               intro w'
               go_simp
               first | with_reducible rfl | (rw [if_neg (by omega)]; done)
              rotate_left
              ·
               simp only [Act.put, sa_, sb_, sc_, i64_w, i32_w]
               rfl
              refine pure_ (i := 3) (N := some 57) (v := ?_) (a' := ?_) #[true, false, true, true, false, false, false, false, false, false, false, false, false] rfl rfl (any_of HT_.out (by kernel_rfl)) (fun _ _ _ h => h) (Or.inl ⟨by rfl, ?_⟩) ?_ ?_
              rotate_left
              ·
               intro w'
               go_simp
               first | with_reducible rfl | (rw [if_neg (by omega)]; done)
              rotate_left
              ·
               simp only [Act.put, sa_, sb_, sc_, i64_w, i32_w]
               rfl
              refine pure_ (i := 5) (N := some 59) (v := ?_) (a' := ?_) #[true, false, true, true, false, true, false, false, false, false, false, false, false] rfl rfl (any_of HT_.out (by kernel_rfl)) (fun _ _ _ h => h) (Or.inl ⟨by rfl, ?_⟩) ?_ ?_
              rotate_left
              ·
               intro w'
               go_simp
               first | with_reducible rfl | (rw [if_neg (by omega)]; done)
              rotate_left
              ·
               simp only [Act.put, sa_, sb_, sc_, i64_w, i32_w]
               rfl
              refine take_ (i := 1) (N := some 55) (v := ?_) (a' := ?_) #[true, true, true, true, false, true, false, false, false, false, false, false, false] rfl rfl (take_ofW HT_.out HW_.out (by kernel_rfl)) (fun _ _ _ h => h) (Or.inl ⟨by rfl, ?_⟩) hHeld ?_ ?_
              rotate_left
              ·
               rintro w' ⟨s0, s1, s2, s3⟩
               go_simp
               first | with_reducible rfl | (rw [if_neg (by omega)]; done)
              rotate_left
              ·
               simp only [Act.put, sa_, sb_, sc_, i64_w, i32_w]
               rfl
              refine take_ (i := 4) (N := some 58) (v := ?_) (a' := ?_) #[true, true, true, true, true, true, false, false, false, false, false, false, false] rfl rfl (take_ofW HT_.out HW_.out (by kernel_rfl)) (fun _ _ _ h => h) (Or.inl ⟨by rfl, ?_⟩) hHeld ?_ ?_
              rotate_left
              ·
               rintro w' ⟨s0, s1, s2, s3⟩
               go_simp
               first | with_reducible rfl | (rw [if_neg (by omega)]; done)
              rotate_left
              ·
               simp only [Act.put, sa_, sb_, sc_, i64_w, i32_w]
               rfl
              refine take_ (i := 6) (N := some 60) (v := ?_) (a' := ?_) #[true, true, true, true, true, true, true, false, false, false, false, false, false] rfl rfl (take_ofW HT_.out HW_.out (by kernel_rfl)) (fun _ _ _ h => h) (Or.inl ⟨by rfl, ?_⟩) hHeld ?_ ?_
              rotate_left
              ·
               rintro w' ⟨s0, s1, s2, s3⟩
               go_simp
               first | with_reducible rfl | (rw [if_neg (by omega)]; done)
              rotate_left
              ·
               simp only [Act.put, sa_, sb_, sc_, i64_w, i32_w]
               rfl
              refine pure_ (i := 7) (N := some 61) (v := ?_) (a' := ?_) #[true, true, true, true, true, true, true, true, false, false, false, false, false] rfl rfl (any_of HT_.out (by kernel_rfl)) (fun _ _ _ h => h) (Or.inl ⟨by rfl, ?_⟩) ?_ ?_
              rotate_left
              ·
               intro w'
               go_simp
               first | with_reducible rfl | (rw [if_neg (by omega)]; done)
              rotate_left
              ·
               simp only [Act.put, sa_, sb_, sc_, i64_w, i32_w]
               rfl
              refine pure_ (i := 8) (N := some 62) (v := ?_) (a' := ?_) #[true, true, true, true, true, true, true, true, true, false, false, false, false] rfl rfl (any_of HT_.out (by kernel_rfl)) (fun _ _ _ h => h) (Or.inl ⟨by rfl, ?_⟩) ?_ ?_
              rotate_left
              ·
               intro w'
               go_simp
               first | with_reducible rfl | (rw [if_neg (by omega)]; done)
              rotate_left
              ·
               simp only [Act.put, sa_, sb_, sc_, i64_w, i32_w]
               rfl
              refine one_ (i := 9) (N := some 63) #[true, true, true, true, true, true, true, true, true, true, false, false, false] rfl rfl (one_of HT_.out (by kernel_rfl)) (by decide) (fun K hK => ?_)
              refine value_ (w1 := ?_) (v := ?_) (by rfl) rfl ?_ ?_
              rotate_left 2
              ·
               go_simp
               constructor
               ·
                rfl
               ·
                rfl
              refine hK.out _ _ ⟨(blk_cell (blk_alloc BK218.out _) 0).trans rfl, (blk_cell (blk_alloc BK218.out _) 1).trans rfl, (blk_cell (blk_alloc BK218.out _) 2).trans rfl, (World.cell?_alloc_lt _ _ _ (World.block_lt_of_cell? _ _ (hHeld.2.2.2))).trans (hHeld.2.2.2)⟩ (fun hHeld => ?_)
              clear hK K
              refine norm_ (a' := ?_) ?_ ?_
              rotate_left
              ·
               show Act.put _ (some 63) _ = _
               simp only [Act.put, sa_, sb_, sc_, i64_w, i32_w]
               rfl
              refine last_ (i := 10) (N := some 64) #[true, true, true, true, true, true, true, true, true, true, true, false, false] rfl rfl (one_of HT_.out (by kernel_rfl)) (by decide) (fun K hK => ?_)
              refine Kd.R_append_step (Kd.int .i64) (w0 := w) w.heap.size (by rfl) (.tmp 55) (.tmp 63) 23 3 (.int .i64 0) 8 rfl Tryd.underlying23 info3 rfl (by decide) (by omega) u219002 x219002_2 (wrap64 ((wrap64 (bt (rdOf ByteArray.empty t213 2) x8_2)) - 97)) [.int .i64 (wrap64 ((wrap64 (bt (rdOf ByteArray.empty t213 2) x8_2)) - 97))] (fun k_ => some k_ ≠ (u219000 : Value).ownBlock) (fun _ => False) rfl rfl ?aP (fun _ hk => hk.elim) ?aF ?aO ?aB ?aS ?aL ?_
              (case aP => exact rfl)
              (case aB => exact (tb_ HB.out))
              (case aF => exact (fun k_ hk => Kd.fresh' (Kd.R_lt (rR_ HO_219000.out)) k_ hk))
              (case aO => exact (rR_ HO_219002.out))
              (case aS => exact (below_size (tb_ HB.out)))
              (case aL => have := LMc48.out; omega)
              intro v233 w50 ho hb hg hat
              rw [← Ny232.out] at ho
              have n0_ := Aside0.mk (Kd.R_over' (rR_ HO_4.out) (Kd.R_typed (rR_ HO_219002.out)) (by decide) hg)
              have n1_ := Aside0.mk (Kd.R_after (ok := (fun _ => True)) (by refine qR_ ?_; exact Kd.R_mono HO_219000.out (fun _ hk => ⟨trivial, hk⟩)) hg hat)
              have n2_ := Aside0.mk (blk_grown (g := gb212) (o := .cells #[.slice none 0 0, .int .i64 0, .slice none 0 0] 25 (0, 0)) (tk_ BK212.out) hg (Kd.R_ne HO_219002.out BK212.out (by decide)))
              have n3_ := Aside0.mk (blk_grown (g := gb218) (o := .cells #[u219000, .int .i64 t217, u219002] 25 (0, 0)) (tk_ BK218.out) hg (Kd.R_ne HO_219002.out BK218.out (by decide)))
              have n4_ := Aside0.mk (hb)
              have n5_ := Aside0.mk (ho)
              clear HO_4
              clear HO_219000
              clear BK212
              clear BK218
              clear HB
              clear HO_219002
              have HO_4 := n0_
              have HO_219000 := n1_
              have BK212 := n2_
              have BK218 := n3_
              have HB := n4_
              have HO234 := n5_
              clear n0_ n1_ n2_ n3_ n4_ n5_
              clear ho hb hg hat
              obtain ⟨Ao51, co51, eo51⟩ := Kd.R_slice HO234.out
              (first | subst eo51 | (injection eo51 with f1_ f2_ f3_; have f4_ := f1_.symm; have f5_ := f3_.symm; clear f1_ f2_ f3_; subst f4_; subst f5_))
              refine hK.out _ _ ?_
              clear hK K
              refine norm_ (a' := ?_) ?_ ?_
              rotate_left
              ·
               show Act.put _ (some 64) _ = _
               simp only [Act.put, sa_, sb_, sc_, i64_w, i32_w]
               rfl
              refine pure_ (i := 11) (N := some 65) (v := ?_) (a' := ?_) #[true, true, true, true, true, true, true, true, true, true, true, true, false] rfl rfl (any_of HT_.out (by kernel_rfl)) (fun _ _ _ h => h) (Or.inl ⟨by rfl, ?_⟩) ?_ ?_
              rotate_left
              ·
               intro w'
               go_simp
               first | with_reducible rfl | (rw [if_neg (by omega)]; done)
              rotate_left
              ·
               simp only [Act.put, sa_, sb_, sc_, i64_w, i32_w]
               rfl
              refine last_ (i := 12) (N := none) #[true, true, true, true, true, true, true, true, true, true, true, true, true] rfl rfl (one_of HT_.out (by kernel_rfl)) (by decide) (fun K hK => ?_)
              have hs52 : w50.cell? ⟨gb218, 2, none⟩ = some (u219002) := (blk_cell BK218.out 2).trans rfl
              have hfs52 := blk_frozen BK218.out 2
              have hns52_0 := NB212_218.out
              have hms52_0 := NB218_212.out
              refine skip_ (w1 := ?_) (by rfl) rfl ?_ ?_
              rotate_left
              ·
               go_simp
               rfl
              refine hK.out _ _ ?_
              clear hK K
              refine done_ (done_of HT_.out (by kernel_rfl)) ?_
              try go_wp2
              go_roundg k2
              case measure => have := HK1.out; have := HK2.out; omega
              case rel => exact ⟨(wrap64 (x8_2 + 1)), (y232), (.slice Ao51 y232.length co51), tx_, H', ⟨by have := HK1.out; have := HK2.out; omega⟩, ⟨by refine qR_ ?_; exact Kd.R_mono (Kd.R_far (p := ⟨gb218, 2, none⟩) (Kd.R_types HO_4.out BK218.out (by decide)) (fun _ hk => hk.2) (.slice Ao51 y232.length co51)) (fun _ hk => trivial)⟩, ⟨by refine qR_ ?_; exact Kd.R_mono (Kd.R_far (p := ⟨gb218, 2, none⟩) (Kd.R_types HO_219000.out BK218.out (by decide)) (fun _ hk => hk.2) (.slice Ao51 y232.length co51)) (fun _ hk => hk.1.2)⟩, ⟨by refine qR_ ?_; exact Kd.R_mono (Kd.R_far (p := ⟨gb218, 2, none⟩) (Kd.R_types HO234.out BK218.out (by decide)) (fun _ hk => hk.2) (.slice Ao51 y232.length co51)) (fun _ hk => hk.1)⟩, ⟨tk_ BK212.out⟩, ⟨by refine bq_ ?_; refine blk_put (cs := #[u219000, .int .i64 t217, u219002]) ?_ 2 _ rfl; exact tk_ BK218.out⟩, ⟨(tb_ HB.out)⟩⟩
             ·
              rw [if_neg c48] at H
              exact absurd H (by simp)
            ·
             rw [if_neg c46] at H
             exact absurd H (by simp)
          ·
           rw [if_neg c26] at H
           have c26b0 : decide (x8_2 < ((rdOf ByteArray.empty t213 2).size : Int)) = false := decide_eq_false c26
           clear c26
           by_cases c53 : a0.toList = ([] : List UInt8)
           ·
            rw [if_pos c53] at H
            have c53b0 : (a0.toList == ([] : List UInt8)) = true := beq_iff_eq.mpr c53
            have c53b1 : (a0.toList != ([] : List UInt8)) = false := bne_eq_false_iff_eq.mpr c53
            clear c53
            simp only [Option.some.injEq, Prod.mk.injEq] at H
            obtain ⟨rfl, rfl, rfl, rfl⟩ := H
            have p228 : 0 ≤ (2 : Int) := (by omega)
            have q228 : 2 < (t213.length : Int) := od_
            obtain ⟨ad228, e228, hx228_0⟩ := Kd.at_string (Kd.R_reads' HO_4.out).2.2 2 p228 q228
            obtain rfl : ad216 = ad228 := (by injection e228)
            (try simp only [show (2 : Int).toNat = 2 from rfl, Nat.reduceMul, Nat.reduceEqDiff, Go.Addr.add, ↓reduceIte] at hx228_0)
            have qi228 : (2 < t213.length) = True := eq_true (by omega)
            (try rw [show ((2 : Int)).toNat = 2 from rfl] at hx228_0)
            replace p228 := eq_true p228
            replace q228 := eq_true q228
            have hnb54 := NB212_218.out
            have hnc54 := NB218_212.out
            have hcz55_0 : wr.cell? ⟨gb212, 0, none⟩ = some (.slice none 0 0) := (blk_cell BK212.out 0).trans rfl
            have hcz55_1 : wr.cell? ⟨gb212, 1, none⟩ = some (.int .i64 0) := (blk_cell BK212.out 1).trans rfl
            have hcz55_2 : wr.cell? ⟨gb212, 2, none⟩ = some (.slice none 0 0) := (blk_cell BK212.out 2).trans rfl
            have hfz55_0 := blk_frozen BK212.out 0
            have hfz55_1 := blk_frozen BK212.out 1
            have hfz55_2 := blk_frozen BK212.out 2
            go_wp2
            refine bodyPost_ret (results_ct rfl _ _ gb212 25 #[.slice none 0 0, .int .i64 0, .slice none 0 0] (0, 0) _ rfl (by refine bq_ ?_; refine blk_put (cs := #[.slice none 0 0, .int .i64 0, .slice none 0 0]) ?_ 2 _ rfl; refine bq_ ?_; refine blk_put (cs := #[.slice none 0 0, .int .i64 0, .slice none 0 0]) ?_ 1 _ rfl; refine bq_ ?_; refine blk_put (cs := #[.slice none 0 0, .int .i64 0, .slice none 0 0]) ?_ 0 _ rfl; exact tk_ BK212.out) Tryd.underlying25 rfl (by kernel_rfl)) rfl ?_
            exact ⟨_, _, by first | rfl | (simp [errW_none, errW_some, Option.map_none, Option.map_some] <;> rfl) | (simp [*, errW_none, errW_some] <;> rfl), by first | exact Kd.R_nil _ _ _ _ _ | exact Kd.N_nil _ _ _ _ _ | exact Kd.V_nil _ _ _ _ _ | exact Kd.Q_nil _ _ _ _ _ | exact Kd.S_nil _ _ _ _ _, by first | exact Kd.R_nil _ _ _ _ _ | exact Kd.N_nil _ _ _ _ _ | exact Kd.V_nil _ _ _ _ _ | exact Kd.Q_nil _ _ _ _ _ | exact Kd.S_nil _ _ _ _ _, (tb_ HB.out)⟩
           ·
            rw [if_neg c53] at H
            have c53b0 : (a0.toList == ([] : List UInt8)) = false := beq_eq_false_iff_ne.mpr c53
            have c53b1 : (a0.toList != ([] : List UInt8)) = true := bne_iff_ne.mpr c53
            replace H := Option.bind_eq_some_iff.mp H
            obtain ⟨t235, A560, H⟩ := H
            replace H : (if t235.toList = a0.toList then (some (x219000_1, t217, x219002_2, true)) else (some (([] : List Int), 0, ([] : List Int), false))) = some (r1, r2, r3, r4) := H
            have A56 := Aside0.mk A560
            clear A560
            by_cases c57 : t235.toList = a0.toList
            ·
             rw [if_pos c57] at H
             have c57b0 : (t235.toList == a0.toList) = true := beq_iff_eq.mpr c57
             have c57b1 : (t235.toList != a0.toList) = false := bne_eq_false_iff_eq.mpr c57
             clear c57
             simp only [Option.some.injEq, Prod.mk.injEq] at H
             obtain ⟨rfl, rfl, rfl, rfl⟩ := H
             have p228 : 0 ≤ (2 : Int) := (by omega)
             have q228 : 2 < (t213.length : Int) := od_
             obtain ⟨ad228, e228, hx228_0⟩ := Kd.at_string (Kd.R_reads' HO_4.out).2.2 2 p228 q228
             obtain rfl : ad216 = ad228 := (by injection e228)
             (try simp only [show (2 : Int).toNat = 2 from rfl, Nat.reduceMul, Nat.reduceEqDiff, Go.Addr.add, ↓reduceIte] at hx228_0)
             have qi228 : (2 < t213.length) = True := eq_true (by omega)
             (try rw [show ((2 : Int)).toNat = 2 from rfl] at hx228_0)
             replace p228 := eq_true p228
             replace q228 := eq_true q228
             have hnb58 := NB218_212.out
             have hnc58 := NB212_218.out
             have hcz59_0 : wr.cell? ⟨gb218, 0, none⟩ = some (u219000) := (blk_cell BK218.out 0).trans rfl
             have hcz59_1 : wr.cell? ⟨gb218, 1, none⟩ = some (.int .i64 t217) := (blk_cell BK218.out 1).trans rfl
             have hcz59_2 : wr.cell? ⟨gb218, 2, none⟩ = some (u219002) := (blk_cell BK218.out 2).trans rfl
             have hfz59_0 := blk_frozen BK218.out 0
             have hfz59_1 := blk_frozen BK218.out 1
             have hfz59_2 := blk_frozen BK218.out 2
             obtain ⟨Ao60, co60, eo60⟩ := Kd.R_slice HO_219000.out
             subst eo60
             obtain ⟨Ao61, co61, eo61⟩ := Kd.R_slice HO_219002.out
             subst eo61
             go_wp2_with (first | (go_at_call 62; (with_reducible refine (spec_PlaceText.calls k2 _ _ x219000_1 t217 _ _ x219002_2 t235 _ ?side1 ?side2 ?side3 ?side4 A56.out).mono ?_); (case side1 => repeat (first | exact (Kd.R_reads' HO_219000.out).2.2 | (with_reducible refine Kd.C_alloc ?_ _) | (with_reducible refine Kd.C_drewN ?_ _) | (with_reducible refine Kd.C_drew ?_))); (case side2 => exact (Kd.R_reads' HO_219000.out).2.1); (case side3 => repeat (first | exact (Kd.R_reads' HO_219002.out).2.2 | (with_reducible refine Kd.C_alloc ?_ _) | (with_reducible refine Kd.C_drewN ?_ _) | (with_reducible refine Kd.C_drew ?_))); (case side4 => exact (Kd.R_reads' HO_219002.out).2.1); rintro e w62 ⟨rfl, hb⟩; have n0_ := Aside0.mk (Kd.R_below (rR_ HO_4.out) hb); have n1_ := Aside0.mk (Kd.R_below (rR_ HO_219000.out) hb); have n2_ := Aside0.mk (Kd.R_below (rR_ HO_219002.out) hb); have n3_ := Aside0.mk (blk_below (g := gb212) (o := .cells #[.slice none 0 0, .int .i64 0, .slice none 0 0] 25 (0, 0)) (tk_ BK212.out) hb); have n4_ := Aside0.mk (blk_below (g := gb218) (o := .cells #[.slice Ao60 x219000_1.length co60, .int .i64 t217, .slice Ao61 x219002_2.length co61] 25 (0, 0)) (tk_ BK218.out) hb); have n5_ := Aside0.mk (below_step (tb_ HB.out) hb); clear HO_4 HO_219000 HO_219002 BK212 BK218 HB; have HO_4 := n0_; have HO_219000 := n1_; have HO_219002 := n2_; have BK212 := n3_; have BK218 := n4_; have HB := n5_; clear n0_ n1_ n2_ n3_ n4_ n5_; (try clear hb); (try clear hb2); (try clear hk); (try clear hi); have hcz63_0 : w62.cell? ⟨gb218, 0, none⟩ = some (.slice Ao60 x219000_1.length co60) := (blk_cell BK218.out 0).trans rfl; have hcz63_1 : w62.cell? ⟨gb218, 1, none⟩ = some (.int .i64 t217) := (blk_cell BK218.out 1).trans rfl; have hcz63_2 : w62.cell? ⟨gb218, 2, none⟩ = some (.slice Ao61 x219002_2.length co61) := (blk_cell BK218.out 2).trans rfl; have hfz63_0 := blk_frozen BK218.out 0; have hfz63_1 := blk_frozen BK218.out 1; have hfz63_2 := blk_frozen BK218.out 2; have hcz64_0 : w62.cell? ⟨gb212, 0, none⟩ = some (.slice none 0 0) := (blk_cell BK212.out 0).trans rfl; have hcz64_1 : w62.cell? ⟨gb212, 1, none⟩ = some (.int .i64 0) := (blk_cell BK212.out 1).trans rfl; have hcz64_2 : w62.cell? ⟨gb212, 2, none⟩ = some (.slice none 0 0) := (blk_cell BK212.out 2).trans rfl; have hfz64_0 := blk_frozen BK212.out 0; have hfz64_1 := blk_frozen BK212.out 1; have hfz64_2 := blk_frozen BK212.out 2))
             refine bodyPost_ret (results_ct rfl _ _ gb212 25 #[.slice Ao60 x219000_1.length co60, .int .i64 t217, .slice Ao61 x219002_2.length co61] (0, 0) _ rfl (by refine bq_ ?_; refine blk_put (cs := #[.slice Ao60 x219000_1.length co60, .int .i64 t217, .slice none 0 0]) ?_ 2 _ rfl; refine bq_ ?_; refine blk_put (cs := #[.slice Ao60 x219000_1.length co60, .int .i64 0, .slice none 0 0]) ?_ 1 _ rfl; refine bq_ ?_; refine blk_put (cs := #[.slice none 0 0, .int .i64 0, .slice none 0 0]) ?_ 0 _ rfl; exact tk_ BK212.out) Tryd.underlying25 rfl (by kernel_rfl)) rfl ?_
             exact ⟨_, _, by first | rfl | (simp [errW_none, errW_some, Option.map_none, Option.map_some] <;> rfl) | (simp [*, errW_none, errW_some] <;> rfl), by refine qR_ ?_; exact Kd.R_mono (Kd.R_far (p := ⟨gb212, 2, none⟩) (Kd.R_far (p := ⟨gb212, 1, none⟩) (Kd.R_far (p := ⟨gb212, 0, none⟩) (Kd.R_types HO_219000.out BK212.out (by decide)) (fun _ hk => hk.2) (.slice Ao60 x219000_1.length co60)) (fun _ hk => hk.2) (.int .i64 t217)) (fun _ hk => hk.2) (.slice Ao61 x219002_2.length co61)) (fun _ hk => hk.1), by refine qR_ ?_; exact Kd.R_mono (Kd.R_far (p := ⟨gb212, 2, none⟩) (Kd.R_far (p := ⟨gb212, 1, none⟩) (Kd.R_far (p := ⟨gb212, 0, none⟩) (Kd.R_types HO_219002.out BK212.out (by decide)) (fun _ hk => hk.2) (.slice Ao60 x219000_1.length co60)) (fun _ hk => hk.2) (.int .i64 t217)) (fun _ hk => hk.2) (.slice Ao61 x219002_2.length co61)) (fun _ hk => hk.1), (tb_ HB.out)⟩
            ·
             rw [if_neg c57] at H
             have c57b0 : (t235.toList == a0.toList) = false := beq_eq_false_iff_ne.mpr c57
             have c57b1 : (t235.toList != a0.toList) = true := bne_iff_ne.mpr c57
             simp only [Option.some.injEq, Prod.mk.injEq] at H
             obtain ⟨rfl, rfl, rfl, rfl⟩ := H
             have p228 : 0 ≤ (2 : Int) := (by omega)
             have q228 : 2 < (t213.length : Int) := od_
             obtain ⟨ad228, e228, hx228_0⟩ := Kd.at_string (Kd.R_reads' HO_4.out).2.2 2 p228 q228
             obtain rfl : ad216 = ad228 := (by injection e228)
             (try simp only [show (2 : Int).toNat = 2 from rfl, Nat.reduceMul, Nat.reduceEqDiff, Go.Addr.add, ↓reduceIte] at hx228_0)
             have qi228 : (2 < t213.length) = True := eq_true (by omega)
             (try rw [show ((2 : Int)).toNat = 2 from rfl] at hx228_0)
             replace p228 := eq_true p228
             replace q228 := eq_true q228
             have hnb65 := NB218_212.out
             have hnc65 := NB212_218.out
             have hcz66_0 : wr.cell? ⟨gb218, 0, none⟩ = some (u219000) := (blk_cell BK218.out 0).trans rfl
             have hcz66_1 : wr.cell? ⟨gb218, 1, none⟩ = some (.int .i64 t217) := (blk_cell BK218.out 1).trans rfl
             have hcz66_2 : wr.cell? ⟨gb218, 2, none⟩ = some (u219002) := (blk_cell BK218.out 2).trans rfl
             have hfz66_0 := blk_frozen BK218.out 0
             have hfz66_1 := blk_frozen BK218.out 1
             have hfz66_2 := blk_frozen BK218.out 2
             obtain ⟨Ao67, co67, eo67⟩ := Kd.R_slice HO_219000.out
             subst eo67
             obtain ⟨Ao68, co68, eo68⟩ := Kd.R_slice HO_219002.out
             subst eo68
             go_wp2_with (first | (go_at_call 62; (with_reducible refine (spec_PlaceText.calls k2 _ _ x219000_1 t217 _ _ x219002_2 t235 _ ?side1 ?side2 ?side3 ?side4 A56.out).mono ?_); (case side1 => repeat (first | exact (Kd.R_reads' HO_219000.out).2.2 | (with_reducible refine Kd.C_alloc ?_ _) | (with_reducible refine Kd.C_drewN ?_ _) | (with_reducible refine Kd.C_drew ?_))); (case side2 => exact (Kd.R_reads' HO_219000.out).2.1); (case side3 => repeat (first | exact (Kd.R_reads' HO_219002.out).2.2 | (with_reducible refine Kd.C_alloc ?_ _) | (with_reducible refine Kd.C_drewN ?_ _) | (with_reducible refine Kd.C_drew ?_))); (case side4 => exact (Kd.R_reads' HO_219002.out).2.1); rintro e w69 ⟨rfl, hb⟩; have n0_ := Aside0.mk (Kd.R_below (rR_ HO_4.out) hb); have n1_ := Aside0.mk (Kd.R_below (rR_ HO_219000.out) hb); have n2_ := Aside0.mk (Kd.R_below (rR_ HO_219002.out) hb); have n3_ := Aside0.mk (blk_below (g := gb212) (o := .cells #[.slice none 0 0, .int .i64 0, .slice none 0 0] 25 (0, 0)) (tk_ BK212.out) hb); have n4_ := Aside0.mk (blk_below (g := gb218) (o := .cells #[.slice Ao67 x219000_1.length co67, .int .i64 t217, .slice Ao68 x219002_2.length co68] 25 (0, 0)) (tk_ BK218.out) hb); have n5_ := Aside0.mk (below_step (tb_ HB.out) hb); clear HO_4 HO_219000 HO_219002 BK212 BK218 HB; have HO_4 := n0_; have HO_219000 := n1_; have HO_219002 := n2_; have BK212 := n3_; have BK218 := n4_; have HB := n5_; clear n0_ n1_ n2_ n3_ n4_ n5_; (try clear hb); (try clear hb2); (try clear hk); (try clear hi); have hcz70_0 : w69.cell? ⟨gb212, 0, none⟩ = some (.slice none 0 0) := (blk_cell BK212.out 0).trans rfl; have hcz70_1 : w69.cell? ⟨gb212, 1, none⟩ = some (.int .i64 0) := (blk_cell BK212.out 1).trans rfl; have hcz70_2 : w69.cell? ⟨gb212, 2, none⟩ = some (.slice none 0 0) := (blk_cell BK212.out 2).trans rfl; have hfz70_0 := blk_frozen BK212.out 0; have hfz70_1 := blk_frozen BK212.out 1; have hfz70_2 := blk_frozen BK212.out 2))
             refine bodyPost_ret (results_ct rfl _ _ gb212 25 #[.slice none 0 0, .int .i64 0, .slice none 0 0] (0, 0) _ rfl (by refine bq_ ?_; refine blk_put (cs := #[.slice none 0 0, .int .i64 0, .slice none 0 0]) ?_ 2 _ rfl; refine bq_ ?_; refine blk_put (cs := #[.slice none 0 0, .int .i64 0, .slice none 0 0]) ?_ 1 _ rfl; refine bq_ ?_; refine blk_put (cs := #[.slice none 0 0, .int .i64 0, .slice none 0 0]) ?_ 0 _ rfl; exact tk_ BK212.out) Tryd.underlying25 rfl (by kernel_rfl)) rfl ?_
             exact ⟨_, _, by first | rfl | (simp [errW_none, errW_some, Option.map_none, Option.map_some] <;> rfl) | (simp [*, errW_none, errW_some] <;> rfl), by first | exact Kd.R_nil _ _ _ _ _ | exact Kd.N_nil _ _ _ _ _ | exact Kd.V_nil _ _ _ _ _ | exact Kd.Q_nil _ _ _ _ _ | exact Kd.S_nil _ _ _ _ _, by first | exact Kd.R_nil _ _ _ _ _ | exact Kd.N_nil _ _ _ _ _ | exact Kd.V_nil _ _ _ _ _ | exact Kd.Q_nil _ _ _ _ _ | exact Kd.S_nil _ _ _ _ _, (tb_ HB.out)⟩
         ·
          rw [if_neg c25] at H
          exact absurd H (by simp)
   ·
    rw [if_neg c6] at H
    exact absurd H (by simp)
  ·
   rw [if_neg c4] at H
   exact absurd H (by simp)
 ·
  rw [if_neg c3] at H
  have c3b0 : ((t213.length : Int) == 3) = false := beq_eq_false_iff_ne.mpr c3
  have c3b1 : ((t213.length : Int) != 3) = true := bne_iff_ne.mpr c3
  simp only [Option.some.injEq, Prod.mk.injEq] at H
  obtain ⟨rfl, rfl, rfl, rfl⟩ := H
  go_enter Tryd.func53, Tryd.ntmps53
  go_wp2_with (first | ((with_reducible refine gate_dst (N := 2) rfl ?_); refine box_event ?hg (N := 2) ?hd (cs := #[.slice none 0 0, .int .i64 0, .slice none 0 0]) (t := 25) ?hr ?_; (case hd => rfl); (case hg => rfl); (case hr => first | (go_simp; done) | (go_simp; rfl)); intro gb212 hg w71 hbox hb; have n0_ := Aside0.mk (below_step (tb_ HB.out) hb); have n1_ := Aside0.mk (hbox); have n2_ := Aside0.mk ((by rw [hg]; exact (below_size (tb_ HB.out)) : w.heap.size ≤ gb212)); have n3_ := Aside0.mk ((by rw [hg]; exact (below_size (tb_ HB.out)) : w.heap.size ≤ gb212)); clear HB; have HB := n0_; have BK212 := n1_; have GW212 := n2_; have GE212 := n3_; clear n0_ n1_ n2_ n3_ hb hbox hg) | ((with_reducible refine gate_callee (f := 91) rfl ?_); refine goesL_ (some 10) rfl rfl Tryd.func91 (by kernel_rfl) rfl #[.string a0, .int .u8 32] rfl tz_ ?_; (with_reducible refine (spec_l1Cut.calls k a0 32 t213 _ A2.out).mono ?_); rintro e w72 ⟨v214, rfl, ho0, hb⟩; refine ⟨_, rfl, ?_⟩; have n0_ := Aside0.mk (Kd.R_lower ho0 (below_size (tb_ HB.out))); have n1_ := Aside0.mk (blk_below (g := gb212) (o := .cells #[.slice none 0 0, .int .i64 0, .slice none 0 0] 25 (0, 0)) (tk_ BK212.out) hb); have n2_ := Aside0.mk (below_step (tb_ HB.out) hb); clear BK212 HB; have HO215 := n0_; have BK212 := n1_; have HB := n2_; clear n0_ n1_ n2_; (try clear hb); (try clear hb2); (try clear hk); (try clear hi); (try clear ho0); obtain ⟨Ao73, co73, eo73⟩ := Kd.R_slice HO215.out; subst eo73; have hcz74_0 : w72.cell? ⟨gb212, 0, none⟩ = some (.slice none 0 0) := (blk_cell BK212.out 0).trans rfl; have hcz74_1 : w72.cell? ⟨gb212, 1, none⟩ = some (.int .i64 0) := (blk_cell BK212.out 1).trans rfl; have hcz74_2 : w72.cell? ⟨gb212, 2, none⟩ = some (.slice none 0 0) := (blk_cell BK212.out 2).trans rfl; have hfz74_0 := blk_frozen BK212.out 0; have hfz74_1 := blk_frozen BK212.out 1; have hfz74_2 := blk_frozen BK212.out 2))
  refine bodyPost_ret (results_ct rfl _ _ gb212 25 #[.slice none 0 0, .int .i64 0, .slice none 0 0] (0, 0) _ rfl (by refine bq_ ?_; refine blk_put (cs := #[.slice none 0 0, .int .i64 0, .slice none 0 0]) ?_ 2 _ rfl; refine bq_ ?_; refine blk_put (cs := #[.slice none 0 0, .int .i64 0, .slice none 0 0]) ?_ 1 _ rfl; refine bq_ ?_; refine blk_put (cs := #[.slice none 0 0, .int .i64 0, .slice none 0 0]) ?_ 0 _ rfl; exact tk_ BK212.out) Tryd.underlying25 rfl (by kernel_rfl)) rfl ?_
  exact ⟨_, _, by first | rfl | (simp [errW_none, errW_some, Option.map_none, Option.map_some] <;> rfl) | (simp [*, errW_none, errW_some] <;> rfl), by first | exact Kd.R_nil _ _ _ _ _ | exact Kd.N_nil _ _ _ _ _ | exact Kd.V_nil _ _ _ _ _ | exact Kd.Q_nil _ _ _ _ _ | exact Kd.S_nil _ _ _ _ _, by first | exact Kd.R_nil _ _ _ _ _ | exact Kd.N_nil _ _ _ _ _ | exact Kd.V_nil _ _ _ _ _ | exact Kd.Q_nil _ _ _ _ _ | exact Kd.S_nil _ _ _ _ _, (tb_ HB.out)⟩

end Go.Proofs.YtlhiienanbpdlaaDoor.MFnReadPlace
