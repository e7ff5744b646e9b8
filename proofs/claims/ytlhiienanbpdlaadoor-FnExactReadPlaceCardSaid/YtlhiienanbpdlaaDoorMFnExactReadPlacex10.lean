/- For the law FnExactReadPlace: walks of the functions that it reaches: each call returns what the plain function beside it tells. The conditions stand in each statement. -/
import Derived.Test.YtlhiienanbpdlaaDoorMFnExactReadPlacex0
import Derived.Test.YtlhiienanbpdlaaDoorMFnExactReadPlacex9
namespace Go.Proofs.YtlhiienanbpdlaaDoor.MFnExactReadPlace
open Go.RowKit Go.Proofs.YtlhiienanbpdlaaDoorW.PrintWords Go.Proofs.YtlhiienanbpdlaaDoorW.PrintLast Go.Proofs.YtlhiienanbpdlaaDoorW.PrintMore
attribute [local go_sem] max2_int min2_int max_two min_two max_three min_three max_four min_four   -- for this text's walks alone
set_option linter.unusedVariables false
set_option linter.unusedSimpArgs false

/-! ### impl_ReadPlace: function 54 -/
mutual
def impl_ReadPlace.l0 : Nat → ByteArray → List ByteArray → List ByteArray → Int → Int → List Int → Int → Option (List Int × Int × List Int × Bool)
 | 0, _, _, _, _, _, _, _ => none
 | k + 1, x0, x4, x21, x22, x23, x300000, x300001 => if x23 < x22 then (if 0 ≤ x23 then (if x23 < (x21.length : Int) then ((strconv_Atoi.f (rdOf ByteArray.empty x21 x23)).bind fun bt305 => (if bt305.2.isNone = true then (if (x300000.length : Int) > 3 then (some (([] : List Int), 0, ([] : List Int), false)) else (if x300000.length < 17592186044416 then (impl_ReadPlace.l0 k x0 x4 x21 x22 (wrap64 (x23 + 1)) (x300000 ++ [bt305.1]) x300001) else (none))) else (some (([] : List Int), 0, ([] : List Int), false)))) else (none)) else (none)) else (if 1 < (x4.length : Int) then ((strconv_Atoi.f (rdOf ByteArray.empty x4 1)).bind fun bt312 => (if 2 < (x4.length : Int) then (if (rdOf ByteArray.empty x4 2).toList = ([46] : List UInt8) then ((impl_PlaceText.f k x300000 bt312.1 ([] : List Int)).bind fun t315 => (if t315.toList = x0.toList then (some (x300000, bt312.1, ([] : List Int), true)) else (some (([] : List Int), 0, ([] : List Int), false)))) else (impl_ReadPlace.l1 k x0 x4 ((rdOf ByteArray.empty x4 2).size : Int) 0 x300000 bt312.1 ([] : List Int))) else (none))) else (none))
def impl_ReadPlace.l1 : Nat → ByteArray → List ByteArray → Int → Int → List Int → Int → List Int → Option (List Int × Int × List Int × Bool)
 | 0, _, _, _, _, _, _, _ => none
 | k + 1, x0, x4, x63, x64, x300000, x300001, x300002 => if x64 < x63 then (if 2 < (x4.length : Int) then (if 0 ≤ x64 then (if x64 < ((rdOf ByteArray.empty x4 2).size : Int) then (if x300002.length < 17592186044416 then (impl_ReadPlace.l1 k x0 x4 x63 (wrap64 (x64 + 1)) x300000 x300001 (x300002 ++ [wrap64 ((wrap64 (bt (rdOf ByteArray.empty x4 2) x64)) - 97)])) else (none)) else (none)) else (none)) else (none)) else ((impl_PlaceText.f k x300000 x300001 x300002).bind fun t321 => (if t321.toList = x0.toList then (some (x300000, x300001, x300002, true)) else (some (([] : List Int), 0, ([] : List Int), false))))
end
def impl_ReadPlace.f (k : Nat) (a0 : ByteArray) : Option (List Int × Int × List Int × Bool) := (strings_Split.f a0 (⟨#[32]⟩ : ByteArray)).bind fun t296 => (if (t296.length : Int) = 3 then (if 0 < (t296.length : Int) then ((strings_Split.f (rdOf ByteArray.empty t296 0) (⟨#[44]⟩ : ByteArray)).bind fun t301 => (impl_ReadPlace.l0 k a0 t296 t301 (t301.length : Int) 0 ([] : List Int) 0)) else (none)) else (some (([] : List Int), 0, ([] : List Int), false)))
theorem impl_ReadPlace.mono_l : ∀ k, (∀ y0 y1 y2 y3 y4 y5 y6, LeO (impl_ReadPlace.l0 k y0 y1 y2 y3 y4 y5 y6) (impl_ReadPlace.l0 (k + 1) y0 y1 y2 y3 y4 y5 y6)) ∧ (∀ y0 y1 y2 y3 y4 y5 y6, LeO (impl_ReadPlace.l1 k y0 y1 y2 y3 y4 y5 y6) (impl_ReadPlace.l1 (k + 1) y0 y1 y2 y3 y4 y5 y6))
 | 0 => ⟨fun _ _ _ _ _ _ _ r h => by simp [impl_ReadPlace.l0] at h, fun _ _ _ _ _ _ _ r h => by simp [impl_ReadPlace.l1] at h⟩
 | k + 1 => by
  obtain ⟨ih0, ih1⟩ := impl_ReadPlace.mono_l k
  refine ⟨?_, ?_⟩
  ·
   intro y0 y1 y2 y3 y4 y5 y6
   unfold impl_ReadPlace.l0
   repeat' first
   | (with_reducible exact ih0 _ _ _ _ _ _ _)
   | (with_reducible exact ih1 _ _ _ _ _ _ _)
   | (with_reducible exact impl_PlaceText.mono _ _ _ _)
   | (with_reducible exact LeO.refl _)
   | (with_reducible exact LeO.none _)
   | (with_reducible refine LeO.ite ?_ ?_)
   | (with_reducible refine LeO.bind ?_ (fun _ => ?_))
   | exact ih0 _ _ _ _ _ _ _
   | exact ih1 _ _ _ _ _ _ _
   | exact impl_PlaceText.mono _ _ _ _
   | exact LeO.none _
   | refine LeO.ite ?_ ?_
   | refine LeO.bind ?_ (fun _ => ?_)
  ·
   intro y0 y1 y2 y3 y4 y5 y6
   unfold impl_ReadPlace.l1
   repeat' first
   | (with_reducible exact ih0 _ _ _ _ _ _ _)
   | (with_reducible exact ih1 _ _ _ _ _ _ _)
   | (with_reducible exact impl_PlaceText.mono _ _ _ _)
   | (with_reducible exact LeO.refl _)
   | (with_reducible exact LeO.none _)
   | (with_reducible refine LeO.ite ?_ ?_)
   | (with_reducible refine LeO.bind ?_ (fun _ => ?_))
   | exact ih0 _ _ _ _ _ _ _
   | exact ih1 _ _ _ _ _ _ _
   | exact impl_PlaceText.mono _ _ _ _
   | exact LeO.none _
   | refine LeO.ite ?_ ?_
   | refine LeO.bind ?_ (fun _ => ?_)
theorem impl_ReadPlace.mono : ∀ a0 k, LeO (impl_ReadPlace.f k a0) (impl_ReadPlace.f (k + 1) a0) := by
 intro a0 k
 obtain ⟨ih0, ih1⟩ := impl_ReadPlace.mono_l k
 unfold impl_ReadPlace.f
 repeat' first
   | (with_reducible exact ih0 _ _ _ _ _ _ _)
   | (with_reducible exact ih1 _ _ _ _ _ _ _)
   | (with_reducible exact impl_PlaceText.mono _ _ _ _)
   | (with_reducible exact LeO.refl _)
   | (with_reducible exact LeO.none _)
   | (with_reducible refine LeO.ite ?_ ?_)
   | (with_reducible refine LeO.bind ?_ (fun _ => ?_))
   | exact ih0 _ _ _ _ _ _ _
   | exact ih1 _ _ _ _ _ _ _
   | exact impl_PlaceText.mono _ _ _ _
   | exact LeO.none _
   | refine LeO.ite ?_ ?_
   | refine LeO.bind ?_ (fun _ => ?_)
def impl_ReadPlace.T18 : Bool × List (List Nat × List Nat) := (true, [([], []), ([0], [0]), ([], []), ([2], [2]), ([3], [3]), ([], []), ([4, 5], [4, 5]), ([6], [6]), ([7], [7]), ([8], [8]), ([1, 9], [1, 9]), ([0, 1, 2, 3, 4, 5, 6, 7, 8, 9, 10], []), ([11, 10, 10, 0, 1, 2, 3, 4, 5, 6, 7, 8, 9, 10], [10, 11])])
def impl_ReadPlace.B18 : List Nat := [0, 1, 0, 4, 12, 0, 60, 124, 252, 508, 1023, 2047, 4095]
theorem impl_ReadPlace.tab18 : rtab .any (opsOf Tryd.f54 18) = impl_ReadPlace.T18 := by kernel_rfl
theorem impl_ReadPlace.bits18 : waitsOk impl_ReadPlace.T18.2 impl_ReadPlace.B18 = true := by kernel_rfl
set_option maxHeartbeats 8000000 in
set_option maxRecDepth 100000 in
theorem impl_ReadPlace.calls (k : Nat) (a0 : ByteArray) (r1 : List Int) (r2 : Int) (r3 : List Int) (r4 : Bool) (w : World) (hG : GWb w) (h : impl_ReadPlace.f k a0 = some (r1, r2, r3, r4)) :
  Calls Tryd.prog 54 #[.string a0] w fun e w' => ∃ v0_ v2_ : Value, e = .returned (.tuple #[.agg #[v0_, .int .i64 r2, v2_], .bool r4]) ∧ Kd.R (Kd.int .i64) 3 w' w.heap.size (fun k_ => some k_ ≠ (v2_ : Value).ownBlock) v0_ r1 ∧ Kd.R (Kd.int .i64) 3 w' w.heap.size (fun k_ => some k_ ≠ (v0_ : Value).ownBlock) v2_ r3 ∧ Below w.heap.size w w' := by
 have HG := Aside0.mk hG
 clear hG
 have hu25 := Tryd.underlying25
 have hu111 := Tryd.underlying111
 have HB := Aside0.mk (Below.refl w.heap.size w)
 have H : ((strings_Split.f a0 (⟨#[32]⟩ : ByteArray)).bind fun t296 => (if (t296.length : Int) = 3 then (if 0 < (t296.length : Int) then ((strings_Split.f (rdOf ByteArray.empty t296 0) (⟨#[44]⟩ : ByteArray)).bind fun t301 => (impl_ReadPlace.l0 k a0 t296 t301 (t301.length : Int) 0 ([] : List Int) 0)) else (none)) else (some (([] : List Int), 0, ([] : List Int), false)))) = some (r1, r2, r3, r4) := h
 clear h
 replace H := Option.bind_eq_some_iff.mp H
 obtain ⟨t296, A20, H⟩ := H
 replace H : (if (t296.length : Int) = 3 then (if 0 < (t296.length : Int) then ((strings_Split.f (rdOf ByteArray.empty t296 0) (⟨#[44]⟩ : ByteArray)).bind fun t301 => (impl_ReadPlace.l0 k a0 t296 t301 (t301.length : Int) 0 ([] : List Int) 0)) else (none)) else (some (([] : List Int), 0, ([] : List Int), false))) = some (r1, r2, r3, r4) := H
 have A2 := Aside0.mk A20
 clear A20
 by_cases c3 : (t296.length : Int) = 3
 ·
  rw [if_pos c3] at H
  have c3b0 : ((t296.length : Int) == 3) = true := beq_iff_eq.mpr c3
  have c3b1 : ((t296.length : Int) != 3) = false := bne_eq_false_iff_eq.mpr c3
  clear c3
  by_cases c4 : 0 < (t296.length : Int)
  ·
   rw [if_pos c4] at H
   have c4b0 : decide (0 < (t296.length : Int)) = true := decide_eq_true c4
   have c4b1 : decide (0 < t296.length) = true := decide_eq_true (by omega)
   clear c4
   replace H := Option.bind_eq_some_iff.mp H
   obtain ⟨t301, A50, H⟩ := H
   replace H : (impl_ReadPlace.l0 k a0 t296 t301 (t301.length : Int) 0 ([] : List Int) 0) = some (r1, r2, r3, r4) := H
   have A5 := Aside0.mk A50
   clear A50
   have H' := Aside0.mk H
   clear H
   go_enter Tryd.func54, Tryd.ntmps54
   go_wp2_with (first | ((with_reducible refine gate_dst (N := 2) rfl ?_); (try (refine gate_guard (by rfl) ?_; dsimp only)); refine box_event ?hg (N := 2) ?hd (cs := #[.slice none 0 0, .int .i64 0, .slice none 0 0]) (t := 25) ?hr ?_; (case hd => rfl); (case hg => rfl); (case hr => first | (go_simp; done) | (go_simp; rfl)); intro gb295 hg w6 hbox hb; have n0_ := Aside0.mk (below_step (tb_ HB.out) hb); have n1_ := Aside0.mk (hbox); have n2_ := Aside0.mk ((by rw [hg]; exact (below_size (tb_ HB.out)) : w.heap.size ≤ gb295)); have n3_ := Aside0.mk ((by rw [hg]; exact (below_size (tb_ HB.out)) : w.heap.size ≤ gb295)); clear HB; have HB := n0_; have BK295 := n1_; have GW295 := n2_; have GE295 := n3_; clear n0_ n1_ n2_ n3_ hb hbox hg) | ((with_reducible refine gate_callee (f := 93) rfl ?_); refine goesL_ (some 12) rfl rfl Tryd.func93 (by kernel_rfl) rfl #[.string a0, .string (⟨#[32]⟩ : ByteArray)] rfl tz_ ?_; (with_reducible refine (strings_Split.calls a0 (⟨#[32]⟩ : ByteArray) t296 _ ?side1 A2.out).mono ?_); (case side1 => exact GWb.below HG.out (tb_ HB.out)); rintro e w7 ⟨v297, rfl, ho0, hb⟩; refine ⟨_, rfl, ?_⟩; have n0_ := Aside0.mk (Kd.R_lower ho0 (below_size (tb_ HB.out))); have n1_ := Aside0.mk (blk_below (g := gb295) (o := .cells #[.slice none 0 0, .int .i64 0, .slice none 0 0] 25 (0, 0)) (tk_ BK295.out) hb); have n2_ := Aside0.mk (below_step (tb_ HB.out) hb); clear BK295 HB; have HO298 := n0_; have BK295 := n1_; have HB := n2_; clear n0_ n1_ n2_; (try clear hb); (try clear hb2); (try clear hk); (try clear hi); (try clear ho0); obtain ⟨Ao8, co8, eo8⟩ := Kd.R_slice HO298.out; subst eo8) | ((with_reducible refine gate_dst (N := 5) rfl ?_); (try (refine gate_guard (by rfl) ?_; dsimp only)); refine box_event ?hg (N := 5) ?hd (cs := #[.slice none 0 0, .int .i64 0, .slice none 0 0]) (t := 25) ?hr ?_; (case hd => rfl); (case hg => rfl); (case hr => first | (go_simp; done) | (go_simp; rfl)); intro gb299 hg w9 hbox hb; have n0_ := Aside0.mk (Kd.R_below (rR_ HO298.out) hb); have n1_ := Aside0.mk (blk_below (g := gb295) (o := .cells #[.slice none 0 0, .int .i64 0, .slice none 0 0] 25 (0, 0)) (tk_ BK295.out) hb); have n2_ := Aside0.mk (below_step (tb_ HB.out) hb); have n3_ := Aside0.mk (hbox); have n4_ := Aside0.mk ((by rw [hg]; exact (below_size (tb_ HB.out)) : w.heap.size ≤ gb299)); have n5_ := Aside0.mk ((by rw [hg]; exact (below_size (tb_ HB.out)) : w.heap.size ≤ gb299)); have n6_ := Aside0.mk ((by rw [hg]; exact Nat.ne_of_lt (blk_lt (g := gb295) (o := .cells #[.slice none 0 0, .int .i64 0, .slice none 0 0] 25 (0, 0)) (tk_ BK295.out)) : gb295 ≠ gb299)); have n7_ := Aside0.mk ((by rw [hg]; exact Nat.ne_of_gt (blk_lt (g := gb295) (o := .cells #[.slice none 0 0, .int .i64 0, .slice none 0 0] 25 (0, 0)) (tk_ BK295.out)) : gb299 ≠ gb295)); clear HO298 BK295 HB; have HO298 := n0_; have BK295 := n1_; have HB := n2_; have BK299 := n3_; have GW299 := n4_; have GE299 := n5_; have NB295_299 := n6_; have NB299_295 := n7_; clear n0_ n1_ n2_ n3_ n4_ n5_ n6_ n7_ hb hbox hg; have hnb10 := NB299_295.out; have hnc10 := NB295_299.out; have hcz11_0 : w9.cell? ⟨gb299, 0, none⟩ = some (.slice none 0 0) := (blk_cell BK299.out 0).trans rfl; have hcz11_1 : w9.cell? ⟨gb299, 1, none⟩ = some (.int .i64 0) := (blk_cell BK299.out 1).trans rfl; have hcz11_2 : w9.cell? ⟨gb299, 2, none⟩ = some (.slice none 0 0) := (blk_cell BK299.out 2).trans rfl; have hfz11_0 := blk_frozen BK299.out 0; have hfz11_1 := blk_frozen BK299.out 1; have hfz11_2 := blk_frozen BK299.out 2; have p300 : 0 ≤ (0 : Int) := (by omega); have q300 : 0 < (t296.length : Int) := od_; obtain ⟨ad300, e300, hx300_0⟩ := Kd.at_string (Kd.R_reads' HO298.out).2.2 0 p300 q300; cases e300; have qi300 : (0 < t296.length) = True := eq_true (by omega); (try rw [show ((0 : Int)).toNat = 0 from rfl] at hx300_0); (try rw [Addr.add_zero'] at hx300_0); have hn300_0 : ad300.block ≠ gb299 := Kd.own_blk (Kd.R_ne HO298.out BK299.out (by decide)); have hn300_1 : ad300.block ≠ gb299 := Kd.own_blk (Kd.R_ne HO298.out BK299.out (by decide)); have hn300_2 : ad300.block ≠ gb299 := Kd.own_blk (Kd.R_ne HO298.out BK299.out (by decide)); replace hx300_0 := (cell_far (p := ⟨gb299, 0, none⟩) (by first | (rw [add_block]; exact hn300_0) | (show (Addr.add _ _).block ≠ _; rw [add_block]; exact hn300_0) | exact hn300_0) (.slice none 0 0)).trans hx300_0; replace hx300_0 := (cell_far (p := ⟨gb299, 1, none⟩) (by first | (rw [add_block]; exact hn300_1) | (show (Addr.add _ _).block ≠ _; rw [add_block]; exact hn300_1) | exact hn300_1) (.int .i64 0)).trans hx300_0; replace hx300_0 := (cell_far (p := ⟨gb299, 2, none⟩) (by first | (rw [add_block]; exact hn300_2) | (show (Addr.add _ _).block ≠ _; rw [add_block]; exact hn300_2) | exact hn300_2) (.slice none 0 0)).trans hx300_0; clear hn300_0 hn300_1 hn300_2; replace p300 := eq_true p300; replace q300 := eq_true q300) | ((with_reducible refine gate_callee (f := 93) rfl ?_); refine goesL_ (some 21) rfl rfl Tryd.func93 (by kernel_rfl) rfl #[.string (rdOf ByteArray.empty t296 0), .string (⟨#[44]⟩ : ByteArray)] rfl tz_ ?_; (with_reducible refine (strings_Split.calls (rdOf ByteArray.empty t296 0) (⟨#[44]⟩ : ByteArray) t301 _ ?side1 A5.out).mono ?_); (case side1 => exact GWb.below HG.out (tb_ HB.out)); rintro e w12 ⟨v302, rfl, ho0, hb⟩; refine ⟨_, rfl, ?_⟩; have n0_ := Aside0.mk (Kd.R_elder' (by refine qR_ ?_; exact (Kd.R_mono (Kd.R_far (p := ⟨gb299, 2, none⟩) (Kd.R_far (p := ⟨gb299, 1, none⟩) (Kd.R_far (p := ⟨gb299, 0, none⟩) (Kd.R_types HO298.out BK299.out (by decide)) (fun _ hk => hk.2) (.slice none 0 0)) (fun _ hk => hk.2) (.int .i64 0)) (fun _ hk => hk.2) (.slice none 0 0)) (fun _ h_ => h_.1))) (Kd.R_base ho0) hb); have n1_ := Aside0.mk (Kd.R_lower (Kd.R_new' ho0 (Kd.R_lt (by refine qR_ ?_; exact (Kd.R_mono (Kd.R_far (p := ⟨gb299, 2, none⟩) (Kd.R_far (p := ⟨gb299, 1, none⟩) (Kd.R_far (p := ⟨gb299, 0, none⟩) (Kd.R_types HO298.out BK299.out (by decide)) (fun _ hk => hk.2) (.slice none 0 0)) (fun _ hk => hk.2) (.int .i64 0)) (fun _ hk => hk.2) (.slice none 0 0)) (fun _ h_ => h_.1))))) (below_size (tb_ HB.out))); have n2_ := Aside0.mk (blk_below (g := gb295) (o := .cells #[.slice none 0 0, .int .i64 0, .slice none 0 0] 25 (0, 0)) (tk_ BK295.out) hb); have n3_ := Aside0.mk (blk_below (g := gb299) (o := .cells #[.slice none 0 0, .int .i64 0, .slice none 0 0] 25 (0, 0)) (by refine bq_ ?_; refine blk_put (cs := #[.slice none 0 0, .int .i64 0, .slice none 0 0]) ?_ 2 _ rfl; refine bq_ ?_; refine blk_put (cs := #[.slice none 0 0, .int .i64 0, .slice none 0 0]) ?_ 1 _ rfl; refine bq_ ?_; refine blk_put (cs := #[.slice none 0 0, .int .i64 0, .slice none 0 0]) ?_ 0 _ rfl; exact tk_ BK299.out) hb); have n4_ := Aside0.mk (below_step (tb_ HB.out) hb); clear HO298 BK295 BK299 HB; have HO298 := n0_; have HO303 := n1_; have BK295 := n2_; have BK299 := n3_; have HB := n4_; clear n0_ n1_ n2_ n3_ n4_; (try clear hb); (try clear hb2); (try clear hk); (try clear hi); (try clear ho0); obtain ⟨Ao13, co13, eo13⟩ := Kd.R_slice HO303.out; subst eo13))
   go_loopg [23] k (fun kq v23 w' => ∃ (x23_1 : Int) (x296001_1 : Int) (x300000_1 : List Int) (u300000 : Value), v23 = .int .i64 x23_1 ∧ Aside0 (impl_ReadPlace.l0 kq a0 t296 t301 (t301.length : Int) x23_1 x300000_1 0 = some (r1, r2, r3, r4)) ∧ Aside0 (kq ≤ k) ∧ Aside0 (Kd.R Kd.string 9 w' w.heap.size (fun k_ => some k_ ≠ ((.slice Ao13 t301.length co13) : Value).ownBlock) (.slice (some ad300) t296.length co8) t296) ∧ Aside0 (Kd.R Kd.string 9 w' w.heap.size (fun k_ => some k_ ≠ ((.slice (some ad300) t296.length co8) : Value).ownBlock) (.slice Ao13 t301.length co13) t301) ∧ Aside0 (Kd.R (Kd.int .i64) 3 w' w.heap.size (fun _ => True) u300000 x300000_1) ∧ Aside0 (w'.heap[gb295]? = some (.cells #[(.slice none 0 0), .int .i64 x296001_1, (.slice none 0 0)] 25 (0, 0))) ∧ Aside0 (w'.heap[gb299]? = some (.cells #[u300000, .int .i64 0, (.slice none 0 0)] 25 (0, 0))) ∧ Aside0 (Below w.heap.size w w'))
   case atStart => exact ⟨(0), (0), (([] : List Int)), (.slice none 0 0), tx_, H', ⟨Nat.le_refl _⟩, ⟨by refine qR_ ?_; exact Kd.R_mono HO298.out (fun _ hk => hk.2)⟩, ⟨by refine qR_ ?_; exact Kd.R_mono HO303.out (fun _ hk => hk.2)⟩, ⟨by first | exact Kd.R_nil _ _ _ _ _ | exact Kd.N_nil _ _ _ _ _ | exact Kd.V_nil _ _ _ _ _ | exact Kd.Q_nil _ _ _ _ _ | exact Kd.S_nil _ _ _ _ _⟩, ⟨tk_ BK295.out⟩, ⟨tk_ BK299.out⟩, ⟨(tb_ HB.out)⟩⟩
   case round =>
    clear H'
    try clear c1
    try clear p2
    try clear c3
    try clear c3b0
    try clear c3b1
    try clear p3
    try clear q3
    try clear hx3
    try clear qi3
    try clear c4
    try clear c4b0
    try clear c4b1
    try clear c5
    try clear c9
    try clear c10
    try clear hcz11_0
    try clear hcz11_1
    try clear hcz11_2
    try clear hfz11_0
    try clear hfz11_1
    try clear hfz11_2
    try clear hx300_0
    try clear p300
    try clear q300
    obtain ⟨x23_1, x296001_1, x300000_1, u300000, rfl, HA, HK1, HO_4, HO_21, HO_300000, BK295, BK299, HB⟩ := hrel
    cases gk with
    | zero => exact absurd HA.out (by simp [impl_ReadPlace.l0])
    | succ k1 =>
     have H := HA.out
     clear HA
     simp only [impl_ReadPlace.l0] at H
     by_cases c14 : x23_1 < (t301.length : Int)
     ·
      rw [if_pos c14] at H
      have c14b0 : decide (x23_1 < (t301.length : Int)) = true := decide_eq_true c14
      clear c14
      by_cases c15 : 0 ≤ x23_1
      ·
       rw [if_pos c15] at H
       have c15b0 : decide (0 ≤ x23_1) = true := decide_eq_true c15
       clear c15
       by_cases c16 : x23_1 < (t301.length : Int)
       ·
        rw [if_pos c16] at H
        have c16b0 : decide (x23_1 < (t301.length : Int)) = true := decide_eq_true c16
        clear c16
        replace H := Option.bind_eq_some_iff.mp H
        obtain ⟨⟨t305, t306⟩, A170, H⟩ := H
        replace H : (if t306.isNone = true then (if (x300000_1.length : Int) > 3 then (some (([] : List Int), 0, ([] : List Int), false)) else (if x300000_1.length < 17592186044416 then (impl_ReadPlace.l0 k1 a0 t296 t301 (t301.length : Int) (wrap64 (x23_1 + 1)) (x300000_1 ++ [t305]) 0) else (none))) else (some (([] : List Int), 0, ([] : List Int), false))) = some (r1, r2, r3, r4) := H
        have A17 := Aside0.mk A170
        clear A170
        rcases t306 with _ | q307
        ·
         have H1 : (if (x300000_1.length : Int) > 3 then (some (([] : List Int), 0, ([] : List Int), false)) else (if x300000_1.length < 17592186044416 then (impl_ReadPlace.l0 k1 a0 t296 t301 (t301.length : Int) (wrap64 (x23_1 + 1)) (x300000_1 ++ [t305]) 0) else (none))) = some (r1, r2, r3, r4) := by rw [if_pos (show (none : Option Int).isNone = true by rfl)] at H; exact H
         clear H
         have H := H1
         clear H1
         try simp only [errW_none, errW_some, Option.map_none, Option.map_some]
         by_cases c18 : (x300000_1.length : Int) > 3
         ·
          rw [if_pos c18] at H
          have c18b0 : decide (3 < (x300000_1.length : Int)) = true := decide_eq_true c18
          have c18b1 : decide (3 < x300000_1.length) = true := decide_eq_true (by omega)
          clear c18
          simp only [Option.some.injEq, Prod.mk.injEq] at H
          obtain ⟨rfl, rfl, rfl, rfl⟩ := H
          have p304 : 0 ≤ (x23_1 : Int) := od_
          have q304 : x23_1 < (t301.length : Int) := od_
          obtain ⟨ad304, e304, hx304_0⟩ := Kd.at_string (Kd.R_reads' HO_21.out).2.2 x23_1 p304 q304
          cases e304
          replace p304 := eq_true p304
          replace q304 := eq_true q304
          go_wp2_with (first | ((with_reducible refine gate_callee (f := 95) rfl ?_); refine goesL_ (some 29) rfl rfl Tryd.func95 (by kernel_rfl) rfl #[.string (rdOf ByteArray.empty t301 x23_1)] rfl tz_ ?_; (with_reducible refine (strconv_Atoi.calls (rdOf ByteArray.empty t301 x23_1) t305 none _ ?side1 A17.out).mono ?_); (case side1 => exact GWb.below HG.out (tb_ HB.out)); rintro e w19 ⟨N_, rfl, hb⟩; refine ⟨_, rfl, ?_⟩; have n0_ := Aside0.mk (Kd.R_below (rR_ HO_4.out) hb); have n1_ := Aside0.mk (Kd.R_below (rR_ HO_21.out) hb); have n2_ := Aside0.mk (Kd.R_below (rR_ HO_300000.out) hb); have n3_ := Aside0.mk (blk_below (g := gb295) (o := .cells #[.slice none 0 0, .int .i64 x296001_1, .slice none 0 0] 25 (0, 0)) (tk_ BK295.out) hb); have n4_ := Aside0.mk (blk_below (g := gb299) (o := .cells #[u300000, .int .i64 0, .slice none 0 0] 25 (0, 0)) (tk_ BK299.out) hb); have n5_ := Aside0.mk (below_step (tb_ HB.out) hb); clear HO_4 HO_21 HO_300000 BK295 BK299 HB; have HO_4 := n0_; have HO_21 := n1_; have HO_300000 := n2_; have BK295 := n3_; have BK299 := n4_; have HB := n5_; clear n0_ n1_ n2_ n3_ n4_ n5_; (try clear hb); (try clear hb2); (try clear hk); (try clear hi); (try simp only [errW_none, errW_some, Option.map_none, Option.map_some]); have hnb20 := NB299_295.out; have hnc20 := NB295_299.out; have hcz21_0 : w19.cell? ⟨gb299, 0, none⟩ = some (u300000) := (blk_cell BK299.out 0).trans rfl; have hcz21_1 : w19.cell? ⟨gb299, 1, none⟩ = some (.int .i64 0) := (blk_cell BK299.out 1).trans rfl; have hcz21_2 : w19.cell? ⟨gb299, 2, none⟩ = some (.slice none 0 0) := (blk_cell BK299.out 2).trans rfl; have hfz21_0 := blk_frozen BK299.out 0; have hfz21_1 := blk_frozen BK299.out 1; have hfz21_2 := blk_frozen BK299.out 2; obtain ⟨Ao22, co22, eo22⟩ := Kd.R_slice HO_300000.out; subst eo22; have hcz23_0 : w19.cell? ⟨gb295, 0, none⟩ = some (.slice none 0 0) := (blk_cell BK295.out 0).trans rfl; have hcz23_1 : w19.cell? ⟨gb295, 1, none⟩ = some (.int .i64 x296001_1) := (blk_cell BK295.out 1).trans rfl; have hcz23_2 : w19.cell? ⟨gb295, 2, none⟩ = some (.slice none 0 0) := (blk_cell BK295.out 2).trans rfl; have hfz23_0 := blk_frozen BK295.out 0; have hfz23_1 := blk_frozen BK295.out 1; have hfz23_2 := blk_frozen BK295.out 2))
          refine bodyPost_ret (results_ct rfl _ _ gb295 25 #[.slice none 0 0, .int .i64 0, .slice none 0 0] (0, 0) _ rfl (by refine bq_ ?_; refine blk_put (cs := #[.slice none 0 0, .int .i64 0, .slice none 0 0]) ?_ 2 _ rfl; refine bq_ ?_; refine blk_put (cs := #[.slice none 0 0, .int .i64 x296001_1, .slice none 0 0]) ?_ 1 _ rfl; refine bq_ ?_; refine blk_put (cs := #[.slice none 0 0, .int .i64 x296001_1, .slice none 0 0]) ?_ 0 _ rfl; exact tk_ BK295.out) Tryd.underlying25 rfl (by kernel_rfl)) rfl ?_
          exact ⟨_, _, by first | rfl | (simp [errW_none, errW_some, Option.map_none, Option.map_some] <;> rfl) | (simp [*, errW_none, errW_some] <;> rfl), by first | exact Kd.R_nil _ _ _ _ _ | exact Kd.N_nil _ _ _ _ _ | exact Kd.V_nil _ _ _ _ _ | exact Kd.Q_nil _ _ _ _ _ | exact Kd.S_nil _ _ _ _ _, by first | exact Kd.R_nil _ _ _ _ _ | exact Kd.N_nil _ _ _ _ _ | exact Kd.V_nil _ _ _ _ _ | exact Kd.Q_nil _ _ _ _ _ | exact Kd.S_nil _ _ _ _ _, (tb_ HB.out)⟩
         ·
          rw [if_neg c18] at H
          have c18b0 : decide (3 < (x300000_1.length : Int)) = false := decide_eq_false c18
          have c18b1 : decide (3 < x300000_1.length) = false := decide_eq_false (by omega)
          clear c18
          by_cases c24 : x300000_1.length < 17592186044416
          ·
           rw [if_pos c24] at H
           have LMc24 := Aside0.mk c24
           clear c24
           obtain ⟨y308, hy308⟩ : ∃ y_ : List Int, y_ = (x300000_1 ++ [t305]) := ⟨_, rfl⟩
           replace H : (impl_ReadPlace.l0 k1 a0 t296 t301 (t301.length : Int) (wrap64 (x23_1 + 1)) y308 0) = some (r1, r2, r3, r4) := by first | (rw [hy308]; with_reducible exact H) | (have H2_ := (Option.bind_some _ _).symm.trans H; rw [hy308]; with_reducible exact H2_) | (have H2_ := (Option.bind_some _ _).symm.trans H; with_reducible exact H2_) | with_reducible exact H | (rw [hy308]; exact H) | exact H
           have Ny308 := Aside0.mk hy308
           clear hy308
           have H' := Aside0.mk H
           clear H
           have p304 : 0 ≤ (x23_1 : Int) := od_
           have q304 : x23_1 < (t301.length : Int) := od_
           obtain ⟨ad304, e304, hx304_0⟩ := Kd.at_string (Kd.R_reads' HO_21.out).2.2 x23_1 p304 q304
           cases e304
           replace p304 := eq_true p304
           replace q304 := eq_true q304
           go_wp2_with (first | ((with_reducible refine gate_callee (f := 95) rfl ?_); refine goesL_ (some 29) rfl rfl Tryd.func95 (by kernel_rfl) rfl #[.string (rdOf ByteArray.empty t301 x23_1)] rfl tz_ ?_; (with_reducible refine (strconv_Atoi.calls (rdOf ByteArray.empty t301 x23_1) t305 none _ ?side1 A17.out).mono ?_); (case side1 => exact GWb.below HG.out (tb_ HB.out)); rintro e w25 ⟨N_, rfl, hb⟩; refine ⟨_, rfl, ?_⟩; have n0_ := Aside0.mk (Kd.R_below (rR_ HO_4.out) hb); have n1_ := Aside0.mk (Kd.R_below (rR_ HO_21.out) hb); have n2_ := Aside0.mk (Kd.R_below (rR_ HO_300000.out) hb); have n3_ := Aside0.mk (blk_below (g := gb295) (o := .cells #[.slice none 0 0, .int .i64 x296001_1, .slice none 0 0] 25 (0, 0)) (tk_ BK295.out) hb); have n4_ := Aside0.mk (blk_below (g := gb299) (o := .cells #[u300000, .int .i64 0, .slice none 0 0] 25 (0, 0)) (tk_ BK299.out) hb); have n5_ := Aside0.mk (below_step (tb_ HB.out) hb); clear HO_4 HO_21 HO_300000 BK295 BK299 HB; have HO_4 := n0_; have HO_21 := n1_; have HO_300000 := n2_; have BK295 := n3_; have BK299 := n4_; have HB := n5_; clear n0_ n1_ n2_ n3_ n4_ n5_; (try clear hb); (try clear hb2); (try clear hk); (try clear hi); (try simp only [errW_none, errW_some, Option.map_none, Option.map_some]); have hnb26 := NB299_295.out; have hnc26 := NB295_299.out; have hcz27_0 : w25.cell? ⟨gb299, 0, none⟩ = some (u300000) := (blk_cell BK299.out 0).trans rfl; have hcz27_1 : w25.cell? ⟨gb299, 1, none⟩ = some (.int .i64 0) := (blk_cell BK299.out 1).trans rfl; have hcz27_2 : w25.cell? ⟨gb299, 2, none⟩ = some (.slice none 0 0) := (blk_cell BK299.out 2).trans rfl; have hfz27_0 := blk_frozen BK299.out 0; have hfz27_1 := blk_frozen BK299.out 1; have hfz27_2 := blk_frozen BK299.out 2; obtain ⟨Ao28, co28, eo28⟩ := Kd.R_slice HO_300000.out; subst eo28) | ((with_reducible refine gate_builtin (b := .append) (xs := #[.tmp 42, .tmp 44]) rfl ?_); (try (refine gate_guard (by rfl) ?_; dsimp only)); at_builtin; refine Kd.R_append (Kd.int .i64) (w0 := w) w.heap.size rfl (.tmp 42) (.tmp 44) 23 3 (.int .i64 0) 8 rfl Tryd.underlying23 info3 rfl (by decide) (by omega) (.slice Ao28 x300000_1.length co28) x300000_1 t305 [.int .i64 t305] (fun _ => True) (fun _ => False) rfl rfl ?aP (fun _ hk => hk.elim) ?aF ?aO ?aB ?aS ?aL ?_; (case aP => exact rfl); (case aB => exact (tb_ HB.out)); (case aF => exact (fun _ _ => trivial)); (case aO => exact (rR_ HO_300000.out)); (case aS => exact (below_size (tb_ HB.out))); (case aL => have := LMc24.out; omega); intro v309 w29 ho hb hg hat; rw [← Ny308.out] at ho; have n0_ := Aside0.mk (Kd.R_over' (rR_ HO_4.out) (Kd.R_typed (rR_ HO_300000.out)) (by decide) hg); have n1_ := Aside0.mk (Kd.R_over' (rR_ HO_21.out) (Kd.R_typed (rR_ HO_300000.out)) (by decide) hg); have n2_ := Aside0.mk (blk_grown (g := gb295) (o := .cells #[.slice none 0 0, .int .i64 x296001_1, .slice none 0 0] 25 (0, 0)) (tk_ BK295.out) hg (Kd.R_ne HO_300000.out BK295.out (by decide))); have n3_ := Aside0.mk (blk_grown (g := gb299) (o := .cells #[.slice Ao28 x300000_1.length co28, .int .i64 0, .slice none 0 0] 25 (0, 0)) (tk_ BK299.out) hg (Kd.R_ne HO_300000.out BK299.out (by decide))); have n4_ := Aside0.mk (hb); have n5_ := Aside0.mk (ho); clear HO_4 HO_21 BK295 BK299 HB HO_300000; have HO_4 := n0_; have HO_21 := n1_; have BK295 := n2_; have BK299 := n3_; have HB := n4_; have HO310 := n5_; clear n0_ n1_ n2_ n3_ n4_ n5_ ho hb hg hat; obtain ⟨Ao30, co30, eo30⟩ := Kd.R_slice HO310.out; subst eo30; have hcz31_0 : w29.cell? ⟨gb299, 0, none⟩ = some (.slice Ao28 x300000_1.length co28) := (blk_cell BK299.out 0).trans rfl; have hcz31_1 : w29.cell? ⟨gb299, 1, none⟩ = some (.int .i64 0) := (blk_cell BK299.out 1).trans rfl; have hcz31_2 : w29.cell? ⟨gb299, 2, none⟩ = some (.slice none 0 0) := (blk_cell BK299.out 2).trans rfl; have hfz31_0 := blk_frozen BK299.out 0; have hfz31_1 := blk_frozen BK299.out 1; have hfz31_2 := blk_frozen BK299.out 2))
           go_roundg k1
           case measure => have := HK1.out; omega
           case rel => exact ⟨(wrap64 (x23_1 + 1)), (x296001_1), (y308), (.slice Ao30 y308.length co30), tx_, H', ⟨by have := HK1.out; omega⟩, ⟨by refine qR_ ?_; exact Kd.R_mono (Kd.R_far (p := ⟨gb299, 0, none⟩) (Kd.R_types HO_4.out BK299.out (by decide)) (fun _ hk => hk.2) (.slice Ao30 y308.length co30)) (fun _ hk => hk.1)⟩, ⟨by refine qR_ ?_; exact Kd.R_mono (Kd.R_far (p := ⟨gb299, 0, none⟩) (Kd.R_types HO_21.out BK299.out (by decide)) (fun _ hk => hk.2) (.slice Ao30 y308.length co30)) (fun _ hk => hk.1)⟩, ⟨by refine qR_ ?_; exact Kd.R_mono (Kd.R_far (p := ⟨gb299, 0, none⟩) (Kd.R_types HO310.out BK299.out (by decide)) (fun _ hk => hk.2) (.slice Ao30 y308.length co30)) (fun _ hk => trivial)⟩, ⟨tk_ BK295.out⟩, ⟨by refine bq_ ?_; refine blk_put (cs := #[.slice Ao28 x300000_1.length co28, .int .i64 0, .slice none 0 0]) ?_ 0 _ rfl; exact tk_ BK299.out⟩, ⟨(tb_ HB.out)⟩⟩
          ·
           rw [if_neg c24] at H
           exact absurd H (by simp)
        ·
         have H1 : (some (([] : List Int), 0, ([] : List Int), false)) = some (r1, r2, r3, r4) := by rw [if_neg (show ¬ (some q307).isNone = true by simp)] at H; exact H
         clear H
         have H := H1
         clear H1
         try simp only [errW_none, errW_some, Option.map_none, Option.map_some]
         simp only [Option.some.injEq, Prod.mk.injEq] at H
         obtain ⟨rfl, rfl, rfl, rfl⟩ := H
         have p304 : 0 ≤ (x23_1 : Int) := od_
         have q304 : x23_1 < (t301.length : Int) := od_
         obtain ⟨ad304, e304, hx304_0⟩ := Kd.at_string (Kd.R_reads' HO_21.out).2.2 x23_1 p304 q304
         cases e304
         replace p304 := eq_true p304
         replace q304 := eq_true q304
         go_wp2_with (first | ((with_reducible refine gate_callee (f := 95) rfl ?_); refine goesL_ (some 29) rfl rfl Tryd.func95 (by kernel_rfl) rfl #[.string (rdOf ByteArray.empty t301 x23_1)] rfl tz_ ?_; (with_reducible refine (strconv_Atoi.calls (rdOf ByteArray.empty t301 x23_1) t305 (some q307) _ ?side1 A17.out).mono ?_); (case side1 => exact GWb.below HG.out (tb_ HB.out)); rintro e w32 ⟨N_, rfl, hb⟩; refine ⟨_, rfl, ?_⟩; have n0_ := Aside0.mk (Kd.R_below (rR_ HO_4.out) hb); have n1_ := Aside0.mk (Kd.R_below (rR_ HO_21.out) hb); have n2_ := Aside0.mk (Kd.R_below (rR_ HO_300000.out) hb); have n3_ := Aside0.mk (blk_below (g := gb295) (o := .cells #[.slice none 0 0, .int .i64 x296001_1, .slice none 0 0] 25 (0, 0)) (tk_ BK295.out) hb); have n4_ := Aside0.mk (blk_below (g := gb299) (o := .cells #[u300000, .int .i64 0, .slice none 0 0] 25 (0, 0)) (tk_ BK299.out) hb); have n5_ := Aside0.mk (below_step (tb_ HB.out) hb); clear HO_4 HO_21 HO_300000 BK295 BK299 HB; have HO_4 := n0_; have HO_21 := n1_; have HO_300000 := n2_; have BK295 := n3_; have BK299 := n4_; have HB := n5_; clear n0_ n1_ n2_ n3_ n4_ n5_; (try clear hb); (try clear hb2); (try clear hk); (try clear hi); (try simp only [errW_none, errW_some, Option.map_none, Option.map_some]); have hnb33 := NB295_299.out; have hnc33 := NB299_295.out; have hcz34_0 : w32.cell? ⟨gb295, 0, none⟩ = some (.slice none 0 0) := (blk_cell BK295.out 0).trans rfl; have hcz34_1 : w32.cell? ⟨gb295, 1, none⟩ = some (.int .i64 x296001_1) := (blk_cell BK295.out 1).trans rfl; have hcz34_2 : w32.cell? ⟨gb295, 2, none⟩ = some (.slice none 0 0) := (blk_cell BK295.out 2).trans rfl; have hfz34_0 := blk_frozen BK295.out 0; have hfz34_1 := blk_frozen BK295.out 1; have hfz34_2 := blk_frozen BK295.out 2))
         refine bodyPost_ret (results_ct rfl _ _ gb295 25 #[.slice none 0 0, .int .i64 0, .slice none 0 0] (0, 0) _ rfl (by refine bq_ ?_; refine blk_put (cs := #[.slice none 0 0, .int .i64 0, .slice none 0 0]) ?_ 2 _ rfl; refine bq_ ?_; refine blk_put (cs := #[.slice none 0 0, .int .i64 x296001_1, .slice none 0 0]) ?_ 1 _ rfl; refine bq_ ?_; refine blk_put (cs := #[.slice none 0 0, .int .i64 x296001_1, .slice none 0 0]) ?_ 0 _ rfl; exact tk_ BK295.out) Tryd.underlying25 rfl (by kernel_rfl)) rfl ?_
         exact ⟨_, _, by first | rfl | (simp [errW_none, errW_some, Option.map_none, Option.map_some] <;> rfl) | (simp [*, errW_none, errW_some] <;> rfl), by first | exact Kd.R_nil _ _ _ _ _ | exact Kd.N_nil _ _ _ _ _ | exact Kd.V_nil _ _ _ _ _ | exact Kd.Q_nil _ _ _ _ _ | exact Kd.S_nil _ _ _ _ _, by first | exact Kd.R_nil _ _ _ _ _ | exact Kd.N_nil _ _ _ _ _ | exact Kd.V_nil _ _ _ _ _ | exact Kd.Q_nil _ _ _ _ _ | exact Kd.S_nil _ _ _ _ _, (tb_ HB.out)⟩
       ·
        rw [if_neg c16] at H
        exact absurd H (by simp)
      ·
       rw [if_neg c15] at H
       exact absurd H (by simp)
     ·
      rw [if_neg c14] at H
      have c14b0 : decide (x23_1 < (t301.length : Int)) = false := decide_eq_false c14
      clear c14
      by_cases c35 : 1 < (t296.length : Int)
      ·
       rw [if_pos c35] at H
       have c35b0 : decide (1 < (t296.length : Int)) = true := decide_eq_true c35
       have c35b1 : decide (1 < t296.length) = true := decide_eq_true (by omega)
       clear c35
       replace H := Option.bind_eq_some_iff.mp H
       obtain ⟨⟨t312, t313⟩, A360, H⟩ := H
       replace H : (if 2 < (t296.length : Int) then (if (rdOf ByteArray.empty t296 2).toList = ([46] : List UInt8) then ((impl_PlaceText.f k1 x300000_1 t312 ([] : List Int)).bind fun t315 => (if t315.toList = a0.toList then (some (x300000_1, t312, ([] : List Int), true)) else (some (([] : List Int), 0, ([] : List Int), false)))) else (impl_ReadPlace.l1 k1 a0 t296 ((rdOf ByteArray.empty t296 2).size : Int) 0 x300000_1 t312 ([] : List Int))) else (none)) = some (r1, r2, r3, r4) := H
       have A36 := Aside0.mk A360
       clear A360
       by_cases c37 : 2 < (t296.length : Int)
       ·
        rw [if_pos c37] at H
        have c37b0 : decide (2 < (t296.length : Int)) = true := decide_eq_true c37
        have c37b1 : decide (2 < t296.length) = true := decide_eq_true (by omega)
        clear c37
        by_cases c38 : (rdOf ByteArray.empty t296 2).toList = ([46] : List UInt8)
        ·
         rw [if_pos c38] at H
         have c38b0 : ((rdOf ByteArray.empty t296 2).toList == ([46] : List UInt8)) = true := beq_iff_eq.mpr c38
         have c38b1 : ((rdOf ByteArray.empty t296 2).toList != ([46] : List UInt8)) = false := bne_eq_false_iff_eq.mpr c38
         clear c38
         replace H := Option.bind_eq_some_iff.mp H
         obtain ⟨t315, A390, H⟩ := H
         replace H : (if t315.toList = a0.toList then (some (x300000_1, t312, ([] : List Int), true)) else (some (([] : List Int), 0, ([] : List Int), false))) = some (r1, r2, r3, r4) := H
         have A39 := Aside0.mk A390
         clear A390
         by_cases c40 : t315.toList = a0.toList
         ·
          rw [if_pos c40] at H
          have c40b0 : (t315.toList == a0.toList) = true := beq_iff_eq.mpr c40
          have c40b1 : (t315.toList != a0.toList) = false := bne_eq_false_iff_eq.mpr c40
          clear c40
          simp only [Option.some.injEq, Prod.mk.injEq] at H
          obtain ⟨rfl, rfl, rfl, rfl⟩ := H
          have p311 : 0 ≤ (1 : Int) := (by omega)
          have q311 : 1 < (t296.length : Int) := od_
          obtain ⟨ad311, e311, hx311_0⟩ := Kd.at_string (Kd.R_reads' HO_4.out).2.2 1 p311 q311
          obtain rfl : ad300 = ad311 := (by injection e311)
          (try simp only [show (1 : Int).toNat = 1 from rfl, Nat.reduceMul, Nat.reduceEqDiff, Go.Addr.add, ↓reduceIte] at hx311_0)
          have qi311 : (1 < t296.length) = True := eq_true (by omega)
          (try rw [show ((1 : Int)).toNat = 1 from rfl] at hx311_0)
          replace p311 := eq_true p311
          replace q311 := eq_true q311
          go_wp2_with (first | ((with_reducible refine gate_callee (f := 95) rfl ?_); refine goesL_ (some 52) rfl rfl Tryd.func95 (by kernel_rfl) rfl #[.string (rdOf ByteArray.empty t296 1)] rfl tz_ ?_; (with_reducible refine (strconv_Atoi.calls (rdOf ByteArray.empty t296 1) t312 t313 _ ?side1 A36.out).mono ?_); (case side1 => exact GWb.below HG.out (tb_ HB.out)); rintro e w41 ⟨N_, rfl, hb⟩; refine ⟨_, rfl, ?_⟩; have n0_ := Aside0.mk (Kd.R_below (rR_ HO_4.out) hb); have n1_ := Aside0.mk (Kd.R_below (rR_ HO_21.out) hb); have n2_ := Aside0.mk (Kd.R_below (rR_ HO_300000.out) hb); have n3_ := Aside0.mk (blk_below (g := gb295) (o := .cells #[.slice none 0 0, .int .i64 x296001_1, .slice none 0 0] 25 (0, 0)) (tk_ BK295.out) hb); have n4_ := Aside0.mk (blk_below (g := gb299) (o := .cells #[u300000, .int .i64 0, .slice none 0 0] 25 (0, 0)) (tk_ BK299.out) hb); have n5_ := Aside0.mk (below_step (tb_ HB.out) hb); clear HO_4 HO_21 HO_300000 BK295 BK299 HB; have HO_4 := n0_; have HO_21 := n1_; have HO_300000 := n2_; have BK295 := n3_; have BK299 := n4_; have HB := n5_; clear n0_ n1_ n2_ n3_ n4_ n5_; (try clear hb); (try clear hb2); (try clear hk); (try clear hi); (try simp only [errW_none, errW_some, Option.map_none, Option.map_some]); have hnb42 := NB299_295.out; have hnc42 := NB295_299.out; have hcz43_0 : w41.cell? ⟨gb299, 0, none⟩ = some (u300000) := (blk_cell BK299.out 0).trans rfl; have hcz43_1 : w41.cell? ⟨gb299, 1, none⟩ = some (.int .i64 0) := (blk_cell BK299.out 1).trans rfl; have hcz43_2 : w41.cell? ⟨gb299, 2, none⟩ = some (.slice none 0 0) := (blk_cell BK299.out 2).trans rfl; have hfz43_0 := blk_frozen BK299.out 0; have hfz43_1 := blk_frozen BK299.out 1; have hfz43_2 := blk_frozen BK299.out 2; have p314 : 0 ≤ (2 : Int) := (by omega); have q314 : 2 < (t296.length : Int) := od_; obtain ⟨ad314, e314, hx314_0⟩ := Kd.at_string (Kd.R_reads' HO_4.out).2.2 2 p314 q314; obtain rfl : ad300 = ad314 := (by injection e314); (try simp only [show (2 : Int).toNat = 2 from rfl, Nat.reduceMul, Nat.reduceEqDiff, Go.Addr.add, ↓reduceIte] at hx314_0); have qi314 : (2 < t296.length) = True := eq_true (by omega); (try rw [show ((2 : Int)).toNat = 2 from rfl] at hx314_0); have hn314_0 : ad300.block ≠ gb299 := Kd.own_blk (Kd.R_ne HO_4.out BK299.out (by decide)); replace hx314_0 := (cell_far (p := ⟨gb299, 1, none⟩) (by first | (rw [add_block]; exact hn314_0) | (show (Addr.add _ _).block ≠ _; rw [add_block]; exact hn314_0) | exact hn314_0) (.int .i64 t312)).trans hx314_0; clear hn314_0; replace p314 := eq_true p314; replace q314 := eq_true q314; obtain ⟨Ao44, co44, eo44⟩ := Kd.R_slice HO_300000.out; subst eo44) | ((with_reducible refine gate_callee (f := 60) rfl ?_); refine goesL_ (some 81) rfl rfl Tryd.func60 (by kernel_rfl) rfl #[.agg #[.slice Ao44 x300000_1.length co44, .int .i64 t312, .slice none 0 0]] rfl tz_ ?_; (refine (impl_PlaceText.calls k1 _ _ x300000_1 t312 _ _ ([] : List Int) t315 _ ?side1 ?side2 ?side3 ?side4 ?side5 A39.out).mono ?_); (case side1 => refine (Kd.R_reads' (e := 3) (base := w.heap.size) (ok := fun k_ => True) (n := x300000_1.length) (c := co44) ?_).2.2; exact (by refine qR_ ?_; exact (Kd.R_mono (Kd.R_far (p := ⟨gb299, 1, none⟩) (Kd.R_types HO_300000.out BK299.out (by decide)) (fun _ hk => hk.2) (.int .i64 t312)) (fun _ h_ => h_.1)))); (case side2 => exact (Kd.R_reads' HO_300000.out).2.1); (case side3 => exact Kd.C_nil _ _); (case side4 => exact Nat.le_refl _); (case side5 => exact GWb.below HG.out (tb_ HB.out)); rintro e w45 ⟨rfl, hb⟩; refine ⟨_, rfl, ?_⟩; have n0_ := Aside0.mk (Kd.R_below (by refine qR_ ?_; exact (Kd.R_mono (Kd.R_far (p := ⟨gb299, 1, none⟩) (Kd.R_types HO_4.out BK299.out (by decide)) (fun _ hk => hk.2) (.int .i64 t312)) (fun _ h_ => h_.1))) hb); have n1_ := Aside0.mk (Kd.R_below (by refine qR_ ?_; exact (Kd.R_mono (Kd.R_far (p := ⟨gb299, 1, none⟩) (Kd.R_types HO_21.out BK299.out (by decide)) (fun _ hk => hk.2) (.int .i64 t312)) (fun _ h_ => h_.1))) hb); have n2_ := Aside0.mk (Kd.R_below (by refine qR_ ?_; exact (Kd.R_mono (Kd.R_far (p := ⟨gb299, 1, none⟩) (Kd.R_types HO_300000.out BK299.out (by decide)) (fun _ hk => hk.2) (.int .i64 t312)) (fun _ h_ => h_.1))) hb); have n3_ := Aside0.mk (blk_below (g := gb295) (o := .cells #[.slice none 0 0, .int .i64 x296001_1, .slice none 0 0] 25 (0, 0)) (tk_ BK295.out) hb); have n4_ := Aside0.mk (blk_below (g := gb299) (o := .cells #[.slice Ao44 x300000_1.length co44, .int .i64 t312, .slice none 0 0] 25 (0, 0)) (by refine bq_ ?_; refine blk_put (cs := #[.slice Ao44 x300000_1.length co44, .int .i64 0, .slice none 0 0]) ?_ 1 _ rfl; exact tk_ BK299.out) hb); have n5_ := Aside0.mk (below_step (tb_ HB.out) hb); clear HO_4 HO_21 HO_300000 BK295 BK299 HB; have HO_4 := n0_; have HO_21 := n1_; have HO_300000 := n2_; have BK295 := n3_; have BK299 := n4_; have HB := n5_; clear n0_ n1_ n2_ n3_ n4_ n5_; (try clear hb); (try clear hb2); (try clear hk); (try clear hi); have hcz46_0 : w45.cell? ⟨gb299, 0, none⟩ = some (.slice Ao44 x300000_1.length co44) := (blk_cell BK299.out 0).trans rfl; have hcz46_1 : w45.cell? ⟨gb299, 1, none⟩ = some (.int .i64 t312) := (blk_cell BK299.out 1).trans rfl; have hcz46_2 : w45.cell? ⟨gb299, 2, none⟩ = some (.slice none 0 0) := (blk_cell BK299.out 2).trans rfl; have hfz46_0 := blk_frozen BK299.out 0; have hfz46_1 := blk_frozen BK299.out 1; have hfz46_2 := blk_frozen BK299.out 2; have hcz47_0 : w45.cell? ⟨gb295, 0, none⟩ = some (.slice none 0 0) := (blk_cell BK295.out 0).trans rfl; have hcz47_1 : w45.cell? ⟨gb295, 1, none⟩ = some (.int .i64 x296001_1) := (blk_cell BK295.out 1).trans rfl; have hcz47_2 : w45.cell? ⟨gb295, 2, none⟩ = some (.slice none 0 0) := (blk_cell BK295.out 2).trans rfl; have hfz47_0 := blk_frozen BK295.out 0; have hfz47_1 := blk_frozen BK295.out 1; have hfz47_2 := blk_frozen BK295.out 2))
          refine bodyPost_ret (results_ct rfl _ _ gb295 25 #[.slice Ao44 x300000_1.length co44, .int .i64 t312, .slice none 0 0] (0, 0) _ rfl (by refine bq_ ?_; refine blk_put (cs := #[.slice Ao44 x300000_1.length co44, .int .i64 t312, .slice none 0 0]) ?_ 2 _ rfl; refine bq_ ?_; refine blk_put (cs := #[.slice Ao44 x300000_1.length co44, .int .i64 x296001_1, .slice none 0 0]) ?_ 1 _ rfl; refine bq_ ?_; refine blk_put (cs := #[.slice none 0 0, .int .i64 x296001_1, .slice none 0 0]) ?_ 0 _ rfl; exact tk_ BK295.out) Tryd.underlying25 rfl (by kernel_rfl)) rfl ?_
          exact ⟨_, _, by first | rfl | (simp [errW_none, errW_some, Option.map_none, Option.map_some] <;> rfl) | (simp [*, errW_none, errW_some] <;> rfl), by refine qR_ ?_; exact Kd.R_mono (Kd.R_far (p := ⟨gb295, 2, none⟩) (Kd.R_far (p := ⟨gb295, 1, none⟩) (Kd.R_far (p := ⟨gb295, 0, none⟩) (Kd.R_types HO_300000.out BK295.out (by decide)) (fun _ hk => hk.2) (.slice Ao44 x300000_1.length co44)) (fun _ hk => hk.2) (.int .i64 t312)) (fun _ hk => hk.2) (.slice none 0 0)) (fun _ hk => (by simp [Value.ownBlock])), by first | exact Kd.R_nil _ _ _ _ _ | exact Kd.N_nil _ _ _ _ _ | exact Kd.V_nil _ _ _ _ _ | exact Kd.Q_nil _ _ _ _ _ | exact Kd.S_nil _ _ _ _ _, (tb_ HB.out)⟩
         ·
          rw [if_neg c40] at H
          have c40b0 : (t315.toList == a0.toList) = false := beq_eq_false_iff_ne.mpr c40
          have c40b1 : (t315.toList != a0.toList) = true := bne_iff_ne.mpr c40
          simp only [Option.some.injEq, Prod.mk.injEq] at H
          obtain ⟨rfl, rfl, rfl, rfl⟩ := H
          have p311 : 0 ≤ (1 : Int) := (by omega)
          have q311 : 1 < (t296.length : Int) := od_
          obtain ⟨ad311, e311, hx311_0⟩ := Kd.at_string (Kd.R_reads' HO_4.out).2.2 1 p311 q311
          obtain rfl : ad300 = ad311 := (by injection e311)
          (try simp only [show (1 : Int).toNat = 1 from rfl, Nat.reduceMul, Nat.reduceEqDiff, Go.Addr.add, ↓reduceIte] at hx311_0)
          have qi311 : (1 < t296.length) = True := eq_true (by omega)
          (try rw [show ((1 : Int)).toNat = 1 from rfl] at hx311_0)
          replace p311 := eq_true p311
          replace q311 := eq_true q311
          go_wp2_with (first | ((with_reducible refine gate_callee (f := 95) rfl ?_); refine goesL_ (some 52) rfl rfl Tryd.func95 (by kernel_rfl) rfl #[.string (rdOf ByteArray.empty t296 1)] rfl tz_ ?_; (with_reducible refine (strconv_Atoi.calls (rdOf ByteArray.empty t296 1) t312 t313 _ ?side1 A36.out).mono ?_); (case side1 => exact GWb.below HG.out (tb_ HB.out)); rintro e w48 ⟨N_, rfl, hb⟩; refine ⟨_, rfl, ?_⟩; have n0_ := Aside0.mk (Kd.R_below (rR_ HO_4.out) hb); have n1_ := Aside0.mk (Kd.R_below (rR_ HO_21.out) hb); have n2_ := Aside0.mk (Kd.R_below (rR_ HO_300000.out) hb); have n3_ := Aside0.mk (blk_below (g := gb295) (o := .cells #[.slice none 0 0, .int .i64 x296001_1, .slice none 0 0] 25 (0, 0)) (tk_ BK295.out) hb); have n4_ := Aside0.mk (blk_below (g := gb299) (o := .cells #[u300000, .int .i64 0, .slice none 0 0] 25 (0, 0)) (tk_ BK299.out) hb); have n5_ := Aside0.mk (below_step (tb_ HB.out) hb); clear HO_4 HO_21 HO_300000 BK295 BK299 HB; have HO_4 := n0_; have HO_21 := n1_; have HO_300000 := n2_; have BK295 := n3_; have BK299 := n4_; have HB := n5_; clear n0_ n1_ n2_ n3_ n4_ n5_; (try clear hb); (try clear hb2); (try clear hk); (try clear hi); (try simp only [errW_none, errW_some, Option.map_none, Option.map_some]); have hnb49 := NB299_295.out; have hnc49 := NB295_299.out; have hcz50_0 : w48.cell? ⟨gb299, 0, none⟩ = some (u300000) := (blk_cell BK299.out 0).trans rfl; have hcz50_1 : w48.cell? ⟨gb299, 1, none⟩ = some (.int .i64 0) := (blk_cell BK299.out 1).trans rfl; have hcz50_2 : w48.cell? ⟨gb299, 2, none⟩ = some (.slice none 0 0) := (blk_cell BK299.out 2).trans rfl; have hfz50_0 := blk_frozen BK299.out 0; have hfz50_1 := blk_frozen BK299.out 1; have hfz50_2 := blk_frozen BK299.out 2; have p314 : 0 ≤ (2 : Int) := (by omega); have q314 : 2 < (t296.length : Int) := od_; obtain ⟨ad314, e314, hx314_0⟩ := Kd.at_string (Kd.R_reads' HO_4.out).2.2 2 p314 q314; obtain rfl : ad300 = ad314 := (by injection e314); (try simp only [show (2 : Int).toNat = 2 from rfl, Nat.reduceMul, Nat.reduceEqDiff, Go.Addr.add, ↓reduceIte] at hx314_0); have qi314 : (2 < t296.length) = True := eq_true (by omega); (try rw [show ((2 : Int)).toNat = 2 from rfl] at hx314_0); have hn314_0 : ad300.block ≠ gb299 := Kd.own_blk (Kd.R_ne HO_4.out BK299.out (by decide)); replace hx314_0 := (cell_far (p := ⟨gb299, 1, none⟩) (by first | (rw [add_block]; exact hn314_0) | (show (Addr.add _ _).block ≠ _; rw [add_block]; exact hn314_0) | exact hn314_0) (.int .i64 t312)).trans hx314_0; clear hn314_0; replace p314 := eq_true p314; replace q314 := eq_true q314; obtain ⟨Ao51, co51, eo51⟩ := Kd.R_slice HO_300000.out; subst eo51) | ((with_reducible refine gate_callee (f := 60) rfl ?_); refine goesL_ (some 81) rfl rfl Tryd.func60 (by kernel_rfl) rfl #[.agg #[.slice Ao51 x300000_1.length co51, .int .i64 t312, .slice none 0 0]] rfl tz_ ?_; (refine (impl_PlaceText.calls k1 _ _ x300000_1 t312 _ _ ([] : List Int) t315 _ ?side1 ?side2 ?side3 ?side4 ?side5 A39.out).mono ?_); (case side1 => refine (Kd.R_reads' (e := 3) (base := w.heap.size) (ok := fun k_ => True) (n := x300000_1.length) (c := co51) ?_).2.2; exact (by refine qR_ ?_; exact (Kd.R_mono (Kd.R_far (p := ⟨gb299, 1, none⟩) (Kd.R_types HO_300000.out BK299.out (by decide)) (fun _ hk => hk.2) (.int .i64 t312)) (fun _ h_ => h_.1)))); (case side2 => exact (Kd.R_reads' HO_300000.out).2.1); (case side3 => exact Kd.C_nil _ _); (case side4 => exact Nat.le_refl _); (case side5 => exact GWb.below HG.out (tb_ HB.out)); rintro e w52 ⟨rfl, hb⟩; refine ⟨_, rfl, ?_⟩; have n0_ := Aside0.mk (Kd.R_below (by refine qR_ ?_; exact (Kd.R_mono (Kd.R_far (p := ⟨gb299, 1, none⟩) (Kd.R_types HO_4.out BK299.out (by decide)) (fun _ hk => hk.2) (.int .i64 t312)) (fun _ h_ => h_.1))) hb); have n1_ := Aside0.mk (Kd.R_below (by refine qR_ ?_; exact (Kd.R_mono (Kd.R_far (p := ⟨gb299, 1, none⟩) (Kd.R_types HO_21.out BK299.out (by decide)) (fun _ hk => hk.2) (.int .i64 t312)) (fun _ h_ => h_.1))) hb); have n2_ := Aside0.mk (Kd.R_below (by refine qR_ ?_; exact (Kd.R_mono (Kd.R_far (p := ⟨gb299, 1, none⟩) (Kd.R_types HO_300000.out BK299.out (by decide)) (fun _ hk => hk.2) (.int .i64 t312)) (fun _ h_ => h_.1))) hb); have n3_ := Aside0.mk (blk_below (g := gb295) (o := .cells #[.slice none 0 0, .int .i64 x296001_1, .slice none 0 0] 25 (0, 0)) (tk_ BK295.out) hb); have n4_ := Aside0.mk (blk_below (g := gb299) (o := .cells #[.slice Ao51 x300000_1.length co51, .int .i64 t312, .slice none 0 0] 25 (0, 0)) (by refine bq_ ?_; refine blk_put (cs := #[.slice Ao51 x300000_1.length co51, .int .i64 0, .slice none 0 0]) ?_ 1 _ rfl; exact tk_ BK299.out) hb); have n5_ := Aside0.mk (below_step (tb_ HB.out) hb); clear HO_4 HO_21 HO_300000 BK295 BK299 HB; have HO_4 := n0_; have HO_21 := n1_; have HO_300000 := n2_; have BK295 := n3_; have BK299 := n4_; have HB := n5_; clear n0_ n1_ n2_ n3_ n4_ n5_; (try clear hb); (try clear hb2); (try clear hk); (try clear hi); have hcz53_0 : w52.cell? ⟨gb295, 0, none⟩ = some (.slice none 0 0) := (blk_cell BK295.out 0).trans rfl; have hcz53_1 : w52.cell? ⟨gb295, 1, none⟩ = some (.int .i64 x296001_1) := (blk_cell BK295.out 1).trans rfl; have hcz53_2 : w52.cell? ⟨gb295, 2, none⟩ = some (.slice none 0 0) := (blk_cell BK295.out 2).trans rfl; have hfz53_0 := blk_frozen BK295.out 0; have hfz53_1 := blk_frozen BK295.out 1; have hfz53_2 := blk_frozen BK295.out 2))
          refine bodyPost_ret (results_ct rfl _ _ gb295 25 #[.slice none 0 0, .int .i64 0, .slice none 0 0] (0, 0) _ rfl (by refine bq_ ?_; refine blk_put (cs := #[.slice none 0 0, .int .i64 0, .slice none 0 0]) ?_ 2 _ rfl; refine bq_ ?_; refine blk_put (cs := #[.slice none 0 0, .int .i64 x296001_1, .slice none 0 0]) ?_ 1 _ rfl; refine bq_ ?_; refine blk_put (cs := #[.slice none 0 0, .int .i64 x296001_1, .slice none 0 0]) ?_ 0 _ rfl; exact tk_ BK295.out) Tryd.underlying25 rfl (by kernel_rfl)) rfl ?_
          exact ⟨_, _, by first | rfl | (simp [errW_none, errW_some, Option.map_none, Option.map_some] <;> rfl) | (simp [*, errW_none, errW_some] <;> rfl), by first | exact Kd.R_nil _ _ _ _ _ | exact Kd.N_nil _ _ _ _ _ | exact Kd.V_nil _ _ _ _ _ | exact Kd.Q_nil _ _ _ _ _ | exact Kd.S_nil _ _ _ _ _, by first | exact Kd.R_nil _ _ _ _ _ | exact Kd.N_nil _ _ _ _ _ | exact Kd.V_nil _ _ _ _ _ | exact Kd.Q_nil _ _ _ _ _ | exact Kd.S_nil _ _ _ _ _, (tb_ HB.out)⟩
        ·
         rw [if_neg c38] at H
         have c38b0 : ((rdOf ByteArray.empty t296 2).toList == ([46] : List UInt8)) = false := beq_eq_false_iff_ne.mpr c38
         have c38b1 : ((rdOf ByteArray.empty t296 2).toList != ([46] : List UInt8)) = true := bne_iff_ne.mpr c38
         have H' := Aside0.mk H
         clear H
         have p311 : 0 ≤ (1 : Int) := (by omega)
         have q311 : 1 < (t296.length : Int) := od_
         obtain ⟨ad311, e311, hx311_0⟩ := Kd.at_string (Kd.R_reads' HO_4.out).2.2 1 p311 q311
         obtain rfl : ad300 = ad311 := (by injection e311)
         (try simp only [show (1 : Int).toNat = 1 from rfl, Nat.reduceMul, Nat.reduceEqDiff, Go.Addr.add, ↓reduceIte] at hx311_0)
         have qi311 : (1 < t296.length) = True := eq_true (by omega)
         (try rw [show ((1 : Int)).toNat = 1 from rfl] at hx311_0)
         replace p311 := eq_true p311
         replace q311 := eq_true q311
         go_wp2_with (first | ((with_reducible refine gate_callee (f := 95) rfl ?_); refine goesL_ (some 52) rfl rfl Tryd.func95 (by kernel_rfl) rfl #[.string (rdOf ByteArray.empty t296 1)] rfl tz_ ?_; (with_reducible refine (strconv_Atoi.calls (rdOf ByteArray.empty t296 1) t312 t313 _ ?side1 A36.out).mono ?_); (case side1 => exact GWb.below HG.out (tb_ HB.out)); rintro e w54 ⟨N_, rfl, hb⟩; refine ⟨_, rfl, ?_⟩; have n0_ := Aside0.mk (Kd.R_below (rR_ HO_4.out) hb); have n1_ := Aside0.mk (Kd.R_below (rR_ HO_21.out) hb); have n2_ := Aside0.mk (Kd.R_below (rR_ HO_300000.out) hb); have n3_ := Aside0.mk (blk_below (g := gb295) (o := .cells #[.slice none 0 0, .int .i64 x296001_1, .slice none 0 0] 25 (0, 0)) (tk_ BK295.out) hb); have n4_ := Aside0.mk (blk_below (g := gb299) (o := .cells #[u300000, .int .i64 0, .slice none 0 0] 25 (0, 0)) (tk_ BK299.out) hb); have n5_ := Aside0.mk (below_step (tb_ HB.out) hb); clear HO_4 HO_21 HO_300000 BK295 BK299 HB; have HO_4 := n0_; have HO_21 := n1_; have HO_300000 := n2_; have BK295 := n3_; have BK299 := n4_; have HB := n5_; clear n0_ n1_ n2_ n3_ n4_ n5_; (try clear hb); (try clear hb2); (try clear hk); (try clear hi); (try simp only [errW_none, errW_some, Option.map_none, Option.map_some]); have hnb55 := NB299_295.out; have hnc55 := NB295_299.out; have hcz56_0 : w54.cell? ⟨gb299, 0, none⟩ = some (u300000) := (blk_cell BK299.out 0).trans rfl; have hcz56_1 : w54.cell? ⟨gb299, 1, none⟩ = some (.int .i64 0) := (blk_cell BK299.out 1).trans rfl; have hcz56_2 : w54.cell? ⟨gb299, 2, none⟩ = some (.slice none 0 0) := (blk_cell BK299.out 2).trans rfl; have hfz56_0 := blk_frozen BK299.out 0; have hfz56_1 := blk_frozen BK299.out 1; have hfz56_2 := blk_frozen BK299.out 2; have p314 : 0 ≤ (2 : Int) := (by omega); have q314 : 2 < (t296.length : Int) := od_; obtain ⟨ad314, e314, hx314_0⟩ := Kd.at_string (Kd.R_reads' HO_4.out).2.2 2 p314 q314; obtain rfl : ad300 = ad314 := (by injection e314); (try simp only [show (2 : Int).toNat = 2 from rfl, Nat.reduceMul, Nat.reduceEqDiff, Go.Addr.add, ↓reduceIte] at hx314_0); have qi314 : (2 < t296.length) = True := eq_true (by omega); (try rw [show ((2 : Int)).toNat = 2 from rfl] at hx314_0); have hn314_0 : ad300.block ≠ gb299 := Kd.own_blk (Kd.R_ne HO_4.out BK299.out (by decide)); replace hx314_0 := (cell_far (p := ⟨gb299, 1, none⟩) (by first | (rw [add_block]; exact hn314_0) | (show (Addr.add _ _).block ≠ _; rw [add_block]; exact hn314_0) | exact hn314_0) (.int .i64 t312)).trans hx314_0; clear hn314_0; replace p314 := eq_true p314; replace q314 := eq_true q314; have p316 : 0 ≤ (2 : Int) := (by omega); have q316 : 2 < (t296.length : Int) := od_; obtain ⟨ad316, e316, hx316_0⟩ := Kd.at_string (Kd.R_reads' HO_4.out).2.2 2 p316 q316; obtain rfl : ad300 = ad316 := (by injection e316); (try simp only [show (2 : Int).toNat = 2 from rfl, Nat.reduceMul, Nat.reduceEqDiff, Go.Addr.add, ↓reduceIte] at hx316_0); have qi316 : (2 < t296.length) = True := eq_true (by omega); (try rw [show ((2 : Int)).toNat = 2 from rfl] at hx316_0); have hn316_0 : ad300.block ≠ gb299 := Kd.own_blk (Kd.R_ne HO_4.out BK299.out (by decide)); replace hx316_0 := (cell_far (p := ⟨gb299, 1, none⟩) (by first | (rw [add_block]; exact hn316_0) | (show (Addr.add _ _).block ≠ _; rw [add_block]; exact hn316_0) | exact hn316_0) (.int .i64 t312)).trans hx316_0; clear hn316_0; replace p316 := eq_true p316; replace q316 := eq_true q316))
         go_loopg [64] k1 (fun kq v64 w' => ∃ (x64_2 : Int) (x300002_2 : List Int) (u300002 : Value), v64 = .int .i64 x64_2 ∧ Aside0 (impl_ReadPlace.l1 kq a0 t296 ((rdOf ByteArray.empty t296 2).size : Int) x64_2 x300000_1 t312 x300002_2 = some (r1, r2, r3, r4)) ∧ Aside0 (kq ≤ k1) ∧ Aside0 (Kd.R Kd.string 9 w' w.heap.size (fun _ => True) (.slice (some ad300) t296.length co8) t296) ∧ Aside0 (Kd.R (Kd.int .i64) 3 w' w.heap.size (fun k_ => some k_ ≠ (u300002 : Value).ownBlock) u300000 x300000_1) ∧ Aside0 (Kd.R (Kd.int .i64) 3 w' w.heap.size (fun k_ => some k_ ≠ (u300000 : Value).ownBlock) u300002 x300002_2) ∧ Aside0 (w'.heap[gb295]? = some (.cells #[(.slice none 0 0), .int .i64 x296001_1, (.slice none 0 0)] 25 (0, 0))) ∧ Aside0 (w'.heap[gb299]? = some (.cells #[u300000, .int .i64 t312, u300002] 25 (0, 0))) ∧ Aside0 (Below w.heap.size w w'))
         case atStart => exact ⟨(0), (([] : List Int)), (.slice none 0 0), tx_, H', ⟨Nat.le_refl _⟩, ⟨by refine qR_ ?_; exact Kd.R_mono (Kd.R_far (p := ⟨gb299, 1, none⟩) (Kd.R_types HO_4.out BK299.out (by decide)) (fun _ hk => hk.2) (.int .i64 t312)) (fun _ hk => trivial)⟩, ⟨by refine qR_ ?_; exact Kd.R_mono (Kd.R_far (p := ⟨gb299, 1, none⟩) (Kd.R_types HO_300000.out BK299.out (by decide)) (fun _ hk => hk.2) (.int .i64 t312)) (fun _ hk => (by simp [Value.ownBlock]))⟩, ⟨by first | exact Kd.R_nil _ _ _ _ _ | exact Kd.N_nil _ _ _ _ _ | exact Kd.V_nil _ _ _ _ _ | exact Kd.Q_nil _ _ _ _ _ | exact Kd.S_nil _ _ _ _ _⟩, ⟨tk_ BK295.out⟩, ⟨by refine bq_ ?_; refine blk_put (cs := #[u300000, .int .i64 0, .slice none 0 0]) ?_ 1 _ rfl; exact tk_ BK299.out⟩, ⟨(tb_ HB.out)⟩⟩
         case round =>
          clear H'
          try clear c1
          try clear c2
          try clear p2
          try clear c3
          try clear c3b0
          try clear c3b1
          try clear p3
          try clear q3
          try clear hx3
          try clear qi3
          try clear c4
          try clear c4b0
          try clear c4b1
          try clear c5
          try clear c6
          try clear p6
          try clear c9
          try clear c10
          try clear c14
          try clear c14b0
          try clear c15
          try clear c15b0
          try clear c16
          try clear c16b0
          try clear c18
          try clear c18b0
          try clear c18b1
          try clear c20
          try clear c24
          try clear c26
          try clear p30
          try clear q30
          try clear hx30
          try clear qi30
          try clear p31
          try clear q31
          try clear hx31
          try clear qi31
          try clear c33
          try clear c35
          try clear c35b0
          try clear c35b1
          try clear c37
          try clear c37b0
          try clear c37b1
          try clear c38
          try clear c38b0
          try clear c38b1
          try clear c40
          try clear c40b0
          try clear c40b1
          try clear c42
          try clear c49
          try clear c54
          try clear c55
          try clear hcz11_0
          try clear hcz11_1
          try clear hcz11_2
          try clear hcz21_0
          try clear hcz21_1
          try clear hcz21_2
          try clear hcz23_0
          try clear hcz23_1
          try clear hcz23_2
          try clear hcz27_0
          try clear hcz27_1
          try clear hcz27_2
          try clear hcz31_0
          try clear hcz31_1
          try clear hcz31_2
          try clear hcz34_0
          try clear hcz34_1
          try clear hcz34_2
          try clear hcz43_0
          try clear hcz43_1
          try clear hcz43_2
          try clear hcz46_0
          try clear hcz46_1
          try clear hcz46_2
          try clear hcz47_0
          try clear hcz47_1
          try clear hcz47_2
          try clear hcz50_0
          try clear hcz50_1
          try clear hcz50_2
          try clear hcz53_0
          try clear hcz53_1
          try clear hcz53_2
          try clear hcz56_0
          try clear hcz56_1
          try clear hcz56_2
          try clear hfz11_0
          try clear hfz11_1
          try clear hfz11_2
          try clear hfz21_0
          try clear hfz21_1
          try clear hfz21_2
          try clear hfz23_0
          try clear hfz23_1
          try clear hfz23_2
          try clear hfz27_0
          try clear hfz27_1
          try clear hfz27_2
          try clear hfz31_0
          try clear hfz31_1
          try clear hfz31_2
          try clear hfz34_0
          try clear hfz34_1
          try clear hfz34_2
          try clear hfz43_0
          try clear hfz43_1
          try clear hfz43_2
          try clear hfz46_0
          try clear hfz46_1
          try clear hfz46_2
          try clear hfz47_0
          try clear hfz47_1
          try clear hfz47_2
          try clear hfz50_0
          try clear hfz50_1
          try clear hfz50_2
          try clear hfz53_0
          try clear hfz53_1
          try clear hfz53_2
          try clear hfz56_0
          try clear hfz56_1
          try clear hfz56_2
          try clear hx300_0
          try clear hx304_0
          try clear hx311_0
          try clear hx314_0
          try clear hx316_0
          try clear p2
          try clear p3
          try clear p300
          try clear p304
          try clear p311
          try clear p314
          try clear p316
          try clear q3
          try clear q300
          try clear q304
          try clear q307
          try clear q311
          try clear q314
          try clear q316
          obtain ⟨x64_2, x300002_2, u300002, rfl, HA, HK2, HO_4, HO_300000, HO_300002, BK295, BK299, HB⟩ := hrel
          cases gk with
          | zero => exact absurd HA.out (by simp [impl_ReadPlace.l1])
          | succ k2 =>
           have H := HA.out
           clear HA
           simp only [impl_ReadPlace.l1] at H
           by_cases c57 : x64_2 < ((rdOf ByteArray.empty t296 2).size : Int)
           ·
            rw [if_pos c57] at H
            have c57b0 : decide (x64_2 < ((rdOf ByteArray.empty t296 2).size : Int)) = true := decide_eq_true c57
            clear c57
            by_cases c58 : 2 < (t296.length : Int)
            ·
             rw [if_pos c58] at H
             have c58b0 : decide (2 < (t296.length : Int)) = true := decide_eq_true c58
             have c58b1 : decide (2 < t296.length) = true := decide_eq_true (by omega)
             clear c58
             by_cases c59 : 0 ≤ x64_2
             ·
              rw [if_pos c59] at H
              have c59b0 : decide (0 ≤ x64_2) = true := decide_eq_true c59
              clear c59
              by_cases c60 : x64_2 < ((rdOf ByteArray.empty t296 2).size : Int)
              ·
               rw [if_pos c60] at H
               have c60b0 : decide (x64_2 < ((rdOf ByteArray.empty t296 2).size : Int)) = true := decide_eq_true c60
               clear c60
               by_cases c62 : x300002_2.length < 17592186044416
               ·
                rw [if_pos c62] at H
                have LMc62 := Aside0.mk c62
                clear c62
                obtain ⟨y318, hy318⟩ : ∃ y_ : List Int, y_ = (x300002_2 ++ [wrap64 ((wrap64 (bt (rdOf ByteArray.empty t296 2) x64_2)) - 97)]) := ⟨_, rfl⟩
                replace H : (impl_ReadPlace.l1 k2 a0 t296 ((rdOf ByteArray.empty t296 2).size : Int) (wrap64 (x64_2 + 1)) x300000_1 t312 y318) = some (r1, r2, r3, r4) := by first | (rw [hy318]; with_reducible exact H) | (have H2_ := (Option.bind_some _ _).symm.trans H; rw [hy318]; with_reducible exact H2_) | (have H2_ := (Option.bind_some _ _).symm.trans H; with_reducible exact H2_) | with_reducible exact H | (rw [hy318]; exact H) | exact H
                have Ny318 := Aside0.mk hy318
                clear hy318
                have H' := Aside0.mk H
                clear H
                try go_wp2
                have n0_ := Aside0.mk (Kd.R_drew HO_4.out)
                have n1_ := Aside0.mk (Kd.R_drew HO_300000.out)
                have n2_ := Aside0.mk (Kd.R_drew HO_300002.out)
                have n3_ := Aside0.mk (blk_drew BK295.out)
                have n4_ := Aside0.mk (blk_drew BK299.out)
                have n5_ := Aside0.mk (ld_ HB.out)
                clear HO_4
                clear HO_300000
                clear HO_300002
                clear BK295
                clear BK299
                clear HB
                have HO_4 := n0_
                have HO_300000 := n1_
                have HO_300002 := n2_
                have BK295 := n3_
                have BK299 := n4_
                have HB := n5_
                clear n0_ n1_ n2_ n3_ n4_ n5_
                have p317 : 0 ≤ (2 : Int) := (by omega)
                have q317 : 2 < (t296.length : Int) := od_
                obtain ⟨ad317, e317, hx317_0⟩ := Kd.at_string (Kd.R_reads' HO_4.out).2.2 2 p317 q317
                obtain rfl : ad300 = ad317 := (by injection e317)
                (try simp only [show (2 : Int).toNat = 2 from rfl, Nat.reduceMul, Nat.reduceEqDiff, Go.Addr.add, ↓reduceIte] at hx317_0)
                have qi317 : (2 < t296.length) = True := eq_true (by omega)
                (try rw [show ((2 : Int)).toNat = 2 from rfl] at hx317_0)
                replace p317 := eq_true p317
                replace q317 := eq_true q317
                have p61 : 0 ≤ (x64_2 : Int) := od_
                have q61 : x64_2 < ((rdOf ByteArray.empty t296 2).size : Int) := od_
                have hx61 := bt_at (rdOf ByteArray.empty t296 2) x64_2
                replace p61 := eq_true p61
                replace q61 := eq_true q61
                refine start_ (n := 13) (S := fun w' => w'.cell? ⟨gb299, 0, none⟩ = some (u300000) ∧ w'.cell? ⟨gb299, 1, none⟩ = some (.int .i64 t312) ∧ w'.cell? ⟨gb299, 2, none⟩ = some (u300002) ∧ w'.cell? ⟨ad300.block, ad300.off + 2, none⟩ = some (.string (rdOf ByteArray.empty t296 2))) (ds := [10, 12]) #[false, false, false, false, false, false, false, false, false, false, false, false, false] (by kernel_rfl) rfl rfl ⟨(blk_cell BK299.out 0).trans rfl, (blk_cell BK299.out 1).trans rfl, (blk_cell BK299.out 2).trans rfl, hx317_0⟩ (fun hHeld => ?_); refine with_tabW impl_ReadPlace.tab18 impl_ReadPlace.bits18 (fun HT_ HW_ => ?_)
                generalize wr.drew = w63 at HO_4 HO_300000 HO_300002 BK295 BK299 HB hx317_0 hHeld ⊢
                refine pure_ (i := 0) (N := some 67) (v := ?_) (a' := ?_) #[true, false, false, false, false, false, false, false, false, false, false, false, false] rfl rfl (any_of HT_.out (by kernel_rfl)) (fun _ _ _ h => h) (Or.inl ⟨by rfl, ?_⟩) ?_ ?_
                rotate_left
                ·
                 intro w'
                 go_simp
                 with_reducible rfl
                rotate_left
                ·
                 simp only [Act.put, sa_, sb_, sc_, i64_w, i32_w]
                 rfl
                refine pure_ (i := 2) (N := some 69) (v := ?_) (a' := ?_) #[true, false, true, false, false, false, false, false, false, false, false, false, false] rfl rfl (any_of HT_.out (by kernel_rfl)) (fun _ _ _ h => h) (Or.inl ⟨by rfl, ?_⟩) ?_ ?_
                rotate_left
                ·
                 intro w'
                 go_simp
                 with_reducible rfl
                rotate_left
                ·
                 simp only [Act.put, sa_, sb_, sc_, i64_w, i32_w]
                 rfl
                refine pure_ (i := 3) (N := some 70) (v := ?_) (a' := ?_) #[true, false, true, true, false, false, false, false, false, false, false, false, false] rfl rfl (any_of HT_.out (by kernel_rfl)) (fun _ _ _ h => h) (Or.inl ⟨by rfl, ?_⟩) ?_ ?_
                rotate_left
                ·
                 intro w'
                 go_simp
                 with_reducible rfl
                rotate_left
                ·
                 simp only [Act.put, sa_, sb_, sc_, i64_w, i32_w]
                 rfl
                refine pure_ (i := 5) (N := some 72) (v := ?_) (a' := ?_) #[true, false, true, true, false, true, false, false, false, false, false, false, false] rfl rfl (any_of HT_.out (by kernel_rfl)) (fun _ _ _ h => h) (Or.inl ⟨by rfl, ?_⟩) ?_ ?_
                rotate_left
                ·
                 intro w'
                 go_simp
                 with_reducible rfl
                rotate_left
                ·
                 simp only [Act.put, sa_, sb_, sc_, i64_w, i32_w]
                 rfl
                refine take_ (i := 1) (N := some 68) (v := ?_) (a' := ?_) #[true, true, true, true, false, true, false, false, false, false, false, false, false] rfl rfl (take_ofW HT_.out HW_.out (by kernel_rfl)) (fun _ _ _ h => h) (Or.inl ⟨by rfl, ?_⟩) hHeld ?_ ?_
                rotate_left
                ·
                 rintro w' ⟨s0, s1, s2, s3⟩
                 go_simp
                 with_reducible rfl
                rotate_left
                ·
                 simp only [Act.put, sa_, sb_, sc_, i64_w, i32_w]
                 rfl
                refine take_ (i := 4) (N := some 71) (v := ?_) (a' := ?_) #[true, true, true, true, true, true, false, false, false, false, false, false, false] rfl rfl (take_ofW HT_.out HW_.out (by kernel_rfl)) (fun _ _ _ h => h) (Or.inl ⟨by rfl, ?_⟩) hHeld ?_ ?_
                rotate_left
                ·
                 rintro w' ⟨s0, s1, s2, s3⟩
                 go_simp
                 with_reducible rfl
                rotate_left
                ·
                 simp only [Act.put, sa_, sb_, sc_, i64_w, i32_w]
                 rfl
                refine take_ (i := 6) (N := some 73) (v := ?_) (a' := ?_) #[true, true, true, true, true, true, true, false, false, false, false, false, false] rfl rfl (take_ofW HT_.out HW_.out (by kernel_rfl)) (fun _ _ _ h => h) (Or.inl ⟨by rfl, ?_⟩) hHeld ?_ ?_
                rotate_left
                ·
                 rintro w' ⟨s0, s1, s2, s3⟩
                 go_simp
                 with_reducible rfl
                rotate_left
                ·
                 simp only [Act.put, sa_, sb_, sc_, i64_w, i32_w]
                 rfl
                refine pure_ (i := 7) (N := some 74) (v := ?_) (a' := ?_) #[true, true, true, true, true, true, true, true, false, false, false, false, false] rfl rfl (any_of HT_.out (by kernel_rfl)) (fun _ _ _ h => h) (Or.inl ⟨by rfl, ?_⟩) ?_ ?_
                rotate_left
                ·
                 intro w'
                 go_simp
                 with_reducible rfl
                rotate_left
                ·
                 simp only [Act.put, sa_, sb_, sc_, i64_w, i32_w]
                 rfl
                refine pure_ (i := 8) (N := some 75) (v := ?_) (a' := ?_) #[true, true, true, true, true, true, true, true, true, false, false, false, false] rfl rfl (any_of HT_.out (by kernel_rfl)) (fun _ _ _ h => h) (Or.inl ⟨by rfl, ?_⟩) ?_ ?_
                rotate_left
                ·
                 intro w'
                 go_simp
                 with_reducible rfl
                rotate_left
                ·
                 simp only [Act.put, sa_, sb_, sc_, i64_w, i32_w]
                 rfl
                refine one_ (i := 9) (N := some 76) #[true, true, true, true, true, true, true, true, true, true, false, false, false] rfl rfl (one_of HT_.out (by kernel_rfl)) (by decide) (fun K hK => ?_)
                refine value_ (w1 := ?_) (v := ?_) (by rfl) rfl ?_ ?_
                rotate_left 2
                ·
                 go_simp
                 constructor
                 ·
                  rfl
                 ·
                  rfl
                refine hK.out _ _ ⟨(blk_cell (blk_alloc BK299.out _) 0).trans rfl, (blk_cell (blk_alloc BK299.out _) 1).trans rfl, (blk_cell (blk_alloc BK299.out _) 2).trans rfl, (World.cell?_alloc_lt _ _ _ (World.block_lt_of_cell? _ _ (hHeld.2.2.2))).trans (hHeld.2.2.2)⟩ (fun hHeld => ?_)
                clear hK K
                refine norm_ (a' := ?_) ?_ ?_
                rotate_left
                ·
                 show Act.put _ (some 76) _ = _
                 simp only [Act.put, sa_, sb_, sc_, i64_w, i32_w]
                 rfl
                refine last_ (i := 10) (N := some 77) #[true, true, true, true, true, true, true, true, true, true, true, false, false] rfl rfl (one_of HT_.out (by kernel_rfl)) (by decide) (fun K hK => ?_)
                refine Kd.R_append_step (Kd.int .i64) (w0 := w) w.heap.size (by rfl) (.tmp 68) (.tmp 76) 23 3 (.int .i64 0) 8 rfl Tryd.underlying23 info3 rfl (by decide) (by omega) u300002 x300002_2 (wrap64 ((wrap64 (bt (rdOf ByteArray.empty t296 2) x64_2)) - 97)) [.int .i64 (wrap64 ((wrap64 (bt (rdOf ByteArray.empty t296 2) x64_2)) - 97))] (fun k_ => some k_ ≠ (u300000 : Value).ownBlock) (fun _ => False) rfl rfl ?aP (fun _ hk => hk.elim) ?aF ?aO ?aB ?aS ?aL ?_
                (case aP => exact rfl)
                (case aB => exact (tb_ HB.out))
                (case aF => exact (fun k_ hk => Kd.fresh' (Kd.R_lt (rR_ HO_300000.out)) k_ hk))
                (case aO => exact (rR_ HO_300002.out))
                (case aS => exact (below_size (tb_ HB.out)))
                (case aL => have := LMc62.out; omega)
                intro v319 w64 ho hb hg hat
                rw [← Ny318.out] at ho
                have n0_ := Aside0.mk (Kd.R_over' (rR_ HO_4.out) (Kd.R_typed (rR_ HO_300002.out)) (by decide) hg)
                have n1_ := Aside0.mk (Kd.R_after (ok := (fun _ => True)) (by refine qR_ ?_; exact Kd.R_mono HO_300000.out (fun _ hk => ⟨trivial, hk⟩)) hg hat)
                have n2_ := Aside0.mk (blk_grown (g := gb295) (o := .cells #[.slice none 0 0, .int .i64 x296001_1, .slice none 0 0] 25 (0, 0)) (tk_ BK295.out) hg (Kd.R_ne HO_300002.out BK295.out (by decide)))
                have n3_ := Aside0.mk (blk_grown (g := gb299) (o := .cells #[u300000, .int .i64 t312, u300002] 25 (0, 0)) (tk_ BK299.out) hg (Kd.R_ne HO_300002.out BK299.out (by decide)))
                have n4_ := Aside0.mk (hb)
                have n5_ := Aside0.mk (ho)
                clear HO_4
                clear HO_300000
                clear BK295
                clear BK299
                clear HB
                clear HO_300002
                have HO_4 := n0_
                have HO_300000 := n1_
                have BK295 := n2_
                have BK299 := n3_
                have HB := n4_
                have HO320 := n5_
                clear n0_ n1_ n2_ n3_ n4_ n5_
                clear ho hb hg hat
                obtain ⟨Ao65, co65, eo65⟩ := Kd.R_slice HO320.out
                (first | subst eo65 | (injection eo65 with f1_ f2_ f3_; have f4_ := f1_.symm; have f5_ := f3_.symm; clear f1_ f2_ f3_; subst f4_; subst f5_))
                refine hK.out _ _ ?_
                clear hK K
                refine norm_ (a' := ?_) ?_ ?_
                rotate_left
                ·
                 show Act.put _ (some 77) _ = _
                 simp only [Act.put, sa_, sb_, sc_, i64_w, i32_w]
                 rfl
                refine pure_ (i := 11) (N := some 78) (v := ?_) (a' := ?_) #[true, true, true, true, true, true, true, true, true, true, true, true, false] rfl rfl (any_of HT_.out (by kernel_rfl)) (fun _ _ _ h => h) (Or.inl ⟨by rfl, ?_⟩) ?_ ?_
                rotate_left
                ·
                 intro w'
                 go_simp
                 with_reducible rfl
                rotate_left
                ·
                 simp only [Act.put, sa_, sb_, sc_, i64_w, i32_w]
                 rfl
                refine last_ (i := 12) (N := none) #[true, true, true, true, true, true, true, true, true, true, true, true, true] rfl rfl (one_of HT_.out (by kernel_rfl)) (by decide) (fun K hK => ?_)
                have hs66 : w64.cell? ⟨gb299, 2, none⟩ = some (u300002) := (blk_cell BK299.out 2).trans rfl
                have hfs66 := blk_frozen BK299.out 2
                have hns66_0 := NB295_299.out
                have hms66_0 := NB299_295.out
                refine skip_ (w1 := ?_) (by rfl) rfl ?_ ?_
                rotate_left
                ·
                 go_simp
                 rfl
                refine hK.out _ _ ?_
                clear hK K
                refine done_ (done_of HT_.out (by kernel_rfl)) ?_
                try go_wp2
                go_roundg k2
                case measure => have := HK1.out; have := HK2.out; omega
                case rel => exact ⟨(wrap64 (x64_2 + 1)), (y318), (.slice Ao65 y318.length co65), tx_, H', ⟨by have := HK1.out; have := HK2.out; omega⟩, ⟨by refine qR_ ?_; exact Kd.R_mono (Kd.R_far (p := ⟨gb299, 2, none⟩) (Kd.R_types HO_4.out BK299.out (by decide)) (fun _ hk => hk.2) (.slice Ao65 y318.length co65)) (fun _ hk => trivial)⟩, ⟨by refine qR_ ?_; exact Kd.R_mono (Kd.R_far (p := ⟨gb299, 2, none⟩) (Kd.R_types HO_300000.out BK299.out (by decide)) (fun _ hk => hk.2) (.slice Ao65 y318.length co65)) (fun _ hk => hk.1.2)⟩, ⟨by refine qR_ ?_; exact Kd.R_mono (Kd.R_far (p := ⟨gb299, 2, none⟩) (Kd.R_types HO320.out BK299.out (by decide)) (fun _ hk => hk.2) (.slice Ao65 y318.length co65)) (fun _ hk => hk.1)⟩, ⟨tk_ BK295.out⟩, ⟨by refine bq_ ?_; refine blk_put (cs := #[u300000, .int .i64 t312, u300002]) ?_ 2 _ rfl; exact tk_ BK299.out⟩, ⟨(tb_ HB.out)⟩⟩
               ·
                rw [if_neg c62] at H
                exact absurd H (by simp)
              ·
               rw [if_neg c60] at H
               exact absurd H (by simp)
             ·
              rw [if_neg c59] at H
              exact absurd H (by simp)
            ·
             rw [if_neg c58] at H
             exact absurd H (by simp)
           ·
            rw [if_neg c57] at H
            have c57b0 : decide (x64_2 < ((rdOf ByteArray.empty t296 2).size : Int)) = false := decide_eq_false c57
            clear c57
            replace H := Option.bind_eq_some_iff.mp H
            obtain ⟨t321, A670, H⟩ := H
            replace H : (if t321.toList = a0.toList then (some (x300000_1, t312, x300002_2, true)) else (some (([] : List Int), 0, ([] : List Int), false))) = some (r1, r2, r3, r4) := H
            have A67 := Aside0.mk A670
            clear A670
            by_cases c68 : t321.toList = a0.toList
            ·
             rw [if_pos c68] at H
             have c68b0 : (t321.toList == a0.toList) = true := beq_iff_eq.mpr c68
             have c68b1 : (t321.toList != a0.toList) = false := bne_eq_false_iff_eq.mpr c68
             clear c68
             simp only [Option.some.injEq, Prod.mk.injEq] at H
             obtain ⟨rfl, rfl, rfl, rfl⟩ := H
             have hnb69 := NB299_295.out
             have hnc69 := NB295_299.out
             have hcz70_0 : wr.cell? ⟨gb299, 0, none⟩ = some (u300000) := (blk_cell BK299.out 0).trans rfl
             have hcz70_1 : wr.cell? ⟨gb299, 1, none⟩ = some (.int .i64 t312) := (blk_cell BK299.out 1).trans rfl
             have hcz70_2 : wr.cell? ⟨gb299, 2, none⟩ = some (u300002) := (blk_cell BK299.out 2).trans rfl
             have hfz70_0 := blk_frozen BK299.out 0
             have hfz70_1 := blk_frozen BK299.out 1
             have hfz70_2 := blk_frozen BK299.out 2
             obtain ⟨Ao71, co71, eo71⟩ := Kd.R_slice HO_300000.out
             subst eo71
             obtain ⟨Ao72, co72, eo72⟩ := Kd.R_slice HO_300002.out
             subst eo72
             go_wp2_with (first | ((with_reducible refine gate_callee (f := 60) rfl ?_); refine goesL_ (some 81) rfl rfl Tryd.func60 (by kernel_rfl) rfl #[.agg #[.slice Ao71 x300000_1.length co71, .int .i64 t312, .slice Ao72 x300002_2.length co72]] rfl tz_ ?_; (with_reducible refine (impl_PlaceText.calls k2 _ _ x300000_1 t312 _ _ x300002_2 t321 _ ?side1 ?side2 ?side3 ?side4 ?side5 A67.out).mono ?_); (case side1 => repeat (first | exact (Kd.R_reads' HO_300000.out).2.2 | (with_reducible refine Kd.C_alloc ?_ _) | (with_reducible refine Kd.C_drewN ?_ _) | (with_reducible refine Kd.C_drew ?_))); (case side2 => exact (Kd.R_reads' HO_300000.out).2.1); (case side3 => repeat (first | exact (Kd.R_reads' HO_300002.out).2.2 | (with_reducible refine Kd.C_alloc ?_ _) | (with_reducible refine Kd.C_drewN ?_ _) | (with_reducible refine Kd.C_drew ?_))); (case side4 => exact (Kd.R_reads' HO_300002.out).2.1); (case side5 => exact GWb.below HG.out (tb_ HB.out)); rintro e w73 ⟨rfl, hb⟩; refine ⟨_, rfl, ?_⟩; have n0_ := Aside0.mk (Kd.R_below (rR_ HO_4.out) hb); have n1_ := Aside0.mk (Kd.R_below (rR_ HO_300000.out) hb); have n2_ := Aside0.mk (Kd.R_below (rR_ HO_300002.out) hb); have n3_ := Aside0.mk (blk_below (g := gb295) (o := .cells #[.slice none 0 0, .int .i64 x296001_1, .slice none 0 0] 25 (0, 0)) (tk_ BK295.out) hb); have n4_ := Aside0.mk (blk_below (g := gb299) (o := .cells #[.slice Ao71 x300000_1.length co71, .int .i64 t312, .slice Ao72 x300002_2.length co72] 25 (0, 0)) (tk_ BK299.out) hb); have n5_ := Aside0.mk (below_step (tb_ HB.out) hb); clear HO_4 HO_300000 HO_300002 BK295 BK299 HB; have HO_4 := n0_; have HO_300000 := n1_; have HO_300002 := n2_; have BK295 := n3_; have BK299 := n4_; have HB := n5_; clear n0_ n1_ n2_ n3_ n4_ n5_; (try clear hb); (try clear hb2); (try clear hk); (try clear hi); have hcz74_0 : w73.cell? ⟨gb299, 0, none⟩ = some (.slice Ao71 x300000_1.length co71) := (blk_cell BK299.out 0).trans rfl; have hcz74_1 : w73.cell? ⟨gb299, 1, none⟩ = some (.int .i64 t312) := (blk_cell BK299.out 1).trans rfl; have hcz74_2 : w73.cell? ⟨gb299, 2, none⟩ = some (.slice Ao72 x300002_2.length co72) := (blk_cell BK299.out 2).trans rfl; have hfz74_0 := blk_frozen BK299.out 0; have hfz74_1 := blk_frozen BK299.out 1; have hfz74_2 := blk_frozen BK299.out 2; have hcz75_0 : w73.cell? ⟨gb295, 0, none⟩ = some (.slice none 0 0) := (blk_cell BK295.out 0).trans rfl; have hcz75_1 : w73.cell? ⟨gb295, 1, none⟩ = some (.int .i64 x296001_1) := (blk_cell BK295.out 1).trans rfl; have hcz75_2 : w73.cell? ⟨gb295, 2, none⟩ = some (.slice none 0 0) := (blk_cell BK295.out 2).trans rfl; have hfz75_0 := blk_frozen BK295.out 0; have hfz75_1 := blk_frozen BK295.out 1; have hfz75_2 := blk_frozen BK295.out 2))
             refine bodyPost_ret (results_ct rfl _ _ gb295 25 #[.slice Ao71 x300000_1.length co71, .int .i64 t312, .slice Ao72 x300002_2.length co72] (0, 0) _ rfl (by refine bq_ ?_; refine blk_put (cs := #[.slice Ao71 x300000_1.length co71, .int .i64 t312, .slice none 0 0]) ?_ 2 _ rfl; refine bq_ ?_; refine blk_put (cs := #[.slice Ao71 x300000_1.length co71, .int .i64 x296001_1, .slice none 0 0]) ?_ 1 _ rfl; refine bq_ ?_; refine blk_put (cs := #[.slice none 0 0, .int .i64 x296001_1, .slice none 0 0]) ?_ 0 _ rfl; exact tk_ BK295.out) Tryd.underlying25 rfl (by kernel_rfl)) rfl ?_
             exact ⟨_, _, by first | rfl | (simp [errW_none, errW_some, Option.map_none, Option.map_some] <;> rfl) | (simp [*, errW_none, errW_some] <;> rfl), by refine qR_ ?_; exact Kd.R_mono (Kd.R_far (p := ⟨gb295, 2, none⟩) (Kd.R_far (p := ⟨gb295, 1, none⟩) (Kd.R_far (p := ⟨gb295, 0, none⟩) (Kd.R_types HO_300000.out BK295.out (by decide)) (fun _ hk => hk.2) (.slice Ao71 x300000_1.length co71)) (fun _ hk => hk.2) (.int .i64 t312)) (fun _ hk => hk.2) (.slice Ao72 x300002_2.length co72)) (fun _ hk => hk.1), by refine qR_ ?_; exact Kd.R_mono (Kd.R_far (p := ⟨gb295, 2, none⟩) (Kd.R_far (p := ⟨gb295, 1, none⟩) (Kd.R_far (p := ⟨gb295, 0, none⟩) (Kd.R_types HO_300002.out BK295.out (by decide)) (fun _ hk => hk.2) (.slice Ao71 x300000_1.length co71)) (fun _ hk => hk.2) (.int .i64 t312)) (fun _ hk => hk.2) (.slice Ao72 x300002_2.length co72)) (fun _ hk => hk.1), (tb_ HB.out)⟩
            ·
             rw [if_neg c68] at H
             have c68b0 : (t321.toList == a0.toList) = false := beq_eq_false_iff_ne.mpr c68
             have c68b1 : (t321.toList != a0.toList) = true := bne_iff_ne.mpr c68
             simp only [Option.some.injEq, Prod.mk.injEq] at H
             obtain ⟨rfl, rfl, rfl, rfl⟩ := H
             have hnb76 := NB299_295.out
             have hnc76 := NB295_299.out
             have hcz77_0 : wr.cell? ⟨gb299, 0, none⟩ = some (u300000) := (blk_cell BK299.out 0).trans rfl
             have hcz77_1 : wr.cell? ⟨gb299, 1, none⟩ = some (.int .i64 t312) := (blk_cell BK299.out 1).trans rfl
             have hcz77_2 : wr.cell? ⟨gb299, 2, none⟩ = some (u300002) := (blk_cell BK299.out 2).trans rfl
             have hfz77_0 := blk_frozen BK299.out 0
             have hfz77_1 := blk_frozen BK299.out 1
             have hfz77_2 := blk_frozen BK299.out 2
             obtain ⟨Ao78, co78, eo78⟩ := Kd.R_slice HO_300000.out
             subst eo78
             obtain ⟨Ao79, co79, eo79⟩ := Kd.R_slice HO_300002.out
             subst eo79
             go_wp2_with (first | ((with_reducible refine gate_callee (f := 60) rfl ?_); refine goesL_ (some 81) rfl rfl Tryd.func60 (by kernel_rfl) rfl #[.agg #[.slice Ao78 x300000_1.length co78, .int .i64 t312, .slice Ao79 x300002_2.length co79]] rfl tz_ ?_; (with_reducible refine (impl_PlaceText.calls k2 _ _ x300000_1 t312 _ _ x300002_2 t321 _ ?side1 ?side2 ?side3 ?side4 ?side5 A67.out).mono ?_); (case side1 => repeat (first | exact (Kd.R_reads' HO_300000.out).2.2 | (with_reducible refine Kd.C_alloc ?_ _) | (with_reducible refine Kd.C_drewN ?_ _) | (with_reducible refine Kd.C_drew ?_))); (case side2 => exact (Kd.R_reads' HO_300000.out).2.1); (case side3 => repeat (first | exact (Kd.R_reads' HO_300002.out).2.2 | (with_reducible refine Kd.C_alloc ?_ _) | (with_reducible refine Kd.C_drewN ?_ _) | (with_reducible refine Kd.C_drew ?_))); (case side4 => exact (Kd.R_reads' HO_300002.out).2.1); (case side5 => exact GWb.below HG.out (tb_ HB.out)); rintro e w80 ⟨rfl, hb⟩; refine ⟨_, rfl, ?_⟩; have n0_ := Aside0.mk (Kd.R_below (rR_ HO_4.out) hb); have n1_ := Aside0.mk (Kd.R_below (rR_ HO_300000.out) hb); have n2_ := Aside0.mk (Kd.R_below (rR_ HO_300002.out) hb); have n3_ := Aside0.mk (blk_below (g := gb295) (o := .cells #[.slice none 0 0, .int .i64 x296001_1, .slice none 0 0] 25 (0, 0)) (tk_ BK295.out) hb); have n4_ := Aside0.mk (blk_below (g := gb299) (o := .cells #[.slice Ao78 x300000_1.length co78, .int .i64 t312, .slice Ao79 x300002_2.length co79] 25 (0, 0)) (tk_ BK299.out) hb); have n5_ := Aside0.mk (below_step (tb_ HB.out) hb); clear HO_4 HO_300000 HO_300002 BK295 BK299 HB; have HO_4 := n0_; have HO_300000 := n1_; have HO_300002 := n2_; have BK295 := n3_; have BK299 := n4_; have HB := n5_; clear n0_ n1_ n2_ n3_ n4_ n5_; (try clear hb); (try clear hb2); (try clear hk); (try clear hi); have hcz81_0 : w80.cell? ⟨gb295, 0, none⟩ = some (.slice none 0 0) := (blk_cell BK295.out 0).trans rfl; have hcz81_1 : w80.cell? ⟨gb295, 1, none⟩ = some (.int .i64 x296001_1) := (blk_cell BK295.out 1).trans rfl; have hcz81_2 : w80.cell? ⟨gb295, 2, none⟩ = some (.slice none 0 0) := (blk_cell BK295.out 2).trans rfl; have hfz81_0 := blk_frozen BK295.out 0; have hfz81_1 := blk_frozen BK295.out 1; have hfz81_2 := blk_frozen BK295.out 2))
             refine bodyPost_ret (results_ct rfl _ _ gb295 25 #[.slice none 0 0, .int .i64 0, .slice none 0 0] (0, 0) _ rfl (by refine bq_ ?_; refine blk_put (cs := #[.slice none 0 0, .int .i64 0, .slice none 0 0]) ?_ 2 _ rfl; refine bq_ ?_; refine blk_put (cs := #[.slice none 0 0, .int .i64 x296001_1, .slice none 0 0]) ?_ 1 _ rfl; refine bq_ ?_; refine blk_put (cs := #[.slice none 0 0, .int .i64 x296001_1, .slice none 0 0]) ?_ 0 _ rfl; exact tk_ BK295.out) Tryd.underlying25 rfl (by kernel_rfl)) rfl ?_
             exact ⟨_, _, by first | rfl | (simp [errW_none, errW_some, Option.map_none, Option.map_some] <;> rfl) | (simp [*, errW_none, errW_some] <;> rfl), by first | exact Kd.R_nil _ _ _ _ _ | exact Kd.N_nil _ _ _ _ _ | exact Kd.V_nil _ _ _ _ _ | exact Kd.Q_nil _ _ _ _ _ | exact Kd.S_nil _ _ _ _ _, by first | exact Kd.R_nil _ _ _ _ _ | exact Kd.N_nil _ _ _ _ _ | exact Kd.V_nil _ _ _ _ _ | exact Kd.Q_nil _ _ _ _ _ | exact Kd.S_nil _ _ _ _ _, (tb_ HB.out)⟩
       ·
        rw [if_neg c37] at H
        exact absurd H (by simp)
      ·
       rw [if_neg c35] at H
       exact absurd H (by simp)
  ·
   rw [if_neg c4] at H
   exact absurd H (by simp)
 ·
  rw [if_neg c3] at H
  have c3b0 : ((t296.length : Int) == 3) = false := beq_eq_false_iff_ne.mpr c3
  have c3b1 : ((t296.length : Int) != 3) = true := bne_iff_ne.mpr c3
  simp only [Option.some.injEq, Prod.mk.injEq] at H
  obtain ⟨rfl, rfl, rfl, rfl⟩ := H
  go_enter Tryd.func54, Tryd.ntmps54
  go_wp2_with (first | ((with_reducible refine gate_dst (N := 2) rfl ?_); (try (refine gate_guard (by rfl) ?_; dsimp only)); refine box_event ?hg (N := 2) ?hd (cs := #[.slice none 0 0, .int .i64 0, .slice none 0 0]) (t := 25) ?hr ?_; (case hd => rfl); (case hg => rfl); (case hr => first | (go_simp; done) | (go_simp; rfl)); intro gb295 hg w82 hbox hb; have n0_ := Aside0.mk (below_step (tb_ HB.out) hb); have n1_ := Aside0.mk (hbox); have n2_ := Aside0.mk ((by rw [hg]; exact (below_size (tb_ HB.out)) : w.heap.size ≤ gb295)); have n3_ := Aside0.mk ((by rw [hg]; exact (below_size (tb_ HB.out)) : w.heap.size ≤ gb295)); clear HB; have HB := n0_; have BK295 := n1_; have GW295 := n2_; have GE295 := n3_; clear n0_ n1_ n2_ n3_ hb hbox hg) | ((with_reducible refine gate_callee (f := 93) rfl ?_); refine goesL_ (some 12) rfl rfl Tryd.func93 (by kernel_rfl) rfl #[.string a0, .string (⟨#[32]⟩ : ByteArray)] rfl tz_ ?_; (with_reducible refine (strings_Split.calls a0 (⟨#[32]⟩ : ByteArray) t296 _ ?side1 A2.out).mono ?_); (case side1 => exact GWb.below HG.out (tb_ HB.out)); rintro e w83 ⟨v297, rfl, ho0, hb⟩; refine ⟨_, rfl, ?_⟩; have n0_ := Aside0.mk (Kd.R_lower ho0 (below_size (tb_ HB.out))); have n1_ := Aside0.mk (blk_below (g := gb295) (o := .cells #[.slice none 0 0, .int .i64 0, .slice none 0 0] 25 (0, 0)) (tk_ BK295.out) hb); have n2_ := Aside0.mk (below_step (tb_ HB.out) hb); clear BK295 HB; have HO298 := n0_; have BK295 := n1_; have HB := n2_; clear n0_ n1_ n2_; (try clear hb); (try clear hb2); (try clear hk); (try clear hi); (try clear ho0); obtain ⟨Ao84, co84, eo84⟩ := Kd.R_slice HO298.out; subst eo84; have hcz85_0 : w83.cell? ⟨gb295, 0, none⟩ = some (.slice none 0 0) := (blk_cell BK295.out 0).trans rfl; have hcz85_1 : w83.cell? ⟨gb295, 1, none⟩ = some (.int .i64 0) := (blk_cell BK295.out 1).trans rfl; have hcz85_2 : w83.cell? ⟨gb295, 2, none⟩ = some (.slice none 0 0) := (blk_cell BK295.out 2).trans rfl; have hfz85_0 := blk_frozen BK295.out 0; have hfz85_1 := blk_frozen BK295.out 1; have hfz85_2 := blk_frozen BK295.out 2))
  refine bodyPost_ret (results_ct rfl _ _ gb295 25 #[.slice none 0 0, .int .i64 0, .slice none 0 0] (0, 0) _ rfl (by refine bq_ ?_; refine blk_put (cs := #[.slice none 0 0, .int .i64 0, .slice none 0 0]) ?_ 2 _ rfl; refine bq_ ?_; refine blk_put (cs := #[.slice none 0 0, .int .i64 0, .slice none 0 0]) ?_ 1 _ rfl; refine bq_ ?_; refine blk_put (cs := #[.slice none 0 0, .int .i64 0, .slice none 0 0]) ?_ 0 _ rfl; exact tk_ BK295.out) Tryd.underlying25 rfl (by kernel_rfl)) rfl ?_
  exact ⟨_, _, by first | rfl | (simp [errW_none, errW_some, Option.map_none, Option.map_some] <;> rfl) | (simp [*, errW_none, errW_some] <;> rfl), by first | exact Kd.R_nil _ _ _ _ _ | exact Kd.N_nil _ _ _ _ _ | exact Kd.V_nil _ _ _ _ _ | exact Kd.Q_nil _ _ _ _ _ | exact Kd.S_nil _ _ _ _ _, by first | exact Kd.R_nil _ _ _ _ _ | exact Kd.N_nil _ _ _ _ _ | exact Kd.V_nil _ _ _ _ _ | exact Kd.Q_nil _ _ _ _ _ | exact Kd.S_nil _ _ _ _ _, (tb_ HB.out)⟩

/-! ### laws_eqIntS: function 105 -/
def laws_eqIntS.l0 : Nat → List Int → List Int → Int → Option (Bool)
 | 0, _, _, _ => none
 | k + 1, x0, x1, x5 => if x5 < (x0.length : Int) then (if 0 ≤ x5 then (if x5 < (x1.length : Int) then (if (rd x0 x5) = (rd x1 x5) then (laws_eqIntS.l0 k x0 x1 (wrap64 (x5 + 1))) else (some false)) else (none)) else (none)) else (some true)
def laws_eqIntS.f (k : Nat) (l0 : List Int) (l1 : List Int) : Option (Bool) := if (l0.length : Int) = (l1.length : Int) then (laws_eqIntS.l0 k l0 l1 0) else (some false)
theorem laws_eqIntS.mono_l : ∀ k, (∀ y0 y1 y2, LeO (laws_eqIntS.l0 k y0 y1 y2) (laws_eqIntS.l0 (k + 1) y0 y1 y2))
 | 0 => fun _ _ _ r h => by simp [laws_eqIntS.l0] at h
 | k + 1 => by
  have ih0 := laws_eqIntS.mono_l k
  ·
   intro y0 y1 y2
   unfold laws_eqIntS.l0
   repeat' first
   | (with_reducible exact ih0 _ _ _)
   | (with_reducible exact LeO.refl _)
   | (with_reducible exact LeO.none _)
   | (with_reducible refine LeO.ite ?_ ?_)
   | (with_reducible refine LeO.bind ?_ (fun _ => ?_))
   | exact ih0 _ _ _
   | exact LeO.none _
   | refine LeO.ite ?_ ?_
   | refine LeO.bind ?_ (fun _ => ?_)
theorem laws_eqIntS.mono : ∀ a0 a1 k, LeO (laws_eqIntS.f k a0 a1) (laws_eqIntS.f (k + 1) a0 a1) := by
 intro a0 a1 k
 have ih0 := laws_eqIntS.mono_l k
 unfold laws_eqIntS.f
 repeat' first
   | (with_reducible exact ih0 _ _ _)
   | (with_reducible exact LeO.refl _)
   | (with_reducible exact LeO.none _)
   | (with_reducible refine LeO.ite ?_ ?_)
   | (with_reducible refine LeO.bind ?_ (fun _ => ?_))
   | exact ih0 _ _ _
   | exact LeO.none _
   | refine LeO.ite ?_ ?_
   | refine LeO.bind ?_ (fun _ => ?_)
set_option maxHeartbeats 8000000 in
set_option maxRecDepth 100000 in
theorem laws_eqIntS.calls (k : Nat) (A0 : Option Addr) (c0 : Nat) (l0 : List Int) (A1 : Option Addr) (c1 : Nat) (l1 : List Int) (r : Bool) (w : World) (hr0 : Kd.C (Kd.int .i64) w A0 l0.length l0) (hc0 : l0.length ≤ c0) (hr1 : Kd.C (Kd.int .i64) w A1 l1.length l1) (hc1 : l1.length ≤ c1) (h : laws_eqIntS.f k l0 l1 = some r) :
  Calls Tryd.prog 105 #[.slice A0 l0.length c0, .slice A1 l1.length c1] w fun e w' => e = .returned (.bool r) ∧ Drawn0 w w' := by
 have HR0 := Aside0.mk hr0
 have HC0 := Aside0.mk hc0
 clear hr0 hc0
 have HR1 := Aside0.mk hr1
 have HC1 := Aside0.mk hc1
 clear hr1 hc1
 have H : (if (l0.length : Int) = (l1.length : Int) then (laws_eqIntS.l0 k l0 l1 0) else (some false)) = some r := h
 clear h
 by_cases c3 : (l0.length : Int) = (l1.length : Int)
 ·
  rw [if_pos c3] at H
  have c3b0 : ((l0.length : Int) == (l1.length : Int)) = true := beq_iff_eq.mpr c3
  have c3b1 : ((l0.length : Int) != (l1.length : Int)) = false := bne_eq_false_iff_eq.mpr c3
  have c3b2 : (l0.length == l1.length) = true := by first | simpa using c3 | (simp at c3 ⊢; omega)
  clear c3
  have H' := Aside0.mk H
  clear H
  go_enter Tryd.func105, Tryd.ntmps105
  go_wp2
  repeat (go_quiet (fail); try go_wp2)
  go_loopg [5] k (fun kq v5 w' => ∃ (x5_1 : Int), v5 = .int .i64 x5_1 ∧ Aside0 (laws_eqIntS.l0 kq l0 l1 x5_1 = some r) ∧ Aside0 (kq ≤ k) ∧ Drawn0 w w')
  case atStart => exact ⟨(0), tx_, H', ⟨Nat.le_refl _⟩, by repeat (first | exact Drawn0.refl _ | apply Drawn0.step)⟩
  case round =>
   clear H'
   try clear c1
   try clear p2
   try clear c3
   try clear c3b0
   try clear c3b1
   try clear c3b2
   obtain ⟨x5_1, rfl, HA, HK1, ⟨m1, rfl⟩⟩ := hrel
   cases gk with
   | zero => exact absurd HA.out (by simp [laws_eqIntS.l0])
   | succ k1 =>
    have H := HA.out
    clear HA
    simp only [laws_eqIntS.l0] at H
    by_cases c4 : x5_1 < (l0.length : Int)
    ·
     rw [if_pos c4] at H
     have c4b0 : decide (x5_1 < (l0.length : Int)) = true := decide_eq_true c4
     clear c4
     by_cases c5 : 0 ≤ x5_1
     ·
      rw [if_pos c5] at H
      have c5b0 : decide (0 ≤ x5_1) = true := decide_eq_true c5
      clear c5
      by_cases c6 : x5_1 < (l1.length : Int)
      ·
       rw [if_pos c6] at H
       have c6b0 : decide (x5_1 < (l1.length : Int)) = true := decide_eq_true c6
       clear c6
       by_cases c7 : (rd l0 x5_1) = (rd l1 x5_1)
       ·
        rw [if_pos c7] at H
        have c7b0 : ((rd l0 x5_1) == (rd l1 x5_1)) = true := beq_iff_eq.mpr c7
        have c7b1 : ((rd l0 x5_1) != (rd l1 x5_1)) = false := bne_eq_false_iff_eq.mpr c7
        clear c7
        have H' := Aside0.mk H
        clear H
        have p322 : 0 ≤ (x5_1 : Int) := od_
        have q322 : x5_1 < (l0.length : Int) := od_
        obtain ⟨ad322, e322, hx322_0⟩ := Kd.at_int HR0.out x5_1 p322 q322
        cases e322
        replace p322 := eq_true p322
        replace q322 := eq_true q322
        have p323 : 0 ≤ (x5_1 : Int) := od_
        have q323 : x5_1 < (l1.length : Int) := od_
        obtain ⟨ad323, e323, hx323_0⟩ := Kd.at_int HR1.out x5_1 p323 q323
        cases e323
        replace p323 := eq_true p323
        replace q323 := eq_true q323
        go_wp2
        repeat (go_quiet (fail); try go_wp2)
        go_roundg k1
        case measure => have := HK1.out; omega
        case rel => exact ⟨(wrap64 (x5_1 + 1)), tx_, H', ⟨by have := HK1.out; omega⟩, by repeat (first | exact Drawn0.refl _ | apply Drawn0.step)⟩
       ·
        rw [if_neg c7] at H
        have c7b0 : ((rd l0 x5_1) == (rd l1 x5_1)) = false := beq_eq_false_iff_ne.mpr c7
        have c7b1 : ((rd l0 x5_1) != (rd l1 x5_1)) = true := bne_iff_ne.mpr c7
        obtain rfl := Option.some.inj H
        have p322 : 0 ≤ (x5_1 : Int) := od_
        have q322 : x5_1 < (l0.length : Int) := od_
        obtain ⟨ad322, e322, hx322_0⟩ := Kd.at_int HR0.out x5_1 p322 q322
        cases e322
        replace p322 := eq_true p322
        replace q322 := eq_true q322
        have p323 : 0 ≤ (x5_1 : Int) := od_
        have q323 : x5_1 < (l1.length : Int) := od_
        obtain ⟨ad323, e323, hx323_0⟩ := Kd.at_int HR1.out x5_1 p323 q323
        cases e323
        replace p323 := eq_true p323
        replace q323 := eq_true q323
        go_wp2
        repeat (go_quiet (fail); try go_wp2)
        go_ret
        exact ⟨tx_, by repeat (first | exact Drawn0.refl _ | apply Drawn0.step)⟩
      ·
       rw [if_neg c6] at H
       exact absurd H (by simp)
     ·
      rw [if_neg c5] at H
      exact absurd H (by simp)
    ·
     rw [if_neg c4] at H
     have c4b0 : decide (x5_1 < (l0.length : Int)) = false := decide_eq_false c4
     clear c4
     obtain rfl := Option.some.inj H
     go_wp2
     repeat (go_quiet (fail); try go_wp2)
     go_ret
     exact ⟨tx_, by repeat (first | exact Drawn0.refl _ | apply Drawn0.step)⟩
 ·
  rw [if_neg c3] at H
  have c3b0 : ((l0.length : Int) == (l1.length : Int)) = false := beq_eq_false_iff_ne.mpr c3
  have c3b1 : ((l0.length : Int) != (l1.length : Int)) = true := bne_iff_ne.mpr c3
  have c3b2 : (l0.length == l1.length) = false := by first | simpa using c3 | (simp at c3 ⊢; omega)
  obtain rfl := Option.some.inj H
  go_enter Tryd.func105, Tryd.ntmps105
  go_wp2
  repeat (go_quiet (fail); try go_wp2)
  go_ret
  exact ⟨tx_, by repeat (first | exact Drawn0.refl _ | apply Drawn0.step)⟩

end Go.Proofs.YtlhiienanbpdlaaDoor.MFnExactReadPlace
