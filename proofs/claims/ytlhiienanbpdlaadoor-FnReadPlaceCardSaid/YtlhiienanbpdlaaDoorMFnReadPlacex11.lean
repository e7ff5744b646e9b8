/- For the law FnReadPlace: walks of the functions that it reaches: each call returns what the plain function beside it tells. The conditions stand in each statement. -/
import Derived.Test.YtlhiienanbpdlaaDoorV
import Derived.Test.YtlhiienanbpdlaaDoorMFnReadPlacex0
import Derived.Test.YtlhiienanbpdlaaDoorMFnReadPlacex10
namespace Go.Proofs.YtlhiienanbpdlaaDoor.MFnReadPlace
open Go.RowKit Go.Proofs.YtlhiienanbpdlaaDoorW.PrintWords Go.Proofs.YtlhiienanbpdlaaDoorW.PrintLast Go.Proofs.YtlhiienanbpdlaaDoorW.PrintMore
attribute [local go_sem] max2_int min2_int max_two min_two max_three min_three max_four min_four   -- for this text's walks alone
set_option linter.unusedVariables false
set_option linter.unusedSimpArgs false

/-! ### impl_ReadPlace: function 54 -/
mutual
def impl_ReadPlace.l0 : Nat → ByteArray → List ByteArray → List ByteArray → Int → Int → List Int → Int → Option (List Int × Int × List Int × Bool)
 | 0, _, _, _, _, _, _, _ => none
 | k + 1, x0, x4, x21, x22, x23, x308000, x308001 => if x23 < x22 then (if 0 ≤ x23 then (if x23 < (x21.length : Int) then ((strconv_Atoi.f (rdOf ByteArray.empty x21 x23)).bind fun bt313 => (if bt313.2.isNone = true then (if (x308000.length : Int) > 3 then (some (([] : List Int), 0, ([] : List Int), false)) else (if x308000.length < 17592186044416 then (impl_ReadPlace.l0 k x0 x4 x21 x22 (wrap64 (x23 + 1)) (x308000 ++ [bt313.1]) x308001) else (none))) else (some (([] : List Int), 0, ([] : List Int), false)))) else (none)) else (none)) else (if 1 < (x4.length : Int) then ((strconv_Atoi.f (rdOf ByteArray.empty x4 1)).bind fun bt320 => (if 2 < (x4.length : Int) then (if (rdOf ByteArray.empty x4 2).toList = ([46] : List UInt8) then ((impl_PlaceText.f k x308000 bt320.1 ([] : List Int)).bind fun t323 => (if t323.toList = x0.toList then (some (x308000, bt320.1, ([] : List Int), true)) else (some (([] : List Int), 0, ([] : List Int), false)))) else (impl_ReadPlace.l1 k x0 x4 ((rdOf ByteArray.empty x4 2).size : Int) 0 x308000 bt320.1 ([] : List Int))) else (none))) else (none))
def impl_ReadPlace.l1 : Nat → ByteArray → List ByteArray → Int → Int → List Int → Int → List Int → Option (List Int × Int × List Int × Bool)
 | 0, _, _, _, _, _, _, _ => none
 | k + 1, x0, x4, x63, x64, x308000, x308001, x308002 => if x64 < x63 then (if 2 < (x4.length : Int) then (if 0 ≤ x64 then (if x64 < ((rdOf ByteArray.empty x4 2).size : Int) then (if x308002.length < 17592186044416 then (impl_ReadPlace.l1 k x0 x4 x63 (wrap64 (x64 + 1)) x308000 x308001 (x308002 ++ [wrap64 ((wrap64 (bt (rdOf ByteArray.empty x4 2) x64)) - 97)])) else (none)) else (none)) else (none)) else (none)) else ((impl_PlaceText.f k x308000 x308001 x308002).bind fun t329 => (if t329.toList = x0.toList then (some (x308000, x308001, x308002, true)) else (some (([] : List Int), 0, ([] : List Int), false))))
end
def impl_ReadPlace.f (k : Nat) (a0 : ByteArray) : Option (List Int × Int × List Int × Bool) := (strings_Split.f a0 (⟨#[32]⟩ : ByteArray)).bind fun t304 => (if (t304.length : Int) = 3 then (if 0 < (t304.length : Int) then ((strings_Split.f (rdOf ByteArray.empty t304 0) (⟨#[44]⟩ : ByteArray)).bind fun t309 => (impl_ReadPlace.l0 k a0 t304 t309 (t309.length : Int) 0 ([] : List Int) 0)) else (none)) else (some (([] : List Int), 0, ([] : List Int), false)))
theorem impl_ReadPlace.mono_l : ∀ k, (∀ y0 y1 y2 y3 y4 y5 y6, LeO (impl_ReadPlace.l0 k y0 y1 y2 y3 y4 y5 y6) (impl_ReadPlace.l0 (k + 1) y0 y1 y2 y3 y4 y5 y6)) ∧ (∀ y0 y1 y2 y3 y4 y5 y6, LeO (impl_ReadPlace.l1 k y0 y1 y2 y3 y4 y5 y6) (impl_ReadPlace.l1 (k + 1) y0 y1 y2 y3 y4 y5 y6))
 | 0 => ⟨fun _ _ _ _ _ _ _ r h => by simp [impl_ReadPlace.l0] at h, fun _ _ _ _ _ _ _ r h => by simp [impl_ReadPlace.l1] at h⟩
 | k + 1 => by
  obtain ⟨ih0, ih1⟩ := impl_ReadPlace.mono_l k
  refine ⟨?_, ?_⟩
  ·
   intro y0 y1 y2 y3 y4 y5 y6
   unfold impl_ReadPlace.l0
   repeat' first
   | (with_reducible exact ih0 _ _ _ _ _ _ _)
   | (with_reducible exact ih1 _ _ _ _ _ _ _)
   | (with_reducible exact impl_PlaceText.mono _ _ _ _)
   | (with_reducible exact LeO.refl _)
   | (with_reducible exact LeO.none _)
   | (with_reducible refine LeO.ite ?_ ?_)
   | (with_reducible refine LeO.bind ?_ (fun _ => ?_))
   | exact ih0 _ _ _ _ _ _ _
   | exact ih1 _ _ _ _ _ _ _
   | exact impl_PlaceText.mono _ _ _ _
   | exact LeO.none _
   | refine LeO.ite ?_ ?_
   | refine LeO.bind ?_ (fun _ => ?_)
  ·
   intro y0 y1 y2 y3 y4 y5 y6
   unfold impl_ReadPlace.l1
   repeat' first
   | (with_reducible exact ih0 _ _ _ _ _ _ _)
   | (with_reducible exact ih1 _ _ _ _ _ _ _)
   | (with_reducible exact impl_PlaceText.mono _ _ _ _)
   | (with_reducible exact LeO.refl _)
   | (with_reducible exact LeO.none _)
   | (with_reducible refine LeO.ite ?_ ?_)
   | (with_reducible refine LeO.bind ?_ (fun _ => ?_))
   | exact ih0 _ _ _ _ _ _ _
   | exact ih1 _ _ _ _ _ _ _
   | exact impl_PlaceText.mono _ _ _ _
   | exact LeO.none _
   | refine LeO.ite ?_ ?_
   | refine LeO.bind ?_ (fun _ => ?_)
theorem impl_ReadPlace.mono : ∀ a0 k, LeO (impl_ReadPlace.f k a0) (impl_ReadPlace.f (k + 1) a0) := by
 intro a0 k
 obtain ⟨ih0, ih1⟩ := impl_ReadPlace.mono_l k
 unfold impl_ReadPlace.f
 repeat' first
   | (with_reducible exact ih0 _ _ _ _ _ _ _)
   | (with_reducible exact ih1 _ _ _ _ _ _ _)
   | (with_reducible exact impl_PlaceText.mono _ _ _ _)
   | (with_reducible exact LeO.refl _)
   | (with_reducible exact LeO.none _)
   | (with_reducible refine LeO.ite ?_ ?_)
   | (with_reducible refine LeO.bind ?_ (fun _ => ?_))
   | exact ih0 _ _ _ _ _ _ _
   | exact ih1 _ _ _ _ _ _ _
   | exact impl_PlaceText.mono _ _ _ _
   | exact LeO.none _
   | refine LeO.ite ?_ ?_
   | refine LeO.bind ?_ (fun _ => ?_)
def impl_ReadPlace.T18 : Bool × List (List Nat × List Nat) := (true, [([], []), ([0], [0]), ([], []), ([2], [2]), ([3], [3]), ([], []), ([4, 5], [4, 5]), ([6], [6]), ([7], [7]), ([8], [8]), ([1, 9], [1, 9]), ([0, 1, 2, 3, 4, 5, 6, 7, 8, 9, 10], []), ([11, 10, 10, 0, 1, 2, 3, 4, 5, 6, 7, 8, 9, 10], [10, 11])])
def impl_ReadPlace.B18 : List Nat := [0, 1, 0, 4, 12, 0, 60, 124, 252, 508, 1023, 2047, 4095]
theorem impl_ReadPlace.tab18 : rtab .any (opsOf Tryd.f54 18) = impl_ReadPlace.T18 := by kernel_rfl
theorem impl_ReadPlace.bits18 : waitsOk impl_ReadPlace.T18.2 impl_ReadPlace.B18 = true := by kernel_rfl
set_option maxHeartbeats 8000000 in
set_option maxRecDepth 100000 in
theorem impl_ReadPlace.calls (k : Nat) (a0 : ByteArray) (r1 : List Int) (r2 : Int) (r3 : List Int) (r4 : Bool) (w : World) (hG : GWb w) (h : impl_ReadPlace.f k a0 = some (r1, r2, r3, r4)) :
  Calls Tryd.prog 54 #[.string a0] w fun e w' => ∃ v0_ v2_ : Value, e = .returned (.tuple #[.agg #[v0_, .int .i64 r2, v2_], .bool r4]) ∧ Kd.R (Kd.int .i64) 3 w' w.heap.size (fun k_ => some k_ ≠ (v2_ : Value).ownBlock) v0_ r1 ∧ Kd.R (Kd.int .i64) 3 w' w.heap.size (fun k_ => some k_ ≠ (v0_ : Value).ownBlock) v2_ r3 ∧ Below w.heap.size w w' := by
 have HG := Aside0.mk hG
 clear hG
 have hu25 := Tryd.underlying25
 have hu111 := Tryd.underlying111
 have HB := Aside0.mk (Below.refl w.heap.size w)
 have H : ((strings_Split.f a0 (⟨#[32]⟩ : ByteArray)).bind fun t304 => (if (t304.length : Int) = 3 then (if 0 < (t304.length : Int) then ((strings_Split.f (rdOf ByteArray.empty t304 0) (⟨#[44]⟩ : ByteArray)).bind fun t309 => (impl_ReadPlace.l0 k a0 t304 t309 (t309.length : Int) 0 ([] : List Int) 0)) else (none)) else (some (([] : List Int), 0, ([] : List Int), false)))) = some (r1, r2, r3, r4) := h
 clear h
 replace H := Option.bind_eq_some_iff.mp H
 obtain ⟨t304, A20, H⟩ := H
 replace H : (if (t304.length : Int) = 3 then (if 0 < (t304.length : Int) then ((strings_Split.f (rdOf ByteArray.empty t304 0) (⟨#[44]⟩ : ByteArray)).bind fun t309 => (impl_ReadPlace.l0 k a0 t304 t309 (t309.length : Int) 0 ([] : List Int) 0)) else (none)) else (some (([] : List Int), 0, ([] : List Int), false))) = some (r1, r2, r3, r4) := H
 have A2 := Aside0.mk A20
 clear A20
 by_cases c3 : (t304.length : Int) = 3
 ·
  rw [if_pos c3] at H
  have c3b0 : ((t304.length : Int) == 3) = true := beq_iff_eq.mpr c3
  have c3b1 : ((t304.length : Int) != 3) = false := bne_eq_false_iff_eq.mpr c3
  clear c3
  by_cases c4 : 0 < (t304.length : Int)
  ·
   rw [if_pos c4] at H
   have c4b0 : decide (0 < (t304.length : Int)) = true := decide_eq_true c4
   have c4b1 : decide (0 < t304.length) = true := decide_eq_true (by omega)
   clear c4
   replace H := Option.bind_eq_some_iff.mp H
   obtain ⟨t309, A50, H⟩ := H
   replace H : (impl_ReadPlace.l0 k a0 t304 t309 (t309.length : Int) 0 ([] : List Int) 0) = some (r1, r2, r3, r4) := H
   have A5 := Aside0.mk A50
   clear A50
   have H' := Aside0.mk H
   clear H
   go_enter Tryd.func54, Tryd.ntmps54
   go_wp2_with (first | ((with_reducible refine gate_dst (N := 2) rfl ?_); (try (refine gate_guard (by rfl) ?_; dsimp only)); refine box_event ?hg (N := 2) ?hd (cs := #[.slice none 0 0, .int .i64 0, .slice none 0 0]) (t := 25) ?hr ?_; (case hd => rfl); (case hg => rfl); (case hr => first | (go_simp; done) | (go_simp; rfl)); intro gb303 hg w6 hbox hb; have n0_ := Aside0.mk (below_step (tb_ HB.out) hb); have n1_ := Aside0.mk (hbox); have n2_ := Aside0.mk ((by rw [hg]; exact (below_size (tb_ HB.out)) : w.heap.size ≤ gb303)); have n3_ := Aside0.mk ((by rw [hg]; exact (below_size (tb_ HB.out)) : w.heap.size ≤ gb303)); clear HB; have HB := n0_; have BK303 := n1_; have GW303 := n2_; have GE303 := n3_; clear n0_ n1_ n2_ n3_ hb hbox hg) | ((with_reducible refine gate_callee (f := 93) rfl ?_); refine goesL_ (some 12) rfl rfl Tryd.func93 (by kernel_rfl) rfl #[.string a0, .string (⟨#[32]⟩ : ByteArray)] rfl tz_ ?_; (with_reducible refine (strings_Split.calls a0 (⟨#[32]⟩ : ByteArray) t304 _ ?side1 A2.out).mono ?_); (case side1 => exact GWb.below HG.out (tb_ HB.out)); rintro e w7 ⟨v305, rfl, ho0, hb⟩; refine ⟨_, rfl, ?_⟩; have n0_ := Aside0.mk (Kd.R_lower ho0 (below_size (tb_ HB.out))); have n1_ := Aside0.mk (blk_below (g := gb303) (o := .cells #[.slice none 0 0, .int .i64 0, .slice none 0 0] 25 (0, 0)) (tk_ BK303.out) hb); have n2_ := Aside0.mk (below_step (tb_ HB.out) hb); clear BK303 HB; have HO306 := n0_; have BK303 := n1_; have HB := n2_; clear n0_ n1_ n2_; (try clear hb); (try clear hb2); (try clear hk); (try clear hi); (try clear ho0); obtain ⟨Ao8, co8, eo8⟩ := Kd.R_slice HO306.out; subst eo8) | ((with_reducible refine gate_dst (N := 5) rfl ?_); (try (refine gate_guard (by rfl) ?_; dsimp only)); refine box_event ?hg (N := 5) ?hd (cs := #[.slice none 0 0, .int .i64 0, .slice none 0 0]) (t := 25) ?hr ?_; (case hd => rfl); (case hg => rfl); (case hr => first | (go_simp; done) | (go_simp; rfl)); intro gb307 hg w9 hbox hb; have n0_ := Aside0.mk (Kd.R_below (rR_ HO306.out) hb); have n1_ := Aside0.mk (blk_below (g := gb303) (o := .cells #[.slice none 0 0, .int .i64 0, .slice none 0 0] 25 (0, 0)) (tk_ BK303.out) hb); have n2_ := Aside0.mk (below_step (tb_ HB.out) hb); have n3_ := Aside0.mk (hbox); have n4_ := Aside0.mk ((by rw [hg]; exact (below_size (tb_ HB.out)) : w.heap.size ≤ gb307)); have n5_ := Aside0.mk ((by rw [hg]; exact (below_size (tb_ HB.out)) : w.heap.size ≤ gb307)); have n6_ := Aside0.mk ((by rw [hg]; exact Nat.ne_of_lt (blk_lt (g := gb303) (o := .cells #[.slice none 0 0, .int .i64 0, .slice none 0 0] 25 (0, 0)) (tk_ BK303.out)) : gb303 ≠ gb307)); have n7_ := Aside0.mk ((by rw [hg]; exact Nat.ne_of_gt (blk_lt (g := gb303) (o := .cells #[.slice none 0 0, .int .i64 0, .slice none 0 0] 25 (0, 0)) (tk_ BK303.out)) : gb307 ≠ gb303)); clear HO306 BK303 HB; have HO306 := n0_; have BK303 := n1_; have HB := n2_; have BK307 := n3_; have GW307 := n4_; have GE307 := n5_; have NB303_307 := n6_; have NB307_303 := n7_; clear n0_ n1_ n2_ n3_ n4_ n5_ n6_ n7_ hb hbox hg; have hnb10 := NB307_303.out; have hnc10 := NB303_307.out; have hcz11_0 : w9.cell? ⟨gb307, 0, none⟩ = some (.slice none 0 0) := (blk_cell BK307.out 0).trans rfl; have hcz11_1 : w9.cell? ⟨gb307, 1, none⟩ = some (.int .i64 0) := (blk_cell BK307.out 1).trans rfl; have hcz11_2 : w9.cell? ⟨gb307, 2, none⟩ = some (.slice none 0 0) := (blk_cell BK307.out 2).trans rfl; have hfz11_0 := blk_frozen BK307.out 0; have hfz11_1 := blk_frozen BK307.out 1; have hfz11_2 := blk_frozen BK307.out 2; have p308 : 0 ≤ (0 : Int) := (by omega); have q308 : 0 < (t304.length : Int) := od_; obtain ⟨ad308, e308, hx308_0⟩ := Kd.at_string (Kd.R_reads' HO306.out).2.2 0 p308 q308; cases e308; have qi308 : (0 < t304.length) = True := eq_true (by omega); (try rw [show ((0 : Int)).toNat = 0 from rfl] at hx308_0); (try rw [Addr.add_zero'] at hx308_0); have hn308_0 : ad308.block ≠ gb307 := Kd.own_blk (Kd.R_ne HO306.out BK307.out (by decide)); have hn308_1 : ad308.block ≠ gb307 := Kd.own_blk (Kd.R_ne HO306.out BK307.out (by decide)); have hn308_2 : ad308.block ≠ gb307 := Kd.own_blk (Kd.R_ne HO306.out BK307.out (by decide)); replace hx308_0 := (cell_far (p := ⟨gb307, 0, none⟩) (by first | (rw [add_block]; exact hn308_0) | (show (Addr.add _ _).block ≠ _; rw [add_block]; exact hn308_0) | exact hn308_0) (.slice none 0 0)).trans hx308_0; replace hx308_0 := (cell_far (p := ⟨gb307, 1, none⟩) (by first | (rw [add_block]; exact hn308_1) | (show (Addr.add _ _).block ≠ _; rw [add_block]; exact hn308_1) | exact hn308_1) (.int .i64 0)).trans hx308_0; replace hx308_0 := (cell_far (p := ⟨gb307, 2, none⟩) (by first | (rw [add_block]; exact hn308_2) | (show (Addr.add _ _).block ≠ _; rw [add_block]; exact hn308_2) | exact hn308_2) (.slice none 0 0)).trans hx308_0; clear hn308_0 hn308_1 hn308_2; replace p308 := eq_true p308; replace q308 := eq_true q308) | ((with_reducible refine gate_callee (f := 93) rfl ?_); refine goesL_ (some 21) rfl rfl Tryd.func93 (by kernel_rfl) rfl #[.string (rdOf ByteArray.empty t304 0), .string (⟨#[44]⟩ : ByteArray)] rfl tz_ ?_; (with_reducible refine (strings_Split.calls (rdOf ByteArray.empty t304 0) (⟨#[44]⟩ : ByteArray) t309 _ ?side1 A5.out).mono ?_); (case side1 => exact GWb.below HG.out (tb_ HB.out)); rintro e w12 ⟨v310, rfl, ho0, hb⟩; refine ⟨_, rfl, ?_⟩; have n0_ := Aside0.mk (Kd.R_elder' (by refine qR_ ?_; exact (Kd.R_mono (Kd.R_far (p := ⟨gb307, 2, none⟩) (Kd.R_far (p := ⟨gb307, 1, none⟩) (Kd.R_far (p := ⟨gb307, 0, none⟩) (Kd.R_types HO306.out BK307.out (by decide)) (fun _ hk => hk.2) (.slice none 0 0)) (fun _ hk => hk.2) (.int .i64 0)) (fun _ hk => hk.2) (.slice none 0 0)) (fun _ h_ => h_.1))) (Kd.R_base ho0) hb); have n1_ := Aside0.mk (Kd.R_lower (Kd.R_new' ho0 (Kd.R_lt (by refine qR_ ?_; exact (Kd.R_mono (Kd.R_far (p := ⟨gb307, 2, none⟩) (Kd.R_far (p := ⟨gb307, 1, none⟩) (Kd.R_far (p := ⟨gb307, 0, none⟩) (Kd.R_types HO306.out BK307.out (by decide)) (fun _ hk => hk.2) (.slice none 0 0)) (fun _ hk => hk.2) (.int .i64 0)) (fun _ hk => hk.2) (.slice none 0 0)) (fun _ h_ => h_.1))))) (below_size (tb_ HB.out))); have n2_ := Aside0.mk (blk_below (g := gb303) (o := .cells #[.slice none 0 0, .int .i64 0, .slice none 0 0] 25 (0, 0)) (tk_ BK303.out) hb); have n3_ := Aside0.mk (blk_below (g := gb307) (o := .cells #[.slice none 0 0, .int .i64 0, .slice none 0 0] 25 (0, 0)) (by refine bq_ ?_; refine blk_put (cs := #[.slice none 0 0, .int .i64 0, .slice none 0 0]) ?_ 2 _ rfl; refine bq_ ?_; refine blk_put (cs := #[.slice none 0 0, .int .i64 0, .slice none 0 0]) ?_ 1 _ rfl; refine bq_ ?_; refine blk_put (cs := #[.slice none 0 0, .int .i64 0, .slice none 0 0]) ?_ 0 _ rfl; exact tk_ BK307.out) hb); have n4_ := Aside0.mk (below_step (tb_ HB.out) hb); clear HO306 BK303 BK307 HB; have HO306 := n0_; have HO311 := n1_; have BK303 := n2_; have BK307 := n3_; have HB := n4_; clear n0_ n1_ n2_ n3_ n4_; (try clear hb); (try clear hb2); (try clear hk); (try clear hi); (try clear ho0); obtain ⟨Ao13, co13, eo13⟩ := Kd.R_slice HO311.out; subst eo13))
   go_loopg [23] k (fun kq v23 w' => ∃ (x23_1 : Int) (x304001_1 : Int) (x308000_1 : List Int) (u308000 : Value), v23 = .int .i64 x23_1 ∧ Aside0 (impl_ReadPlace.l0 kq a0 t304 t309 (t309.length : Int) x23_1 x308000_1 0 = some (r1, r2, r3, r4)) ∧ Aside0 (kq ≤ k) ∧ Aside0 (Kd.R Kd.string 9 w' w.heap.size (fun k_ => some k_ ≠ ((.slice Ao13 t309.length co13) : Value).ownBlock) (.slice (some ad308) t304.length co8) t304) ∧ Aside0 (Kd.R Kd.string 9 w' w.heap.size (fun k_ => some k_ ≠ ((.slice (some ad308) t304.length co8) : Value).ownBlock) (.slice Ao13 t309.length co13) t309) ∧ Aside0 (Kd.R (Kd.int .i64) 3 w' w.heap.size (fun _ => True) u308000 x308000_1) ∧ Aside0 (w'.heap[gb303]? = some (.cells #[(.slice none 0 0), .int .i64 x304001_1, (.slice none 0 0)] 25 (0, 0))) ∧ Aside0 (w'.heap[gb307]? = some (.cells #[u308000, .int .i64 0, (.slice none 0 0)] 25 (0, 0))) ∧ Aside0 (Below w.heap.size w w'))
   case atStart => exact ⟨(0), (0), (([] : List Int)), (.slice none 0 0), tx_, H', ⟨Nat.le_refl _⟩, ⟨by refine qR_ ?_; exact Kd.R_mono HO306.out (fun _ hk => hk.2)⟩, ⟨by refine qR_ ?_; exact Kd.R_mono HO311.out (fun _ hk => hk.2)⟩, ⟨by first | exact Kd.R_nil _ _ _ _ _ | exact Kd.N_nil _ _ _ _ _ | exact Kd.V_nil _ _ _ _ _ | exact Kd.Q_nil _ _ _ _ _ | exact Kd.S_nil _ _ _ _ _⟩, ⟨tk_ BK303.out⟩, ⟨tk_ BK307.out⟩, ⟨(tb_ HB.out)⟩⟩
   case round =>
    clear H'
    try clear c1
    try clear p2
    try clear c3
    try clear c3b0
    try clear c3b1
    try clear p3
    try clear q3
    try clear hx3
    try clear qi3
    try clear c4
    try clear c4b0
    try clear c4b1
    try clear c5
    try clear c9
    try clear c10
    try clear hcz11_0
    try clear hcz11_1
    try clear hcz11_2
    try clear hfz11_0
    try clear hfz11_1
    try clear hfz11_2
    try clear hx308_0
    try clear p308
    try clear q308
    obtain ⟨x23_1, x304001_1, x308000_1, u308000, rfl, HA, HK1, HO_4, HO_21, HO_308000, BK303, BK307, HB⟩ := hrel
    cases gk with
    | zero => exact absurd HA.out (by simp [impl_ReadPlace.l0])
    | succ k1 =>
     have H := HA.out
     clear HA
     simp only [impl_ReadPlace.l0] at H
     by_cases c14 : x23_1 < (t309.length : Int)
     ·
      rw [if_pos c14] at H
      have c14b0 : decide (x23_1 < (t309.length : Int)) = true := decide_eq_true c14
      clear c14
      by_cases c15 : 0 ≤ x23_1
      ·
       rw [if_pos c15] at H
       have c15b0 : decide (0 ≤ x23_1) = true := decide_eq_true c15
       clear c15
       by_cases c16 : x23_1 < (t309.length : Int)
       ·
        rw [if_pos c16] at H
        have c16b0 : decide (x23_1 < (t309.length : Int)) = true := decide_eq_true c16
        clear c16
        replace H := Option.bind_eq_some_iff.mp H
        obtain ⟨⟨t313, t314⟩, A170, H⟩ := H
        replace H : (if t314.isNone = true then (if (x308000_1.length : Int) > 3 then (some (([] : List Int), 0, ([] : List Int), false)) else (if x308000_1.length < 17592186044416 then (impl_ReadPlace.l0 k1 a0 t304 t309 (t309.length : Int) (wrap64 (x23_1 + 1)) (x308000_1 ++ [t313]) 0) else (none))) else (some (([] : List Int), 0, ([] : List Int), false))) = some (r1, r2, r3, r4) := H
        have A17 := Aside0.mk A170
        clear A170
        rcases t314 with _ | q315
        ·
         have H1 : (if (x308000_1.length : Int) > 3 then (some (([] : List Int), 0, ([] : List Int), false)) else (if x308000_1.length < 17592186044416 then (impl_ReadPlace.l0 k1 a0 t304 t309 (t309.length : Int) (wrap64 (x23_1 + 1)) (x308000_1 ++ [t313]) 0) else (none))) = some (r1, r2, r3, r4) := by rw [if_pos (show (none : Option Int).isNone = true by rfl)] at H; exact H
         clear H
         have H := H1
         clear H1
         try simp only [errW_none, errW_some, Option.map_none, Option.map_some]
         by_cases c18 : (x308000_1.length : Int) > 3
         ·
          rw [if_pos c18] at H
          have c18b0 : decide (3 < (x308000_1.length : Int)) = true := decide_eq_true c18
          have c18b1 : decide (3 < x308000_1.length) = true := decide_eq_true (by omega)
          clear c18
          simp only [Option.some.injEq, Prod.mk.injEq] at H
          obtain ⟨rfl, rfl, rfl, rfl⟩ := H
          have p312 : 0 ≤ (x23_1 : Int) := od_
          have q312 : x23_1 < (t309.length : Int) := od_
          obtain ⟨ad312, e312, hx312_0⟩ := Kd.at_string (Kd.R_reads' HO_21.out).2.2 x23_1 p312 q312
          cases e312
          replace p312 := eq_true p312
          replace q312 := eq_true q312
          go_wp2_with (first | ((with_reducible refine gate_callee (f := 95) rfl ?_); refine goesL_ (some 29) rfl rfl Tryd.func95 (by kernel_rfl) rfl #[.string (rdOf ByteArray.empty t309 x23_1)] rfl tz_ ?_; (with_reducible refine (strconv_Atoi.calls (rdOf ByteArray.empty t309 x23_1) t313 none _ ?side1 A17.out).mono ?_); (case side1 => exact GWb.below HG.out (tb_ HB.out)); rintro e w19 ⟨N_, rfl, hb⟩; refine ⟨_, rfl, ?_⟩; have n0_ := Aside0.mk (Kd.R_below (rR_ HO_4.out) hb); have n1_ := Aside0.mk (Kd.R_below (rR_ HO_21.out) hb); have n2_ := Aside0.mk (Kd.R_below (rR_ HO_308000.out) hb); have n3_ := Aside0.mk (blk_below (g := gb303) (o := .cells #[.slice none 0 0, .int .i64 x304001_1, .slice none 0 0] 25 (0, 0)) (tk_ BK303.out) hb); have n4_ := Aside0.mk (blk_below (g := gb307) (o := .cells #[u308000, .int .i64 0, .slice none 0 0] 25 (0, 0)) (tk_ BK307.out) hb); have n5_ := Aside0.mk (below_step (tb_ HB.out) hb); clear HO_4 HO_21 HO_308000 BK303 BK307 HB; have HO_4 := n0_; have HO_21 := n1_; have HO_308000 := n2_; have BK303 := n3_; have BK307 := n4_; have HB := n5_; clear n0_ n1_ n2_ n3_ n4_ n5_; (try clear hb); (try clear hb2); (try clear hk); (try clear hi); (try simp only [errW_none, errW_some, Option.map_none, Option.map_some]); have hnb20 := NB307_303.out; have hnc20 := NB303_307.out; have hcz21_0 : w19.cell? ⟨gb307, 0, none⟩ = some (u308000) := (blk_cell BK307.out 0).trans rfl; have hcz21_1 : w19.cell? ⟨gb307, 1, none⟩ = some (.int .i64 0) := (blk_cell BK307.out 1).trans rfl; have hcz21_2 : w19.cell? ⟨gb307, 2, none⟩ = some (.slice none 0 0) := (blk_cell BK307.out 2).trans rfl; have hfz21_0 := blk_frozen BK307.out 0; have hfz21_1 := blk_frozen BK307.out 1; have hfz21_2 := blk_frozen BK307.out 2; obtain ⟨Ao22, co22, eo22⟩ := Kd.R_slice HO_308000.out; subst eo22; have hcz23_0 : w19.cell? ⟨gb303, 0, none⟩ = some (.slice none 0 0) := (blk_cell BK303.out 0).trans rfl; have hcz23_1 : w19.cell? ⟨gb303, 1, none⟩ = some (.int .i64 x304001_1) := (blk_cell BK303.out 1).trans rfl; have hcz23_2 : w19.cell? ⟨gb303, 2, none⟩ = some (.slice none 0 0) := (blk_cell BK303.out 2).trans rfl; have hfz23_0 := blk_frozen BK303.out 0; have hfz23_1 := blk_frozen BK303.out 1; have hfz23_2 := blk_frozen BK303.out 2))
          refine bodyPost_ret (results_ct rfl _ _ gb303 25 #[.slice none 0 0, .int .i64 0, .slice none 0 0] (0, 0) _ rfl (by refine bq_ ?_; refine blk_put (cs := #[.slice none 0 0, .int .i64 0, .slice none 0 0]) ?_ 2 _ rfl; refine bq_ ?_; refine blk_put (cs := #[.slice none 0 0, .int .i64 x304001_1, .slice none 0 0]) ?_ 1 _ rfl; refine bq_ ?_; refine blk_put (cs := #[.slice none 0 0, .int .i64 x304001_1, .slice none 0 0]) ?_ 0 _ rfl; exact tk_ BK303.out) Tryd.underlying25 rfl (by kernel_rfl)) rfl ?_
          exact ⟨_, _, by first | rfl | (simp [errW_none, errW_some, Option.map_none, Option.map_some] <;> rfl) | (simp [*, errW_none, errW_some] <;> rfl), by first | exact Kd.R_nil _ _ _ _ _ | exact Kd.N_nil _ _ _ _ _ | exact Kd.V_nil _ _ _ _ _ | exact Kd.Q_nil _ _ _ _ _ | exact Kd.S_nil _ _ _ _ _, by first | exact Kd.R_nil _ _ _ _ _ | exact Kd.N_nil _ _ _ _ _ | exact Kd.V_nil _ _ _ _ _ | exact Kd.Q_nil _ _ _ _ _ | exact Kd.S_nil _ _ _ _ _, (tb_ HB.out)⟩
         ·
          rw [if_neg c18] at H
          have c18b0 : decide (3 < (x308000_1.length : Int)) = false := decide_eq_false c18
          have c18b1 : decide (3 < x308000_1.length) = false := decide_eq_false (by omega)
          clear c18
          by_cases c24 : x308000_1.length < 17592186044416
          ·
           rw [if_pos c24] at H
           have LMc24 := Aside0.mk c24
           clear c24
           obtain ⟨y316, hy316⟩ : ∃ y_ : List Int, y_ = (x308000_1 ++ [t313]) := ⟨_, rfl⟩
           replace H : (impl_ReadPlace.l0 k1 a0 t304 t309 (t309.length : Int) (wrap64 (x23_1 + 1)) y316 0) = some (r1, r2, r3, r4) := by first | (rw [hy316]; with_reducible exact H) | (have H2_ := (Option.bind_some _ _).symm.trans H; rw [hy316]; with_reducible exact H2_) | (have H2_ := (Option.bind_some _ _).symm.trans H; with_reducible exact H2_) | with_reducible exact H | (rw [hy316]; exact H) | exact H
           have Ny316 := Aside0.mk hy316
           clear hy316
           have H' := Aside0.mk H
           clear H
           have p312 : 0 ≤ (x23_1 : Int) := od_
           have q312 : x23_1 < (t309.length : Int) := od_
           obtain ⟨ad312, e312, hx312_0⟩ := Kd.at_string (Kd.R_reads' HO_21.out).2.2 x23_1 p312 q312
           cases e312
           replace p312 := eq_true p312
           replace q312 := eq_true q312
           go_wp2_with (first | ((with_reducible refine gate_callee (f := 95) rfl ?_); refine goesL_ (some 29) rfl rfl Tryd.func95 (by kernel_rfl) rfl #[.string (rdOf ByteArray.empty t309 x23_1)] rfl tz_ ?_; (with_reducible refine (strconv_Atoi.calls (rdOf ByteArray.empty t309 x23_1) t313 none _ ?side1 A17.out).mono ?_); (case side1 => exact GWb.below HG.out (tb_ HB.out)); rintro e w25 ⟨N_, rfl, hb⟩; refine ⟨_, rfl, ?_⟩; have n0_ := Aside0.mk (Kd.R_below (rR_ HO_4.out) hb); have n1_ := Aside0.mk (Kd.R_below (rR_ HO_21.out) hb); have n2_ := Aside0.mk (Kd.R_below (rR_ HO_308000.out) hb); have n3_ := Aside0.mk (blk_below (g := gb303) (o := .cells #[.slice none 0 0, .int .i64 x304001_1, .slice none 0 0] 25 (0, 0)) (tk_ BK303.out) hb); have n4_ := Aside0.mk (blk_below (g := gb307) (o := .cells #[u308000, .int .i64 0, .slice none 0 0] 25 (0, 0)) (tk_ BK307.out) hb); have n5_ := Aside0.mk (below_step (tb_ HB.out) hb); clear HO_4 HO_21 HO_308000 BK303 BK307 HB; have HO_4 := n0_; have HO_21 := n1_; have HO_308000 := n2_; have BK303 := n3_; have BK307 := n4_; have HB := n5_; clear n0_ n1_ n2_ n3_ n4_ n5_; (try clear hb); (try clear hb2); (try clear hk); (try clear hi); (try simp only [errW_none, errW_some, Option.map_none, Option.map_some]); have hnb26 := NB307_303.out; have hnc26 := NB303_307.out; have hcz27_0 : w25.cell? ⟨gb307, 0, none⟩ = some (u308000) := (blk_cell BK307.out 0).trans rfl; have hcz27_1 : w25.cell? ⟨gb307, 1, none⟩ = some (.int .i64 0) := (blk_cell BK307.out 1).trans rfl; have hcz27_2 : w25.cell? ⟨gb307, 2, none⟩ = some (.slice none 0 0) := (blk_cell BK307.out 2).trans rfl; have hfz27_0 := blk_frozen BK307.out 0; have hfz27_1 := blk_frozen BK307.out 1; have hfz27_2 := blk_frozen BK307.out 2; obtain ⟨Ao28, co28, eo28⟩ := Kd.R_slice HO_308000.out; subst eo28) | ((with_reducible refine gate_builtin (b := .append) (xs := #[.tmp 42, .tmp 44]) rfl ?_); (try (refine gate_guard (by rfl) ?_; dsimp only)); at_builtin; refine Kd.R_append (Kd.int .i64) (w0 := w) w.heap.size rfl (.tmp 42) (.tmp 44) 23 3 (.int .i64 0) 8 rfl Tryd.underlying23 info3 rfl (by decide) (by omega) (.slice Ao28 x308000_1.length co28) x308000_1 t313 [.int .i64 t313] (fun _ => True) (fun _ => False) rfl rfl ?aP (fun _ hk => hk.elim) ?aF ?aO ?aB ?aS ?aL ?_; (case aP => exact rfl); (case aB => exact (tb_ HB.out)); (case aF => exact (fun _ _ => trivial)); (case aO => exact (rR_ HO_308000.out)); (case aS => exact (below_size (tb_ HB.out))); (case aL => have := LMc24.out; omega); intro v317 w29 ho hb hg hat; rw [← Ny316.out] at ho; have n0_ := Aside0.mk (Kd.R_over' (rR_ HO_4.out) (Kd.R_typed (rR_ HO_308000.out)) (by decide) hg); have n1_ := Aside0.mk (Kd.R_over' (rR_ HO_21.out) (Kd.R_typed (rR_ HO_308000.out)) (by decide) hg); have n2_ := Aside0.mk (blk_grown (g := gb303) (o := .cells #[.slice none 0 0, .int .i64 x304001_1, .slice none 0 0] 25 (0, 0)) (tk_ BK303.out) hg (Kd.R_ne HO_308000.out BK303.out (by decide))); have n3_ := Aside0.mk (blk_grown (g := gb307) (o := .cells #[.slice Ao28 x308000_1.length co28, .int .i64 0, .slice none 0 0] 25 (0, 0)) (tk_ BK307.out) hg (Kd.R_ne HO_308000.out BK307.out (by decide))); have n4_ := Aside0.mk (hb); have n5_ := Aside0.mk (ho); clear HO_4 HO_21 BK303 BK307 HB HO_308000; have HO_4 := n0_; have HO_21 := n1_; have BK303 := n2_; have BK307 := n3_; have HB := n4_; have HO318 := n5_; clear n0_ n1_ n2_ n3_ n4_ n5_ ho hb hg hat; obtain ⟨Ao30, co30, eo30⟩ := Kd.R_slice HO318.out; subst eo30; have hcz31_0 : w29.cell? ⟨gb307, 0, none⟩ = some (.slice Ao28 x308000_1.length co28) := (blk_cell BK307.out 0).trans rfl; have hcz31_1 : w29.cell? ⟨gb307, 1, none⟩ = some (.int .i64 0) := (blk_cell BK307.out 1).trans rfl; have hcz31_2 : w29.cell? ⟨gb307, 2, none⟩ = some (.slice none 0 0) := (blk_cell BK307.out 2).trans rfl; have hfz31_0 := blk_frozen BK307.out 0; have hfz31_1 := blk_frozen BK307.out 1; have hfz31_2 := blk_frozen BK307.out 2))
           go_roundg k1
           case measure => have := HK1.out; omega
           case rel => exact ⟨(wrap64 (x23_1 + 1)), (x304001_1), (y316), (.slice Ao30 y316.length co30), tx_, H', ⟨by have := HK1.out; omega⟩, ⟨by refine qR_ ?_; exact Kd.R_mono (Kd.R_far (p := ⟨gb307, 0, none⟩) (Kd.R_types HO_4.out BK307.out (by decide)) (fun _ hk => hk.2) (.slice Ao30 y316.length co30)) (fun _ hk => hk.1)⟩, ⟨by refine qR_ ?_; exact Kd.R_mono (Kd.R_far (p := ⟨gb307, 0, none⟩) (Kd.R_types HO_21.out BK307.out (by decide)) (fun _ hk => hk.2) (.slice Ao30 y316.length co30)) (fun _ hk => hk.1)⟩, ⟨by refine qR_ ?_; exact Kd.R_mono (Kd.R_far (p := ⟨gb307, 0, none⟩) (Kd.R_types HO318.out BK307.out (by decide)) (fun _ hk => hk.2) (.slice Ao30 y316.length co30)) (fun _ hk => trivial)⟩, ⟨tk_ BK303.out⟩, ⟨by refine bq_ ?_; refine blk_put (cs := #[.slice Ao28 x308000_1.length co28, .int .i64 0, .slice none 0 0]) ?_ 0 _ rfl; exact tk_ BK307.out⟩, ⟨(tb_ HB.out)⟩⟩
          ·
           rw [if_neg c24] at H
           exact absurd H (by simp)
        ·
         have H1 : (some (([] : List Int), 0, ([] : List Int), false)) = some (r1, r2, r3, r4) := by rw [if_neg (show ¬ (some q315).isNone = true by simp)] at H; exact H
         clear H
         have H := H1
         clear H1
         try simp only [errW_none, errW_some, Option.map_none, Option.map_some]
         simp only [Option.some.injEq, Prod.mk.injEq] at H
         obtain ⟨rfl, rfl, rfl, rfl⟩ := H
         have p312 : 0 ≤ (x23_1 : Int) := od_
         have q312 : x23_1 < (t309.length : Int) := od_
         obtain ⟨ad312, e312, hx312_0⟩ := Kd.at_string (Kd.R_reads' HO_21.out).2.2 x23_1 p312 q312
         cases e312
         replace p312 := eq_true p312
         replace q312 := eq_true q312
         go_wp2_with (first | ((with_reducible refine gate_callee (f := 95) rfl ?_); refine goesL_ (some 29) rfl rfl Tryd.func95 (by kernel_rfl) rfl #[.string (rdOf ByteArray.empty t309 x23_1)] rfl tz_ ?_; (with_reducible refine (strconv_Atoi.calls (rdOf ByteArray.empty t309 x23_1) t313 (some q315) _ ?side1 A17.out).mono ?_); (case side1 => exact GWb.below HG.out (tb_ HB.out)); rintro e w32 ⟨N_, rfl, hb⟩; refine ⟨_, rfl, ?_⟩; have n0_ := Aside0.mk (Kd.R_below (rR_ HO_4.out) hb); have n1_ := Aside0.mk (Kd.R_below (rR_ HO_21.out) hb); have n2_ := Aside0.mk (Kd.R_below (rR_ HO_308000.out) hb); have n3_ := Aside0.mk (blk_below (g := gb303) (o := .cells #[.slice none 0 0, .int .i64 x304001_1, .slice none 0 0] 25 (0, 0)) (tk_ BK303.out) hb); have n4_ := Aside0.mk (blk_below (g := gb307) (o := .cells #[u308000, .int .i64 0, .slice none 0 0] 25 (0, 0)) (tk_ BK307.out) hb); have n5_ := Aside0.mk (below_step (tb_ HB.out) hb); clear HO_4 HO_21 HO_308000 BK303 BK307 HB; have HO_4 := n0_; have HO_21 := n1_; have HO_308000 := n2_; have BK303 := n3_; have BK307 := n4_; have HB := n5_; clear n0_ n1_ n2_ n3_ n4_ n5_; (try clear hb); (try clear hb2); (try clear hk); (try clear hi); (try simp only [errW_none, errW_some, Option.map_none, Option.map_some]); have hnb33 := NB303_307.out; have hnc33 := NB307_303.out; have hcz34_0 : w32.cell? ⟨gb303, 0, none⟩ = some (.slice none 0 0) := (blk_cell BK303.out 0).trans rfl; have hcz34_1 : w32.cell? ⟨gb303, 1, none⟩ = some (.int .i64 x304001_1) := (blk_cell BK303.out 1).trans rfl; have hcz34_2 : w32.cell? ⟨gb303, 2, none⟩ = some (.slice none 0 0) := (blk_cell BK303.out 2).trans rfl; have hfz34_0 := blk_frozen BK303.out 0; have hfz34_1 := blk_frozen BK303.out 1; have hfz34_2 := blk_frozen BK303.out 2))
         refine bodyPost_ret (results_ct rfl _ _ gb303 25 #[.slice none 0 0, .int .i64 0, .slice none 0 0] (0, 0) _ rfl (by refine bq_ ?_; refine blk_put (cs := #[.slice none 0 0, .int .i64 0, .slice none 0 0]) ?_ 2 _ rfl; refine bq_ ?_; refine blk_put (cs := #[.slice none 0 0, .int .i64 x304001_1, .slice none 0 0]) ?_ 1 _ rfl; refine bq_ ?_; refine blk_put (cs := #[.slice none 0 0, .int .i64 x304001_1, .slice none 0 0]) ?_ 0 _ rfl; exact tk_ BK303.out) Tryd.underlying25 rfl (by kernel_rfl)) rfl ?_
         exact ⟨_, _, by first | rfl | (simp [errW_none, errW_some, Option.map_none, Option.map_some] <;> rfl) | (simp [*, errW_none, errW_some] <;> rfl), by first | exact Kd.R_nil _ _ _ _ _ | exact Kd.N_nil _ _ _ _ _ | exact Kd.V_nil _ _ _ _ _ | exact Kd.Q_nil _ _ _ _ _ | exact Kd.S_nil _ _ _ _ _, by first | exact Kd.R_nil _ _ _ _ _ | exact Kd.N_nil _ _ _ _ _ | exact Kd.V_nil _ _ _ _ _ | exact Kd.Q_nil _ _ _ _ _ | exact Kd.S_nil _ _ _ _ _, (tb_ HB.out)⟩
       ·
        rw [if_neg c16] at H
        exact absurd H (by simp)
      ·
       rw [if_neg c15] at H
       exact absurd H (by simp)
     ·
      rw [if_neg c14] at H
      have c14b0 : decide (x23_1 < (t309.length : Int)) = false := decide_eq_false c14
      clear c14
      by_cases c35 : 1 < (t304.length : Int)
      ·
       rw [if_pos c35] at H
       have c35b0 : decide (1 < (t304.length : Int)) = true := decide_eq_true c35
       have c35b1 : decide (1 < t304.length) = true := decide_eq_true (by omega)
       clear c35
       replace H := Option.bind_eq_some_iff.mp H
       obtain ⟨⟨t320, t321⟩, A360, H⟩ := H
       replace H : (if 2 < (t304.length : Int) then (if (rdOf ByteArray.empty t304 2).toList = ([46] : List UInt8) then ((impl_PlaceText.f k1 x308000_1 t320 ([] : List Int)).bind fun t323 => (if t323.toList = a0.toList then (some (x308000_1, t320, ([] : List Int), true)) else (some (([] : List Int), 0, ([] : List Int), false)))) else (impl_ReadPlace.l1 k1 a0 t304 ((rdOf ByteArray.empty t304 2).size : Int) 0 x308000_1 t320 ([] : List Int))) else (none)) = some (r1, r2, r3, r4) := H
       have A36 := Aside0.mk A360
       clear A360
       by_cases c37 : 2 < (t304.length : Int)
       ·
        rw [if_pos c37] at H
        have c37b0 : decide (2 < (t304.length : Int)) = true := decide_eq_true c37
        have c37b1 : decide (2 < t304.length) = true := decide_eq_true (by omega)
        clear c37
        by_cases c38 : (rdOf ByteArray.empty t304 2).toList = ([46] : List UInt8)
        ·
         rw [if_pos c38] at H
         have c38b0 : ((rdOf ByteArray.empty t304 2).toList == ([46] : List UInt8)) = true := beq_iff_eq.mpr c38
         have c38b1 : ((rdOf ByteArray.empty t304 2).toList != ([46] : List UInt8)) = false := bne_eq_false_iff_eq.mpr c38
         clear c38
         replace H := Option.bind_eq_some_iff.mp H
         obtain ⟨t323, A390, H⟩ := H
         replace H : (if t323.toList = a0.toList then (some (x308000_1, t320, ([] : List Int), true)) else (some (([] : List Int), 0, ([] : List Int), false))) = some (r1, r2, r3, r4) := H
         have A39 := Aside0.mk A390
         clear A390
         by_cases c40 : t323.toList = a0.toList
         ·
          rw [if_pos c40] at H
          have c40b0 : (t323.toList == a0.toList) = true := beq_iff_eq.mpr c40
          have c40b1 : (t323.toList != a0.toList) = false := bne_eq_false_iff_eq.mpr c40
          clear c40
          simp only [Option.some.injEq, Prod.mk.injEq] at H
          obtain ⟨rfl, rfl, rfl, rfl⟩ := H
          have p319 : 0 ≤ (1 : Int) := (by omega)
          have q319 : 1 < (t304.length : Int) := od_
          obtain ⟨ad319, e319, hx319_0⟩ := Kd.at_string (Kd.R_reads' HO_4.out).2.2 1 p319 q319
          obtain rfl : ad308 = ad319 := (by injection e319)
          (try simp only [show (1 : Int).toNat = 1 from rfl, Nat.reduceMul, Nat.reduceEqDiff, Go.Addr.add, ↓reduceIte] at hx319_0)
          have qi319 : (1 < t304.length) = True := eq_true (by omega)
          (try rw [show ((1 : Int)).toNat = 1 from rfl] at hx319_0)
          replace p319 := eq_true p319
          replace q319 := eq_true q319
          go_wp2_with (first | ((with_reducible refine gate_callee (f := 95) rfl ?_); refine goesL_ (some 52) rfl rfl Tryd.func95 (by kernel_rfl) rfl #[.string (rdOf ByteArray.empty t304 1)] rfl tz_ ?_; (with_reducible refine (strconv_Atoi.calls (rdOf ByteArray.empty t304 1) t320 t321 _ ?side1 A36.out).mono ?_); (case side1 => exact GWb.below HG.out (tb_ HB.out)); rintro e w41 ⟨N_, rfl, hb⟩; refine ⟨_, rfl, ?_⟩; have n0_ := Aside0.mk (Kd.R_below (rR_ HO_4.out) hb); have n1_ := Aside0.mk (Kd.R_below (rR_ HO_21.out) hb); have n2_ := Aside0.mk (Kd.R_below (rR_ HO_308000.out) hb); have n3_ := Aside0.mk (blk_below (g := gb303) (o := .cells #[.slice none 0 0, .int .i64 x304001_1, .slice none 0 0] 25 (0, 0)) (tk_ BK303.out) hb); have n4_ := Aside0.mk (blk_below (g := gb307) (o := .cells #[u308000, .int .i64 0, .slice none 0 0] 25 (0, 0)) (tk_ BK307.out) hb); have n5_ := Aside0.mk (below_step (tb_ HB.out) hb); clear HO_4 HO_21 HO_308000 BK303 BK307 HB; have HO_4 := n0_; have HO_21 := n1_; have HO_308000 := n2_; have BK303 := n3_; have BK307 := n4_; have HB := n5_; clear n0_ n1_ n2_ n3_ n4_ n5_; (try clear hb); (try clear hb2); (try clear hk); (try clear hi); (try simp only [errW_none, errW_some, Option.map_none, Option.map_some]); have hnb42 := NB307_303.out; have hnc42 := NB303_307.out; have hcz43_0 : w41.cell? ⟨gb307, 0, none⟩ = some (u308000) := (blk_cell BK307.out 0).trans rfl; have hcz43_1 : w41.cell? ⟨gb307, 1, none⟩ = some (.int .i64 0) := (blk_cell BK307.out 1).trans rfl; have hcz43_2 : w41.cell? ⟨gb307, 2, none⟩ = some (.slice none 0 0) := (blk_cell BK307.out 2).trans rfl; have hfz43_0 := blk_frozen BK307.out 0; have hfz43_1 := blk_frozen BK307.out 1; have hfz43_2 := blk_frozen BK307.out 2; have p322 : 0 ≤ (2 : Int) := (by omega); have q322 : 2 < (t304.length : Int) := od_; obtain ⟨ad322, e322, hx322_0⟩ := Kd.at_string (Kd.R_reads' HO_4.out).2.2 2 p322 q322; obtain rfl : ad308 = ad322 := (by injection e322); (try simp only [show (2 : Int).toNat = 2 from rfl, Nat.reduceMul, Nat.reduceEqDiff, Go.Addr.add, ↓reduceIte] at hx322_0); have qi322 : (2 < t304.length) = True := eq_true (by omega); (try rw [show ((2 : Int)).toNat = 2 from rfl] at hx322_0); have hn322_0 : ad308.block ≠ gb307 := Kd.own_blk (Kd.R_ne HO_4.out BK307.out (by decide)); replace hx322_0 := (cell_far (p := ⟨gb307, 1, none⟩) (by first | (rw [add_block]; exact hn322_0) | (show (Addr.add _ _).block ≠ _; rw [add_block]; exact hn322_0) | exact hn322_0) (.int .i64 t320)).trans hx322_0; clear hn322_0; replace p322 := eq_true p322; replace q322 := eq_true q322; obtain ⟨Ao44, co44, eo44⟩ := Kd.R_slice HO_308000.out; subst eo44) | ((with_reducible refine gate_callee (f := 60) rfl ?_); refine goesL_ (some 81) rfl rfl Tryd.func60 (by kernel_rfl) rfl #[.agg #[.slice Ao44 x308000_1.length co44, .int .i64 t320, .slice none 0 0]] rfl tz_ ?_; (refine (impl_PlaceText.calls k1 _ _ x308000_1 t320 _ _ ([] : List Int) t323 _ ?side1 ?side2 ?side3 ?side4 ?side5 A39.out).mono ?_); (case side1 => refine (Kd.R_reads' (e := 3) (base := w.heap.size) (ok := fun k_ => True) (n := x308000_1.length) (c := co44) ?_).2.2; exact (by refine qR_ ?_; exact (Kd.R_mono (Kd.R_far (p := ⟨gb307, 1, none⟩) (Kd.R_types HO_308000.out BK307.out (by decide)) (fun _ hk => hk.2) (.int .i64 t320)) (fun _ h_ => h_.1)))); (case side2 => exact (Kd.R_reads' HO_308000.out).2.1); (case side3 => exact Kd.C_nil _ _); (case side4 => exact Nat.le_refl _); (case side5 => exact GWb.below HG.out (tb_ HB.out)); rintro e w45 ⟨rfl, hb⟩; refine ⟨_, rfl, ?_⟩; have n0_ := Aside0.mk (Kd.R_below (by refine qR_ ?_; exact (Kd.R_mono (Kd.R_far (p := ⟨gb307, 1, none⟩) (Kd.R_types HO_4.out BK307.out (by decide)) (fun _ hk => hk.2) (.int .i64 t320)) (fun _ h_ => h_.1))) hb); have n1_ := Aside0.mk (Kd.R_below (by refine qR_ ?_; exact (Kd.R_mono (Kd.R_far (p := ⟨gb307, 1, none⟩) (Kd.R_types HO_21.out BK307.out (by decide)) (fun _ hk => hk.2) (.int .i64 t320)) (fun _ h_ => h_.1))) hb); have n2_ := Aside0.mk (Kd.R_below (by refine qR_ ?_; exact (Kd.R_mono (Kd.R_far (p := ⟨gb307, 1, none⟩) (Kd.R_types HO_308000.out BK307.out (by decide)) (fun _ hk => hk.2) (.int .i64 t320)) (fun _ h_ => h_.1))) hb); have n3_ := Aside0.mk (blk_below (g := gb303) (o := .cells #[.slice none 0 0, .int .i64 x304001_1, .slice none 0 0] 25 (0, 0)) (tk_ BK303.out) hb); have n4_ := Aside0.mk (blk_below (g := gb307) (o := .cells #[.slice Ao44 x308000_1.length co44, .int .i64 t320, .slice none 0 0] 25 (0, 0)) (by refine bq_ ?_; refine blk_put (cs := #[.slice Ao44 x308000_1.length co44, .int .i64 0, .slice none 0 0]) ?_ 1 _ rfl; exact tk_ BK307.out) hb); have n5_ := Aside0.mk (below_step (tb_ HB.out) hb); clear HO_4 HO_21 HO_308000 BK303 BK307 HB; have HO_4 := n0_; have HO_21 := n1_; have HO_308000 := n2_; have BK303 := n3_; have BK307 := n4_; have HB := n5_; clear n0_ n1_ n2_ n3_ n4_ n5_; (try clear hb); (try clear hb2); (try clear hk); (try clear hi); have hcz46_0 : w45.cell? ⟨gb307, 0, none⟩ = some (.slice Ao44 x308000_1.length co44) := (blk_cell BK307.out 0).trans rfl; have hcz46_1 : w45.cell? ⟨gb307, 1, none⟩ = some (.int .i64 t320) := (blk_cell BK307.out 1).trans rfl; have hcz46_2 : w45.cell? ⟨gb307, 2, none⟩ = some (.slice none 0 0) := (blk_cell BK307.out 2).trans rfl; have hfz46_0 := blk_frozen BK307.out 0; have hfz46_1 := blk_frozen BK307.out 1; have hfz46_2 := blk_frozen BK307.out 2; have hcz47_0 : w45.cell? ⟨gb303, 0, none⟩ = some (.slice none 0 0) := (blk_cell BK303.out 0).trans rfl; have hcz47_1 : w45.cell? ⟨gb303, 1, none⟩ = some (.int .i64 x304001_1) := (blk_cell BK303.out 1).trans rfl; have hcz47_2 : w45.cell? ⟨gb303, 2, none⟩ = some (.slice none 0 0) := (blk_cell BK303.out 2).trans rfl; have hfz47_0 := blk_frozen BK303.out 0; have hfz47_1 := blk_frozen BK303.out 1; have hfz47_2 := blk_frozen BK303.out 2))
          refine bodyPost_ret (results_ct rfl _ _ gb303 25 #[.slice Ao44 x308000_1.length co44, .int .i64 t320, .slice none 0 0] (0, 0) _ rfl (by refine bq_ ?_; refine blk_put (cs := #[.slice Ao44 x308000_1.length co44, .int .i64 t320, .slice none 0 0]) ?_ 2 _ rfl; refine bq_ ?_; refine blk_put (cs := #[.slice Ao44 x308000_1.length co44, .int .i64 x304001_1, .slice none 0 0]) ?_ 1 _ rfl; refine bq_ ?_; refine blk_put (cs := #[.slice none 0 0, .int .i64 x304001_1, .slice none 0 0]) ?_ 0 _ rfl; exact tk_ BK303.out) Tryd.underlying25 rfl (by kernel_rfl)) rfl ?_
          exact ⟨_, _, by first | rfl | (simp [errW_none, errW_some, Option.map_none, Option.map_some] <;> rfl) | (simp [*, errW_none, errW_some] <;> rfl), by refine qR_ ?_; exact Kd.R_mono (Kd.R_far (p := ⟨gb303, 2, none⟩) (Kd.R_far (p := ⟨gb303, 1, none⟩) (Kd.R_far (p := ⟨gb303, 0, none⟩) (Kd.R_types HO_308000.out BK303.out (by decide)) (fun _ hk => hk.2) (.slice Ao44 x308000_1.length co44)) (fun _ hk => hk.2) (.int .i64 t320)) (fun _ hk => hk.2) (.slice none 0 0)) (fun _ hk => (by simp [Value.ownBlock])), by first | exact Kd.R_nil _ _ _ _ _ | exact Kd.N_nil _ _ _ _ _ | exact Kd.V_nil _ _ _ _ _ | exact Kd.Q_nil _ _ _ _ _ | exact Kd.S_nil _ _ _ _ _, (tb_ HB.out)⟩
         ·
          rw [if_neg c40] at H
          have c40b0 : (t323.toList == a0.toList) = false := beq_eq_false_iff_ne.mpr c40
          have c40b1 : (t323.toList != a0.toList) = true := bne_iff_ne.mpr c40
          simp only [Option.some.injEq, Prod.mk.injEq] at H
          obtain ⟨rfl, rfl, rfl, rfl⟩ := H
          have p319 : 0 ≤ (1 : Int) := (by omega)
          have q319 : 1 < (t304.length : Int) := od_
          obtain ⟨ad319, e319, hx319_0⟩ := Kd.at_string (Kd.R_reads' HO_4.out).2.2 1 p319 q319
          obtain rfl : ad308 = ad319 := (by injection e319)
          (try simp only [show (1 : Int).toNat = 1 from rfl, Nat.reduceMul, Nat.reduceEqDiff, Go.Addr.add, ↓reduceIte] at hx319_0)
          have qi319 : (1 < t304.length) = True := eq_true (by omega)
          (try rw [show ((1 : Int)).toNat = 1 from rfl] at hx319_0)
          replace p319 := eq_true p319
          replace q319 := eq_true q319
          go_wp2_with (first | ((with_reducible refine gate_callee (f := 95) rfl ?_); refine goesL_ (some 52) rfl rfl Tryd.func95 (by kernel_rfl) rfl #[.string (rdOf ByteArray.empty t304 1)] rfl tz_ ?_; (with_reducible refine (strconv_Atoi.calls (rdOf ByteArray.empty t304 1) t320 t321 _ ?side1 A36.out).mono ?_); (case side1 => exact GWb.below HG.out (tb_ HB.out)); rintro e w48 ⟨N_, rfl, hb⟩; refine ⟨_, rfl, ?_⟩; have n0_ := Aside0.mk (Kd.R_below (rR_ HO_4.out) hb); have n1_ := Aside0.mk (Kd.R_below (rR_ HO_21.out) hb); have n2_ := Aside0.mk (Kd.R_below (rR_ HO_308000.out) hb); have n3_ := Aside0.mk (blk_below (g := gb303) (o := .cells #[.slice none 0 0, .int .i64 x304001_1, .slice none 0 0] 25 (0, 0)) (tk_ BK303.out) hb); have n4_ := Aside0.mk (blk_below (g := gb307) (o := .cells #[u308000, .int .i64 0, .slice none 0 0] 25 (0, 0)) (tk_ BK307.out) hb); have n5_ := Aside0.mk (below_step (tb_ HB.out) hb); clear HO_4 HO_21 HO_308000 BK303 BK307 HB; have HO_4 := n0_; have HO_21 := n1_; have HO_308000 := n2_; have BK303 := n3_; have BK307 := n4_; have HB := n5_; clear n0_ n1_ n2_ n3_ n4_ n5_; (try clear hb); (try clear hb2); (try clear hk); (try clear hi); (try simp only [errW_none, errW_some, Option.map_none, Option.map_some]); have hnb49 := NB307_303.out; have hnc49 := NB303_307.out; have hcz50_0 : w48.cell? ⟨gb307, 0, none⟩ = some (u308000) := (blk_cell BK307.out 0).trans rfl; have hcz50_1 : w48.cell? ⟨gb307, 1, none⟩ = some (.int .i64 0) := (blk_cell BK307.out 1).trans rfl; have hcz50_2 : w48.cell? ⟨gb307, 2, none⟩ = some (.slice none 0 0) := (blk_cell BK307.out 2).trans rfl; have hfz50_0 := blk_frozen BK307.out 0; have hfz50_1 := blk_frozen BK307.out 1; have hfz50_2 := blk_frozen BK307.out 2; have p322 : 0 ≤ (2 : Int) := (by omega); have q322 : 2 < (t304.length : Int) := od_; obtain ⟨ad322, e322, hx322_0⟩ := Kd.at_string (Kd.R_reads' HO_4.out).2.2 2 p322 q322; obtain rfl : ad308 = ad322 := (by injection e322); (try simp only [show (2 : Int).toNat = 2 from rfl, Nat.reduceMul, Nat.reduceEqDiff, Go.Addr.add, ↓reduceIte] at hx322_0); have qi322 : (2 < t304.length) = True := eq_true (by omega); (try rw [show ((2 : Int)).toNat = 2 from rfl] at hx322_0); have hn322_0 : ad308.block ≠ gb307 := Kd.own_blk (Kd.R_ne HO_4.out BK307.out (by decide)); replace hx322_0 := (cell_far (p := ⟨gb307, 1, none⟩) (by first | (rw [add_block]; exact hn322_0) | (show (Addr.add _ _).block ≠ _; rw [add_block]; exact hn322_0) | exact hn322_0) (.int .i64 t320)).trans hx322_0; clear hn322_0; replace p322 := eq_true p322; replace q322 := eq_true q322; obtain ⟨Ao51, co51, eo51⟩ := Kd.R_slice HO_308000.out; subst eo51) | ((with_reducible refine gate_callee (f := 60) rfl ?_); refine goesL_ (some 81) rfl rfl Tryd.func60 (by kernel_rfl) rfl #[.agg #[.slice Ao51 x308000_1.length co51, .int .i64 t320, .slice none 0 0]] rfl tz_ ?_; (refine (impl_PlaceText.calls k1 _ _ x308000_1 t320 _ _ ([] : List Int) t323 _ ?side1 ?side2 ?side3 ?side4 ?side5 A39.out).mono ?_); (case side1 => refine (Kd.R_reads' (e := 3) (base := w.heap.size) (ok := fun k_ => True) (n := x308000_1.length) (c := co51) ?_).2.2; exact (by refine qR_ ?_; exact (Kd.R_mono (Kd.R_far (p := ⟨gb307, 1, none⟩) (Kd.R_types HO_308000.out BK307.out (by decide)) (fun _ hk => hk.2) (.int .i64 t320)) (fun _ h_ => h_.1)))); (case side2 => exact (Kd.R_reads' HO_308000.out).2.1); (case side3 => exact Kd.C_nil _ _); (case side4 => exact Nat.le_refl _); (case side5 => exact GWb.below HG.out (tb_ HB.out)); rintro e w52 ⟨rfl, hb⟩; refine ⟨_, rfl, ?_⟩; have n0_ := Aside0.mk (Kd.R_below (by refine qR_ ?_; exact (Kd.R_mono (Kd.R_far (p := ⟨gb307, 1, none⟩) (Kd.R_types HO_4.out BK307.out (by decide)) (fun _ hk => hk.2) (.int .i64 t320)) (fun _ h_ => h_.1))) hb); have n1_ := Aside0.mk (Kd.R_below (by refine qR_ ?_; exact (Kd.R_mono (Kd.R_far (p := ⟨gb307, 1, none⟩) (Kd.R_types HO_21.out BK307.out (by decide)) (fun _ hk => hk.2) (.int .i64 t320)) (fun _ h_ => h_.1))) hb); have n2_ := Aside0.mk (Kd.R_below (by refine qR_ ?_; exact (Kd.R_mono (Kd.R_far (p := ⟨gb307, 1, none⟩) (Kd.R_types HO_308000.out BK307.out (by decide)) (fun _ hk => hk.2) (.int .i64 t320)) (fun _ h_ => h_.1))) hb); have n3_ := Aside0.mk (blk_below (g := gb303) (o := .cells #[.slice none 0 0, .int .i64 x304001_1, .slice none 0 0] 25 (0, 0)) (tk_ BK303.out) hb); have n4_ := Aside0.mk (blk_below (g := gb307) (o := .cells #[.slice Ao51 x308000_1.length co51, .int .i64 t320, .slice none 0 0] 25 (0, 0)) (by refine bq_ ?_; refine blk_put (cs := #[.slice Ao51 x308000_1.length co51, .int .i64 0, .slice none 0 0]) ?_ 1 _ rfl; exact tk_ BK307.out) hb); have n5_ := Aside0.mk (below_step (tb_ HB.out) hb); clear HO_4 HO_21 HO_308000 BK303 BK307 HB; have HO_4 := n0_; have HO_21 := n1_; have HO_308000 := n2_; have BK303 := n3_; have BK307 := n4_; have HB := n5_; clear n0_ n1_ n2_ n3_ n4_ n5_; (try clear hb); (try clear hb2); (try clear hk); (try clear hi); have hcz53_0 : w52.cell? ⟨gb303, 0, none⟩ = some (.slice none 0 0) := (blk_cell BK303.out 0).trans rfl; have hcz53_1 : w52.cell? ⟨gb303, 1, none⟩ = some (.int .i64 x304001_1) := (blk_cell BK303.out 1).trans rfl; have hcz53_2 : w52.cell? ⟨gb303, 2, none⟩ = some (.slice none 0 0) := (blk_cell BK303.out 2).trans rfl; have hfz53_0 := blk_frozen BK303.out 0; have hfz53_1 := blk_frozen BK303.out 1; have hfz53_2 := blk_frozen BK303.out 2))
          refine bodyPost_ret (results_ct rfl _ _ gb303 25 #[.slice none 0 0, .int .i64 0, .slice none 0 0] (0, 0) _ rfl (by refine bq_ ?_; refine blk_put (cs := #[.slice none 0 0, .int .i64 0, .slice none 0 0]) ?_ 2 _ rfl; refine bq_ ?_; refine blk_put (cs := #[.slice none 0 0, .int .i64 x304001_1, .slice none 0 0]) ?_ 1 _ rfl; refine bq_ ?_; refine blk_put (cs := #[.slice none 0 0, .int .i64 x304001_1, .slice none 0 0]) ?_ 0 _ rfl; exact tk_ BK303.out) Tryd.underlying25 rfl (by kernel_rfl)) rfl ?_
          exact ⟨_, _, by first | rfl | (simp [errW_none, errW_some, Option.map_none, Option.map_some] <;> rfl) | (simp [*, errW_none, errW_some] <;> rfl), by first | exact Kd.R_nil _ _ _ _ _ | exact Kd.N_nil _ _ _ _ _ | exact Kd.V_nil _ _ _ _ _ | exact Kd.Q_nil _ _ _ _ _ | exact Kd.S_nil _ _ _ _ _, by first | exact Kd.R_nil _ _ _ _ _ | exact Kd.N_nil _ _ _ _ _ | exact Kd.V_nil _ _ _ _ _ | exact Kd.Q_nil _ _ _ _ _ | exact Kd.S_nil _ _ _ _ _, (tb_ HB.out)⟩
        ·
         rw [if_neg c38] at H
         have c38b0 : ((rdOf ByteArray.empty t304 2).toList == ([46] : List UInt8)) = false := beq_eq_false_iff_ne.mpr c38
         have c38b1 : ((rdOf ByteArray.empty t304 2).toList != ([46] : List UInt8)) = true := bne_iff_ne.mpr c38
         have H' := Aside0.mk H
         clear H
         have p319 : 0 ≤ (1 : Int) := (by omega)
         have q319 : 1 < (t304.length : Int) := od_
         obtain ⟨ad319, e319, hx319_0⟩ := Kd.at_string (Kd.R_reads' HO_4.out).2.2 1 p319 q319
         obtain rfl : ad308 = ad319 := (by injection e319)
         (try simp only [show (1 : Int).toNat = 1 from rfl, Nat.reduceMul, Nat.reduceEqDiff, Go.Addr.add, ↓reduceIte] at hx319_0)
         have qi319 : (1 < t304.length) = True := eq_true (by omega)
         (try rw [show ((1 : Int)).toNat = 1 from rfl] at hx319_0)
         replace p319 := eq_true p319
         replace q319 := eq_true q319
         go_wp2_with (first | ((with_reducible refine gate_callee (f := 95) rfl ?_); refine goesL_ (some 52) rfl rfl Tryd.func95 (by kernel_rfl) rfl #[.string (rdOf ByteArray.empty t304 1)] rfl tz_ ?_; (with_reducible refine (strconv_Atoi.calls (rdOf ByteArray.empty t304 1) t320 t321 _ ?side1 A36.out).mono ?_); (case side1 => exact GWb.below HG.out (tb_ HB.out)); rintro e w54 ⟨N_, rfl, hb⟩; refine ⟨_, rfl, ?_⟩; have n0_ := Aside0.mk (Kd.R_below (rR_ HO_4.out) hb); have n1_ := Aside0.mk (Kd.R_below (rR_ HO_21.out) hb); have n2_ := Aside0.mk (Kd.R_below (rR_ HO_308000.out) hb); have n3_ := Aside0.mk (blk_below (g := gb303) (o := .cells #[.slice none 0 0, .int .i64 x304001_1, .slice none 0 0] 25 (0, 0)) (tk_ BK303.out) hb); have n4_ := Aside0.mk (blk_below (g := gb307) (o := .cells #[u308000, .int .i64 0, .slice none 0 0] 25 (0, 0)) (tk_ BK307.out) hb); have n5_ := Aside0.mk (below_step (tb_ HB.out) hb); clear HO_4 HO_21 HO_308000 BK303 BK307 HB; have HO_4 := n0_; have HO_21 := n1_; have HO_308000 := n2_; have BK303 := n3_; have BK307 := n4_; have HB := n5_; clear n0_ n1_ n2_ n3_ n4_ n5_; (try clear hb); (try clear hb2); (try clear hk); (try clear hi); (try simp only [errW_none, errW_some, Option.map_none, Option.map_some]); have hnb55 := NB307_303.out; have hnc55 := NB303_307.out; have hcz56_0 : w54.cell? ⟨gb307, 0, none⟩ = some (u308000) := (blk_cell BK307.out 0).trans rfl; have hcz56_1 : w54.cell? ⟨gb307, 1, none⟩ = some (.int .i64 0) := (blk_cell BK307.out 1).trans rfl; have hcz56_2 : w54.cell? ⟨gb307, 2, none⟩ = some (.slice none 0 0) := (blk_cell BK307.out 2).trans rfl; have hfz56_0 := blk_frozen BK307.out 0; have hfz56_1 := blk_frozen BK307.out 1; have hfz56_2 := blk_frozen BK307.out 2; have p322 : 0 ≤ (2 : Int) := (by omega); have q322 : 2 < (t304.length : Int) := od_; obtain ⟨ad322, e322, hx322_0⟩ := Kd.at_string (Kd.R_reads' HO_4.out).2.2 2 p322 q322; obtain rfl : ad308 = ad322 := (by injection e322); (try simp only [show (2 : Int).toNat = 2 from rfl, Nat.reduceMul, Nat.reduceEqDiff, Go.Addr.add, ↓reduceIte] at hx322_0); have qi322 : (2 < t304.length) = True := eq_true (by omega); (try rw [show ((2 : Int)).toNat = 2 from rfl] at hx322_0); have hn322_0 : ad308.block ≠ gb307 := Kd.own_blk (Kd.R_ne HO_4.out BK307.out (by decide)); replace hx322_0 := (cell_far (p := ⟨gb307, 1, none⟩) (by first | (rw [add_block]; exact hn322_0) | (show (Addr.add _ _).block ≠ _; rw [add_block]; exact hn322_0) | exact hn322_0) (.int .i64 t320)).trans hx322_0; clear hn322_0; replace p322 := eq_true p322; replace q322 := eq_true q322; have p324 : 0 ≤ (2 : Int) := (by omega); have q324 : 2 < (t304.length : Int) := od_; obtain ⟨ad324, e324, hx324_0⟩ := Kd.at_string (Kd.R_reads' HO_4.out).2.2 2 p324 q324; obtain rfl : ad308 = ad324 := (by injection e324); (try simp only [show (2 : Int).toNat = 2 from rfl, Nat.reduceMul, Nat.reduceEqDiff, Go.Addr.add, ↓reduceIte] at hx324_0); have qi324 : (2 < t304.length) = True := eq_true (by omega); (try rw [show ((2 : Int)).toNat = 2 from rfl] at hx324_0); have hn324_0 : ad308.block ≠ gb307 := Kd.own_blk (Kd.R_ne HO_4.out BK307.out (by decide)); replace hx324_0 := (cell_far (p := ⟨gb307, 1, none⟩) (by first | (rw [add_block]; exact hn324_0) | (show (Addr.add _ _).block ≠ _; rw [add_block]; exact hn324_0) | exact hn324_0) (.int .i64 t320)).trans hx324_0; clear hn324_0; replace p324 := eq_true p324; replace q324 := eq_true q324))
         go_loopg [64] k1 (fun kq v64 w' => ∃ (x64_2 : Int) (x308002_2 : List Int) (u308002 : Value), v64 = .int .i64 x64_2 ∧ Aside0 (impl_ReadPlace.l1 kq a0 t304 ((rdOf ByteArray.empty t304 2).size : Int) x64_2 x308000_1 t320 x308002_2 = some (r1, r2, r3, r4)) ∧ Aside0 (kq ≤ k1) ∧ Aside0 (Kd.R Kd.string 9 w' w.heap.size (fun _ => True) (.slice (some ad308) t304.length co8) t304) ∧ Aside0 (Kd.R (Kd.int .i64) 3 w' w.heap.size (fun k_ => some k_ ≠ (u308002 : Value).ownBlock) u308000 x308000_1) ∧ Aside0 (Kd.R (Kd.int .i64) 3 w' w.heap.size (fun k_ => some k_ ≠ (u308000 : Value).ownBlock) u308002 x308002_2) ∧ Aside0 (w'.heap[gb303]? = some (.cells #[(.slice none 0 0), .int .i64 x304001_1, (.slice none 0 0)] 25 (0, 0))) ∧ Aside0 (w'.heap[gb307]? = some (.cells #[u308000, .int .i64 t320, u308002] 25 (0, 0))) ∧ Aside0 (Below w.heap.size w w'))
         case atStart => exact ⟨(0), (([] : List Int)), (.slice none 0 0), tx_, H', ⟨Nat.le_refl _⟩, ⟨by refine qR_ ?_; exact Kd.R_mono (Kd.R_far (p := ⟨gb307, 1, none⟩) (Kd.R_types HO_4.out BK307.out (by decide)) (fun _ hk => hk.2) (.int .i64 t320)) (fun _ hk => trivial)⟩, ⟨by refine qR_ ?_; exact Kd.R_mono (Kd.R_far (p := ⟨gb307, 1, none⟩) (Kd.R_types HO_308000.out BK307.out (by decide)) (fun _ hk => hk.2) (.int .i64 t320)) (fun _ hk => (by simp [Value.ownBlock]))⟩, ⟨by first | exact Kd.R_nil _ _ _ _ _ | exact Kd.N_nil _ _ _ _ _ | exact Kd.V_nil _ _ _ _ _ | exact Kd.Q_nil _ _ _ _ _ | exact Kd.S_nil _ _ _ _ _⟩, ⟨tk_ BK303.out⟩, ⟨by refine bq_ ?_; refine blk_put (cs := #[u308000, .int .i64 0, .slice none 0 0]) ?_ 1 _ rfl; exact tk_ BK307.out⟩, ⟨(tb_ HB.out)⟩⟩
         case round =>
          clear H'
          try clear c1
          try clear c2
          try clear p2
          try clear c3
          try clear c3b0
          try clear c3b1
          try clear p3
          try clear q3
          try clear hx3
          try clear qi3
          try clear c4
          try clear c4b0
          try clear c4b1
          try clear c5
          try clear c6
          try clear p6
          try clear c9
          try clear c10
          try clear c14
          try clear c14b0
          try clear c15
          try clear c15b0
          try clear c16
          try clear c16b0
          try clear c18
          try clear c18b0
          try clear c18b1
          try clear c20
          try clear c24
          try clear c26
          try clear p30
          try clear q30
          try clear hx30
          try clear qi30
          try clear p31
          try clear q31
          try clear hx31
          try clear qi31
          try clear p32
          try clear q32
          try clear hx32
          try clear qi32
          try clear c33
          try clear c35
          try clear c35b0
          try clear c35b1
          try clear c37
          try clear c37b0
          try clear c37b1
          try clear c38
          try clear c38b0
          try clear c38b1
          try clear c40
          try clear c40b0
          try clear c40b1
          try clear c42
          try clear c49
          try clear c54
          try clear c55
          try clear hcz11_0
          try clear hcz11_1
          try clear hcz11_2
          try clear hcz21_0
          try clear hcz21_1
          try clear hcz21_2
          try clear hcz23_0
          try clear hcz23_1
          try clear hcz23_2
          try clear hcz27_0
          try clear hcz27_1
          try clear hcz27_2
          try clear hcz31_0
          try clear hcz31_1
          try clear hcz31_2
          try clear hcz34_0
          try clear hcz34_1
          try clear hcz34_2
          try clear hcz43_0
          try clear hcz43_1
          try clear hcz43_2
          try clear hcz46_0
          try clear hcz46_1
          try clear hcz46_2
          try clear hcz47_0
          try clear hcz47_1
          try clear hcz47_2
          try clear hcz50_0
          try clear hcz50_1
          try clear hcz50_2
          try clear hcz53_0
          try clear hcz53_1
          try clear hcz53_2
          try clear hcz56_0
          try clear hcz56_1
          try clear hcz56_2
          try clear hfz11_0
          try clear hfz11_1
          try clear hfz11_2
          try clear hfz21_0
          try clear hfz21_1
          try clear hfz21_2
          try clear hfz23_0
          try clear hfz23_1
          try clear hfz23_2
          try clear hfz27_0
          try clear hfz27_1
          try clear hfz27_2
          try clear hfz31_0
          try clear hfz31_1
          try clear hfz31_2
          try clear hfz34_0
          try clear hfz34_1
          try clear hfz34_2
          try clear hfz43_0
          try clear hfz43_1
          try clear hfz43_2
          try clear hfz46_0
          try clear hfz46_1
          try clear hfz46_2
          try clear hfz47_0
          try clear hfz47_1
          try clear hfz47_2
          try clear hfz50_0
          try clear hfz50_1
          try clear hfz50_2
          try clear hfz53_0
          try clear hfz53_1
          try clear hfz53_2
          try clear hfz56_0
          try clear hfz56_1
          try clear hfz56_2
          try clear hx308_0
          try clear hx312_0
          try clear hx319_0
          try clear hx322_0
          try clear hx324_0
          try clear p2
          try clear p3
          try clear p308
          try clear p312
          try clear p319
          try clear p322
          try clear p324
          try clear q3
          try clear q308
          try clear q312
          try clear q315
          try clear q319
          try clear q322
          try clear q324
          obtain ⟨x64_2, x308002_2, u308002, rfl, HA, HK2, HO_4, HO_308000, HO_308002, BK303, BK307, HB⟩ := hrel
          cases gk with
          | zero => exact absurd HA.out (by simp [impl_ReadPlace.l1])
          | succ k2 =>
           have H := HA.out
           clear HA
           simp only [impl_ReadPlace.l1] at H
           by_cases c57 : x64_2 < ((rdOf ByteArray.empty t304 2).size : Int)
           ·
            rw [if_pos c57] at H
            have c57b0 : decide (x64_2 < ((rdOf ByteArray.empty t304 2).size : Int)) = true := decide_eq_true c57
            clear c57
            by_cases c58 : 2 < (t304.length : Int)
            ·
             rw [if_pos c58] at H
             have c58b0 : decide (2 < (t304.length : Int)) = true := decide_eq_true c58
             have c58b1 : decide (2 < t304.length) = true := decide_eq_true (by omega)
             clear c58
             by_cases c59 : 0 ≤ x64_2
             ·
              rw [if_pos c59] at H
              have c59b0 : decide (0 ≤ x64_2) = true := decide_eq_true c59
              clear c59
              by_cases c60 : x64_2 < ((rdOf ByteArray.empty t304 2).size : Int)
              ·
               rw [if_pos c60] at H
               have c60b0 : decide (x64_2 < ((rdOf ByteArray.empty t304 2).size : Int)) = true := decide_eq_true c60
               clear c60
               by_cases c62 : x308002_2.length < 17592186044416
               ·
                rw [if_pos c62] at H
                have LMc62 := Aside0.mk c62
                clear c62
                obtain ⟨y326, hy326⟩ : ∃ y_ : List Int, y_ = (x308002_2 ++ [wrap64 ((wrap64 (bt (rdOf ByteArray.empty t304 2) x64_2)) - 97)]) := ⟨_, rfl⟩
                replace H : (impl_ReadPlace.l1 k2 a0 t304 ((rdOf ByteArray.empty t304 2).size : Int) (wrap64 (x64_2 + 1)) x308000_1 t320 y326) = some (r1, r2, r3, r4) := by first | (rw [hy326]; with_reducible exact H) | (have H2_ := (Option.bind_some _ _).symm.trans H; rw [hy326]; with_reducible exact H2_) | (have H2_ := (Option.bind_some _ _).symm.trans H; with_reducible exact H2_) | with_reducible exact H | (rw [hy326]; exact H) | exact H
                have Ny326 := Aside0.mk hy326
                clear hy326
                have H' := Aside0.mk H
                clear H
                try go_wp2
                have n0_ := Aside0.mk (Kd.R_drew HO_4.out)
                have n1_ := Aside0.mk (Kd.R_drew HO_308000.out)
                have n2_ := Aside0.mk (Kd.R_drew HO_308002.out)
                have n3_ := Aside0.mk (blk_drew BK303.out)
                have n4_ := Aside0.mk (blk_drew BK307.out)
                have n5_ := Aside0.mk (ld_ HB.out)
                clear HO_4
                clear HO_308000
                clear HO_308002
                clear BK303
                clear BK307
                clear HB
                have HO_4 := n0_
                have HO_308000 := n1_
                have HO_308002 := n2_
                have BK303 := n3_
                have BK307 := n4_
                have HB := n5_
                clear n0_ n1_ n2_ n3_ n4_ n5_
                have p325 : 0 ≤ (2 : Int) := (by omega)
                have q325 : 2 < (t304.length : Int) := od_
                obtain ⟨ad325, e325, hx325_0⟩ := Kd.at_string (Kd.R_reads' HO_4.out).2.2 2 p325 q325
                obtain rfl : ad308 = ad325 := (by injection e325)
                (try simp only [show (2 : Int).toNat = 2 from rfl, Nat.reduceMul, Nat.reduceEqDiff, Go.Addr.add, ↓reduceIte] at hx325_0)
                have qi325 : (2 < t304.length) = True := eq_true (by omega)
                (try rw [show ((2 : Int)).toNat = 2 from rfl] at hx325_0)
                replace p325 := eq_true p325
                replace q325 := eq_true q325
                have p61 : 0 ≤ (x64_2 : Int) := od_
                have q61 : x64_2 < ((rdOf ByteArray.empty t304 2).size : Int) := od_
                have hx61 := bt_at (rdOf ByteArray.empty t304 2) x64_2
                replace p61 := eq_true p61
                replace q61 := eq_true q61
                refine start_ (n := 13) (S := fun w' => w'.cell? ⟨gb307, 0, none⟩ = some (u308000) ∧ w'.cell? ⟨gb307, 1, none⟩ = some (.int .i64 t320) ∧ w'.cell? ⟨gb307, 2, none⟩ = some (u308002) ∧ w'.cell? ⟨ad308.block, ad308.off + 2, none⟩ = some (.string (rdOf ByteArray.empty t304 2))) (ds := [10, 12]) #[false, false, false, false, false, false, false, false, false, false, false, false, false] (by kernel_rfl) rfl rfl ⟨(blk_cell BK307.out 0).trans rfl, (blk_cell BK307.out 1).trans rfl, (blk_cell BK307.out 2).trans rfl, hx325_0⟩ (fun hHeld => ?_); refine with_tabW impl_ReadPlace.tab18 impl_ReadPlace.bits18 (fun HT_ HW_ => ?_)
                generalize wr.drew = w63 at HO_4 HO_308000 HO_308002 BK303 BK307 HB hx325_0 hHeld ⊢
                refine pure_ (i := 0) (N := some 67) (v := ?_) (a' := ?_) #[true, false, false, false, false, false, false, false, false, false, false, false, false] rfl rfl (any_of HT_.out (by kernel_rfl)) (fun _ _ _ h => h) (Or.inl ⟨by rfl, ?_⟩) ?_ ?_
                rotate_left
                ·
                 intro w'
                 go_simp
                 first | with_reducible rfl | (rw [if_neg (by omega)]; done)
                rotate_left
                ·
                 simp only [Act.put, sa_, sb_, sc_, i64_w, i32_w]
                 rfl
                refine pure_ (i := 2) (N := some 69) (v := ?_) (a' := ?_) #[true, false, true, false, false, false, false, false, false, false, false, false, false] rfl rfl (any_of HT_.out (by kernel_rfl)) (fun _ _ _ h => h) (Or.inl ⟨by rfl, ?_⟩) ?_ ?_
                rotate_left
                ·
                 intro w'
                 go_simp
                 first | with_reducible rfl | (rw [if_neg (by omega)]; done)
                rotate_left
                ·
                 simp only [Act.put, sa_, sb_, sc_, i64_w, i32_w]
                 rfl
                refine pure_ (i := 3) (N := some 70) (v := ?_) (a' := ?_) #[true, false, true, true, false, false, false, false, false, false, false, false, false] rfl rfl (any_of HT_.out (by kernel_rfl)) (fun _ _ _ h => h) (Or.inl ⟨by rfl, ?_⟩) ?_ ?_
                rotate_left
                ·
                 intro w'
                 go_simp
                 first | with_reducible rfl | (rw [if_neg (by omega)]; done)
                rotate_left
                ·
                 simp only [Act.put, sa_, sb_, sc_, i64_w, i32_w]
                 rfl
                refine pure_ (i := 5) (N := some 72) (v := ?_) (a' := ?_) #[true, false, true, true, false, true, false, false, false, false, false, false, false] rfl rfl (any_of HT_.out (by kernel_rfl)) (fun _ _ _ h => h) (Or.inl ⟨by rfl, ?_⟩) ?_ ?_
                rotate_left
                ·
                 intro w'
                 go_simp
                 first | with_reducible rfl | (rw [if_neg (by omega)]; done)
                rotate_left
                ·
                 simp only [Act.put, sa_, sb_, sc_, i64_w, i32_w]
                 rfl
                refine take_ (i := 1) (N := some 68) (v := ?_) (a' := ?_) #[true, true, true, true, false, true, false, false, false, false, false, false, false] rfl rfl (take_ofW HT_.out HW_.out (by kernel_rfl)) (fun _ _ _ h => h) (Or.inl ⟨by rfl, ?_⟩) hHeld ?_ ?_
                rotate_left
                ·
                 rintro w' ⟨s0, s1, s2, s3⟩
                 go_simp
                 first | with_reducible rfl | (rw [if_neg (by omega)]; done)
                rotate_left
                ·
                 simp only [Act.put, sa_, sb_, sc_, i64_w, i32_w]
                 rfl
                refine take_ (i := 4) (N := some 71) (v := ?_) (a' := ?_) #[true, true, true, true, true, true, false, false, false, false, false, false, false] rfl rfl (take_ofW HT_.out HW_.out (by kernel_rfl)) (fun _ _ _ h => h) (Or.inl ⟨by rfl, ?_⟩) hHeld ?_ ?_
                rotate_left
                ·
                 rintro w' ⟨s0, s1, s2, s3⟩
                 go_simp
                 first | with_reducible rfl | (rw [if_neg (by omega)]; done)
                rotate_left
                ·
                 simp only [Act.put, sa_, sb_, sc_, i64_w, i32_w]
                 rfl
                refine take_ (i := 6) (N := some 73) (v := ?_) (a' := ?_) #[true, true, true, true, true, true, true, false, false, false, false, false, false] rfl rfl (take_ofW HT_.out HW_.out (by kernel_rfl)) (fun _ _ _ h => h) (Or.inl ⟨by rfl, ?_⟩) hHeld ?_ ?_
                rotate_left
                ·
                 rintro w' ⟨s0, s1, s2, s3⟩
                 go_simp
                 first | with_reducible rfl | (rw [if_neg (by omega)]; done)
                rotate_left
                ·
                 simp only [Act.put, sa_, sb_, sc_, i64_w, i32_w]
                 rfl
                refine pure_ (i := 7) (N := some 74) (v := ?_) (a' := ?_) #[true, true, true, true, true, true, true, true, false, false, false, false, false] rfl rfl (any_of HT_.out (by kernel_rfl)) (fun _ _ _ h => h) (Or.inl ⟨by rfl, ?_⟩) ?_ ?_
                rotate_left
                ·
                 intro w'
                 go_simp
                 first | with_reducible rfl | (rw [if_neg (by omega)]; done)
                rotate_left
                ·
                 simp only [Act.put, sa_, sb_, sc_, i64_w, i32_w]
                 rfl
                refine pure_ (i := 8) (N := some 75) (v := ?_) (a' := ?_) #[true, true, true, true, true, true, true, true, true, false, false, false, false] rfl rfl (any_of HT_.out (by kernel_rfl)) (fun _ _ _ h => h) (Or.inl ⟨by rfl, ?_⟩) ?_ ?_
                rotate_left
                ·
                 intro w'
                 go_simp
                 first | with_reducible rfl | (rw [if_neg (by omega)]; done)
                rotate_left
                ·
                 simp only [Act.put, sa_, sb_, sc_, i64_w, i32_w]
                 rfl
                refine one_ (i := 9) (N := some 76) #[true, true, true, true, true, true, true, true, true, true, false, false, false] rfl rfl (one_of HT_.out (by kernel_rfl)) (by decide) (fun K hK => ?_)
                refine value_ (w1 := ?_) (v := ?_) (by rfl) rfl ?_ ?_
                rotate_left 2
                ·
                 go_simp
                 constructor
                 ·
                  rfl
                 ·
                  rfl
                refine hK.out _ _ ⟨(blk_cell (blk_alloc BK307.out _) 0).trans rfl, (blk_cell (blk_alloc BK307.out _) 1).trans rfl, (blk_cell (blk_alloc BK307.out _) 2).trans rfl, (World.cell?_alloc_lt _ _ _ (World.block_lt_of_cell? _ _ (hHeld.2.2.2))).trans (hHeld.2.2.2)⟩ (fun hHeld => ?_)
                clear hK K
                refine norm_ (a' := ?_) ?_ ?_
                rotate_left
                ·
                 show Act.put _ (some 76) _ = _
                 simp only [Act.put, sa_, sb_, sc_, i64_w, i32_w]
                 rfl
                refine last_ (i := 10) (N := some 77) #[true, true, true, true, true, true, true, true, true, true, true, false, false] rfl rfl (one_of HT_.out (by kernel_rfl)) (by decide) (fun K hK => ?_)
                refine Kd.R_append_step (Kd.int .i64) (w0 := w) w.heap.size (by rfl) (.tmp 68) (.tmp 76) 23 3 (.int .i64 0) 8 rfl Tryd.underlying23 info3 rfl (by decide) (by omega) u308002 x308002_2 (wrap64 ((wrap64 (bt (rdOf ByteArray.empty t304 2) x64_2)) - 97)) [.int .i64 (wrap64 ((wrap64 (bt (rdOf ByteArray.empty t304 2) x64_2)) - 97))] (fun k_ => some k_ ≠ (u308000 : Value).ownBlock) (fun _ => False) rfl rfl ?aP (fun _ hk => hk.elim) ?aF ?aO ?aB ?aS ?aL ?_
                (case aP => exact rfl)
                (case aB => exact (tb_ HB.out))
                (case aF => exact (fun k_ hk => Kd.fresh' (Kd.R_lt (rR_ HO_308000.out)) k_ hk))
                (case aO => exact (rR_ HO_308002.out))
                (case aS => exact (below_size (tb_ HB.out)))
                (case aL => have := LMc62.out; omega)
                intro v327 w64 ho hb hg hat
                rw [← Ny326.out] at ho
                have n0_ := Aside0.mk (Kd.R_over' (rR_ HO_4.out) (Kd.R_typed (rR_ HO_308002.out)) (by decide) hg)
                have n1_ := Aside0.mk (Kd.R_after (ok := (fun _ => True)) (by refine qR_ ?_; exact Kd.R_mono HO_308000.out (fun _ hk => ⟨trivial, hk⟩)) hg hat)
                have n2_ := Aside0.mk (blk_grown (g := gb303) (o := .cells #[.slice none 0 0, .int .i64 x304001_1, .slice none 0 0] 25 (0, 0)) (tk_ BK303.out) hg (Kd.R_ne HO_308002.out BK303.out (by decide)))
                have n3_ := Aside0.mk (blk_grown (g := gb307) (o := .cells #[u308000, .int .i64 t320, u308002] 25 (0, 0)) (tk_ BK307.out) hg (Kd.R_ne HO_308002.out BK307.out (by decide)))
                have n4_ := Aside0.mk (hb)
                have n5_ := Aside0.mk (ho)
                clear HO_4
                clear HO_308000
                clear BK303
                clear BK307
                clear HB
                clear HO_308002
                have HO_4 := n0_
                have HO_308000 := n1_
                have BK303 := n2_
                have BK307 := n3_
                have HB := n4_
                have HO328 := n5_
                clear n0_ n1_ n2_ n3_ n4_ n5_
                clear ho hb hg hat
                obtain ⟨Ao65, co65, eo65⟩ := Kd.R_slice HO328.out
                (first | subst eo65 | (injection eo65 with f1_ f2_ f3_; have f4_ := f1_.symm; have f5_ := f3_.symm; clear f1_ f2_ f3_; subst f4_; subst f5_))
                refine hK.out _ _ ?_
                clear hK K
                refine norm_ (a' := ?_) ?_ ?_
                rotate_left
                ·
                 show Act.put _ (some 77) _ = _
                 simp only [Act.put, sa_, sb_, sc_, i64_w, i32_w]
                 rfl
                refine pure_ (i := 11) (N := some 78) (v := ?_) (a' := ?_) #[true, true, true, true, true, true, true, true, true, true, true, true, false] rfl rfl (any_of HT_.out (by kernel_rfl)) (fun _ _ _ h => h) (Or.inl ⟨by rfl, ?_⟩) ?_ ?_
                rotate_left
                ·
                 intro w'
                 go_simp
                 first | with_reducible rfl | (rw [if_neg (by omega)]; done)
                rotate_left
                ·
                 simp only [Act.put, sa_, sb_, sc_, i64_w, i32_w]
                 rfl
                refine last_ (i := 12) (N := none) #[true, true, true, true, true, true, true, true, true, true, true, true, true] rfl rfl (one_of HT_.out (by kernel_rfl)) (by decide) (fun K hK => ?_)
                have hs66 : w64.cell? ⟨gb307, 2, none⟩ = some (u308002) := (blk_cell BK307.out 2).trans rfl
                have hfs66 := blk_frozen BK307.out 2
                have hns66_0 := NB303_307.out
                have hms66_0 := NB307_303.out
                refine skip_ (w1 := ?_) (by rfl) rfl ?_ ?_
                rotate_left
                ·
                 go_simp
                 rfl
                refine hK.out _ _ ?_
                clear hK K
                refine done_ (done_of HT_.out (by kernel_rfl)) ?_
                try go_wp2
                go_roundg k2
                case measure => have := HK1.out; have := HK2.out; omega
                case rel => exact ⟨(wrap64 (x64_2 + 1)), (y326), (.slice Ao65 y326.length co65), tx_, H', ⟨by have := HK1.out; have := HK2.out; omega⟩, ⟨by refine qR_ ?_; exact Kd.R_mono (Kd.R_far (p := ⟨gb307, 2, none⟩) (Kd.R_types HO_4.out BK307.out (by decide)) (fun _ hk => hk.2) (.slice Ao65 y326.length co65)) (fun _ hk => trivial)⟩, ⟨by refine qR_ ?_; exact Kd.R_mono (Kd.R_far (p := ⟨gb307, 2, none⟩) (Kd.R_types HO_308000.out BK307.out (by decide)) (fun _ hk => hk.2) (.slice Ao65 y326.length co65)) (fun _ hk => hk.1.2)⟩, ⟨by refine qR_ ?_; exact Kd.R_mono (Kd.R_far (p := ⟨gb307, 2, none⟩) (Kd.R_types HO328.out BK307.out (by decide)) (fun _ hk => hk.2) (.slice Ao65 y326.length co65)) (fun _ hk => hk.1)⟩, ⟨tk_ BK303.out⟩, ⟨by refine bq_ ?_; refine blk_put (cs := #[u308000, .int .i64 t320, u308002]) ?_ 2 _ rfl; exact tk_ BK307.out⟩, ⟨(tb_ HB.out)⟩⟩
               ·
                rw [if_neg c62] at H
                exact absurd H (by simp)
              ·
               rw [if_neg c60] at H
               exact absurd H (by simp)
             ·
              rw [if_neg c59] at H
              exact absurd H (by simp)
            ·
             rw [if_neg c58] at H
             exact absurd H (by simp)
           ·
            rw [if_neg c57] at H
            have c57b0 : decide (x64_2 < ((rdOf ByteArray.empty t304 2).size : Int)) = false := decide_eq_false c57
            clear c57
            replace H := Option.bind_eq_some_iff.mp H
            obtain ⟨t329, A670, H⟩ := H
            replace H : (if t329.toList = a0.toList then (some (x308000_1, t320, x308002_2, true)) else (some (([] : List Int), 0, ([] : List Int), false))) = some (r1, r2, r3, r4) := H
            have A67 := Aside0.mk A670
            clear A670
            by_cases c68 : t329.toList = a0.toList
            ·
             rw [if_pos c68] at H
             have c68b0 : (t329.toList == a0.toList) = true := beq_iff_eq.mpr c68
             have c68b1 : (t329.toList != a0.toList) = false := bne_eq_false_iff_eq.mpr c68
             clear c68
             simp only [Option.some.injEq, Prod.mk.injEq] at H
             obtain ⟨rfl, rfl, rfl, rfl⟩ := H
             have hnb69 := NB307_303.out
             have hnc69 := NB303_307.out
             have hcz70_0 : wr.cell? ⟨gb307, 0, none⟩ = some (u308000) := (blk_cell BK307.out 0).trans rfl
             have hcz70_1 : wr.cell? ⟨gb307, 1, none⟩ = some (.int .i64 t320) := (blk_cell BK307.out 1).trans rfl
             have hcz70_2 : wr.cell? ⟨gb307, 2, none⟩ = some (u308002) := (blk_cell BK307.out 2).trans rfl
             have hfz70_0 := blk_frozen BK307.out 0
             have hfz70_1 := blk_frozen BK307.out 1
             have hfz70_2 := blk_frozen BK307.out 2
             obtain ⟨Ao71, co71, eo71⟩ := Kd.R_slice HO_308000.out
             subst eo71
             obtain ⟨Ao72, co72, eo72⟩ := Kd.R_slice HO_308002.out
             subst eo72
             go_wp2_with (first | ((with_reducible refine gate_callee (f := 60) rfl ?_); refine goesL_ (some 81) rfl rfl Tryd.func60 (by kernel_rfl) rfl #[.agg #[.slice Ao71 x308000_1.length co71, .int .i64 t320, .slice Ao72 x308002_2.length co72]] rfl tz_ ?_; (with_reducible refine (impl_PlaceText.calls k2 _ _ x308000_1 t320 _ _ x308002_2 t329 _ ?side1 ?side2 ?side3 ?side4 ?side5 A67.out).mono ?_); (case side1 => repeat (first | exact (Kd.R_reads' HO_308000.out).2.2 | (with_reducible refine Kd.C_alloc ?_ _) | (with_reducible refine Kd.C_drewN ?_ _) | (with_reducible refine Kd.C_drew ?_))); (case side2 => exact (Kd.R_reads' HO_308000.out).2.1); (case side3 => repeat (first | exact (Kd.R_reads' HO_308002.out).2.2 | (with_reducible refine Kd.C_alloc ?_ _) | (with_reducible refine Kd.C_drewN ?_ _) | (with_reducible refine Kd.C_drew ?_))); (case side4 => exact (Kd.R_reads' HO_308002.out).2.1); (case side5 => exact GWb.below HG.out (tb_ HB.out)); rintro e w73 ⟨rfl, hb⟩; refine ⟨_, rfl, ?_⟩; have n0_ := Aside0.mk (Kd.R_below (rR_ HO_4.out) hb); have n1_ := Aside0.mk (Kd.R_below (rR_ HO_308000.out) hb); have n2_ := Aside0.mk (Kd.R_below (rR_ HO_308002.out) hb); have n3_ := Aside0.mk (blk_below (g := gb303) (o := .cells #[.slice none 0 0, .int .i64 x304001_1, .slice none 0 0] 25 (0, 0)) (tk_ BK303.out) hb); have n4_ := Aside0.mk (blk_below (g := gb307) (o := .cells #[.slice Ao71 x308000_1.length co71, .int .i64 t320, .slice Ao72 x308002_2.length co72] 25 (0, 0)) (tk_ BK307.out) hb); have n5_ := Aside0.mk (below_step (tb_ HB.out) hb); clear HO_4 HO_308000 HO_308002 BK303 BK307 HB; have HO_4 := n0_; have HO_308000 := n1_; have HO_308002 := n2_; have BK303 := n3_; have BK307 := n4_; have HB := n5_; clear n0_ n1_ n2_ n3_ n4_ n5_; (try clear hb); (try clear hb2); (try clear hk); (try clear hi); have hcz74_0 : w73.cell? ⟨gb307, 0, none⟩ = some (.slice Ao71 x308000_1.length co71) := (blk_cell BK307.out 0).trans rfl; have hcz74_1 : w73.cell? ⟨gb307, 1, none⟩ = some (.int .i64 t320) := (blk_cell BK307.out 1).trans rfl; have hcz74_2 : w73.cell? ⟨gb307, 2, none⟩ = some (.slice Ao72 x308002_2.length co72) := (blk_cell BK307.out 2).trans rfl; have hfz74_0 := blk_frozen BK307.out 0; have hfz74_1 := blk_frozen BK307.out 1; have hfz74_2 := blk_frozen BK307.out 2; have hcz75_0 : w73.cell? ⟨gb303, 0, none⟩ = some (.slice none 0 0) := (blk_cell BK303.out 0).trans rfl; have hcz75_1 : w73.cell? ⟨gb303, 1, none⟩ = some (.int .i64 x304001_1) := (blk_cell BK303.out 1).trans rfl; have hcz75_2 : w73.cell? ⟨gb303, 2, none⟩ = some (.slice none 0 0) := (blk_cell BK303.out 2).trans rfl; have hfz75_0 := blk_frozen BK303.out 0; have hfz75_1 := blk_frozen BK303.out 1; have hfz75_2 := blk_frozen BK303.out 2))
             refine bodyPost_ret (results_ct rfl _ _ gb303 25 #[.slice Ao71 x308000_1.length co71, .int .i64 t320, .slice Ao72 x308002_2.length co72] (0, 0) _ rfl (by refine bq_ ?_; refine blk_put (cs := #[.slice Ao71 x308000_1.length co71, .int .i64 t320, .slice none 0 0]) ?_ 2 _ rfl; refine bq_ ?_; refine blk_put (cs := #[.slice Ao71 x308000_1.length co71, .int .i64 x304001_1, .slice none 0 0]) ?_ 1 _ rfl; refine bq_ ?_; refine blk_put (cs := #[.slice none 0 0, .int .i64 x304001_1, .slice none 0 0]) ?_ 0 _ rfl; exact tk_ BK303.out) Tryd.underlying25 rfl (by kernel_rfl)) rfl ?_
             exact ⟨_, _, by first | rfl | (simp [errW_none, errW_some, Option.map_none, Option.map_some] <;> rfl) | (simp [*, errW_none, errW_some] <;> rfl), by refine qR_ ?_; exact Kd.R_mono (Kd.R_far (p := ⟨gb303, 2, none⟩) (Kd.R_far (p := ⟨gb303, 1, none⟩) (Kd.R_far (p := ⟨gb303, 0, none⟩) (Kd.R_types HO_308000.out BK303.out (by decide)) (fun _ hk => hk.2) (.slice Ao71 x308000_1.length co71)) (fun _ hk => hk.2) (.int .i64 t320)) (fun _ hk => hk.2) (.slice Ao72 x308002_2.length co72)) (fun _ hk => hk.1), by refine qR_ ?_; exact Kd.R_mono (Kd.R_far (p := ⟨gb303, 2, none⟩) (Kd.R_far (p := ⟨gb303, 1, none⟩) (Kd.R_far (p := ⟨gb303, 0, none⟩) (Kd.R_types HO_308002.out BK303.out (by decide)) (fun _ hk => hk.2) (.slice Ao71 x308000_1.length co71)) (fun _ hk => hk.2) (.int .i64 t320)) (fun _ hk => hk.2) (.slice Ao72 x308002_2.length co72)) (fun _ hk => hk.1), (tb_ HB.out)⟩
            ·
             rw [if_neg c68] at H
             have c68b0 : (t329.toList == a0.toList) = false := beq_eq_false_iff_ne.mpr c68
             have c68b1 : (t329.toList != a0.toList) = true := bne_iff_ne.mpr c68
             simp only [Option.some.injEq, Prod.mk.injEq] at H
             obtain ⟨rfl, rfl, rfl, rfl⟩ := H
             have hnb76 := NB307_303.out
             have hnc76 := NB303_307.out
             have hcz77_0 : wr.cell? ⟨gb307, 0, none⟩ = some (u308000) := (blk_cell BK307.out 0).trans rfl
             have hcz77_1 : wr.cell? ⟨gb307, 1, none⟩ = some (.int .i64 t320) := (blk_cell BK307.out 1).trans rfl
             have hcz77_2 : wr.cell? ⟨gb307, 2, none⟩ = some (u308002) := (blk_cell BK307.out 2).trans rfl
             have hfz77_0 := blk_frozen BK307.out 0
             have hfz77_1 := blk_frozen BK307.out 1
             have hfz77_2 := blk_frozen BK307.out 2
             obtain ⟨Ao78, co78, eo78⟩ := Kd.R_slice HO_308000.out
             subst eo78
             obtain ⟨Ao79, co79, eo79⟩ := Kd.R_slice HO_308002.out
             subst eo79
             go_wp2_with (first | ((with_reducible refine gate_callee (f := 60) rfl ?_); refine goesL_ (some 81) rfl rfl Tryd.func60 (by kernel_rfl) rfl #[.agg #[.slice Ao78 x308000_1.length co78, .int .i64 t320, .slice Ao79 x308002_2.length co79]] rfl tz_ ?_; (with_reducible refine (impl_PlaceText.calls k2 _ _ x308000_1 t320 _ _ x308002_2 t329 _ ?side1 ?side2 ?side3 ?side4 ?side5 A67.out).mono ?_); (case side1 => repeat (first | exact (Kd.R_reads' HO_308000.out).2.2 | (with_reducible refine Kd.C_alloc ?_ _) | (with_reducible refine Kd.C_drewN ?_ _) | (with_reducible refine Kd.C_drew ?_))); (case side2 => exact (Kd.R_reads' HO_308000.out).2.1); (case side3 => repeat (first | exact (Kd.R_reads' HO_308002.out).2.2 | (with_reducible refine Kd.C_alloc ?_ _) | (with_reducible refine Kd.C_drewN ?_ _) | (with_reducible refine Kd.C_drew ?_))); (case side4 => exact (Kd.R_reads' HO_308002.out).2.1); (case side5 => exact GWb.below HG.out (tb_ HB.out)); rintro e w80 ⟨rfl, hb⟩; refine ⟨_, rfl, ?_⟩; have n0_ := Aside0.mk (Kd.R_below (rR_ HO_4.out) hb); have n1_ := Aside0.mk (Kd.R_below (rR_ HO_308000.out) hb); have n2_ := Aside0.mk (Kd.R_below (rR_ HO_308002.out) hb); have n3_ := Aside0.mk (blk_below (g := gb303) (o := .cells #[.slice none 0 0, .int .i64 x304001_1, .slice none 0 0] 25 (0, 0)) (tk_ BK303.out) hb); have n4_ := Aside0.mk (blk_below (g := gb307) (o := .cells #[.slice Ao78 x308000_1.length co78, .int .i64 t320, .slice Ao79 x308002_2.length co79] 25 (0, 0)) (tk_ BK307.out) hb); have n5_ := Aside0.mk (below_step (tb_ HB.out) hb); clear HO_4 HO_308000 HO_308002 BK303 BK307 HB; have HO_4 := n0_; have HO_308000 := n1_; have HO_308002 := n2_; have BK303 := n3_; have BK307 := n4_; have HB := n5_; clear n0_ n1_ n2_ n3_ n4_ n5_; (try clear hb); (try clear hb2); (try clear hk); (try clear hi); have hcz81_0 : w80.cell? ⟨gb303, 0, none⟩ = some (.slice none 0 0) := (blk_cell BK303.out 0).trans rfl; have hcz81_1 : w80.cell? ⟨gb303, 1, none⟩ = some (.int .i64 x304001_1) := (blk_cell BK303.out 1).trans rfl; have hcz81_2 : w80.cell? ⟨gb303, 2, none⟩ = some (.slice none 0 0) := (blk_cell BK303.out 2).trans rfl; have hfz81_0 := blk_frozen BK303.out 0; have hfz81_1 := blk_frozen BK303.out 1; have hfz81_2 := blk_frozen BK303.out 2))
             refine bodyPost_ret (results_ct rfl _ _ gb303 25 #[.slice none 0 0, .int .i64 0, .slice none 0 0] (0, 0) _ rfl (by refine bq_ ?_; refine blk_put (cs := #[.slice none 0 0, .int .i64 0, .slice none 0 0]) ?_ 2 _ rfl; refine bq_ ?_; refine blk_put (cs := #[.slice none 0 0, .int .i64 x304001_1, .slice none 0 0]) ?_ 1 _ rfl; refine bq_ ?_; refine blk_put (cs := #[.slice none 0 0, .int .i64 x304001_1, .slice none 0 0]) ?_ 0 _ rfl; exact tk_ BK303.out) Tryd.underlying25 rfl (by kernel_rfl)) rfl ?_
             exact ⟨_, _, by first | rfl | (simp [errW_none, errW_some, Option.map_none, Option.map_some] <;> rfl) | (simp [*, errW_none, errW_some] <;> rfl), by first | exact Kd.R_nil _ _ _ _ _ | exact Kd.N_nil _ _ _ _ _ | exact Kd.V_nil _ _ _ _ _ | exact Kd.Q_nil _ _ _ _ _ | exact Kd.S_nil _ _ _ _ _, by first | exact Kd.R_nil _ _ _ _ _ | exact Kd.N_nil _ _ _ _ _ | exact Kd.V_nil _ _ _ _ _ | exact Kd.Q_nil _ _ _ _ _ | exact Kd.S_nil _ _ _ _ _, (tb_ HB.out)⟩
       ·
        rw [if_neg c37] at H
        exact absurd H (by simp)
      ·
       rw [if_neg c35] at H
       exact absurd H (by simp)
  ·
   rw [if_neg c4] at H
   exact absurd H (by simp)
 ·
  rw [if_neg c3] at H
  have c3b0 : ((t304.length : Int) == 3) = false := beq_eq_false_iff_ne.mpr c3
  have c3b1 : ((t304.length : Int) != 3) = true := bne_iff_ne.mpr c3
  simp only [Option.some.injEq, Prod.mk.injEq] at H
  obtain ⟨rfl, rfl, rfl, rfl⟩ := H
  go_enter Tryd.func54, Tryd.ntmps54
  go_wp2_with (first | ((with_reducible refine gate_dst (N := 2) rfl ?_); (try (refine gate_guard (by rfl) ?_; dsimp only)); refine box_event ?hg (N := 2) ?hd (cs := #[.slice none 0 0, .int .i64 0, .slice none 0 0]) (t := 25) ?hr ?_; (case hd => rfl); (case hg => rfl); (case hr => first | (go_simp; done) | (go_simp; rfl)); intro gb303 hg w82 hbox hb; have n0_ := Aside0.mk (below_step (tb_ HB.out) hb); have n1_ := Aside0.mk (hbox); have n2_ := Aside0.mk ((by rw [hg]; exact (below_size (tb_ HB.out)) : w.heap.size ≤ gb303)); have n3_ := Aside0.mk ((by rw [hg]; exact (below_size (tb_ HB.out)) : w.heap.size ≤ gb303)); clear HB; have HB := n0_; have BK303 := n1_; have GW303 := n2_; have GE303 := n3_; clear n0_ n1_ n2_ n3_ hb hbox hg) | ((with_reducible refine gate_callee (f := 93) rfl ?_); refine goesL_ (some 12) rfl rfl Tryd.func93 (by kernel_rfl) rfl #[.string a0, .string (⟨#[32]⟩ : ByteArray)] rfl tz_ ?_; (with_reducible refine (strings_Split.calls a0 (⟨#[32]⟩ : ByteArray) t304 _ ?side1 A2.out).mono ?_); (case side1 => exact GWb.below HG.out (tb_ HB.out)); rintro e w83 ⟨v305, rfl, ho0, hb⟩; refine ⟨_, rfl, ?_⟩; have n0_ := Aside0.mk (Kd.R_lower ho0 (below_size (tb_ HB.out))); have n1_ := Aside0.mk (blk_below (g := gb303) (o := .cells #[.slice none 0 0, .int .i64 0, .slice none 0 0] 25 (0, 0)) (tk_ BK303.out) hb); have n2_ := Aside0.mk (below_step (tb_ HB.out) hb); clear BK303 HB; have HO306 := n0_; have BK303 := n1_; have HB := n2_; clear n0_ n1_ n2_; (try clear hb); (try clear hb2); (try clear hk); (try clear hi); (try clear ho0); obtain ⟨Ao84, co84, eo84⟩ := Kd.R_slice HO306.out; subst eo84; have hcz85_0 : w83.cell? ⟨gb303, 0, none⟩ = some (.slice none 0 0) := (blk_cell BK303.out 0).trans rfl; have hcz85_1 : w83.cell? ⟨gb303, 1, none⟩ = some (.int .i64 0) := (blk_cell BK303.out 1).trans rfl; have hcz85_2 : w83.cell? ⟨gb303, 2, none⟩ = some (.slice none 0 0) := (blk_cell BK303.out 2).trans rfl; have hfz85_0 := blk_frozen BK303.out 0; have hfz85_1 := blk_frozen BK303.out 1; have hfz85_2 := blk_frozen BK303.out 2))
  refine bodyPost_ret (results_ct rfl _ _ gb303 25 #[.slice none 0 0, .int .i64 0, .slice none 0 0] (0, 0) _ rfl (by refine bq_ ?_; refine blk_put (cs := #[.slice none 0 0, .int .i64 0, .slice none 0 0]) ?_ 2 _ rfl; refine bq_ ?_; refine blk_put (cs := #[.slice none 0 0, .int .i64 0, .slice none 0 0]) ?_ 1 _ rfl; refine bq_ ?_; refine blk_put (cs := #[.slice none 0 0, .int .i64 0, .slice none 0 0]) ?_ 0 _ rfl; exact tk_ BK303.out) Tryd.underlying25 rfl (by kernel_rfl)) rfl ?_
  exact ⟨_, _, by first | rfl | (simp [errW_none, errW_some, Option.map_none, Option.map_some] <;> rfl) | (simp [*, errW_none, errW_some] <;> rfl), by first | exact Kd.R_nil _ _ _ _ _ | exact Kd.N_nil _ _ _ _ _ | exact Kd.V_nil _ _ _ _ _ | exact Kd.Q_nil _ _ _ _ _ | exact Kd.S_nil _ _ _ _ _, by first | exact Kd.R_nil _ _ _ _ _ | exact Kd.N_nil _ _ _ _ _ | exact Kd.V_nil _ _ _ _ _ | exact Kd.Q_nil _ _ _ _ _ | exact Kd.S_nil _ _ _ _ _, (tb_ HB.out)⟩

/-- A state of type 126 at block g of W; what its slices lead to came in by w0. -/
def IsS126 (w0 W : World) (g : Nat) (f0 : List Int) (f1 : Int) : Prop := ∃ A0 c0, W.heap[g]? = some (.cells #[.slice A0 f0.length c0, .int .i64 f1] 126 (0, 0)) ∧ w0.heap.size ≤ g ∧ Kd.C (Kd.int .u8) w0 A0 f0.length f0
theorem IsS126.grown {w0 W : World} {g : Nat} {f0 : List Int} {f1 : Int} {W1 : World} {row : Option Nat} (h : IsS126 w0 W g f0 f1) (hw : W.grownBy W1 row) (hne : some g ≠ row) : IsS126 w0 W1 g f0 f1 := by
 obtain ⟨A0, c0, hb, hg, hr0⟩ := h
 exact ⟨A0, c0, blk_grown hb hw hne, hg, hr0⟩
theorem IsS126.own_neN {w0 W : World} {g : Nat} {f0 : List Int} {f1 : Int} {α : Type} {d : Kd α} {e : Nat} {base : Nat} {ok : Nat → Prop} {v : Value} {xs : List α} (h : IsS126 w0 W g f0 f1) (ho : Kd.N d e W base ok v xs) (ht : e ≠ 126) : some g ≠ v.ownBlock := by
 obtain ⟨A0, c0, hb, hg, hr0⟩ := h
 exact Kd.N_ne ho hb ht
theorem IsS126.fresh {w0 W : World} {g : Nat} {f0 : List Int} {f1 : Int} (h : IsS126 w0 W g f0 f1) : ∀ k, W.heap.size ≤ k → k ≠ g := by
 obtain ⟨A0, c0, hb, hg, hr0⟩ := h
 exact Kd.freshB hb
theorem IsS126.kept {w0 W : World} {g : Nat} {f0 : List Int} {f1 : Int} {W1 : World} {S : Nat → Prop} (h : IsS126 w0 W g f0 f1) (hk : Kept W W1 S) (hne : ¬ S g) : IsS126 w0 W1 g f0 f1 := by
 obtain ⟨A0, c0, hb, hg, hr0⟩ := h
 exact ⟨A0, c0, blk_kept hb hk hne, hg, hr0⟩
theorem IsS126.below {w0 W : World} {g : Nat} {f0 : List Int} {f1 : Int} {W1 : World} (h : IsS126 w0 W g f0 f1) (hw : Below W.heap.size W W1) : IsS126 w0 W1 g f0 f1 := h.grown (grown_of_below hw none) (by simp)
theorem IsS126.alloc {w0 W : World} {g : Nat} {f0 : List Int} {f1 : Int} (h : IsS126 w0 W g f0 f1) (o : Obj) : IsS126 w0 (W.alloc o) g f0 f1 := h.below (la_ (Below.refl _ _) o)
theorem IsS126.drewN {w0 W : World} {g : Nat} {f0 : List Int} {f1 : Int} (h : IsS126 w0 W g f0 f1) (m : Nat) : IsS126 w0 (W.drewN m) g f0 f1 := h
theorem IsS126.drew {w0 W : World} {g : Nat} {f0 : List Int} {f1 : Int} (h : IsS126 w0 W g f0 f1) : IsS126 w0 W.drew g f0 f1 := h
theorem IsS126.at_ {w0 W : World} {g : Nat} {f0 : List Int} {f1 : Int} {w' : World} {m : Nat} (hq : W.drewN m = w') (h : IsS126 w0 W g f0 f1) : IsS126 w0 w' g f0 f1 := by subst hq; exact IsS126.drewN h m
theorem IsS126.apart {w0 W : World} {g : Nat} {f0 : List Int} {f1 : Int} {α : Type} {d : Kd α} {e : Nat} {base : Nat} {ok : Nat → Prop} {v : Value} {xs : List α} (h : IsS126 w0 W g f0 f1) (ho : d.R e W base ok v xs) (ht : ∀ q, q ∈ e :: d.E → q ≠ 126) : d.R e W base (fun k => ok k ∧ k ≠ g) v xs := by
 obtain ⟨A0, c0, hb, hg, hr0⟩ := h
 exact Kd.R_types ho hb ht
theorem IsS126.own_ne {w0 W : World} {g : Nat} {f0 : List Int} {f1 : Int} {α : Type} {d : Kd α} {e : Nat} {base : Nat} {ok : Nat → Prop} {v : Value} {xs : List α} (h : IsS126 w0 W g f0 f1) (ho : d.R e W base ok v xs) (ht : e ≠ 126) : some g ≠ v.ownBlock := by
 obtain ⟨A0, c0, hb, hg, hr0⟩ := h
 exact Kd.R_ne ho hb ht
theorem IsS126.apartQ {w0 W : World} {g : Nat} {f0 : List Int} {f1 : Int} {α : Type} {d : Kd α} {e : Nat} {base : Nat} {ok : Nat → Prop} {v : Value} {xs : List α} (h : IsS126 w0 W g f0 f1) (ho : d.Q e W base ok v xs) (ht : ∀ q, q ∈ e :: d.E → q ≠ 126) : d.Q e W base (fun k => ok k ∧ k ≠ g) v xs := by
 obtain ⟨A0, c0, hb, hg, hr0⟩ := h
 exact Kd.Q_types ho hb ht
theorem IsS126.own_neQ {w0 W : World} {g : Nat} {f0 : List Int} {f1 : Int} {α : Type} {d : Kd α} {e : Nat} {base : Nat} {ok : Nat → Prop} {v : Value} {xs : List α} (h : IsS126 w0 W g f0 f1) (ho : d.Q e W base ok v xs) (ht : e ≠ 126) : some g ≠ v.ownBlock := by
 obtain ⟨A0, c0, hb, hg, hr0⟩ := h
 exact Kd.Q_ne ho hb ht
theorem IsS126.apartS {w0 W : World} {g : Nat} {f0 : List Int} {f1 : Int} {α : Type} {d : Kd α} {e : Nat} {base : Nat} {ok : Nat → Prop} {v : Value} {xs : List α} (h : IsS126 w0 W g f0 f1) (ho : d.S e W base ok v xs) (ht : ∀ q, q ∈ e :: d.E → q ≠ 126) : d.S e W base (fun k => ok k ∧ k ≠ g) v xs := by
 obtain ⟨A0, c0, hb, hg, hr0⟩ := h
 exact Kd.S_types ho hb ht
theorem IsS126.own_neS {w0 W : World} {g : Nat} {f0 : List Int} {f1 : Int} {α : Type} {d : Kd α} {e : Nat} {base : Nat} {ok : Nat → Prop} {v : Value} {xs : List α} (h : IsS126 w0 W g f0 f1) (ho : d.S e W base ok v xs) (ht : e ≠ 126) : some g ≠ v.ownBlock := by
 obtain ⟨A0, c0, hb, hg, hr0⟩ := h
 exact Kd.S_ne ho hb ht
theorem IsS126.lt {w0 W : World} {g : Nat} {f0 : List Int} {f1 : Int} (h : IsS126 w0 W g f0 f1) : g < W.heap.size := by
 obtain ⟨A0, c0, hb, hg, hr0⟩ := h
 exact blk_lt hb
theorem IsS126.ge {w0 W : World} {g : Nat} {f0 : List Int} {f1 : Int} (h : IsS126 w0 W g f0 f1) : w0.heap.size ≤ g := by
 obtain ⟨A0, c0, hb, hg, hr0⟩ := h
 exact hg
theorem IsS126.ne_blk {w0 W : World} {g : Nat} {f0 : List Int} {f1 : Int} {a : Nat} {cs : Array Value} {t : TypeId} {fr : Nat × Nat} (h : IsS126 w0 W g f0 f1) (hb2 : W.heap[a]? = some (.cells cs t fr)) (ht : t ≠ 126) : g ≠ a := by
 obtain ⟨A0, c0, hb, hg, hr0⟩ := h
 rintro rfl
 rw [hb] at hb2
 injection hb2 with hb2
 injection hb2 with _ ht2
 exact ht ht2.symm
theorem IsS126.far {w0 W : World} {g : Nat} {f0 : List Int} {f1 : Int} {p : Addr} (h : IsS126 w0 W g f0 f1) (hne : g ≠ p.block) (u : Value) : IsS126 w0 (W.setCell p u) g f0 f1 := by
 obtain ⟨A0, c0, hb, hg, hr0⟩ := h
 exact ⟨A0, c0, blk_far hb hne u, hg, hr0⟩
theorem cellS126_0 {W : World} {g : Nat} {A0 : Option Addr} {c0 : Nat} {f0 : List Int} {f1 : Int} (h : W.heap[g]? = some (.cells #[.slice A0 f0.length c0, .int .i64 f1] 126 (0, 0))) : W.cell? ⟨g, 0, none⟩ = some (.slice A0 f0.length c0) := (blk_cell h 0).trans rfl
theorem cellS126_1 {W : World} {g : Nat} {A0 : Option Addr} {c0 : Nat} {f0 : List Int} {f1 : Int} (h : W.heap[g]? = some (.cells #[.slice A0 f0.length c0, .int .i64 f1] 126 (0, 0))) : W.cell? ⟨g, 1, none⟩ = some (.int .i64 f1) := (blk_cell h 1).trans rfl
theorem IsS126.set_1 {w0 W : World} {g : Nat} {f0 : List Int} {f1 : Int} (h : IsS126 w0 W g f0 f1) (x : Int) : IsS126 w0 (W.setCell ⟨g, 1, none⟩ (.int .i64 x)) g f0 x := by
 obtain ⟨A0, c0, hb, hg, hr0⟩ := h
 exact ⟨A0, c0, by simpa using blk_set hb 1 (.int .i64 x), hg, hr0⟩
theorem IsS126.new (w0 W : World) (A0 : Option Addr) (c0 : Nat) (f0 : List Int) (f1 : Int) (hB : Below w0.heap.size w0 W) (hr0 : Kd.C (Kd.int .u8) w0 A0 f0.length f0) : IsS126 w0 (W.alloc (.cells #[.slice A0 f0.length c0, .int .i64 f1] 126)) W.heap.size f0 f1 := ⟨A0, c0, by simpa using heap_alloc_new W _, hB.size, hr0⟩

/-! ### spec_l20Open: function 64 -/
def spec_l20Open.f (l0 : List Int) : Option (List Int × Int) := if (l0.length : Int) > 2000 then (if 2000 ≤ (l0.length : Int) then (some (l0.take 2000, 0)) else (none)) else (some (l0, 0))
set_option maxHeartbeats 8000000 in
set_option maxRecDepth 100000 in
theorem spec_l20Open.calls (A0 : Option Addr) (c0 : Nat) (l0 : List Int) (r1 : List Int) (r2 : Int) (w0 w : World) (hB : Below w0.heap.size w0 w) (hr0 : Kd.C (Kd.int .u8) w0 A0 l0.length l0) (hc0 : l0.length ≤ c0) (h : spec_l20Open.f l0 = some (r1, r2)) :
  Calls Tryd.prog 64 #[.slice A0 l0.length c0] w fun e w' => ∃ g_ : Nat, e = .returned (.pointer (some ⟨g_, 0, none⟩)) ∧ IsS126 w0 w' g_ r1 r2 ∧ Below w0.heap.size w0 w' ∧ Below w.heap.size w w' := by
 have hu126 := Tryd.underlying126
 have HR0 := Aside0.mk hr0
 have HC0 := Aside0.mk hc0
 clear hr0 hc0
 have HBW := Aside0.mk (Below.refl w.heap.size w)
 have HW0 := Aside0.mk hB.size
 have HB := Aside0.mk hB
 clear hB
 have H : (if (l0.length : Int) > 2000 then (if 2000 ≤ (l0.length : Int) then (some (l0.take 2000, 0)) else (none)) else (some (l0, 0))) = some (r1, r2) := h
 clear h
 by_cases c2 : (l0.length : Int) > 2000
 ·
  rw [if_pos c2] at H
  have c2b0 : decide (2000 < (l0.length : Int)) = true := decide_eq_true c2
  have c2b1 : decide (2000 < l0.length) = true := decide_eq_true (by omega)
  clear c2
  by_cases c3 : 2000 ≤ (l0.length : Int)
  ·
   rw [if_pos c3] at H
   have c3b0 := eq_true c3
   have c3b1 : decide (2000 ≤ (l0.length : Int)) = true := decide_eq_true c3
   clear c3
   simp only [Option.some.injEq, Prod.mk.injEq] at H
   obtain ⟨rfl, rfl⟩ := H
   obtain ⟨i04, hi04, _, hsz4, _⟩ := info_parts info5
   obtain ⟨hcut4, hA4, hC4⟩ := print_take_of (P := Tryd.prog) (Value.int .u8) 0 22 5 .i64 Tryd.underlying22 hi04 hsz4 A0 c0 l0 2000 (by omega) (od_) HC0.out
   have HR330 := Aside0.mk (Kd.C_of_reads (h1 := fun _ => rfl) (hA4 _ (Kd.reads_of_C HR0.out)))
   have HC330 := Aside0.mk hC4
   clear hA4 hC4 hi04 hsz4
   go_enter Tryd.func64, Tryd.ntmps64
   go_wp2_with (first | ((with_reducible refine gate_dst (N := 10) rfl ?_); refine box_event ?hg (N := 10) ?hd (cs := #[.slice A0 (l0.take 2000).length c0, .int .i64 0]) (t := 126) ?hr ?_; (case hd => rfl); (case hg => rfl); (case hr => first | (go_simp; done) | (go_simp; rfl)); intro gb331 hg w5 hbox hb; have n0_ := Aside0.mk (below_step HBW.out hb); have n1_ := Aside0.mk (below_step (tb_ HB.out) hb); have n2_ := Aside0.mk (hbox); have n3_ := Aside0.mk ((by rw [hg]; exact (below_size (by repeat (first | (with_reducible first | exact HBW.out | apply la_ | apply ln_ | apply ld_) | exact HBW.out))) : w.heap.size ≤ gb331)); have n4_ := Aside0.mk ((Nat.le_trans HW0.out (by rw [hg]; exact (below_size (by repeat (first | (with_reducible first | exact HBW.out | apply la_ | apply ln_ | apply ld_) | exact HBW.out))) : w.heap.size ≤ gb331) : w0.heap.size ≤ gb331)); clear HBW HB; have HBW := n0_; have HB := n1_; have BK331 := n2_; have GW331 := n3_; have GE331 := n4_; clear n0_ n1_ n2_ n3_ n4_ hb hbox hg))
   go_ret
   exact ⟨_, rfl, (show IsS126 w0 _ gb331 (l0.take 2000) 0 from ⟨_, _, by exact tk_ BK331.out, GE331.out, HR330.out⟩), (tb_ HB.out), by repeat (first | (with_reducible first | exact HBW.out | apply la_ | apply ln_ | apply ld_ | refine below_set ?_ GW331.out) | exact HBW.out)⟩
  ·
   rw [if_neg c3] at H
   exact absurd H (by simp)
 ·
  rw [if_neg c2] at H
  have c2b0 : decide (2000 < (l0.length : Int)) = false := decide_eq_false c2
  have c2b1 : decide (2000 < l0.length) = false := decide_eq_false (by omega)
  clear c2
  simp only [Option.some.injEq, Prod.mk.injEq] at H
  obtain ⟨rfl, rfl⟩ := H
  go_enter Tryd.func64, Tryd.ntmps64
  go_wp2_with (first | ((with_reducible refine gate_dst (N := 10) rfl ?_); refine box_event ?hg (N := 10) ?hd (cs := #[.slice A0 l0.length c0, .int .i64 0]) (t := 126) ?hr ?_; (case hd => rfl); (case hg => rfl); (case hr => first | (go_simp; done) | (go_simp; rfl)); intro gb332 hg w6 hbox hb; have n0_ := Aside0.mk (below_step HBW.out hb); have n1_ := Aside0.mk (below_step (tb_ HB.out) hb); have n2_ := Aside0.mk (hbox); have n3_ := Aside0.mk ((by rw [hg]; exact (below_size (by repeat (first | (with_reducible first | exact HBW.out | apply la_ | apply ln_ | apply ld_) | exact HBW.out))) : w.heap.size ≤ gb332)); have n4_ := Aside0.mk ((Nat.le_trans HW0.out (by rw [hg]; exact (below_size (by repeat (first | (with_reducible first | exact HBW.out | apply la_ | apply ln_ | apply ld_) | exact HBW.out))) : w.heap.size ≤ gb332) : w0.heap.size ≤ gb332)); clear HBW HB; have HBW := n0_; have HB := n1_; have BK332 := n2_; have GW332 := n3_; have GE332 := n4_; clear n0_ n1_ n2_ n3_ n4_ hb hbox hg))
  go_ret
  exact ⟨_, rfl, (show IsS126 w0 _ gb332 l0 0 from ⟨_, _, by exact tk_ BK332.out, GE332.out, HR0.out⟩), (tb_ HB.out), by repeat (first | (with_reducible first | exact HBW.out | apply la_ | apply ln_ | apply ld_ | refine below_set ?_ GW332.out) | exact HBW.out)⟩

end Go.Proofs.YtlhiienanbpdlaaDoor.MFnReadPlace
