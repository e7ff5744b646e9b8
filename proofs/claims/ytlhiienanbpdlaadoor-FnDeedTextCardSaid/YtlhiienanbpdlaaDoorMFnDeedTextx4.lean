/- For the law FnDeedText: walks of the functions that it reaches: each call returns what the plain function beside it tells. The conditions stand in each statement. -/
import Derived.Test.YtlhiienanbpdlaaDoorMFnDeedTextx0
import Derived.Test.YtlhiienanbpdlaaDoorMFnDeedTextx3
namespace Go.Proofs.YtlhiienanbpdlaaDoor.MFnDeedText
open Go.RowKit Go.Proofs.YtlhiienanbpdlaaDoorW.PrintWords Go.Proofs.YtlhiienanbpdlaaDoorW.PrintLast Go.Proofs.YtlhiienanbpdlaaDoorW.PrintMore
attribute [local go_sem] max2_int min2_int max_two min_two max_three min_three max_four min_four   -- for this text's walks alone
set_option linter.unusedVariables false
set_option linter.unusedSimpArgs false

/-! ### spec_l20Deed: function 66 -/
def spec_l20Deed.j0 : Nat → List Int → Int → Int → Int → Int → Option (Int × Int × Int × Int)
 | 0, _, _, _, _, _ => none
 | k + 1, x1000, x1001, x156000, x156001, x156002 => (spec_l20Rd_odd.f k x1000 x1001 40).bind fun bt164 => (if bt164.1 = true then ((spec_l20Rd_pick.f k x1000 bt164.2 2).bind fun bt166 => (if bt166.1 = 0 then ((some (([(-100), 100] : List Int) : List Int)).bind fun y168 => ((spec_l20Rd_pick.f k x1000 bt166.2 2).bind fun bt171 => (if 0 ≤ bt171.1 then (if bt171.1 < (y168.length : Int) then (some (x156000, rd y168 bt171.1, x156002, bt171.2)) else (none)) else (none)))) else (some (x156000, x156001, 99, bt166.2)))) else (some (x156000, x156001, x156002, bt164.2)))
def spec_l20Deed.f (k : Nat) (s0_0 : List Int) (s0_1 : Int) (l1_0 : List Int) (a1_1 : Int) (l1_2 : List Int) : Option (Int × Int × Int × Int) := (some (([0, 1, 2, 2, 2, 2, 3, 4] : List Int) : List Int)).bind fun y147 => ((spec_l20Rd_pick.f k s0_0 s0_1 8).bind fun bt150 => (if 0 ≤ bt150.1 then (if bt150.1 < (y147.length : Int) then ((spec_l20Rd_pick.f k s0_0 bt150.2 60).bind fun bt153 => (if (wrap64 ((rd y147 bt150.1) + (wrap64 ((wrap64 (Int.tdiv bt153.1 59)) * 5)))) = 0 then ((spec_l20Rd_pick.f k s0_0 bt153.2 (mx (l1_0.length : Int) 1)).bind fun bt156 => ((spec_l20Rd_pick.f k s0_0 bt156.2 7).bind fun bt158 => (spec_l20Deed.j0 k s0_0 bt158.2 (wrap64 ((rd y147 bt150.1) + (wrap64 ((wrap64 (Int.tdiv bt153.1 59)) * 5)))) bt156.1 (wrap64 (bt158.1 - 3))))) else (if (wrap64 ((rd y147 bt150.1) + (wrap64 ((wrap64 (Int.tdiv bt153.1 59)) * 5)))) = 1 then ((spec_l20Rd_pick.f k s0_0 bt153.2 5).bind fun bt160 => (spec_l20Deed.j0 k s0_0 bt160.2 (wrap64 ((rd y147 bt150.1) + (wrap64 ((wrap64 (Int.tdiv bt153.1 59)) * 5)))) (wrap64 (bt160.1 - 1)) 0)) else (if (wrap64 ((rd y147 bt150.1) + (wrap64 ((wrap64 (Int.tdiv bt153.1 59)) * 5)))) = 2 then ((spec_l20Rd_pick.f k s0_0 bt153.2 (mx (l1_0.length : Int) 1)).bind fun bt162 => (spec_l20Deed.j0 k s0_0 bt162.2 (wrap64 ((rd y147 bt150.1) + (wrap64 ((wrap64 (Int.tdiv bt153.1 59)) * 5)))) bt162.1 0)) else (spec_l20Deed.j0 k s0_0 bt153.2 (wrap64 ((rd y147 bt150.1) + (wrap64 ((wrap64 (Int.tdiv bt153.1 59)) * 5)))) 0 0))))) else (none)) else (none)))
theorem spec_l20Deed.mono_l : ∀ k, (∀ y0 y1 y2 y3 y4, LeO (spec_l20Deed.j0 k y0 y1 y2 y3 y4) (spec_l20Deed.j0 (k + 1) y0 y1 y2 y3 y4))
 | 0 => fun _ _ _ _ _ r h => by simp [spec_l20Deed.j0] at h
 | k + 1 => by
  have ih0 := spec_l20Deed.mono_l k
  ·
   intro y0 y1 y2 y3 y4
   unfold spec_l20Deed.j0
   repeat' first
   | (with_reducible exact ih0 _ _ _ _ _)
   | (with_reducible exact spec_l20Rd_odd.mono _ _ _ _)
   | (with_reducible exact spec_l20Rd_pick.mono _ _ _ _)
   | (with_reducible exact LeO.refl _)
   | (with_reducible exact LeO.none _)
   | (with_reducible refine LeO.ite ?_ ?_)
   | (with_reducible refine LeO.bind ?_ (fun _ => ?_))
   | exact ih0 _ _ _ _ _
   | exact spec_l20Rd_odd.mono _ _ _ _
   | exact spec_l20Rd_pick.mono _ _ _ _
   | exact LeO.none _
   | refine LeO.ite ?_ ?_
   | refine LeO.bind ?_ (fun _ => ?_)
theorem spec_l20Deed.mono : ∀ a0 a1 a2 a3 a4 k, LeO (spec_l20Deed.f k a0 a1 a2 a3 a4) (spec_l20Deed.f (k + 1) a0 a1 a2 a3 a4) := by
 intro a0 a1 a2 a3 a4 k
 have ih0 := spec_l20Deed.mono_l k
 unfold spec_l20Deed.f
 repeat' first
   | (with_reducible exact ih0 _ _ _ _ _)
   | (with_reducible exact spec_l20Rd_odd.mono _ _ _ _)
   | (with_reducible exact spec_l20Rd_pick.mono _ _ _ _)
   | (with_reducible exact LeO.refl _)
   | (with_reducible exact LeO.none _)
   | (with_reducible refine LeO.ite ?_ ?_)
   | (with_reducible refine LeO.bind ?_ (fun _ => ?_))
   | exact ih0 _ _ _ _ _
   | exact spec_l20Rd_odd.mono _ _ _ _
   | exact spec_l20Rd_pick.mono _ _ _ _
   | exact LeO.none _
   | refine LeO.ite ?_ ?_
   | refine LeO.bind ?_ (fun _ => ?_)
def spec_l20Deed.T1 : Bool × List (List Nat × List Nat) := (true, [([], []), ([], []), ([1], [1]), ([0, 2], [0, 2]), ([3], [3]), ([], []), ([5, 2], [5]), ([6], [6]), ([7], [7]), ([4, 8], [4, 8]), ([9], [9]), ([], []), ([11, 10, 6, 0, 1, 2, 3, 4, 5, 6, 7, 8, 9, 10, 11], [10, 11])])
def spec_l20Deed.B1 : List Nat := [0, 0, 2, 7, 15, 0, 38, 102, 230, 511, 1023, 0, 4095]
theorem spec_l20Deed.tab1 : rtab .any (opsOf Tryd.f66 1) = spec_l20Deed.T1 := by kernel_rfl
theorem spec_l20Deed.bits1 : waitsOk spec_l20Deed.T1.2 spec_l20Deed.B1 = true := by kernel_rfl
set_option maxHeartbeats 8000000 in
set_option maxRecDepth 100000 in
theorem spec_l20Deed.calls (k : Nat) (g : Nat) (s0_0 : List Int) (s0_1 : Int) (A1_0 : Option Addr) (c1_0 : Nat) (l1_0 : List Int) (a1_1 : Int) (A1_2 : Option Addr) (c1_2 : Nat) (l1_2 : List Int) (r1 : Int) (r2 : Int) (r3 : Int) (r4 : Int) (w0 w : World) (hI : IsS126 w0 w g s0_0 s0_1) (hB : Below w0.heap.size w0 w) (hr1_0 : Kd.C (Kd.int .i64) w A1_0 l1_0.length l1_0) (hc1_0 : l1_0.length ≤ c1_0) (hf1_0 : ∀ ad, A1_0 = some ad → 0 < l1_0.length → ad.block ≠ g) (hr1_2 : Kd.C (Kd.int .i64) w A1_2 l1_2.length l1_2) (hc1_2 : l1_2.length ≤ c1_2) (hf1_2 : ∀ ad, A1_2 = some ad → 0 < l1_2.length → ad.block ≠ g) (h : spec_l20Deed.f k s0_0 s0_1 l1_0 a1_1 l1_2 = some (r1, r2, r3, r4)) :
  Calls Tryd.prog 66 #[.pointer (some ⟨g, 0, none⟩), .agg #[.slice A1_0 l1_0.length c1_0, .int .i64 a1_1, .slice A1_2 l1_2.length c1_2]] w fun e w' => e = .returned (.agg #[.int .i64 r1, .int .i64 r2, .int .i64 r3]) ∧ IsS126 w0 w' g s0_0 r4 ∧ Below w0.heap.size w0 w' ∧ KeepBut w w' g none := by
 have hu25 := Tryd.underlying25
 have hu30 := Tryd.underlying30
 have HR1_0 := Aside0.mk hr1_0
 have HC1_0 := Aside0.mk hc1_0
 clear hr1_0 hc1_0
 have HR1_2 := Aside0.mk hr1_2
 have HC1_2 := Aside0.mk hc1_2
 clear hr1_2 hc1_2
 have HI0 := Aside0.mk hI
 have HK := Aside0.mk (KeepBut.refl w g none)
 have HL := Aside0.mk hB.size
 clear hI
 have HW0 := Aside0.mk hB.size
 have HB := Aside0.mk hB
 clear hB
 have H : ((some (([0, 1, 2, 2, 2, 2, 3, 4] : List Int) : List Int)).bind fun y147 => ((spec_l20Rd_pick.f k s0_0 s0_1 8).bind fun bt150 => (if 0 ≤ bt150.1 then (if bt150.1 < (y147.length : Int) then ((spec_l20Rd_pick.f k s0_0 bt150.2 60).bind fun bt153 => (if (wrap64 ((rd y147 bt150.1) + (wrap64 ((wrap64 (Int.tdiv bt153.1 59)) * 5)))) = 0 then ((spec_l20Rd_pick.f k s0_0 bt153.2 (mx (l1_0.length : Int) 1)).bind fun bt156 => ((spec_l20Rd_pick.f k s0_0 bt156.2 7).bind fun bt158 => (spec_l20Deed.j0 k s0_0 bt158.2 (wrap64 ((rd y147 bt150.1) + (wrap64 ((wrap64 (Int.tdiv bt153.1 59)) * 5)))) bt156.1 (wrap64 (bt158.1 - 3))))) else (if (wrap64 ((rd y147 bt150.1) + (wrap64 ((wrap64 (Int.tdiv bt153.1 59)) * 5)))) = 1 then ((spec_l20Rd_pick.f k s0_0 bt153.2 5).bind fun bt160 => (spec_l20Deed.j0 k s0_0 bt160.2 (wrap64 ((rd y147 bt150.1) + (wrap64 ((wrap64 (Int.tdiv bt153.1 59)) * 5)))) (wrap64 (bt160.1 - 1)) 0)) else (if (wrap64 ((rd y147 bt150.1) + (wrap64 ((wrap64 (Int.tdiv bt153.1 59)) * 5)))) = 2 then ((spec_l20Rd_pick.f k s0_0 bt153.2 (mx (l1_0.length : Int) 1)).bind fun bt162 => (spec_l20Deed.j0 k s0_0 bt162.2 (wrap64 ((rd y147 bt150.1) + (wrap64 ((wrap64 (Int.tdiv bt153.1 59)) * 5)))) bt162.1 0)) else (spec_l20Deed.j0 k s0_0 bt153.2 (wrap64 ((rd y147 bt150.1) + (wrap64 ((wrap64 (Int.tdiv bt153.1 59)) * 5)))) 0 0))))) else (none)) else (none)))) = some (r1, r2, r3, r4) := h
 clear h
 obtain ⟨y147, hy147⟩ : ∃ y_ : List Int, y_ = (([0, 1, 2, 2, 2, 2, 3, 4] : List Int)) := ⟨_, rfl⟩
 replace H : ((spec_l20Rd_pick.f k s0_0 s0_1 8).bind fun bt150 => (if 0 ≤ bt150.1 then (if bt150.1 < (y147.length : Int) then ((spec_l20Rd_pick.f k s0_0 bt150.2 60).bind fun bt153 => (if (wrap64 ((rd y147 bt150.1) + (wrap64 ((wrap64 (Int.tdiv bt153.1 59)) * 5)))) = 0 then ((spec_l20Rd_pick.f k s0_0 bt153.2 (mx (l1_0.length : Int) 1)).bind fun bt156 => ((spec_l20Rd_pick.f k s0_0 bt156.2 7).bind fun bt158 => (spec_l20Deed.j0 k s0_0 bt158.2 (wrap64 ((rd y147 bt150.1) + (wrap64 ((wrap64 (Int.tdiv bt153.1 59)) * 5)))) bt156.1 (wrap64 (bt158.1 - 3))))) else (if (wrap64 ((rd y147 bt150.1) + (wrap64 ((wrap64 (Int.tdiv bt153.1 59)) * 5)))) = 1 then ((spec_l20Rd_pick.f k s0_0 bt153.2 5).bind fun bt160 => (spec_l20Deed.j0 k s0_0 bt160.2 (wrap64 ((rd y147 bt150.1) + (wrap64 ((wrap64 (Int.tdiv bt153.1 59)) * 5)))) (wrap64 (bt160.1 - 1)) 0)) else (if (wrap64 ((rd y147 bt150.1) + (wrap64 ((wrap64 (Int.tdiv bt153.1 59)) * 5)))) = 2 then ((spec_l20Rd_pick.f k s0_0 bt153.2 (mx (l1_0.length : Int) 1)).bind fun bt162 => (spec_l20Deed.j0 k s0_0 bt162.2 (wrap64 ((rd y147 bt150.1) + (wrap64 ((wrap64 (Int.tdiv bt153.1 59)) * 5)))) bt162.1 0)) else (spec_l20Deed.j0 k s0_0 bt153.2 (wrap64 ((rd y147 bt150.1) + (wrap64 ((wrap64 (Int.tdiv bt153.1 59)) * 5)))) 0 0))))) else (none)) else (none))) = some (r1, r2, r3, r4) := by first | (rw [hy147]; with_reducible exact H) | (have H2_ := (Option.bind_some _ _).symm.trans H; rw [hy147]; with_reducible exact H2_) | (have H2_ := (Option.bind_some _ _).symm.trans H; with_reducible exact H2_) | with_reducible exact H | (rw [hy147]; exact H) | exact H
 have Ny147 := Aside0.mk hy147
 clear hy147
 replace H := Option.bind_eq_some_iff.mp H
 obtain ⟨⟨t150, t151⟩, A30, H⟩ := H
 replace H : (if 0 ≤ t150 then (if t150 < (y147.length : Int) then ((spec_l20Rd_pick.f k s0_0 t151 60).bind fun bt153 => (if (wrap64 ((rd y147 t150) + (wrap64 ((wrap64 (Int.tdiv bt153.1 59)) * 5)))) = 0 then ((spec_l20Rd_pick.f k s0_0 bt153.2 (mx (l1_0.length : Int) 1)).bind fun bt156 => ((spec_l20Rd_pick.f k s0_0 bt156.2 7).bind fun bt158 => (spec_l20Deed.j0 k s0_0 bt158.2 (wrap64 ((rd y147 t150) + (wrap64 ((wrap64 (Int.tdiv bt153.1 59)) * 5)))) bt156.1 (wrap64 (bt158.1 - 3))))) else (if (wrap64 ((rd y147 t150) + (wrap64 ((wrap64 (Int.tdiv bt153.1 59)) * 5)))) = 1 then ((spec_l20Rd_pick.f k s0_0 bt153.2 5).bind fun bt160 => (spec_l20Deed.j0 k s0_0 bt160.2 (wrap64 ((rd y147 t150) + (wrap64 ((wrap64 (Int.tdiv bt153.1 59)) * 5)))) (wrap64 (bt160.1 - 1)) 0)) else (if (wrap64 ((rd y147 t150) + (wrap64 ((wrap64 (Int.tdiv bt153.1 59)) * 5)))) = 2 then ((spec_l20Rd_pick.f k s0_0 bt153.2 (mx (l1_0.length : Int) 1)).bind fun bt162 => (spec_l20Deed.j0 k s0_0 bt162.2 (wrap64 ((rd y147 t150) + (wrap64 ((wrap64 (Int.tdiv bt153.1 59)) * 5)))) bt162.1 0)) else (spec_l20Deed.j0 k s0_0 bt153.2 (wrap64 ((rd y147 t150) + (wrap64 ((wrap64 (Int.tdiv bt153.1 59)) * 5)))) 0 0))))) else (none)) else (none)) = some (r1, r2, r3, r4) := H
 have A3 := Aside0.mk A30
 clear A30
 by_cases c4 : 0 ≤ t150
 ·
  rw [if_pos c4] at H
  have c4b0 : decide (0 ≤ t150) = true := decide_eq_true c4
  clear c4
  by_cases c5 : t150 < (y147.length : Int)
  ·
   rw [if_pos c5] at H
   have c5b0 : decide (t150 < (y147.length : Int)) = true := decide_eq_true c5
   clear c5
   replace H := Option.bind_eq_some_iff.mp H
   obtain ⟨⟨t153, t154⟩, A60, H⟩ := H
   replace H : (if (wrap64 ((rd y147 t150) + (wrap64 ((wrap64 (Int.tdiv t153 59)) * 5)))) = 0 then ((spec_l20Rd_pick.f k s0_0 t154 (mx (l1_0.length : Int) 1)).bind fun bt156 => ((spec_l20Rd_pick.f k s0_0 bt156.2 7).bind fun bt158 => (spec_l20Deed.j0 k s0_0 bt158.2 (wrap64 ((rd y147 t150) + (wrap64 ((wrap64 (Int.tdiv t153 59)) * 5)))) bt156.1 (wrap64 (bt158.1 - 3))))) else (if (wrap64 ((rd y147 t150) + (wrap64 ((wrap64 (Int.tdiv t153 59)) * 5)))) = 1 then ((spec_l20Rd_pick.f k s0_0 t154 5).bind fun bt160 => (spec_l20Deed.j0 k s0_0 bt160.2 (wrap64 ((rd y147 t150) + (wrap64 ((wrap64 (Int.tdiv t153 59)) * 5)))) (wrap64 (bt160.1 - 1)) 0)) else (if (wrap64 ((rd y147 t150) + (wrap64 ((wrap64 (Int.tdiv t153 59)) * 5)))) = 2 then ((spec_l20Rd_pick.f k s0_0 t154 (mx (l1_0.length : Int) 1)).bind fun bt162 => (spec_l20Deed.j0 k s0_0 bt162.2 (wrap64 ((rd y147 t150) + (wrap64 ((wrap64 (Int.tdiv t153 59)) * 5)))) bt162.1 0)) else (spec_l20Deed.j0 k s0_0 t154 (wrap64 ((rd y147 t150) + (wrap64 ((wrap64 (Int.tdiv t153 59)) * 5)))) 0 0)))) = some (r1, r2, r3, r4) := H
   have A6 := Aside0.mk A60
   clear A60
   have HC7 := Aside0.mk H
   clear H
   go_enter Tryd.func66, Tryd.ntmps66
   try go_wp2_with (first | ((with_reducible refine gate_dst (N := 3) rfl ?_); refine box_event ?hg (N := 3) ?hd (cs := #[.slice A1_0 l1_0.length c1_0, .int .i64 a1_1, .slice A1_2 l1_2.length c1_2]) (t := 25) ?hr ?_; (case hd => rfl); (case hg => rfl); (case hr => first | (go_simp; done) | (go_simp; rfl)); intro gb145 hg w8 hbox hb; have n0_ := Aside0.mk (IsS126.below (by repeat (first | (with_reducible first | exact HI0.out | apply IsS126.alloc | apply IsS126.drewN | apply IsS126.drew | apply IsS126.set_1) | exact HI0.out)) hb); have n1_ := Aside0.mk (KeepBut.trans (tc_ HK.out) (KeepBut.of_below hb g none) (.inl rfl)); have n2_ := Aside0.mk (below_step (by repeat (first | (with_reducible first | exact HB.out | apply la_ | apply ln_ | apply ld_ | refine below_set ?_ (IsS126.ge HI0.out)) | exact HB.out)) hb); have n3_ := Aside0.mk (hbox); have n4_ := Aside0.mk ((by rw [hg]; exact (keep_size (w := w) (g := g) (row := none) (tc_ HK.out)) : w.heap.size ≤ gb145)); have n5_ := Aside0.mk ((Nat.le_trans HW0.out (by rw [hg]; exact (keep_size (w := w) (g := g) (row := none) (tc_ HK.out)) : w.heap.size ≤ gb145) : w0.heap.size ≤ gb145)); have n6_ := Aside0.mk ((by rw [hg]; exact Nat.ne_of_lt (IsS126.lt (show IsS126 w0 _ g s0_0 s0_1 from by repeat (first | (with_reducible first | exact HI0.out | apply IsS126.alloc | apply IsS126.drewN | apply IsS126.drew | apply IsS126.set_1) | exact HI0.out))) : g ≠ gb145)); have n7_ := Aside0.mk ((by rw [hg]; exact Nat.ne_of_gt (IsS126.lt (show IsS126 w0 _ g s0_0 s0_1 from by repeat (first | (with_reducible first | exact HI0.out | apply IsS126.alloc | apply IsS126.drewN | apply IsS126.drew | apply IsS126.set_1) | exact HI0.out))) : gb145 ≠ g)); clear HI0 HK HB; have HI0 := n0_; have HK := n1_; have HB := n2_; have BK145 := n3_; have GW145 := n4_; have GE145 := n5_; have NB0_145 := n6_; have NB145_0 := n7_; clear n0_ n1_ n2_ n3_ n4_ n5_ n6_ n7_ hb hbox hg) | ((with_reducible refine gate_dst (N := 4) rfl ?_); refine box_event ?hg (N := 4) ?hd (cs := #[.int .i64 0, .int .i64 0, .int .i64 0]) (t := 30) ?hr ?_; (case hd => rfl); (case hg => rfl); (case hr => first | (go_simp; done) | (go_simp; rfl)); intro gb146 hg w9 hbox hb; have n0_ := Aside0.mk (IsS126.below (by repeat (first | (with_reducible first | exact HI0.out | apply IsS126.alloc | apply IsS126.drewN | apply IsS126.drew | apply IsS126.set_1 | refine IsS126.far ?_ NB0_145.out _) | exact HI0.out)) hb); have n1_ := Aside0.mk (blk_below (g := gb145) (o := .cells #[.slice A1_0 l1_0.length c1_0, .int .i64 a1_1, .slice A1_2 l1_2.length c1_2] 25 (0, 0)) (tk_ BK145.out) hb); have n2_ := Aside0.mk (KeepBut.trans (tc_ HK.out) (KeepBut.of_below hb g none) (.inl rfl)); have n3_ := Aside0.mk (below_step (by repeat (first | (with_reducible first | exact HB.out | apply la_ | apply ln_ | apply ld_ | refine below_set ?_ (IsS126.ge HI0.out) | refine below_set ?_ GE145.out) | exact HB.out)) hb); have n4_ := Aside0.mk (hbox); have n5_ := Aside0.mk ((by rw [hg]; exact (keep_size (w := w) (g := g) (row := none) (tc_ HK.out)) : w.heap.size ≤ gb146)); have n6_ := Aside0.mk ((Nat.le_trans HW0.out (by rw [hg]; exact (keep_size (w := w) (g := g) (row := none) (tc_ HK.out)) : w.heap.size ≤ gb146) : w0.heap.size ≤ gb146)); have n7_ := Aside0.mk ((by rw [hg]; exact Nat.ne_of_lt (blk_lt (g := gb145) (o := .cells #[.slice A1_0 l1_0.length c1_0, .int .i64 a1_1, .slice A1_2 l1_2.length c1_2] 25 (0, 0)) (tk_ BK145.out)) : gb145 ≠ gb146)); have n8_ := Aside0.mk ((by rw [hg]; exact Nat.ne_of_gt (blk_lt (g := gb145) (o := .cells #[.slice A1_0 l1_0.length c1_0, .int .i64 a1_1, .slice A1_2 l1_2.length c1_2] 25 (0, 0)) (tk_ BK145.out)) : gb146 ≠ gb145)); have n9_ := Aside0.mk ((by rw [hg]; exact Nat.ne_of_lt (IsS126.lt (show IsS126 w0 _ g s0_0 s0_1 from by repeat (first | (with_reducible first | exact HI0.out | apply IsS126.alloc | apply IsS126.drewN | apply IsS126.drew | apply IsS126.set_1 | refine IsS126.far ?_ NB0_145.out _) | exact HI0.out))) : g ≠ gb146)); have n10_ := Aside0.mk ((by rw [hg]; exact Nat.ne_of_gt (IsS126.lt (show IsS126 w0 _ g s0_0 s0_1 from by repeat (first | (with_reducible first | exact HI0.out | apply IsS126.alloc | apply IsS126.drewN | apply IsS126.drew | apply IsS126.set_1 | refine IsS126.far ?_ NB0_145.out _) | exact HI0.out))) : gb146 ≠ g)); clear HI0 BK145 HK HB; have HI0 := n0_; have BK145 := n1_; have HK := n2_; have HB := n3_; have BK146 := n4_; have GW146 := n5_; have GE146 := n6_; have NB145_146 := n7_; have NB146_145 := n8_; have NB0_146 := n9_; have NB146_0 := n10_; clear n0_ n1_ n2_ n3_ n4_ n5_ n6_ n7_ n8_ n9_ n10_ hb hbox hg))
   have pi152 : (0 ≤ (t150 : Int)) = True := eq_true (od_)
   have qi152 : (t150 < (y147.length : Int)) = True := eq_true (od_)
   have n0_ := Aside0.mk (blk_drew BK145.out)
   have n1_ := Aside0.mk (blk_drew BK146.out)
   have n2_ := Aside0.mk (IsS126.drew HI0.out)
   have n3_ := Aside0.mk (keep_drew HK.out)
   have n4_ := Aside0.mk (ld_ HB.out)
   clear BK145
   clear BK146
   clear HI0
   clear HK
   clear HB
   have BK145 := n0_
   have BK146 := n1_
   have HI0 := n2_
   have HK := n3_
   have HB := n4_
   clear n0_ n1_ n2_ n3_ n4_
   refine start_ (n := 13) (S := fun w' => True) (ds := []) #[false, false, false, false, false, false, false, false, false, false, false, false, false] (by kernel_rfl) rfl rfl trivial (fun hHeld => ?_); refine with_tabW spec_l20Deed.tab1 spec_l20Deed.bits1 (fun HT_ HW_ => ?_)
   generalize w9.drew = w10 at BK145 BK146 HI0 HK HB hHeld ⊢
   refine pure_ (i := 1) (N := some 7) (v := ?_) (a' := ?_) #[false, true, false, false, false, false, false, false, false, false, false, false, false] rfl rfl (any_of HT_.out (by kernel_rfl)) (fun _ _ _ h => h) (Or.inl ⟨by rfl, ?_⟩) ?_ ?_
   rotate_left
   ·
    intro w'
    go_simp
    first | with_reducible rfl | (rw [if_neg (by omega)]; done)
   rotate_left
   ·
    simp only [Act.put, sa_, sb_, sc_, i64_w, i32_w]
    rfl
   refine pure_ (i := 5) (N := some 11) (v := ?_) (a' := ?_) #[false, true, false, false, false, true, false, false, false, false, false, false, false] rfl rfl (any_of HT_.out (by kernel_rfl)) (fun _ _ _ h => h) (Or.inl ⟨by rfl, ?_⟩) ?_ ?_
   rotate_left
   ·
    intro w'
    go_simp
    first | with_reducible rfl | (rw [if_neg (by omega)]; done)
   rotate_left
   ·
    simp only [Act.put, sa_, sb_, sc_, i64_w, i32_w]
    rfl
   refine join_ (σ := Value × Addr × Nat) 1 #[true, true, true, true, true, true, true, true, true, true, true, true, false] (fun s_ => [(6, s_.1), (8, .int .i64 t150), (10, .int .i64 (rd y147 t150)), (12, .int .i64 t153), (5, .pointer (some ⟨s_.2.2, 0, none⟩)), (9, .pointer (some (s_.2.1.add (t150).toNat))), (13, .int .i64 (wrap64 (Int.tdiv t153 59))), (14, .int .i64 (wrap64 ((wrap64 (Int.tdiv t153 59)) * 5))), (15, .int .i64 (wrap64 ((rd y147 t150) + (wrap64 ((wrap64 (Int.tdiv t153 59)) * 5))))), (16, .agg #[.int .i64 (wrap64 ((rd y147 t150) + (wrap64 ((wrap64 (Int.tdiv t153 59)) * 5)))), .int .i64 0, .int .i64 0])]) (fun s_ w' => (Kd.R (Kd.int .i64) 3 w' w.heap.size (fun _ => True) s_.1 y147) ∧ (∃ c_, (s_.1 : Value) = .slice (some s_.2.1) y147.length c_) ∧ (w'.heap[gb145]? = some (.cells #[.slice A1_0 l1_0.length c1_0, .int .i64 a1_1, .slice A1_2 l1_2.length c1_2] 25 (0, 0))) ∧ (w'.heap[gb146]? = some (.cells #[.int .i64 0, .int .i64 0, .int .i64 0] 30 (0, 0))) ∧ (w'.heap[s_.2.2]? = some (.cells #[.int .i64 0, .int .i64 0, .int .i64 0] 30 (0, 0))) ∧ (w.heap.size ≤ s_.2.2) ∧ (w0.heap.size ≤ s_.2.2) ∧ (g ≠ s_.2.2) ∧ (s_.2.2 ≠ g) ∧ (gb145 ≠ s_.2.2) ∧ (s_.2.2 ≠ gb145) ∧ (gb146 ≠ s_.2.2) ∧ (s_.2.2 ≠ gb146) ∧ (IsS126 w0 w' g s0_0 t154) ∧ (KeepBut w w' g none) ∧ (Below w0.heap.size w0 w')) ?_ ?_
   rotate_left
   ·
    intro hJ0_2_4_6_11
    refine join_ (σ := Value × Addr) 2 #[true, true, true, true, true, true, true, true, true, true, true, false, false] (fun s_ => [(6, s_.1), (8, .int .i64 t150), (10, .int .i64 (rd y147 t150)), (12, .int .i64 t153), (9, .pointer (some (s_.2.add (t150).toNat))), (13, .int .i64 (wrap64 (Int.tdiv t153 59))), (14, .int .i64 (wrap64 ((wrap64 (Int.tdiv t153 59)) * 5))), (15, .int .i64 (wrap64 ((rd y147 t150) + (wrap64 ((wrap64 (Int.tdiv t153 59)) * 5))))), (16, .agg #[.int .i64 (wrap64 ((rd y147 t150) + (wrap64 ((wrap64 (Int.tdiv t153 59)) * 5)))), .int .i64 0, .int .i64 0])]) (fun s_ w' => (Kd.R (Kd.int .i64) 3 w' w.heap.size (fun _ => True) s_.1 y147) ∧ (∃ c_, (s_.1 : Value) = .slice (some s_.2) y147.length c_) ∧ (w'.heap[gb145]? = some (.cells #[.slice A1_0 l1_0.length c1_0, .int .i64 a1_1, .slice A1_2 l1_2.length c1_2] 25 (0, 0))) ∧ (w'.heap[gb146]? = some (.cells #[.int .i64 0, .int .i64 0, .int .i64 0] 30 (0, 0))) ∧ (IsS126 w0 w' g s0_0 t154) ∧ (KeepBut w w' g none) ∧ (Below w0.heap.size w0 w')) ?_ ?_
    rotate_left
    ·
     intro hJ0_2_4_6
     refine join_ (σ := Value × Addr × Nat) 6 #[true, true, true, true, true, true, false, false, false, false, false, true, false] (fun s_ => [(6, s_.1), (8, .int .i64 t150), (10, .int .i64 (rd y147 t150)), (5, .pointer (some ⟨s_.2.2, 0, none⟩)), (9, .pointer (some (s_.2.1.add (t150).toNat)))]) (fun s_ w' => (Kd.R (Kd.int .i64) 3 w' w.heap.size (fun _ => True) s_.1 y147) ∧ (∃ c_, (s_.1 : Value) = .slice (some s_.2.1) y147.length c_) ∧ (w'.heap[gb145]? = some (.cells #[.slice A1_0 l1_0.length c1_0, .int .i64 a1_1, .slice A1_2 l1_2.length c1_2] 25 (0, 0))) ∧ (w'.heap[gb146]? = some (.cells #[.int .i64 0, .int .i64 0, .int .i64 0] 30 (0, 0))) ∧ (w'.heap[s_.2.2]? = some (.cells #[.int .i64 0, .int .i64 0, .int .i64 0] 30 (0, 0))) ∧ (w.heap.size ≤ s_.2.2) ∧ (w0.heap.size ≤ s_.2.2) ∧ (g ≠ s_.2.2) ∧ (s_.2.2 ≠ g) ∧ (gb145 ≠ s_.2.2) ∧ (s_.2.2 ≠ gb145) ∧ (gb146 ≠ s_.2.2) ∧ (s_.2.2 ≠ gb146) ∧ (IsS126 w0 w' g s0_0 t151) ∧ (KeepBut w w' g none) ∧ (Below w0.heap.size w0 w')) ?_ ?_
     rotate_left
     ·
      intro hJ0_2_4_11
      refine join_ (σ := Value × Addr × Nat) 4 #[true, true, true, true, false, true, true, true, true, false, false, true, false] (fun s_ => [(6, s_.1), (8, .int .i64 t150), (12, .int .i64 t153), (5, .pointer (some ⟨s_.2.2, 0, none⟩)), (9, .pointer (some (s_.2.1.add (t150).toNat))), (13, .int .i64 (wrap64 (Int.tdiv t153 59))), (14, .int .i64 (wrap64 ((wrap64 (Int.tdiv t153 59)) * 5)))]) (fun s_ w' => (Kd.R (Kd.int .i64) 3 w' w.heap.size (fun _ => True) s_.1 y147) ∧ (∃ c_, (s_.1 : Value) = .slice (some s_.2.1) y147.length c_) ∧ (w'.heap[gb145]? = some (.cells #[.slice A1_0 l1_0.length c1_0, .int .i64 a1_1, .slice A1_2 l1_2.length c1_2] 25 (0, 0))) ∧ (w'.heap[gb146]? = some (.cells #[.int .i64 0, .int .i64 0, .int .i64 0] 30 (0, 0))) ∧ (w'.heap[s_.2.2]? = some (.cells #[.int .i64 0, .int .i64 0, .int .i64 0] 30 (0, 0))) ∧ (w.heap.size ≤ s_.2.2) ∧ (w0.heap.size ≤ s_.2.2) ∧ (g ≠ s_.2.2) ∧ (s_.2.2 ≠ g) ∧ (gb145 ≠ s_.2.2) ∧ (s_.2.2 ≠ gb145) ∧ (gb146 ≠ s_.2.2) ∧ (s_.2.2 ≠ gb146) ∧ (IsS126 w0 w' g s0_0 t154) ∧ (KeepBut w w' g none) ∧ (Below w0.heap.size w0 w')) ?_ ?_
      rotate_left
      ·
       intro hJ0_2_6_11
       refine join_ (σ := Value × Addr) 7 #[true, true, true, true, true, true, false, false, false, false, false, false, false] (fun s_ => [(6, s_.1), (8, .int .i64 t150), (10, .int .i64 (rd y147 t150)), (9, .pointer (some (s_.2.add (t150).toNat)))]) (fun s_ w' => (Kd.R (Kd.int .i64) 3 w' w.heap.size (fun _ => True) s_.1 y147) ∧ (∃ c_, (s_.1 : Value) = .slice (some s_.2) y147.length c_) ∧ (w'.heap[gb145]? = some (.cells #[.slice A1_0 l1_0.length c1_0, .int .i64 a1_1, .slice A1_2 l1_2.length c1_2] 25 (0, 0))) ∧ (w'.heap[gb146]? = some (.cells #[.int .i64 0, .int .i64 0, .int .i64 0] 30 (0, 0))) ∧ (IsS126 w0 w' g s0_0 t151) ∧ (KeepBut w w' g none) ∧ (Below w0.heap.size w0 w')) ?_ ?_
       rotate_left
       ·
        intro hJ0_2_4
        refine join_ (σ := Value × Addr) 5 #[true, true, true, true, false, true, true, true, true, false, false, false, false] (fun s_ => [(6, s_.1), (8, .int .i64 t150), (12, .int .i64 t153), (9, .pointer (some (s_.2.add (t150).toNat))), (13, .int .i64 (wrap64 (Int.tdiv t153 59))), (14, .int .i64 (wrap64 ((wrap64 (Int.tdiv t153 59)) * 5)))]) (fun s_ w' => (Kd.R (Kd.int .i64) 3 w' w.heap.size (fun _ => True) s_.1 y147) ∧ (∃ c_, (s_.1 : Value) = .slice (some s_.2) y147.length c_) ∧ (w'.heap[gb145]? = some (.cells #[.slice A1_0 l1_0.length c1_0, .int .i64 a1_1, .slice A1_2 l1_2.length c1_2] 25 (0, 0))) ∧ (w'.heap[gb146]? = some (.cells #[.int .i64 0, .int .i64 0, .int .i64 0] 30 (0, 0))) ∧ (IsS126 w0 w' g s0_0 t154) ∧ (KeepBut w w' g none) ∧ (Below w0.heap.size w0 w')) ?_ ?_
        rotate_left
        ·
         intro hJ0_2_6
         refine join_ (σ := Value × Addr × Nat) 7 #[true, true, true, true, false, true, false, false, false, false, false, true, false] (fun s_ => [(6, s_.1), (8, .int .i64 t150), (5, .pointer (some ⟨s_.2.2, 0, none⟩)), (9, .pointer (some (s_.2.1.add (t150).toNat)))]) (fun s_ w' => (Kd.R (Kd.int .i64) 3 w' w.heap.size (fun _ => True) s_.1 y147) ∧ (∃ c_, (s_.1 : Value) = .slice (some s_.2.1) y147.length c_) ∧ (w'.heap[gb145]? = some (.cells #[.slice A1_0 l1_0.length c1_0, .int .i64 a1_1, .slice A1_2 l1_2.length c1_2] 25 (0, 0))) ∧ (w'.heap[gb146]? = some (.cells #[.int .i64 0, .int .i64 0, .int .i64 0] 30 (0, 0))) ∧ (w'.heap[s_.2.2]? = some (.cells #[.int .i64 0, .int .i64 0, .int .i64 0] 30 (0, 0))) ∧ (w.heap.size ≤ s_.2.2) ∧ (w0.heap.size ≤ s_.2.2) ∧ (g ≠ s_.2.2) ∧ (s_.2.2 ≠ g) ∧ (gb145 ≠ s_.2.2) ∧ (s_.2.2 ≠ gb145) ∧ (gb146 ≠ s_.2.2) ∧ (s_.2.2 ≠ gb146) ∧ (IsS126 w0 w' g s0_0 t151) ∧ (KeepBut w w' g none) ∧ (Below w0.heap.size w0 w')) ?_ ?_
         rotate_left
         ·
          intro hJ0_2_11
          refine join_ (σ := Nat) 6 #[false, true, true, false, false, true, true, true, true, false, false, true, false] (fun s_ => [(8, .int .i64 t150), (12, .int .i64 t153), (5, .pointer (some ⟨s_, 0, none⟩)), (13, .int .i64 (wrap64 (Int.tdiv t153 59))), (14, .int .i64 (wrap64 ((wrap64 (Int.tdiv t153 59)) * 5)))]) (fun s_ w' => (w'.heap[gb145]? = some (.cells #[.slice A1_0 l1_0.length c1_0, .int .i64 a1_1, .slice A1_2 l1_2.length c1_2] 25 (0, 0))) ∧ (w'.heap[gb146]? = some (.cells #[.int .i64 0, .int .i64 0, .int .i64 0] 30 (0, 0))) ∧ (w'.heap[s_]? = some (.cells #[.int .i64 0, .int .i64 0, .int .i64 0] 30 (0, 0))) ∧ (w.heap.size ≤ s_) ∧ (w0.heap.size ≤ s_) ∧ (g ≠ s_) ∧ (s_ ≠ g) ∧ (gb145 ≠ s_) ∧ (s_ ≠ gb145) ∧ (gb146 ≠ s_) ∧ (s_ ≠ gb146) ∧ (IsS126 w0 w' g s0_0 t154) ∧ (KeepBut w w' g none) ∧ (Below w0.heap.size w0 w')) ?_ ?_
          rotate_left
          ·
           intro hJ2_6_11
           refine join_ (σ := Value × Addr) 8 #[true, true, true, true, false, true, false, false, false, false, false, false, false] (fun s_ => [(6, s_.1), (8, .int .i64 t150), (9, .pointer (some (s_.2.add (t150).toNat)))]) (fun s_ w' => (Kd.R (Kd.int .i64) 3 w' w.heap.size (fun _ => True) s_.1 y147) ∧ (∃ c_, (s_.1 : Value) = .slice (some s_.2) y147.length c_) ∧ (w'.heap[gb145]? = some (.cells #[.slice A1_0 l1_0.length c1_0, .int .i64 a1_1, .slice A1_2 l1_2.length c1_2] 25 (0, 0))) ∧ (w'.heap[gb146]? = some (.cells #[.int .i64 0, .int .i64 0, .int .i64 0] 30 (0, 0))) ∧ (IsS126 w0 w' g s0_0 t151) ∧ (KeepBut w w' g none) ∧ (Below w0.heap.size w0 w')) ?_ ?_
           rotate_left
           ·
            intro hJ0_2
            refine join_ (σ := Value × Addr × Nat) 9 #[true, true, false, false, false, true, false, false, false, false, false, true, false] (fun s_ => [(6, s_.1), (5, .pointer (some ⟨s_.2.2, 0, none⟩))]) (fun s_ w' => (Kd.R (Kd.int .i64) 3 w' w.heap.size (fun _ => True) s_.1 y147) ∧ (∃ c_, (s_.1 : Value) = .slice (some s_.2.1) y147.length c_) ∧ (w'.heap[gb145]? = some (.cells #[.slice A1_0 l1_0.length c1_0, .int .i64 a1_1, .slice A1_2 l1_2.length c1_2] 25 (0, 0))) ∧ (w'.heap[gb146]? = some (.cells #[.int .i64 0, .int .i64 0, .int .i64 0] 30 (0, 0))) ∧ (w'.heap[s_.2.2]? = some (.cells #[.int .i64 0, .int .i64 0, .int .i64 0] 30 (0, 0))) ∧ (w.heap.size ≤ s_.2.2) ∧ (w0.heap.size ≤ s_.2.2) ∧ (g ≠ s_.2.2) ∧ (s_.2.2 ≠ g) ∧ (gb145 ≠ s_.2.2) ∧ (s_.2.2 ≠ gb145) ∧ (gb146 ≠ s_.2.2) ∧ (s_.2.2 ≠ gb146) ∧ (IsS126 w0 w' g s0_0 s0_1) ∧ (KeepBut w w' g none) ∧ (Below w0.heap.size w0 w')) ?_ ?_
            rotate_left
            ·
             intro hJ0_11
             refine join_ (σ := Unit) 7 #[false, true, true, false, false, true, true, true, true, false, false, false, false] (fun s_ => [(8, .int .i64 t150), (12, .int .i64 t153), (13, .int .i64 (wrap64 (Int.tdiv t153 59))), (14, .int .i64 (wrap64 ((wrap64 (Int.tdiv t153 59)) * 5)))]) (fun s_ w' => (w'.heap[gb145]? = some (.cells #[.slice A1_0 l1_0.length c1_0, .int .i64 a1_1, .slice A1_2 l1_2.length c1_2] 25 (0, 0))) ∧ (w'.heap[gb146]? = some (.cells #[.int .i64 0, .int .i64 0, .int .i64 0] 30 (0, 0))) ∧ (IsS126 w0 w' g s0_0 t154) ∧ (KeepBut w w' g none) ∧ (Below w0.heap.size w0 w')) ?_ ?_
             rotate_left
             ·
              intro hJ2_6
              refine join_ (σ := Nat) 9 #[false, true, true, false, false, true, false, false, false, false, false, true, false] (fun s_ => [(8, .int .i64 t150), (5, .pointer (some ⟨s_, 0, none⟩))]) (fun s_ w' => (w'.heap[gb145]? = some (.cells #[.slice A1_0 l1_0.length c1_0, .int .i64 a1_1, .slice A1_2 l1_2.length c1_2] 25 (0, 0))) ∧ (w'.heap[gb146]? = some (.cells #[.int .i64 0, .int .i64 0, .int .i64 0] 30 (0, 0))) ∧ (w'.heap[s_]? = some (.cells #[.int .i64 0, .int .i64 0, .int .i64 0] 30 (0, 0))) ∧ (w.heap.size ≤ s_) ∧ (w0.heap.size ≤ s_) ∧ (g ≠ s_) ∧ (s_ ≠ g) ∧ (gb145 ≠ s_) ∧ (s_ ≠ gb145) ∧ (gb146 ≠ s_) ∧ (s_ ≠ gb146) ∧ (IsS126 w0 w' g s0_0 t151) ∧ (KeepBut w w' g none) ∧ (Below w0.heap.size w0 w')) ?_ ?_
              rotate_left
              ·
               intro hJ2_11
               refine join_ (σ := Value × Addr) 10 #[true, true, false, false, false, true, false, false, false, false, false, false, false] (fun s_ => [(6, s_.1)]) (fun s_ w' => (Kd.R (Kd.int .i64) 3 w' w.heap.size (fun _ => True) s_.1 y147) ∧ (∃ c_, (s_.1 : Value) = .slice (some s_.2) y147.length c_) ∧ (w'.heap[gb145]? = some (.cells #[.slice A1_0 l1_0.length c1_0, .int .i64 a1_1, .slice A1_2 l1_2.length c1_2] 25 (0, 0))) ∧ (w'.heap[gb146]? = some (.cells #[.int .i64 0, .int .i64 0, .int .i64 0] 30 (0, 0))) ∧ (IsS126 w0 w' g s0_0 s0_1) ∧ (KeepBut w w' g none) ∧ (Below w0.heap.size w0 w')) ?_ ?_
               rotate_left
               ·
                intro hJ0
                refine join_ (σ := Unit) 10 #[false, true, true, false, false, true, false, false, false, false, false, false, false] (fun s_ => [(8, .int .i64 t150)]) (fun s_ w' => (w'.heap[gb145]? = some (.cells #[.slice A1_0 l1_0.length c1_0, .int .i64 a1_1, .slice A1_2 l1_2.length c1_2] 25 (0, 0))) ∧ (w'.heap[gb146]? = some (.cells #[.int .i64 0, .int .i64 0, .int .i64 0] 30 (0, 0))) ∧ (IsS126 w0 w' g s0_0 t151) ∧ (KeepBut w w' g none) ∧ (Below w0.heap.size w0 w')) ?_ ?_
                rotate_left
                ·
                 intro hJ2
                 refine join_ (σ := Nat) 10 #[false, true, false, false, false, true, false, false, false, false, false, true, false] (fun s_ => [(5, .pointer (some ⟨s_, 0, none⟩))]) (fun s_ w' => (w'.heap[gb145]? = some (.cells #[.slice A1_0 l1_0.length c1_0, .int .i64 a1_1, .slice A1_2 l1_2.length c1_2] 25 (0, 0))) ∧ (w'.heap[gb146]? = some (.cells #[.int .i64 0, .int .i64 0, .int .i64 0] 30 (0, 0))) ∧ (w'.heap[s_]? = some (.cells #[.int .i64 0, .int .i64 0, .int .i64 0] 30 (0, 0))) ∧ (w.heap.size ≤ s_) ∧ (w0.heap.size ≤ s_) ∧ (g ≠ s_) ∧ (s_ ≠ g) ∧ (gb145 ≠ s_) ∧ (s_ ≠ gb145) ∧ (gb146 ≠ s_) ∧ (s_ ≠ gb146) ∧ (IsS126 w0 w' g s0_0 s0_1) ∧ (KeepBut w w' g none) ∧ (Below w0.heap.size w0 w')) ?_ ?_
                 rotate_left
                 ·
                  intro hJ11
                  refine three_ (i := 0) (j := 2) (k := 11) (Ni := some 6) (Nj := some 8) (Nk := some 5) #[true, true, false, false, false, true, false, false, false, false, false, false, false] #[false, true, true, false, false, true, false, false, false, false, false, false, false] #[false, true, false, false, false, true, false, false, false, false, false, true, false] rfl rfl rfl rfl rfl rfl (three_of HT_.out (by kernel_rfl)) (by decide) (by decide) (by decide) (fun K hK => ?_) (fun K hK => ?_) (fun K hK => ?_)
                  ·
                   skip
                   refine Kd.R_lit_step (Kd.int .i64) _ 3 ?hg (N := 6) ?hd (xs := ([0, 1, 2, 2, 2, 2, 3, 4] : List Int)) (inner := [.int .i64 0, .int .i64 1, .int .i64 2, .int .i64 2, .int .i64 2, .int .i64 2, .int .i64 3, .int .i64 4]) (ok := fun _ => True) (okp := fun _ => True) ?hr ?hp (fun _ hk => hk) trivial (Below.refl _ _) (Nat.le_refl _) (by simp) ?_; (case hd => rfl); (case hg => rfl); (case hr => first | (go_simp; done) | (go_simp; rfl)); (case hp => exact (Reps.one (show Kd.M (Kd.int .i64) _ _ _ 0 [.int .i64 0] from rfl) (Reps.one (show Kd.M (Kd.int .i64) _ _ _ 1 [.int .i64 1] from rfl) (Reps.one (show Kd.M (Kd.int .i64) _ _ _ 2 [.int .i64 2] from rfl) (Reps.one (show Kd.M (Kd.int .i64) _ _ _ 2 [.int .i64 2] from rfl) (Reps.one (show Kd.M (Kd.int .i64) _ _ _ 2 [.int .i64 2] from rfl) (Reps.one (show Kd.M (Kd.int .i64) _ _ _ 2 [.int .i64 2] from rfl) (Reps.one (show Kd.M (Kd.int .i64) _ _ _ 3 [.int .i64 3] from rfl) (Reps.one (show Kd.M (Kd.int .i64) _ _ _ 4 [.int .i64 4] from rfl) (Reps.none _ _))))))))))
                   intro v148 w11 ho12 hb hg_ hnew_
                   clear hg_ hnew_
                   (first | rw [← Ny147.out] at ho12 | (simp only [Int.reduceToNat] at ho12; rw [← Ny147.out] at ho12))
                   have n0_ := Aside0.mk (Kd.R_lower ho12 (keep_size (w := w) (g := g) (row := none) (tc_ HK.out)))
                   have n1_ := Aside0.mk (IsS126.below (by repeat (first | (with_reducible first | exact HI0.out | apply IsS126.alloc | apply IsS126.drewN | apply IsS126.drew | apply IsS126.set_1 | refine IsS126.far ?_ NB0_145.out _ | refine IsS126.far ?_ NB0_146.out _) | exact HI0.out)) hb)
                   have n2_ := Aside0.mk (blk_below (g := gb145) (o := .cells #[.slice A1_0 l1_0.length c1_0, .int .i64 a1_1, .slice A1_2 l1_2.length c1_2] 25 (0, 0)) (tk_ BK145.out) hb)
                   have n3_ := Aside0.mk (blk_below (g := gb146) (o := .cells #[.int .i64 0, .int .i64 0, .int .i64 0] 30 (0, 0)) (tk_ BK146.out) hb)
                   have n4_ := Aside0.mk (KeepBut.trans (tc_ HK.out) (KeepBut.of_below hb g none) (.inl rfl))
                   have n5_ := Aside0.mk (below_step (by repeat (first | (with_reducible first | exact HB.out | apply la_ | apply ln_ | apply ld_ | refine below_set ?_ (IsS126.ge HI0.out) | refine below_set ?_ GE145.out | refine below_set ?_ GE146.out) | exact HB.out)) hb)
                   clear HI0
                   clear BK145
                   clear BK146
                   clear HK
                   clear HB
                   have HO149 := n0_
                   have HI0 := n1_
                   have BK145 := n2_
                   have BK146 := n3_
                   have HK := n4_
                   have HB := n5_
                   clear n0_ n1_ n2_ n3_ n4_ n5_
                   clear hb ho12
                   obtain ⟨Ao13, co13, eo13⟩ := Kd.R_slice HO149.out
                   subst eo13
                   obtain ⟨ado13, fo13, _⟩ := Kd.at_int (Kd.R_reads' HO149.out).2.2 0 (by decide) (by rw [Ny147.out]; simp)
                   cases fo13
                   refine hK.out _ _ trivial (fun hHeld => ?_)
                   clear hK K
                   refine norm_ (a' := ?_) ?_ ?_
                   rotate_left
                   ·
                    show Act.put _ (some 6) _ = _
                    simp only [Act.put, sa_, sb_, sc_, i64_w, i32_w]
                    rfl
                   exact norm_ tn_ (hJ0 (.slice (some ado13) y147.length co13, ado13) _ ⟨(rR_ HO149.out), ⟨_, rfl⟩, (tk_ BK145.out), (tk_ BK146.out), (by repeat (first | (with_reducible first | exact HI0.out | apply IsS126.alloc | apply IsS126.drewN | apply IsS126.drew | apply IsS126.set_1 | refine IsS126.far ?_ NB0_145.out _ | refine IsS126.far ?_ NB0_146.out _) | exact HI0.out)), (tc_ HK.out), (by repeat (first | (with_reducible first | exact HB.out | apply la_ | apply ln_ | apply ld_ | refine below_set ?_ (IsS126.ge HI0.out) | refine below_set ?_ GE145.out | refine below_set ?_ GE146.out) | exact HB.out))⟩)
                  ·
                   skip
                   refine goes_ Tryd.func101 (by kernel_rfl) rfl #[.pointer (some ⟨g, 0, none⟩), .int .i64 8] (by rfl) rfl rfl tz_ ?_
                   with_reducible refine (spec_l20Rd_pick.calls k g s0_0 s0_1 8 t150 t151 w0 _ ?side1 ?side2 A3.out).mono ?_
                   (case side1 => repeat (first | (with_reducible first | exact HI0.out | apply IsS126.alloc | apply IsS126.drewN | apply IsS126.drew | apply IsS126.set_1 | refine IsS126.far ?_ NB0_145.out _ | refine IsS126.far ?_ NB0_146.out _) | exact HI0.out))
                   (case side2 => repeat (first | (with_reducible first | exact HB.out | apply la_ | apply ln_ | apply ld_ | refine below_set ?_ (IsS126.ge HI0.out) | refine below_set ?_ GE145.out | refine below_set ?_ GE146.out) | exact HB.out))
                   rintro e w11 ⟨rfl, hi, hb, hk⟩
                   refine ⟨_, rfl, ?_⟩
                   have n0_ := Aside0.mk (KeepBut.blk hk (g' := gb145) (o := .cells #[.slice A1_0 l1_0.length c1_0, .int .i64 a1_1, .slice A1_2 l1_2.length c1_2] 25 (0, 0)) (tk_ BK145.out) NB145_0.out (by simp))
                   have n1_ := Aside0.mk (KeepBut.blk hk (g' := gb146) (o := .cells #[.int .i64 0, .int .i64 0, .int .i64 0] 30 (0, 0)) (tk_ BK146.out) NB146_0.out (by simp))
                   have n2_ := Aside0.mk (KeepBut.trans (tc_ HK.out) hk (.inl rfl))
                   have n3_ := Aside0.mk (hb)
                   have n4_ := Aside0.mk (hi)
                   clear BK145
                   clear BK146
                   clear HK
                   clear HB
                   clear HI0
                   have BK145 := n0_
                   have BK146 := n1_
                   have HK := n2_
                   have HB := n3_
                   have HI0 := n4_
                   clear n0_ n1_ n2_ n3_ n4_
                   (try clear hb)
                   (try clear hb2)
                   (try clear hk)
                   (try clear hi)
                   refine hK.out _ _ trivial (fun hHeld => ?_)
                   clear hK K
                   refine norm_ (a' := ?_) ?_ ?_
                   rotate_left
                   ·
                    show Act.put _ (some 8) _ = _
                    simp only [Act.put, sa_, sb_, sc_, i64_w, i32_w]
                    rfl
                   exact norm_ tn_ (hJ2 () _ ⟨(tk_ BK145.out), (tk_ BK146.out), (by repeat (first | (with_reducible first | exact HI0.out | apply IsS126.alloc | apply IsS126.drewN | apply IsS126.drew | apply IsS126.set_1 | refine IsS126.far ?_ NB0_145.out _ | refine IsS126.far ?_ NB0_146.out _) | exact HI0.out)), (tc_ HK.out), (by repeat (first | (with_reducible first | exact HB.out | apply la_ | apply ln_ | apply ld_ | refine below_set ?_ (IsS126.ge HI0.out) | refine below_set ?_ GE145.out | refine below_set ?_ GE146.out) | exact HB.out))⟩)
                  ·
                   skip
                   refine box_step ?hg (N := 5) ?hd (cs := #[.int .i64 0, .int .i64 0, .int .i64 0]) (t := 30) ?hr ?_; (case hd => rfl); (case hg => rfl); (case hr => first | (go_simp; done) | (go_simp; rfl))
                   intro gb155 hg w11 hbox hb
                   have n0_ := Aside0.mk (IsS126.below (by repeat (first | (with_reducible first | exact HI0.out | apply IsS126.alloc | apply IsS126.drewN | apply IsS126.drew | apply IsS126.set_1 | refine IsS126.far ?_ NB0_145.out _ | refine IsS126.far ?_ NB0_146.out _) | exact HI0.out)) hb)
                   have n1_ := Aside0.mk (blk_below (g := gb145) (o := .cells #[.slice A1_0 l1_0.length c1_0, .int .i64 a1_1, .slice A1_2 l1_2.length c1_2] 25 (0, 0)) (tk_ BK145.out) hb)
                   have n2_ := Aside0.mk (blk_below (g := gb146) (o := .cells #[.int .i64 0, .int .i64 0, .int .i64 0] 30 (0, 0)) (tk_ BK146.out) hb)
                   have n3_ := Aside0.mk (KeepBut.trans (tc_ HK.out) (KeepBut.of_below hb g none) (.inl rfl))
                   have n4_ := Aside0.mk (below_step (by repeat (first | (with_reducible first | exact HB.out | apply la_ | apply ln_ | apply ld_ | refine below_set ?_ (IsS126.ge HI0.out) | refine below_set ?_ GE145.out | refine below_set ?_ GE146.out) | exact HB.out)) hb)
                   have n5_ := Aside0.mk (hbox)
                   have n6_ := Aside0.mk ((by rw [hg]; exact (keep_size (w := w) (g := g) (row := none) (tc_ HK.out)) : w.heap.size ≤ gb155))
                   have n7_ := Aside0.mk ((Nat.le_trans HW0.out (by rw [hg]; exact (keep_size (w := w) (g := g) (row := none) (tc_ HK.out)) : w.heap.size ≤ gb155) : w0.heap.size ≤ gb155))
                   have n8_ := Aside0.mk ((by rw [hg]; exact Nat.ne_of_lt (blk_lt (g := gb145) (o := .cells #[.slice A1_0 l1_0.length c1_0, .int .i64 a1_1, .slice A1_2 l1_2.length c1_2] 25 (0, 0)) (tk_ BK145.out)) : gb145 ≠ gb155))
                   have n9_ := Aside0.mk ((by rw [hg]; exact Nat.ne_of_gt (blk_lt (g := gb145) (o := .cells #[.slice A1_0 l1_0.length c1_0, .int .i64 a1_1, .slice A1_2 l1_2.length c1_2] 25 (0, 0)) (tk_ BK145.out)) : gb155 ≠ gb145))
                   have n10_ := Aside0.mk ((by rw [hg]; exact Nat.ne_of_lt (blk_lt (g := gb146) (o := .cells #[.int .i64 0, .int .i64 0, .int .i64 0] 30 (0, 0)) (tk_ BK146.out)) : gb146 ≠ gb155))
                   have n11_ := Aside0.mk ((by rw [hg]; exact Nat.ne_of_gt (blk_lt (g := gb146) (o := .cells #[.int .i64 0, .int .i64 0, .int .i64 0] 30 (0, 0)) (tk_ BK146.out)) : gb155 ≠ gb146))
                   have n12_ := Aside0.mk ((by rw [hg]; exact Nat.ne_of_lt (IsS126.lt (show IsS126 w0 _ g s0_0 s0_1 from by repeat (first | (with_reducible first | exact HI0.out | apply IsS126.alloc | apply IsS126.drewN | apply IsS126.drew | apply IsS126.set_1 | refine IsS126.far ?_ NB0_145.out _ | refine IsS126.far ?_ NB0_146.out _) | exact HI0.out))) : g ≠ gb155))
                   have n13_ := Aside0.mk ((by rw [hg]; exact Nat.ne_of_gt (IsS126.lt (show IsS126 w0 _ g s0_0 s0_1 from by repeat (first | (with_reducible first | exact HI0.out | apply IsS126.alloc | apply IsS126.drewN | apply IsS126.drew | apply IsS126.set_1 | refine IsS126.far ?_ NB0_145.out _ | refine IsS126.far ?_ NB0_146.out _) | exact HI0.out))) : gb155 ≠ g))
                   clear HI0
                   clear BK145
                   clear BK146
                   clear HK
                   clear HB
                   have HI0 := n0_
                   have BK145 := n1_
                   have BK146 := n2_
                   have HK := n3_
                   have HB := n4_
                   have BK155 := n5_
                   have GW155 := n6_
                   have GE155 := n7_
                   have NB145_155 := n8_
                   have NB155_145 := n9_
                   have NB146_155 := n10_
                   have NB155_146 := n11_
                   have NB0_155 := n12_
                   have NB155_0 := n13_
                   clear n0_ n1_ n2_ n3_ n4_ n5_ n6_ n7_ n8_ n9_ n10_ n11_ n12_ n13_
                   clear hb hbox hg
                   refine hK.out _ _ trivial (fun hHeld => ?_)
                   clear hK K
                   refine norm_ (a' := ?_) ?_ ?_
                   rotate_left
                   ·
                    show Act.put _ (some 5) _ = _
                    simp only [Act.put, sa_, sb_, sc_, i64_w, i32_w]
                    rfl
                   exact norm_ tn_ (hJ11 (gb155) _ ⟨(tk_ BK145.out), (tk_ BK146.out), (tk_ BK155.out), GW155.out, GE155.out, NB0_155.out, NB155_0.out, NB145_155.out, NB155_145.out, NB146_155.out, NB155_146.out, (by repeat (first | (with_reducible first | exact HI0.out | apply IsS126.alloc | apply IsS126.drewN | apply IsS126.drew | apply IsS126.set_1 | refine IsS126.far ?_ NB0_145.out _ | refine IsS126.far ?_ NB0_146.out _ | refine IsS126.far ?_ NB0_155.out _) | exact HI0.out)), (tc_ HK.out), (by repeat (first | (with_reducible first | exact HB.out | apply la_ | apply ln_ | apply ld_ | refine below_set ?_ (IsS126.ge HI0.out) | refine below_set ?_ GE145.out | refine below_set ?_ GE146.out | refine below_set ?_ GE155.out) | exact HB.out))⟩)
                 ·
                  skip
                  rintro gb155 w12 ⟨h0_, h1_, h2_, h3_, h4_, h5_, h6_, h7_, h8_, h9_, h10_, h11_, h12_, h13_⟩
                  have n0_ : Aside0 (w12.heap[gb145]? = some (.cells #[.slice A1_0 l1_0.length c1_0, .int .i64 a1_1, .slice A1_2 l1_2.length c1_2] 25 (0, 0))) := ⟨h0_⟩
                  have n1_ : Aside0 (w12.heap[gb146]? = some (.cells #[.int .i64 0, .int .i64 0, .int .i64 0] 30 (0, 0))) := ⟨h1_⟩
                  have n2_ : Aside0 (w12.heap[gb155]? = some (.cells #[.int .i64 0, .int .i64 0, .int .i64 0] 30 (0, 0))) := ⟨h2_⟩
                  have n3_ : Aside0 (w.heap.size ≤ gb155) := ⟨h3_⟩
                  have n4_ : Aside0 (w0.heap.size ≤ gb155) := ⟨h4_⟩
                  have n5_ : Aside0 (g ≠ gb155) := ⟨h5_⟩
                  have n6_ : Aside0 (gb155 ≠ g) := ⟨h6_⟩
                  have n7_ : Aside0 (gb145 ≠ gb155) := ⟨h7_⟩
                  have n8_ : Aside0 (gb155 ≠ gb145) := ⟨h8_⟩
                  have n9_ : Aside0 (gb146 ≠ gb155) := ⟨h9_⟩
                  have n10_ : Aside0 (gb155 ≠ gb146) := ⟨h10_⟩
                  have n11_ : Aside0 (IsS126 w0 w12 g s0_0 s0_1) := ⟨h11_⟩
                  have n12_ : Aside0 (KeepBut w w12 g none) := ⟨h12_⟩
                  have n13_ : Aside0 (Below w0.heap.size w0 w12) := ⟨h13_⟩
                  clear BK145
                  clear BK146
                  clear HI0
                  clear HK
                  clear HB
                  clear h0_ h1_ h2_ h3_ h4_ h5_ h6_ h7_ h8_ h9_ h10_ h11_ h12_ h13_
                  have BK145 := n0_
                  have BK146 := n1_
                  have BK155 := n2_
                  have GW155 := n3_
                  have GE155 := n4_
                  have NB0_155 := n5_
                  have NB155_0 := n6_
                  have NB145_155 := n7_
                  have NB155_145 := n8_
                  have NB146_155 := n9_
                  have NB155_146 := n10_
                  have HI0 := n11_
                  have HK := n12_
                  have HB := n13_
                  clear n0_ n1_ n2_ n3_ n4_ n5_ n6_ n7_ n8_ n9_ n10_ n11_ n12_ n13_
                  have hHeld := trivial
                  refine norm_ (a' := ?_) ?_ ?_
                  rotate_left
                  ·
                   simp only [putAll, Act.put, sa_, sb_, sc_]
                   rfl
                  refine two_ (i := 0) (j := 2) (Ni := some 6) (Nj := some 8) #[true, true, false, false, false, true, false, false, false, false, false, true, false] #[false, true, true, false, false, true, false, false, false, false, false, true, false] rfl rfl rfl rfl (two_of HT_.out (by kernel_rfl)) (by decide) (by decide) (fun K hK => ?_) (fun K hK => ?_)
                  ·
                   skip
                   refine Kd.R_lit_step (Kd.int .i64) _ 3 ?hg (N := 6) ?hd (xs := ([0, 1, 2, 2, 2, 2, 3, 4] : List Int)) (inner := [.int .i64 0, .int .i64 1, .int .i64 2, .int .i64 2, .int .i64 2, .int .i64 2, .int .i64 3, .int .i64 4]) (ok := fun _ => True) (okp := fun _ => True) ?hr ?hp (fun _ hk => hk) trivial (Below.refl _ _) (Nat.le_refl _) (by simp) ?_; (case hd => rfl); (case hg => rfl); (case hr => first | (go_simp; done) | (go_simp; rfl)); (case hp => exact (Reps.one (show Kd.M (Kd.int .i64) _ _ _ 0 [.int .i64 0] from rfl) (Reps.one (show Kd.M (Kd.int .i64) _ _ _ 1 [.int .i64 1] from rfl) (Reps.one (show Kd.M (Kd.int .i64) _ _ _ 2 [.int .i64 2] from rfl) (Reps.one (show Kd.M (Kd.int .i64) _ _ _ 2 [.int .i64 2] from rfl) (Reps.one (show Kd.M (Kd.int .i64) _ _ _ 2 [.int .i64 2] from rfl) (Reps.one (show Kd.M (Kd.int .i64) _ _ _ 2 [.int .i64 2] from rfl) (Reps.one (show Kd.M (Kd.int .i64) _ _ _ 3 [.int .i64 3] from rfl) (Reps.one (show Kd.M (Kd.int .i64) _ _ _ 4 [.int .i64 4] from rfl) (Reps.none _ _))))))))))
                   intro v148 w13 ho14 hb hg_ hnew_
                   clear hg_ hnew_
                   (first | rw [← Ny147.out] at ho14 | (simp only [Int.reduceToNat] at ho14; rw [← Ny147.out] at ho14))
                   have n0_ := Aside0.mk (Kd.R_lower ho14 (keep_size (w := w) (g := g) (row := none) (tc_ HK.out)))
                   have n1_ := Aside0.mk (IsS126.below (by repeat (first | (with_reducible first | exact HI0.out | apply IsS126.alloc | apply IsS126.drewN | apply IsS126.drew | apply IsS126.set_1 | refine IsS126.far ?_ NB0_145.out _ | refine IsS126.far ?_ NB0_146.out _ | refine IsS126.far ?_ NB0_155.out _) | exact HI0.out)) hb)
                   have n2_ := Aside0.mk (blk_below (g := gb145) (o := .cells #[.slice A1_0 l1_0.length c1_0, .int .i64 a1_1, .slice A1_2 l1_2.length c1_2] 25 (0, 0)) (tk_ BK145.out) hb)
                   have n3_ := Aside0.mk (blk_below (g := gb146) (o := .cells #[.int .i64 0, .int .i64 0, .int .i64 0] 30 (0, 0)) (tk_ BK146.out) hb)
                   have n4_ := Aside0.mk (blk_below (g := gb155) (o := .cells #[.int .i64 0, .int .i64 0, .int .i64 0] 30 (0, 0)) (tk_ BK155.out) hb)
                   have n5_ := Aside0.mk (KeepBut.trans (tc_ HK.out) (KeepBut.of_below hb g none) (.inl rfl))
                   have n6_ := Aside0.mk (below_step (by repeat (first | (with_reducible first | exact HB.out | apply la_ | apply ln_ | apply ld_ | refine below_set ?_ (IsS126.ge HI0.out) | refine below_set ?_ GE145.out | refine below_set ?_ GE146.out | refine below_set ?_ GE155.out) | exact HB.out)) hb)
                   clear HI0
                   clear BK145
                   clear BK146
                   clear BK155
                   clear HK
                   clear HB
                   have HO149 := n0_
                   have HI0 := n1_
                   have BK145 := n2_
                   have BK146 := n3_
                   have BK155 := n4_
                   have HK := n5_
                   have HB := n6_
                   clear n0_ n1_ n2_ n3_ n4_ n5_ n6_
                   clear hb ho14
                   obtain ⟨Ao15, co15, eo15⟩ := Kd.R_slice HO149.out
                   subst eo15
                   obtain ⟨ado15, fo15, _⟩ := Kd.at_int (Kd.R_reads' HO149.out).2.2 0 (by decide) (by rw [Ny147.out]; simp)
                   cases fo15
                   refine hK.out _ _ trivial (fun hHeld => ?_)
                   clear hK K
                   refine norm_ (a' := ?_) ?_ ?_
                   rotate_left
                   ·
                    show Act.put _ (some 6) _ = _
                    simp only [Act.put, sa_, sb_, sc_, i64_w, i32_w]
                    rfl
                   exact norm_ tn_ (hJ0_11 (.slice (some ado15) y147.length co15, ado15, gb155) _ ⟨(rR_ HO149.out), ⟨_, rfl⟩, (tk_ BK145.out), (tk_ BK146.out), (tk_ BK155.out), GW155.out, GE155.out, NB0_155.out, NB155_0.out, NB145_155.out, NB155_145.out, NB146_155.out, NB155_146.out, (by repeat (first | (with_reducible first | exact HI0.out | apply IsS126.alloc | apply IsS126.drewN | apply IsS126.drew | apply IsS126.set_1 | refine IsS126.far ?_ NB0_145.out _ | refine IsS126.far ?_ NB0_146.out _ | refine IsS126.far ?_ NB0_155.out _) | exact HI0.out)), (tc_ HK.out), (by repeat (first | (with_reducible first | exact HB.out | apply la_ | apply ln_ | apply ld_ | refine below_set ?_ (IsS126.ge HI0.out) | refine below_set ?_ GE145.out | refine below_set ?_ GE146.out | refine below_set ?_ GE155.out) | exact HB.out))⟩)
                  ·
                   skip
                   refine goes_ Tryd.func101 (by kernel_rfl) rfl #[.pointer (some ⟨g, 0, none⟩), .int .i64 8] (by rfl) rfl rfl tz_ ?_
                   with_reducible refine (spec_l20Rd_pick.calls k g s0_0 s0_1 8 t150 t151 w0 _ ?side1 ?side2 A3.out).mono ?_
                   (case side1 => repeat (first | (with_reducible first | exact HI0.out | apply IsS126.alloc | apply IsS126.drewN | apply IsS126.drew | apply IsS126.set_1 | refine IsS126.far ?_ NB0_145.out _ | refine IsS126.far ?_ NB0_146.out _ | refine IsS126.far ?_ NB0_155.out _) | exact HI0.out))
                   (case side2 => repeat (first | (with_reducible first | exact HB.out | apply la_ | apply ln_ | apply ld_ | refine below_set ?_ (IsS126.ge HI0.out) | refine below_set ?_ GE145.out | refine below_set ?_ GE146.out | refine below_set ?_ GE155.out) | exact HB.out))
                   rintro e w13 ⟨rfl, hi, hb, hk⟩
                   refine ⟨_, rfl, ?_⟩
                   have n0_ := Aside0.mk (KeepBut.blk hk (g' := gb145) (o := .cells #[.slice A1_0 l1_0.length c1_0, .int .i64 a1_1, .slice A1_2 l1_2.length c1_2] 25 (0, 0)) (tk_ BK145.out) NB145_0.out (by simp))
                   have n1_ := Aside0.mk (KeepBut.blk hk (g' := gb146) (o := .cells #[.int .i64 0, .int .i64 0, .int .i64 0] 30 (0, 0)) (tk_ BK146.out) NB146_0.out (by simp))
                   have n2_ := Aside0.mk (KeepBut.blk hk (g' := gb155) (o := .cells #[.int .i64 0, .int .i64 0, .int .i64 0] 30 (0, 0)) (tk_ BK155.out) NB155_0.out (by simp))
                   have n3_ := Aside0.mk (KeepBut.trans (tc_ HK.out) hk (.inl rfl))
                   have n4_ := Aside0.mk (hb)
                   have n5_ := Aside0.mk (hi)
                   clear BK145
                   clear BK146
                   clear BK155
                   clear HK
                   clear HB
                   clear HI0
                   have BK145 := n0_
                   have BK146 := n1_
                   have BK155 := n2_
                   have HK := n3_
                   have HB := n4_
                   have HI0 := n5_
                   clear n0_ n1_ n2_ n3_ n4_ n5_
                   (try clear hb)
                   (try clear hb2)
                   (try clear hk)
                   (try clear hi)
                   refine hK.out _ _ trivial (fun hHeld => ?_)
                   clear hK K
                   refine norm_ (a' := ?_) ?_ ?_
                   rotate_left
                   ·
                    show Act.put _ (some 8) _ = _
                    simp only [Act.put, sa_, sb_, sc_, i64_w, i32_w]
                    rfl
                   exact norm_ tn_ (hJ2_11 (gb155) _ ⟨(tk_ BK145.out), (tk_ BK146.out), (tk_ BK155.out), GW155.out, GE155.out, NB0_155.out, NB155_0.out, NB145_155.out, NB155_145.out, NB146_155.out, NB155_146.out, (by repeat (first | (with_reducible first | exact HI0.out | apply IsS126.alloc | apply IsS126.drewN | apply IsS126.drew | apply IsS126.set_1 | refine IsS126.far ?_ NB0_145.out _ | refine IsS126.far ?_ NB0_146.out _ | refine IsS126.far ?_ NB0_155.out _) | exact HI0.out)), (tc_ HK.out), (by repeat (first | (with_reducible first | exact HB.out | apply la_ | apply ln_ | apply ld_ | refine below_set ?_ (IsS126.ge HI0.out) | refine below_set ?_ GE145.out | refine below_set ?_ GE146.out | refine below_set ?_ GE155.out) | exact HB.out))⟩)
                ·
                 skip
                 rintro _ w12 ⟨h0_, h1_, h2_, h3_, h4_⟩
                 have n0_ : Aside0 (w12.heap[gb145]? = some (.cells #[.slice A1_0 l1_0.length c1_0, .int .i64 a1_1, .slice A1_2 l1_2.length c1_2] 25 (0, 0))) := ⟨h0_⟩
                 have n1_ : Aside0 (w12.heap[gb146]? = some (.cells #[.int .i64 0, .int .i64 0, .int .i64 0] 30 (0, 0))) := ⟨h1_⟩
                 have n2_ : Aside0 (IsS126 w0 w12 g s0_0 t151) := ⟨h2_⟩
                 have n3_ : Aside0 (KeepBut w w12 g none) := ⟨h3_⟩
                 have n4_ : Aside0 (Below w0.heap.size w0 w12) := ⟨h4_⟩
                 clear BK145
                 clear BK146
                 clear HI0
                 clear HK
                 clear HB
                 clear h0_ h1_ h2_ h3_ h4_
                 have BK145 := n0_
                 have BK146 := n1_
                 have HI0 := n2_
                 have HK := n3_
                 have HB := n4_
                 clear n0_ n1_ n2_ n3_ n4_
                 have hHeld := trivial
                 refine norm_ (a' := ?_) ?_ ?_
                 rotate_left
                 ·
                  simp only [putAll, Act.put, sa_, sb_, sc_]
                  rfl
                 refine three_ (i := 0) (j := 6) (k := 11) (Ni := some 6) (Nj := some 12) (Nk := some 5) #[true, true, true, false, false, true, false, false, false, false, false, false, false] #[false, true, true, false, false, true, true, false, false, false, false, false, false] #[false, true, true, false, false, true, false, false, false, false, false, true, false] rfl rfl rfl rfl rfl rfl (three_of HT_.out (by kernel_rfl)) (by decide) (by decide) (by decide) (fun K hK => ?_) (fun K hK => ?_) (fun K hK => ?_)
                 ·
                  skip
                  refine Kd.R_lit_step (Kd.int .i64) _ 3 ?hg (N := 6) ?hd (xs := ([0, 1, 2, 2, 2, 2, 3, 4] : List Int)) (inner := [.int .i64 0, .int .i64 1, .int .i64 2, .int .i64 2, .int .i64 2, .int .i64 2, .int .i64 3, .int .i64 4]) (ok := fun _ => True) (okp := fun _ => True) ?hr ?hp (fun _ hk => hk) trivial (Below.refl _ _) (Nat.le_refl _) (by simp) ?_; (case hd => rfl); (case hg => rfl); (case hr => first | (go_simp; done) | (go_simp; rfl)); (case hp => exact (Reps.one (show Kd.M (Kd.int .i64) _ _ _ 0 [.int .i64 0] from rfl) (Reps.one (show Kd.M (Kd.int .i64) _ _ _ 1 [.int .i64 1] from rfl) (Reps.one (show Kd.M (Kd.int .i64) _ _ _ 2 [.int .i64 2] from rfl) (Reps.one (show Kd.M (Kd.int .i64) _ _ _ 2 [.int .i64 2] from rfl) (Reps.one (show Kd.M (Kd.int .i64) _ _ _ 2 [.int .i64 2] from rfl) (Reps.one (show Kd.M (Kd.int .i64) _ _ _ 2 [.int .i64 2] from rfl) (Reps.one (show Kd.M (Kd.int .i64) _ _ _ 3 [.int .i64 3] from rfl) (Reps.one (show Kd.M (Kd.int .i64) _ _ _ 4 [.int .i64 4] from rfl) (Reps.none _ _))))))))))
                  intro v148 w13 ho14 hb hg_ hnew_
                  clear hg_ hnew_
                  (first | rw [← Ny147.out] at ho14 | (simp only [Int.reduceToNat] at ho14; rw [← Ny147.out] at ho14))
                  have n0_ := Aside0.mk (Kd.R_lower ho14 (keep_size (w := w) (g := g) (row := none) (tc_ HK.out)))
                  have n1_ := Aside0.mk (IsS126.below (by repeat (first | (with_reducible first | exact HI0.out | apply IsS126.alloc | apply IsS126.drewN | apply IsS126.drew | apply IsS126.set_1 | refine IsS126.far ?_ NB0_145.out _ | refine IsS126.far ?_ NB0_146.out _) | exact HI0.out)) hb)
                  have n2_ := Aside0.mk (blk_below (g := gb145) (o := .cells #[.slice A1_0 l1_0.length c1_0, .int .i64 a1_1, .slice A1_2 l1_2.length c1_2] 25 (0, 0)) (tk_ BK145.out) hb)
                  have n3_ := Aside0.mk (blk_below (g := gb146) (o := .cells #[.int .i64 0, .int .i64 0, .int .i64 0] 30 (0, 0)) (tk_ BK146.out) hb)
                  have n4_ := Aside0.mk (KeepBut.trans (tc_ HK.out) (KeepBut.of_below hb g none) (.inl rfl))
                  have n5_ := Aside0.mk (below_step (by repeat (first | (with_reducible first | exact HB.out | apply la_ | apply ln_ | apply ld_ | refine below_set ?_ (IsS126.ge HI0.out) | refine below_set ?_ GE145.out | refine below_set ?_ GE146.out) | exact HB.out)) hb)
                  clear HI0
                  clear BK145
                  clear BK146
                  clear HK
                  clear HB
                  have HO149 := n0_
                  have HI0 := n1_
                  have BK145 := n2_
                  have BK146 := n3_
                  have HK := n4_
                  have HB := n5_
                  clear n0_ n1_ n2_ n3_ n4_ n5_
                  clear hb ho14
                  obtain ⟨Ao15, co15, eo15⟩ := Kd.R_slice HO149.out
                  subst eo15
                  obtain ⟨ado15, fo15, _⟩ := Kd.at_int (Kd.R_reads' HO149.out).2.2 0 (by decide) (by rw [Ny147.out]; simp)
                  cases fo15
                  refine hK.out _ _ trivial (fun hHeld => ?_)
                  clear hK K
                  refine norm_ (a' := ?_) ?_ ?_
                  rotate_left
                  ·
                   show Act.put _ (some 6) _ = _
                   simp only [Act.put, sa_, sb_, sc_, i64_w, i32_w]
                   rfl
                  refine pure_ (i := 3) (N := some 9) (v := ?_) (a' := ?_) #[true, true, true, true, false, true, false, false, false, false, false, false, false] rfl rfl (any_of HT_.out (by kernel_rfl)) (fun _ _ _ h => h) (Or.inl ⟨by rfl, ?_⟩) ?_ ?_
                  rotate_left
                  ·
                   intro w'
                   go_simp
                   first | with_reducible rfl | (rw [if_neg (by omega)]; done)
                  rotate_left
                  ·
                   simp only [Act.put, sa_, sb_, sc_, i64_w, i32_w]
                   rfl
                  exact norm_ tn_ (hJ0_2 (.slice (some ado15) y147.length co15, ado15) _ ⟨(rR_ HO149.out), ⟨_, rfl⟩, (tk_ BK145.out), (tk_ BK146.out), (by repeat (first | (with_reducible first | exact HI0.out | apply IsS126.alloc | apply IsS126.drewN | apply IsS126.drew | apply IsS126.set_1 | refine IsS126.far ?_ NB0_145.out _ | refine IsS126.far ?_ NB0_146.out _) | exact HI0.out)), (tc_ HK.out), (by repeat (first | (with_reducible first | exact HB.out | apply la_ | apply ln_ | apply ld_ | refine below_set ?_ (IsS126.ge HI0.out) | refine below_set ?_ GE145.out | refine below_set ?_ GE146.out) | exact HB.out))⟩)
                 ·
                  skip
                  refine goes_ Tryd.func101 (by kernel_rfl) rfl #[.pointer (some ⟨g, 0, none⟩), .int .i64 60] (by rfl) rfl rfl tz_ ?_
                  with_reducible refine (spec_l20Rd_pick.calls k g s0_0 t151 60 t153 t154 w0 _ ?side1 ?side2 A6.out).mono ?_
                  (case side1 => repeat (first | (with_reducible first | exact HI0.out | apply IsS126.alloc | apply IsS126.drewN | apply IsS126.drew | apply IsS126.set_1 | refine IsS126.far ?_ NB0_145.out _ | refine IsS126.far ?_ NB0_146.out _) | exact HI0.out))
                  (case side2 => repeat (first | (with_reducible first | exact HB.out | apply la_ | apply ln_ | apply ld_ | refine below_set ?_ (IsS126.ge HI0.out) | refine below_set ?_ GE145.out | refine below_set ?_ GE146.out) | exact HB.out))
                  rintro e w13 ⟨rfl, hi, hb, hk⟩
                  refine ⟨_, rfl, ?_⟩
                  have n0_ := Aside0.mk (KeepBut.blk hk (g' := gb145) (o := .cells #[.slice A1_0 l1_0.length c1_0, .int .i64 a1_1, .slice A1_2 l1_2.length c1_2] 25 (0, 0)) (tk_ BK145.out) NB145_0.out (by simp))
                  have n1_ := Aside0.mk (KeepBut.blk hk (g' := gb146) (o := .cells #[.int .i64 0, .int .i64 0, .int .i64 0] 30 (0, 0)) (tk_ BK146.out) NB146_0.out (by simp))
                  have n2_ := Aside0.mk (KeepBut.trans (tc_ HK.out) hk (.inl rfl))
                  have n3_ := Aside0.mk (hb)
                  have n4_ := Aside0.mk (hi)
                  clear BK145
                  clear BK146
                  clear HK
                  clear HB
                  clear HI0
                  have BK145 := n0_
                  have BK146 := n1_
                  have HK := n2_
                  have HB := n3_
                  have HI0 := n4_
                  clear n0_ n1_ n2_ n3_ n4_
                  (try clear hb)
                  (try clear hb2)
                  (try clear hk)
                  (try clear hi)
                  refine hK.out _ _ trivial (fun hHeld => ?_)
                  clear hK K
                  refine norm_ (a' := ?_) ?_ ?_
                  rotate_left
                  ·
                   show Act.put _ (some 12) _ = _
                   simp only [Act.put, sa_, sb_, sc_, i64_w, i32_w]
                   rfl
                  refine pure_ (i := 7) (N := some 13) (v := ?_) (a' := ?_) #[false, true, true, false, false, true, true, true, false, false, false, false, false] rfl rfl (any_of HT_.out (by kernel_rfl)) (fun _ _ _ h => h) (Or.inl ⟨by rfl, ?_⟩) ?_ ?_
                  rotate_left
                  ·
                   intro w'
                   go_simp
                   first | with_reducible rfl | (rw [if_neg (by omega)]; done)
                  rotate_left
                  ·
                   simp only [Act.put, sa_, sb_, sc_, i64_w, i32_w]
                   rfl
                  refine pure_ (i := 8) (N := some 14) (v := ?_) (a' := ?_) #[false, true, true, false, false, true, true, true, true, false, false, false, false] rfl rfl (any_of HT_.out (by kernel_rfl)) (fun _ _ _ h => h) (Or.inl ⟨by rfl, ?_⟩) ?_ ?_
                  rotate_left
                  ·
                   intro w'
                   go_simp
                   first | with_reducible rfl | (rw [if_neg (by omega)]; done)
                  rotate_left
                  ·
                   simp only [Act.put, sa_, sb_, sc_, i64_w, i32_w]
                   rfl
                  exact norm_ tn_ (hJ2_6 () _ ⟨(tk_ BK145.out), (tk_ BK146.out), (by repeat (first | (with_reducible first | exact HI0.out | apply IsS126.alloc | apply IsS126.drewN | apply IsS126.drew | apply IsS126.set_1 | refine IsS126.far ?_ NB0_145.out _ | refine IsS126.far ?_ NB0_146.out _) | exact HI0.out)), (tc_ HK.out), (by repeat (first | (with_reducible first | exact HB.out | apply la_ | apply ln_ | apply ld_ | refine below_set ?_ (IsS126.ge HI0.out) | refine below_set ?_ GE145.out | refine below_set ?_ GE146.out) | exact HB.out))⟩)
                 ·
                  skip
                  refine box_step ?hg (N := 5) ?hd (cs := #[.int .i64 0, .int .i64 0, .int .i64 0]) (t := 30) ?hr ?_; (case hd => rfl); (case hg => rfl); (case hr => first | (go_simp; done) | (go_simp; rfl))
                  intro gb155 hg w13 hbox hb
                  have n0_ := Aside0.mk (IsS126.below (by repeat (first | (with_reducible first | exact HI0.out | apply IsS126.alloc | apply IsS126.drewN | apply IsS126.drew | apply IsS126.set_1 | refine IsS126.far ?_ NB0_145.out _ | refine IsS126.far ?_ NB0_146.out _) | exact HI0.out)) hb)
                  have n1_ := Aside0.mk (blk_below (g := gb145) (o := .cells #[.slice A1_0 l1_0.length c1_0, .int .i64 a1_1, .slice A1_2 l1_2.length c1_2] 25 (0, 0)) (tk_ BK145.out) hb)
                  have n2_ := Aside0.mk (blk_below (g := gb146) (o := .cells #[.int .i64 0, .int .i64 0, .int .i64 0] 30 (0, 0)) (tk_ BK146.out) hb)
                  have n3_ := Aside0.mk (KeepBut.trans (tc_ HK.out) (KeepBut.of_below hb g none) (.inl rfl))
                  have n4_ := Aside0.mk (below_step (by repeat (first | (with_reducible first | exact HB.out | apply la_ | apply ln_ | apply ld_ | refine below_set ?_ (IsS126.ge HI0.out) | refine below_set ?_ GE145.out | refine below_set ?_ GE146.out) | exact HB.out)) hb)
                  have n5_ := Aside0.mk (hbox)
                  have n6_ := Aside0.mk ((by rw [hg]; exact (keep_size (w := w) (g := g) (row := none) (tc_ HK.out)) : w.heap.size ≤ gb155))
                  have n7_ := Aside0.mk ((Nat.le_trans HW0.out (by rw [hg]; exact (keep_size (w := w) (g := g) (row := none) (tc_ HK.out)) : w.heap.size ≤ gb155) : w0.heap.size ≤ gb155))
                  have n8_ := Aside0.mk ((by rw [hg]; exact Nat.ne_of_lt (blk_lt (g := gb145) (o := .cells #[.slice A1_0 l1_0.length c1_0, .int .i64 a1_1, .slice A1_2 l1_2.length c1_2] 25 (0, 0)) (tk_ BK145.out)) : gb145 ≠ gb155))
                  have n9_ := Aside0.mk ((by rw [hg]; exact Nat.ne_of_gt (blk_lt (g := gb145) (o := .cells #[.slice A1_0 l1_0.length c1_0, .int .i64 a1_1, .slice A1_2 l1_2.length c1_2] 25 (0, 0)) (tk_ BK145.out)) : gb155 ≠ gb145))
                  have n10_ := Aside0.mk ((by rw [hg]; exact Nat.ne_of_lt (blk_lt (g := gb146) (o := .cells #[.int .i64 0, .int .i64 0, .int .i64 0] 30 (0, 0)) (tk_ BK146.out)) : gb146 ≠ gb155))
                  have n11_ := Aside0.mk ((by rw [hg]; exact Nat.ne_of_gt (blk_lt (g := gb146) (o := .cells #[.int .i64 0, .int .i64 0, .int .i64 0] 30 (0, 0)) (tk_ BK146.out)) : gb155 ≠ gb146))
                  have n12_ := Aside0.mk ((by rw [hg]; exact Nat.ne_of_lt (IsS126.lt (show IsS126 w0 _ g s0_0 t151 from by repeat (first | (with_reducible first | exact HI0.out | apply IsS126.alloc | apply IsS126.drewN | apply IsS126.drew | apply IsS126.set_1 | refine IsS126.far ?_ NB0_145.out _ | refine IsS126.far ?_ NB0_146.out _) | exact HI0.out))) : g ≠ gb155))
                  have n13_ := Aside0.mk ((by rw [hg]; exact Nat.ne_of_gt (IsS126.lt (show IsS126 w0 _ g s0_0 t151 from by repeat (first | (with_reducible first | exact HI0.out | apply IsS126.alloc | apply IsS126.drewN | apply IsS126.drew | apply IsS126.set_1 | refine IsS126.far ?_ NB0_145.out _ | refine IsS126.far ?_ NB0_146.out _) | exact HI0.out))) : gb155 ≠ g))
                  clear HI0
                  clear BK145
                  clear BK146
                  clear HK
                  clear HB
                  have HI0 := n0_
                  have BK145 := n1_
                  have BK146 := n2_
                  have HK := n3_
                  have HB := n4_
                  have BK155 := n5_
                  have GW155 := n6_
                  have GE155 := n7_
                  have NB145_155 := n8_
                  have NB155_145 := n9_
                  have NB146_155 := n10_
                  have NB155_146 := n11_
                  have NB0_155 := n12_
                  have NB155_0 := n13_
                  clear n0_ n1_ n2_ n3_ n4_ n5_ n6_ n7_ n8_ n9_ n10_ n11_ n12_ n13_
                  clear hb hbox hg
                  refine hK.out _ _ trivial (fun hHeld => ?_)
                  clear hK K
                  refine norm_ (a' := ?_) ?_ ?_
                  rotate_left
                  ·
                   show Act.put _ (some 5) _ = _
                   simp only [Act.put, sa_, sb_, sc_, i64_w, i32_w]
                   rfl
                  exact norm_ tn_ (hJ2_11 (gb155) _ ⟨(tk_ BK145.out), (tk_ BK146.out), (tk_ BK155.out), GW155.out, GE155.out, NB0_155.out, NB155_0.out, NB145_155.out, NB155_145.out, NB146_155.out, NB155_146.out, (by repeat (first | (with_reducible first | exact HI0.out | apply IsS126.alloc | apply IsS126.drewN | apply IsS126.drew | apply IsS126.set_1 | refine IsS126.far ?_ NB0_145.out _ | refine IsS126.far ?_ NB0_146.out _ | refine IsS126.far ?_ NB0_155.out _) | exact HI0.out)), (tc_ HK.out), (by repeat (first | (with_reducible first | exact HB.out | apply la_ | apply ln_ | apply ld_ | refine below_set ?_ (IsS126.ge HI0.out) | refine below_set ?_ GE145.out | refine below_set ?_ GE146.out | refine below_set ?_ GE155.out) | exact HB.out))⟩)
               ·
                skip
                rintro ⟨v148, adz_v148⟩ w14 ⟨h0_, h1_, h2_, h3_, h4_, h5_, h6_⟩
                have n0_ : Aside0 (Kd.R (Kd.int .i64) 3 w14 w.heap.size (fun _ => True) v148 y147) := ⟨h0_⟩
                have n1_ : Aside0 (∃ c_, (v148 : Value) = .slice (some adz_v148) y147.length c_) := ⟨h1_⟩
                have n2_ : Aside0 (w14.heap[gb145]? = some (.cells #[.slice A1_0 l1_0.length c1_0, .int .i64 a1_1, .slice A1_2 l1_2.length c1_2] 25 (0, 0))) := ⟨h2_⟩
                have n3_ : Aside0 (w14.heap[gb146]? = some (.cells #[.int .i64 0, .int .i64 0, .int .i64 0] 30 (0, 0))) := ⟨h3_⟩
                have n4_ : Aside0 (IsS126 w0 w14 g s0_0 s0_1) := ⟨h4_⟩
                have n5_ : Aside0 (KeepBut w w14 g none) := ⟨h5_⟩
                have n6_ : Aside0 (Below w0.heap.size w0 w14) := ⟨h6_⟩
                clear BK145
                clear BK146
                clear HI0
                clear HK
                clear HB
                clear h0_ h1_ h2_ h3_ h4_ h5_ h6_
                have HO149 := n0_
                have HA_HO149 := n1_
                have BK145 := n2_
                have BK146 := n3_
                have HI0 := n4_
                have HK := n5_
                have HB := n6_
                clear n0_ n1_ n2_ n3_ n4_ n5_ n6_
                have hHeld := trivial
                obtain ⟨co15, eo15⟩ := HA_HO149.out
                clear HA_HO149
                subst eo15
                refine norm_ (a' := ?_) ?_ ?_
                rotate_left
                ·
                 simp only [putAll, Act.put, sa_, sb_, sc_]
                 rfl
                refine two_ (i := 2) (j := 11) (Ni := some 8) (Nj := some 5) #[true, true, true, false, false, true, false, false, false, false, false, false, false] #[true, true, false, false, false, true, false, false, false, false, false, true, false] rfl rfl rfl rfl (two_of HT_.out (by kernel_rfl)) (by decide) (by decide) (fun K hK => ?_) (fun K hK => ?_)
                ·
                 skip
                 refine goes_ Tryd.func101 (by kernel_rfl) rfl #[.pointer (some ⟨g, 0, none⟩), .int .i64 8] (by rfl) rfl rfl tz_ ?_
                 with_reducible refine (spec_l20Rd_pick.calls k g s0_0 s0_1 8 t150 t151 w0 _ ?side1 ?side2 A3.out).mono ?_
                 (case side1 => repeat (first | (with_reducible first | exact HI0.out | apply IsS126.alloc | apply IsS126.drewN | apply IsS126.drew | apply IsS126.set_1 | refine IsS126.far ?_ NB0_145.out _ | refine IsS126.far ?_ NB0_146.out _) | exact HI0.out))
                 (case side2 => repeat (first | (with_reducible first | exact HB.out | apply la_ | apply ln_ | apply ld_ | refine below_set ?_ (IsS126.ge HI0.out) | refine below_set ?_ GE145.out | refine below_set ?_ GE146.out) | exact HB.out))
                 rintro e w16 ⟨rfl, hi, hb, hk⟩
                 refine ⟨_, rfl, ?_⟩
                 have n0_ := Aside0.mk (KeepBut.blk hk (g' := gb145) (o := .cells #[.slice A1_0 l1_0.length c1_0, .int .i64 a1_1, .slice A1_2 l1_2.length c1_2] 25 (0, 0)) (tk_ BK145.out) NB145_0.out (by simp))
                 have n1_ := Aside0.mk (KeepBut.blk hk (g' := gb146) (o := .cells #[.int .i64 0, .int .i64 0, .int .i64 0] 30 (0, 0)) (tk_ BK146.out) NB146_0.out (by simp))
                 have n2_ := Aside0.mk (Kd.R_mono (Kd.R_keep (IsS126.apart (show IsS126 w0 _ g s0_0 s0_1 from by repeat (first | (with_reducible first | exact HI0.out | apply IsS126.alloc | apply IsS126.drewN | apply IsS126.drew | apply IsS126.set_1 | refine IsS126.far ?_ NB0_145.out _ | refine IsS126.far ?_ NB0_146.out _) | exact HI0.out)) (rR_ HO149.out) (by decide)) hk (fun _ h => h.2)) (fun _ h => h.1))
                 have n3_ := Aside0.mk (KeepBut.trans (tc_ HK.out) hk (.inl rfl))
                 have n4_ := Aside0.mk (hb)
                 have n5_ := Aside0.mk (hi)
                 clear BK145
                 clear BK146
                 clear HO149
                 clear HK
                 clear HB
                 clear HI0
                 have BK145 := n0_
                 have BK146 := n1_
                 have HO149 := n2_
                 have HK := n3_
                 have HB := n4_
                 have HI0 := n5_
                 clear n0_ n1_ n2_ n3_ n4_ n5_
                 (try clear hb)
                 (try clear hb2)
                 (try clear hk)
                 (try clear hi)
                 refine hK.out _ _ trivial (fun hHeld => ?_)
                 clear hK K
                 refine norm_ (a' := ?_) ?_ ?_
                 rotate_left
                 ·
                  show Act.put _ (some 8) _ = _
                  simp only [Act.put, sa_, sb_, sc_, i64_w, i32_w]
                  rfl
                 refine pure_ (i := 3) (N := some 9) (v := ?_) (a' := ?_) #[true, true, true, true, false, true, false, false, false, false, false, false, false] rfl rfl (any_of HT_.out (by kernel_rfl)) (fun _ _ _ h => h) (Or.inl ⟨by rfl, ?_⟩) ?_ ?_
                 rotate_left
                 ·
                  intro w'
                  go_simp
                  first | with_reducible rfl | (rw [if_neg (by omega)]; done)
                 rotate_left
                 ·
                  simp only [Act.put, sa_, sb_, sc_, i64_w, i32_w]
                  rfl
                 exact norm_ tn_ (hJ0_2 (.slice (some adz_v148) y147.length co15, adz_v148) _ ⟨(rR_ HO149.out), ⟨_, rfl⟩, (tk_ BK145.out), (tk_ BK146.out), (by repeat (first | (with_reducible first | exact HI0.out | apply IsS126.alloc | apply IsS126.drewN | apply IsS126.drew | apply IsS126.set_1 | refine IsS126.far ?_ NB0_145.out _ | refine IsS126.far ?_ NB0_146.out _) | exact HI0.out)), (tc_ HK.out), (by repeat (first | (with_reducible first | exact HB.out | apply la_ | apply ln_ | apply ld_ | refine below_set ?_ (IsS126.ge HI0.out) | refine below_set ?_ GE145.out | refine below_set ?_ GE146.out) | exact HB.out))⟩)
                ·
                 skip
                 refine box_step ?hg (N := 5) ?hd (cs := #[.int .i64 0, .int .i64 0, .int .i64 0]) (t := 30) ?hr ?_; (case hd => rfl); (case hg => rfl); (case hr => first | (go_simp; done) | (go_simp; rfl))
                 intro gb155 hg w16 hbox hb
                 have n0_ := Aside0.mk (Kd.R_below (rR_ HO149.out) hb)
                 have n1_ := Aside0.mk (IsS126.below (by repeat (first | (with_reducible first | exact HI0.out | apply IsS126.alloc | apply IsS126.drewN | apply IsS126.drew | apply IsS126.set_1 | refine IsS126.far ?_ NB0_145.out _ | refine IsS126.far ?_ NB0_146.out _) | exact HI0.out)) hb)
                 have n2_ := Aside0.mk (blk_below (g := gb145) (o := .cells #[.slice A1_0 l1_0.length c1_0, .int .i64 a1_1, .slice A1_2 l1_2.length c1_2] 25 (0, 0)) (tk_ BK145.out) hb)
                 have n3_ := Aside0.mk (blk_below (g := gb146) (o := .cells #[.int .i64 0, .int .i64 0, .int .i64 0] 30 (0, 0)) (tk_ BK146.out) hb)
                 have n4_ := Aside0.mk (KeepBut.trans (tc_ HK.out) (KeepBut.of_below hb g none) (.inl rfl))
                 have n5_ := Aside0.mk (below_step (by repeat (first | (with_reducible first | exact HB.out | apply la_ | apply ln_ | apply ld_ | refine below_set ?_ (IsS126.ge HI0.out) | refine below_set ?_ GE145.out | refine below_set ?_ GE146.out) | exact HB.out)) hb)
                 have n6_ := Aside0.mk (hbox)
                 have n7_ := Aside0.mk ((by rw [hg]; exact (keep_size (w := w) (g := g) (row := none) (tc_ HK.out)) : w.heap.size ≤ gb155))
                 have n8_ := Aside0.mk ((Nat.le_trans HW0.out (by rw [hg]; exact (keep_size (w := w) (g := g) (row := none) (tc_ HK.out)) : w.heap.size ≤ gb155) : w0.heap.size ≤ gb155))
                 have n9_ := Aside0.mk ((by rw [hg]; exact Nat.ne_of_lt (blk_lt (g := gb145) (o := .cells #[.slice A1_0 l1_0.length c1_0, .int .i64 a1_1, .slice A1_2 l1_2.length c1_2] 25 (0, 0)) (tk_ BK145.out)) : gb145 ≠ gb155))
                 have n10_ := Aside0.mk ((by rw [hg]; exact Nat.ne_of_gt (blk_lt (g := gb145) (o := .cells #[.slice A1_0 l1_0.length c1_0, .int .i64 a1_1, .slice A1_2 l1_2.length c1_2] 25 (0, 0)) (tk_ BK145.out)) : gb155 ≠ gb145))
                 have n11_ := Aside0.mk ((by rw [hg]; exact Nat.ne_of_lt (blk_lt (g := gb146) (o := .cells #[.int .i64 0, .int .i64 0, .int .i64 0] 30 (0, 0)) (tk_ BK146.out)) : gb146 ≠ gb155))
                 have n12_ := Aside0.mk ((by rw [hg]; exact Nat.ne_of_gt (blk_lt (g := gb146) (o := .cells #[.int .i64 0, .int .i64 0, .int .i64 0] 30 (0, 0)) (tk_ BK146.out)) : gb155 ≠ gb146))
                 have n13_ := Aside0.mk ((by rw [hg]; exact Nat.ne_of_lt (IsS126.lt (show IsS126 w0 _ g s0_0 s0_1 from by repeat (first | (with_reducible first | exact HI0.out | apply IsS126.alloc | apply IsS126.drewN | apply IsS126.drew | apply IsS126.set_1 | refine IsS126.far ?_ NB0_145.out _ | refine IsS126.far ?_ NB0_146.out _) | exact HI0.out))) : g ≠ gb155))
                 have n14_ := Aside0.mk ((by rw [hg]; exact Nat.ne_of_gt (IsS126.lt (show IsS126 w0 _ g s0_0 s0_1 from by repeat (first | (with_reducible first | exact HI0.out | apply IsS126.alloc | apply IsS126.drewN | apply IsS126.drew | apply IsS126.set_1 | refine IsS126.far ?_ NB0_145.out _ | refine IsS126.far ?_ NB0_146.out _) | exact HI0.out))) : gb155 ≠ g))
                 clear HO149
                 clear HI0
                 clear BK145
                 clear BK146
                 clear HK
                 clear HB
                 have HO149 := n0_
                 have HI0 := n1_
                 have BK145 := n2_
                 have BK146 := n3_
                 have HK := n4_
                 have HB := n5_
                 have BK155 := n6_
                 have GW155 := n7_
                 have GE155 := n8_
                 have NB145_155 := n9_
                 have NB155_145 := n10_
                 have NB146_155 := n11_
                 have NB155_146 := n12_
                 have NB0_155 := n13_
                 have NB155_0 := n14_
                 clear n0_ n1_ n2_ n3_ n4_ n5_ n6_ n7_ n8_ n9_ n10_ n11_ n12_ n13_ n14_
                 clear hb hbox hg
                 refine hK.out _ _ trivial (fun hHeld => ?_)
                 clear hK K
                 refine norm_ (a' := ?_) ?_ ?_
                 rotate_left
                 ·
                  show Act.put _ (some 5) _ = _
                  simp only [Act.put, sa_, sb_, sc_, i64_w, i32_w]
                  rfl
                 exact norm_ tn_ (hJ0_11 (.slice (some adz_v148) y147.length co15, adz_v148, gb155) _ ⟨(rR_ HO149.out), ⟨_, rfl⟩, (tk_ BK145.out), (tk_ BK146.out), (tk_ BK155.out), GW155.out, GE155.out, NB0_155.out, NB155_0.out, NB145_155.out, NB155_145.out, NB146_155.out, NB155_146.out, (by repeat (first | (with_reducible first | exact HI0.out | apply IsS126.alloc | apply IsS126.drewN | apply IsS126.drew | apply IsS126.set_1 | refine IsS126.far ?_ NB0_145.out _ | refine IsS126.far ?_ NB0_146.out _ | refine IsS126.far ?_ NB0_155.out _) | exact HI0.out)), (tc_ HK.out), (by repeat (first | (with_reducible first | exact HB.out | apply la_ | apply ln_ | apply ld_ | refine below_set ?_ (IsS126.ge HI0.out) | refine below_set ?_ GE145.out | refine below_set ?_ GE146.out | refine below_set ?_ GE155.out) | exact HB.out))⟩)
              ·
               skip
               rintro gb155 w13 ⟨h0_, h1_, h2_, h3_, h4_, h5_, h6_, h7_, h8_, h9_, h10_, h11_, h12_, h13_⟩
               have n0_ : Aside0 (w13.heap[gb145]? = some (.cells #[.slice A1_0 l1_0.length c1_0, .int .i64 a1_1, .slice A1_2 l1_2.length c1_2] 25 (0, 0))) := ⟨h0_⟩
               have n1_ : Aside0 (w13.heap[gb146]? = some (.cells #[.int .i64 0, .int .i64 0, .int .i64 0] 30 (0, 0))) := ⟨h1_⟩
               have n2_ : Aside0 (w13.heap[gb155]? = some (.cells #[.int .i64 0, .int .i64 0, .int .i64 0] 30 (0, 0))) := ⟨h2_⟩
               have n3_ : Aside0 (w.heap.size ≤ gb155) := ⟨h3_⟩
               have n4_ : Aside0 (w0.heap.size ≤ gb155) := ⟨h4_⟩
               have n5_ : Aside0 (g ≠ gb155) := ⟨h5_⟩
               have n6_ : Aside0 (gb155 ≠ g) := ⟨h6_⟩
               have n7_ : Aside0 (gb145 ≠ gb155) := ⟨h7_⟩
               have n8_ : Aside0 (gb155 ≠ gb145) := ⟨h8_⟩
               have n9_ : Aside0 (gb146 ≠ gb155) := ⟨h9_⟩
               have n10_ : Aside0 (gb155 ≠ gb146) := ⟨h10_⟩
               have n11_ : Aside0 (IsS126 w0 w13 g s0_0 t151) := ⟨h11_⟩
               have n12_ : Aside0 (KeepBut w w13 g none) := ⟨h12_⟩
               have n13_ : Aside0 (Below w0.heap.size w0 w13) := ⟨h13_⟩
               clear BK145
               clear BK146
               clear HI0
               clear HK
               clear HB
               clear h0_ h1_ h2_ h3_ h4_ h5_ h6_ h7_ h8_ h9_ h10_ h11_ h12_ h13_
               have BK145 := n0_
               have BK146 := n1_
               have BK155 := n2_
               have GW155 := n3_
               have GE155 := n4_
               have NB0_155 := n5_
               have NB155_0 := n6_
               have NB145_155 := n7_
               have NB155_145 := n8_
               have NB146_155 := n9_
               have NB155_146 := n10_
               have HI0 := n11_
               have HK := n12_
               have HB := n13_
               clear n0_ n1_ n2_ n3_ n4_ n5_ n6_ n7_ n8_ n9_ n10_ n11_ n12_ n13_
               have hHeld := trivial
               refine norm_ (a' := ?_) ?_ ?_
               rotate_left
               ·
                simp only [putAll, Act.put, sa_, sb_, sc_]
                rfl
               refine two_ (i := 0) (j := 6) (Ni := some 6) (Nj := some 12) #[true, true, true, false, false, true, false, false, false, false, false, true, false] #[false, true, true, false, false, true, true, false, false, false, false, true, false] rfl rfl rfl rfl (two_of HT_.out (by kernel_rfl)) (by decide) (by decide) (fun K hK => ?_) (fun K hK => ?_)
               ·
                skip
                refine Kd.R_lit_step (Kd.int .i64) _ 3 ?hg (N := 6) ?hd (xs := ([0, 1, 2, 2, 2, 2, 3, 4] : List Int)) (inner := [.int .i64 0, .int .i64 1, .int .i64 2, .int .i64 2, .int .i64 2, .int .i64 2, .int .i64 3, .int .i64 4]) (ok := fun _ => True) (okp := fun _ => True) ?hr ?hp (fun _ hk => hk) trivial (Below.refl _ _) (Nat.le_refl _) (by simp) ?_; (case hd => rfl); (case hg => rfl); (case hr => first | (go_simp; done) | (go_simp; rfl)); (case hp => exact (Reps.one (show Kd.M (Kd.int .i64) _ _ _ 0 [.int .i64 0] from rfl) (Reps.one (show Kd.M (Kd.int .i64) _ _ _ 1 [.int .i64 1] from rfl) (Reps.one (show Kd.M (Kd.int .i64) _ _ _ 2 [.int .i64 2] from rfl) (Reps.one (show Kd.M (Kd.int .i64) _ _ _ 2 [.int .i64 2] from rfl) (Reps.one (show Kd.M (Kd.int .i64) _ _ _ 2 [.int .i64 2] from rfl) (Reps.one (show Kd.M (Kd.int .i64) _ _ _ 2 [.int .i64 2] from rfl) (Reps.one (show Kd.M (Kd.int .i64) _ _ _ 3 [.int .i64 3] from rfl) (Reps.one (show Kd.M (Kd.int .i64) _ _ _ 4 [.int .i64 4] from rfl) (Reps.none _ _))))))))))
                intro v148 w14 ho15 hb hg_ hnew_
                clear hg_ hnew_
                (first | rw [← Ny147.out] at ho15 | (simp only [Int.reduceToNat] at ho15; rw [← Ny147.out] at ho15))
                have n0_ := Aside0.mk (Kd.R_lower ho15 (keep_size (w := w) (g := g) (row := none) (tc_ HK.out)))
                have n1_ := Aside0.mk (IsS126.below (by repeat (first | (with_reducible first | exact HI0.out | apply IsS126.alloc | apply IsS126.drewN | apply IsS126.drew | apply IsS126.set_1 | refine IsS126.far ?_ NB0_145.out _ | refine IsS126.far ?_ NB0_146.out _ | refine IsS126.far ?_ NB0_155.out _) | exact HI0.out)) hb)
                have n2_ := Aside0.mk (blk_below (g := gb145) (o := .cells #[.slice A1_0 l1_0.length c1_0, .int .i64 a1_1, .slice A1_2 l1_2.length c1_2] 25 (0, 0)) (tk_ BK145.out) hb)
                have n3_ := Aside0.mk (blk_below (g := gb146) (o := .cells #[.int .i64 0, .int .i64 0, .int .i64 0] 30 (0, 0)) (tk_ BK146.out) hb)
                have n4_ := Aside0.mk (blk_below (g := gb155) (o := .cells #[.int .i64 0, .int .i64 0, .int .i64 0] 30 (0, 0)) (tk_ BK155.out) hb)
                have n5_ := Aside0.mk (KeepBut.trans (tc_ HK.out) (KeepBut.of_below hb g none) (.inl rfl))
                have n6_ := Aside0.mk (below_step (by repeat (first | (with_reducible first | exact HB.out | apply la_ | apply ln_ | apply ld_ | refine below_set ?_ (IsS126.ge HI0.out) | refine below_set ?_ GE145.out | refine below_set ?_ GE146.out | refine below_set ?_ GE155.out) | exact HB.out)) hb)
                clear HI0
                clear BK145
                clear BK146
                clear BK155
                clear HK
                clear HB
                have HO149 := n0_
                have HI0 := n1_
                have BK145 := n2_
                have BK146 := n3_
                have BK155 := n4_
                have HK := n5_
                have HB := n6_
                clear n0_ n1_ n2_ n3_ n4_ n5_ n6_
                clear hb ho15
                obtain ⟨Ao16, co16, eo16⟩ := Kd.R_slice HO149.out
                subst eo16
                obtain ⟨ado16, fo16, _⟩ := Kd.at_int (Kd.R_reads' HO149.out).2.2 0 (by decide) (by rw [Ny147.out]; simp)
                cases fo16
                refine hK.out _ _ trivial (fun hHeld => ?_)
                clear hK K
                refine norm_ (a' := ?_) ?_ ?_
                rotate_left
                ·
                 show Act.put _ (some 6) _ = _
                 simp only [Act.put, sa_, sb_, sc_, i64_w, i32_w]
                 rfl
                refine pure_ (i := 3) (N := some 9) (v := ?_) (a' := ?_) #[true, true, true, true, false, true, false, false, false, false, false, true, false] rfl rfl (any_of HT_.out (by kernel_rfl)) (fun _ _ _ h => h) (Or.inl ⟨by rfl, ?_⟩) ?_ ?_
                rotate_left
                ·
                 intro w'
                 go_simp
                 first | with_reducible rfl | (rw [if_neg (by omega)]; done)
                rotate_left
                ·
                 simp only [Act.put, sa_, sb_, sc_, i64_w, i32_w]
                 rfl
                exact norm_ tn_ (hJ0_2_11 (.slice (some ado16) y147.length co16, ado16, gb155) _ ⟨(rR_ HO149.out), ⟨_, rfl⟩, (tk_ BK145.out), (tk_ BK146.out), (tk_ BK155.out), GW155.out, GE155.out, NB0_155.out, NB155_0.out, NB145_155.out, NB155_145.out, NB146_155.out, NB155_146.out, (by repeat (first | (with_reducible first | exact HI0.out | apply IsS126.alloc | apply IsS126.drewN | apply IsS126.drew | apply IsS126.set_1 | refine IsS126.far ?_ NB0_145.out _ | refine IsS126.far ?_ NB0_146.out _ | refine IsS126.far ?_ NB0_155.out _) | exact HI0.out)), (tc_ HK.out), (by repeat (first | (with_reducible first | exact HB.out | apply la_ | apply ln_ | apply ld_ | refine below_set ?_ (IsS126.ge HI0.out) | refine below_set ?_ GE145.out | refine below_set ?_ GE146.out | refine below_set ?_ GE155.out) | exact HB.out))⟩)
               ·
                skip
                refine goes_ Tryd.func101 (by kernel_rfl) rfl #[.pointer (some ⟨g, 0, none⟩), .int .i64 60] (by rfl) rfl rfl tz_ ?_
                with_reducible refine (spec_l20Rd_pick.calls k g s0_0 t151 60 t153 t154 w0 _ ?side1 ?side2 A6.out).mono ?_
                (case side1 => repeat (first | (with_reducible first | exact HI0.out | apply IsS126.alloc | apply IsS126.drewN | apply IsS126.drew | apply IsS126.set_1 | refine IsS126.far ?_ NB0_145.out _ | refine IsS126.far ?_ NB0_146.out _ | refine IsS126.far ?_ NB0_155.out _) | exact HI0.out))
                (case side2 => repeat (first | (with_reducible first | exact HB.out | apply la_ | apply ln_ | apply ld_ | refine below_set ?_ (IsS126.ge HI0.out) | refine below_set ?_ GE145.out | refine below_set ?_ GE146.out | refine below_set ?_ GE155.out) | exact HB.out))
                rintro e w14 ⟨rfl, hi, hb, hk⟩
                refine ⟨_, rfl, ?_⟩
                have n0_ := Aside0.mk (KeepBut.blk hk (g' := gb145) (o := .cells #[.slice A1_0 l1_0.length c1_0, .int .i64 a1_1, .slice A1_2 l1_2.length c1_2] 25 (0, 0)) (tk_ BK145.out) NB145_0.out (by simp))
                have n1_ := Aside0.mk (KeepBut.blk hk (g' := gb146) (o := .cells #[.int .i64 0, .int .i64 0, .int .i64 0] 30 (0, 0)) (tk_ BK146.out) NB146_0.out (by simp))
                have n2_ := Aside0.mk (KeepBut.blk hk (g' := gb155) (o := .cells #[.int .i64 0, .int .i64 0, .int .i64 0] 30 (0, 0)) (tk_ BK155.out) NB155_0.out (by simp))
                have n3_ := Aside0.mk (KeepBut.trans (tc_ HK.out) hk (.inl rfl))
                have n4_ := Aside0.mk (hb)
                have n5_ := Aside0.mk (hi)
                clear BK145
                clear BK146
                clear BK155
                clear HK
                clear HB
                clear HI0
                have BK145 := n0_
                have BK146 := n1_
                have BK155 := n2_
                have HK := n3_
                have HB := n4_
                have HI0 := n5_
                clear n0_ n1_ n2_ n3_ n4_ n5_
                (try clear hb)
                (try clear hb2)
                (try clear hk)
                (try clear hi)
                refine hK.out _ _ trivial (fun hHeld => ?_)
                clear hK K
                refine norm_ (a' := ?_) ?_ ?_
                rotate_left
                ·
                 show Act.put _ (some 12) _ = _
                 simp only [Act.put, sa_, sb_, sc_, i64_w, i32_w]
                 rfl
                refine pure_ (i := 7) (N := some 13) (v := ?_) (a' := ?_) #[false, true, true, false, false, true, true, true, false, false, false, true, false] rfl rfl (any_of HT_.out (by kernel_rfl)) (fun _ _ _ h => h) (Or.inl ⟨by rfl, ?_⟩) ?_ ?_
                rotate_left
                ·
                 intro w'
                 go_simp
                 first | with_reducible rfl | (rw [if_neg (by omega)]; done)
                rotate_left
                ·
                 simp only [Act.put, sa_, sb_, sc_, i64_w, i32_w]
                 rfl
                refine pure_ (i := 8) (N := some 14) (v := ?_) (a' := ?_) #[false, true, true, false, false, true, true, true, true, false, false, true, false] rfl rfl (any_of HT_.out (by kernel_rfl)) (fun _ _ _ h => h) (Or.inl ⟨by rfl, ?_⟩) ?_ ?_
                rotate_left
                ·
                 intro w'
                 go_simp
                 first | with_reducible rfl | (rw [if_neg (by omega)]; done)
                rotate_left
                ·
                 simp only [Act.put, sa_, sb_, sc_, i64_w, i32_w]
                 rfl
                exact norm_ tn_ (hJ2_6_11 (gb155) _ ⟨(tk_ BK145.out), (tk_ BK146.out), (tk_ BK155.out), GW155.out, GE155.out, NB0_155.out, NB155_0.out, NB145_155.out, NB155_145.out, NB146_155.out, NB155_146.out, (by repeat (first | (with_reducible first | exact HI0.out | apply IsS126.alloc | apply IsS126.drewN | apply IsS126.drew | apply IsS126.set_1 | refine IsS126.far ?_ NB0_145.out _ | refine IsS126.far ?_ NB0_146.out _ | refine IsS126.far ?_ NB0_155.out _) | exact HI0.out)), (tc_ HK.out), (by repeat (first | (with_reducible first | exact HB.out | apply la_ | apply ln_ | apply ld_ | refine below_set ?_ (IsS126.ge HI0.out) | refine below_set ?_ GE145.out | refine below_set ?_ GE146.out | refine below_set ?_ GE155.out) | exact HB.out))⟩)
             ·
              skip
              rintro _ w13 ⟨h0_, h1_, h2_, h3_, h4_⟩
              have n0_ : Aside0 (w13.heap[gb145]? = some (.cells #[.slice A1_0 l1_0.length c1_0, .int .i64 a1_1, .slice A1_2 l1_2.length c1_2] 25 (0, 0))) := ⟨h0_⟩
              have n1_ : Aside0 (w13.heap[gb146]? = some (.cells #[.int .i64 0, .int .i64 0, .int .i64 0] 30 (0, 0))) := ⟨h1_⟩
              have n2_ : Aside0 (IsS126 w0 w13 g s0_0 t154) := ⟨h2_⟩
              have n3_ : Aside0 (KeepBut w w13 g none) := ⟨h3_⟩
              have n4_ : Aside0 (Below w0.heap.size w0 w13) := ⟨h4_⟩
              clear BK145
              clear BK146
              clear HI0
              clear HK
              clear HB
              clear h0_ h1_ h2_ h3_ h4_
              have BK145 := n0_
              have BK146 := n1_
              have HI0 := n2_
              have HK := n3_
              have HB := n4_
              clear n0_ n1_ n2_ n3_ n4_
              have hHeld := trivial
              refine norm_ (a' := ?_) ?_ ?_
              rotate_left
              ·
               simp only [putAll, Act.put, sa_, sb_, sc_]
               rfl
              refine two_ (i := 0) (j := 11) (Ni := some 6) (Nj := some 5) #[true, true, true, false, false, true, true, true, true, false, false, false, false] #[false, true, true, false, false, true, true, true, true, false, false, true, false] rfl rfl rfl rfl (two_of HT_.out (by kernel_rfl)) (by decide) (by decide) (fun K hK => ?_) (fun K hK => ?_)
              ·
               skip
               refine Kd.R_lit_step (Kd.int .i64) _ 3 ?hg (N := 6) ?hd (xs := ([0, 1, 2, 2, 2, 2, 3, 4] : List Int)) (inner := [.int .i64 0, .int .i64 1, .int .i64 2, .int .i64 2, .int .i64 2, .int .i64 2, .int .i64 3, .int .i64 4]) (ok := fun _ => True) (okp := fun _ => True) ?hr ?hp (fun _ hk => hk) trivial (Below.refl _ _) (Nat.le_refl _) (by simp) ?_; (case hd => rfl); (case hg => rfl); (case hr => first | (go_simp; done) | (go_simp; rfl)); (case hp => exact (Reps.one (show Kd.M (Kd.int .i64) _ _ _ 0 [.int .i64 0] from rfl) (Reps.one (show Kd.M (Kd.int .i64) _ _ _ 1 [.int .i64 1] from rfl) (Reps.one (show Kd.M (Kd.int .i64) _ _ _ 2 [.int .i64 2] from rfl) (Reps.one (show Kd.M (Kd.int .i64) _ _ _ 2 [.int .i64 2] from rfl) (Reps.one (show Kd.M (Kd.int .i64) _ _ _ 2 [.int .i64 2] from rfl) (Reps.one (show Kd.M (Kd.int .i64) _ _ _ 2 [.int .i64 2] from rfl) (Reps.one (show Kd.M (Kd.int .i64) _ _ _ 3 [.int .i64 3] from rfl) (Reps.one (show Kd.M (Kd.int .i64) _ _ _ 4 [.int .i64 4] from rfl) (Reps.none _ _))))))))))
               intro v148 w14 ho15 hb hg_ hnew_
               clear hg_ hnew_
               (first | rw [← Ny147.out] at ho15 | (simp only [Int.reduceToNat] at ho15; rw [← Ny147.out] at ho15))
               have n0_ := Aside0.mk (Kd.R_lower ho15 (keep_size (w := w) (g := g) (row := none) (tc_ HK.out)))
               have n1_ := Aside0.mk (IsS126.below (by repeat (first | (with_reducible first | exact HI0.out | apply IsS126.alloc | apply IsS126.drewN | apply IsS126.drew | apply IsS126.set_1 | refine IsS126.far ?_ NB0_145.out _ | refine IsS126.far ?_ NB0_146.out _) | exact HI0.out)) hb)
               have n2_ := Aside0.mk (blk_below (g := gb145) (o := .cells #[.slice A1_0 l1_0.length c1_0, .int .i64 a1_1, .slice A1_2 l1_2.length c1_2] 25 (0, 0)) (tk_ BK145.out) hb)
               have n3_ := Aside0.mk (blk_below (g := gb146) (o := .cells #[.int .i64 0, .int .i64 0, .int .i64 0] 30 (0, 0)) (tk_ BK146.out) hb)
               have n4_ := Aside0.mk (KeepBut.trans (tc_ HK.out) (KeepBut.of_below hb g none) (.inl rfl))
               have n5_ := Aside0.mk (below_step (by repeat (first | (with_reducible first | exact HB.out | apply la_ | apply ln_ | apply ld_ | refine below_set ?_ (IsS126.ge HI0.out) | refine below_set ?_ GE145.out | refine below_set ?_ GE146.out) | exact HB.out)) hb)
               clear HI0
               clear BK145
               clear BK146
               clear HK
               clear HB
               have HO149 := n0_
               have HI0 := n1_
               have BK145 := n2_
               have BK146 := n3_
               have HK := n4_
               have HB := n5_
               clear n0_ n1_ n2_ n3_ n4_ n5_
               clear hb ho15
               obtain ⟨Ao16, co16, eo16⟩ := Kd.R_slice HO149.out
               subst eo16
               obtain ⟨ado16, fo16, _⟩ := Kd.at_int (Kd.R_reads' HO149.out).2.2 0 (by decide) (by rw [Ny147.out]; simp)
               cases fo16
               refine hK.out _ _ trivial (fun hHeld => ?_)
               clear hK K
               refine norm_ (a' := ?_) ?_ ?_
               rotate_left
               ·
                show Act.put _ (some 6) _ = _
                simp only [Act.put, sa_, sb_, sc_, i64_w, i32_w]
                rfl
               refine pure_ (i := 3) (N := some 9) (v := ?_) (a' := ?_) #[true, true, true, true, false, true, true, true, true, false, false, false, false] rfl rfl (any_of HT_.out (by kernel_rfl)) (fun _ _ _ h => h) (Or.inl ⟨by rfl, ?_⟩) ?_ ?_
               rotate_left
               ·
                intro w'
                go_simp
                first | with_reducible rfl | (rw [if_neg (by omega)]; done)
               rotate_left
               ·
                simp only [Act.put, sa_, sb_, sc_, i64_w, i32_w]
                rfl
               exact norm_ tn_ (hJ0_2_6 (.slice (some ado16) y147.length co16, ado16) _ ⟨(rR_ HO149.out), ⟨_, rfl⟩, (tk_ BK145.out), (tk_ BK146.out), (by repeat (first | (with_reducible first | exact HI0.out | apply IsS126.alloc | apply IsS126.drewN | apply IsS126.drew | apply IsS126.set_1 | refine IsS126.far ?_ NB0_145.out _ | refine IsS126.far ?_ NB0_146.out _) | exact HI0.out)), (tc_ HK.out), (by repeat (first | (with_reducible first | exact HB.out | apply la_ | apply ln_ | apply ld_ | refine below_set ?_ (IsS126.ge HI0.out) | refine below_set ?_ GE145.out | refine below_set ?_ GE146.out) | exact HB.out))⟩)
              ·
               skip
               refine box_step ?hg (N := 5) ?hd (cs := #[.int .i64 0, .int .i64 0, .int .i64 0]) (t := 30) ?hr ?_; (case hd => rfl); (case hg => rfl); (case hr => first | (go_simp; done) | (go_simp; rfl))
               intro gb155 hg w14 hbox hb
               have n0_ := Aside0.mk (IsS126.below (by repeat (first | (with_reducible first | exact HI0.out | apply IsS126.alloc | apply IsS126.drewN | apply IsS126.drew | apply IsS126.set_1 | refine IsS126.far ?_ NB0_145.out _ | refine IsS126.far ?_ NB0_146.out _) | exact HI0.out)) hb)
               have n1_ := Aside0.mk (blk_below (g := gb145) (o := .cells #[.slice A1_0 l1_0.length c1_0, .int .i64 a1_1, .slice A1_2 l1_2.length c1_2] 25 (0, 0)) (tk_ BK145.out) hb)
               have n2_ := Aside0.mk (blk_below (g := gb146) (o := .cells #[.int .i64 0, .int .i64 0, .int .i64 0] 30 (0, 0)) (tk_ BK146.out) hb)
               have n3_ := Aside0.mk (KeepBut.trans (tc_ HK.out) (KeepBut.of_below hb g none) (.inl rfl))
               have n4_ := Aside0.mk (below_step (by repeat (first | (with_reducible first | exact HB.out | apply la_ | apply ln_ | apply ld_ | refine below_set ?_ (IsS126.ge HI0.out) | refine below_set ?_ GE145.out | refine below_set ?_ GE146.out) | exact HB.out)) hb)
               have n5_ := Aside0.mk (hbox)
               have n6_ := Aside0.mk ((by rw [hg]; exact (keep_size (w := w) (g := g) (row := none) (tc_ HK.out)) : w.heap.size ≤ gb155))
               have n7_ := Aside0.mk ((Nat.le_trans HW0.out (by rw [hg]; exact (keep_size (w := w) (g := g) (row := none) (tc_ HK.out)) : w.heap.size ≤ gb155) : w0.heap.size ≤ gb155))
               have n8_ := Aside0.mk ((by rw [hg]; exact Nat.ne_of_lt (blk_lt (g := gb145) (o := .cells #[.slice A1_0 l1_0.length c1_0, .int .i64 a1_1, .slice A1_2 l1_2.length c1_2] 25 (0, 0)) (tk_ BK145.out)) : gb145 ≠ gb155))
               have n9_ := Aside0.mk ((by rw [hg]; exact Nat.ne_of_gt (blk_lt (g := gb145) (o := .cells #[.slice A1_0 l1_0.length c1_0, .int .i64 a1_1, .slice A1_2 l1_2.length c1_2] 25 (0, 0)) (tk_ BK145.out)) : gb155 ≠ gb145))
               have n10_ := Aside0.mk ((by rw [hg]; exact Nat.ne_of_lt (blk_lt (g := gb146) (o := .cells #[.int .i64 0, .int .i64 0, .int .i64 0] 30 (0, 0)) (tk_ BK146.out)) : gb146 ≠ gb155))
               have n11_ := Aside0.mk ((by rw [hg]; exact Nat.ne_of_gt (blk_lt (g := gb146) (o := .cells #[.int .i64 0, .int .i64 0, .int .i64 0] 30 (0, 0)) (tk_ BK146.out)) : gb155 ≠ gb146))
               have n12_ := Aside0.mk ((by rw [hg]; exact Nat.ne_of_lt (IsS126.lt (show IsS126 w0 _ g s0_0 t154 from by repeat (first | (with_reducible first | exact HI0.out | apply IsS126.alloc | apply IsS126.drewN | apply IsS126.drew | apply IsS126.set_1 | refine IsS126.far ?_ NB0_145.out _ | refine IsS126.far ?_ NB0_146.out _) | exact HI0.out))) : g ≠ gb155))
               have n13_ := Aside0.mk ((by rw [hg]; exact Nat.ne_of_gt (IsS126.lt (show IsS126 w0 _ g s0_0 t154 from by repeat (first | (with_reducible first | exact HI0.out | apply IsS126.alloc | apply IsS126.drewN | apply IsS126.drew | apply IsS126.set_1 | refine IsS126.far ?_ NB0_145.out _ | refine IsS126.far ?_ NB0_146.out _) | exact HI0.out))) : gb155 ≠ g))
               clear HI0
               clear BK145
               clear BK146
               clear HK
               clear HB
               have HI0 := n0_
               have BK145 := n1_
               have BK146 := n2_
               have HK := n3_
               have HB := n4_
               have BK155 := n5_
               have GW155 := n6_
               have GE155 := n7_
               have NB145_155 := n8_
               have NB155_145 := n9_
               have NB146_155 := n10_
               have NB155_146 := n11_
               have NB0_155 := n12_
               have NB155_0 := n13_
               clear n0_ n1_ n2_ n3_ n4_ n5_ n6_ n7_ n8_ n9_ n10_ n11_ n12_ n13_
               clear hb hbox hg
               refine hK.out _ _ trivial (fun hHeld => ?_)
               clear hK K
               refine norm_ (a' := ?_) ?_ ?_
               rotate_left
               ·
                show Act.put _ (some 5) _ = _
                simp only [Act.put, sa_, sb_, sc_, i64_w, i32_w]
                rfl
               exact norm_ tn_ (hJ2_6_11 (gb155) _ ⟨(tk_ BK145.out), (tk_ BK146.out), (tk_ BK155.out), GW155.out, GE155.out, NB0_155.out, NB155_0.out, NB145_155.out, NB155_145.out, NB146_155.out, NB155_146.out, (by repeat (first | (with_reducible first | exact HI0.out | apply IsS126.alloc | apply IsS126.drewN | apply IsS126.drew | apply IsS126.set_1 | refine IsS126.far ?_ NB0_145.out _ | refine IsS126.far ?_ NB0_146.out _ | refine IsS126.far ?_ NB0_155.out _) | exact HI0.out)), (tc_ HK.out), (by repeat (first | (with_reducible first | exact HB.out | apply la_ | apply ln_ | apply ld_ | refine below_set ?_ (IsS126.ge HI0.out) | refine below_set ?_ GE145.out | refine below_set ?_ GE146.out | refine below_set ?_ GE155.out) | exact HB.out))⟩)
            ·
             skip
             rintro ⟨v148, adz_v148, gb155⟩ w15 ⟨h0_, h1_, h2_, h3_, h4_, h5_, h6_, h7_, h8_, h9_, h10_, h11_, h12_, h13_, h14_, h15_⟩
             have n0_ : Aside0 (Kd.R (Kd.int .i64) 3 w15 w.heap.size (fun _ => True) v148 y147) := ⟨h0_⟩
             have n1_ : Aside0 (∃ c_, (v148 : Value) = .slice (some adz_v148) y147.length c_) := ⟨h1_⟩
             have n2_ : Aside0 (w15.heap[gb145]? = some (.cells #[.slice A1_0 l1_0.length c1_0, .int .i64 a1_1, .slice A1_2 l1_2.length c1_2] 25 (0, 0))) := ⟨h2_⟩
             have n3_ : Aside0 (w15.heap[gb146]? = some (.cells #[.int .i64 0, .int .i64 0, .int .i64 0] 30 (0, 0))) := ⟨h3_⟩
             have n4_ : Aside0 (w15.heap[gb155]? = some (.cells #[.int .i64 0, .int .i64 0, .int .i64 0] 30 (0, 0))) := ⟨h4_⟩
             have n5_ : Aside0 (w.heap.size ≤ gb155) := ⟨h5_⟩
             have n6_ : Aside0 (w0.heap.size ≤ gb155) := ⟨h6_⟩
             have n7_ : Aside0 (g ≠ gb155) := ⟨h7_⟩
             have n8_ : Aside0 (gb155 ≠ g) := ⟨h8_⟩
             have n9_ : Aside0 (gb145 ≠ gb155) := ⟨h9_⟩
             have n10_ : Aside0 (gb155 ≠ gb145) := ⟨h10_⟩
             have n11_ : Aside0 (gb146 ≠ gb155) := ⟨h11_⟩
             have n12_ : Aside0 (gb155 ≠ gb146) := ⟨h12_⟩
             have n13_ : Aside0 (IsS126 w0 w15 g s0_0 s0_1) := ⟨h13_⟩
             have n14_ : Aside0 (KeepBut w w15 g none) := ⟨h14_⟩
             have n15_ : Aside0 (Below w0.heap.size w0 w15) := ⟨h15_⟩
             clear BK145
             clear BK146
             clear HI0
             clear HK
             clear HB
             clear h0_ h1_ h2_ h3_ h4_ h5_ h6_ h7_ h8_ h9_ h10_ h11_ h12_ h13_ h14_ h15_
             have HO149 := n0_
             have HA_HO149 := n1_
             have BK145 := n2_
             have BK146 := n3_
             have BK155 := n4_
             have GW155 := n5_
             have GE155 := n6_
             have NB0_155 := n7_
             have NB155_0 := n8_
             have NB145_155 := n9_
             have NB155_145 := n10_
             have NB146_155 := n11_
             have NB155_146 := n12_
             have HI0 := n13_
             have HK := n14_
             have HB := n15_
             clear n0_ n1_ n2_ n3_ n4_ n5_ n6_ n7_ n8_ n9_ n10_ n11_ n12_ n13_ n14_ n15_
             have hHeld := trivial
             obtain ⟨co16, eo16⟩ := HA_HO149.out
             clear HA_HO149
             subst eo16
             refine norm_ (a' := ?_) ?_ ?_
             rotate_left
             ·
              simp only [putAll, Act.put, sa_, sb_, sc_]
              rfl
             refine one_ (i := 2) (N := some 8) #[true, true, true, false, false, true, false, false, false, false, false, true, false] rfl rfl (one_of HT_.out (by kernel_rfl)) (by decide) (fun K hK => ?_)
             refine goes_ Tryd.func101 (by kernel_rfl) rfl #[.pointer (some ⟨g, 0, none⟩), .int .i64 8] (by rfl) rfl rfl tz_ ?_
             with_reducible refine (spec_l20Rd_pick.calls k g s0_0 s0_1 8 t150 t151 w0 _ ?side1 ?side2 A3.out).mono ?_
             (case side1 => repeat (first | (with_reducible first | exact HI0.out | apply IsS126.alloc | apply IsS126.drewN | apply IsS126.drew | apply IsS126.set_1 | refine IsS126.far ?_ NB0_145.out _ | refine IsS126.far ?_ NB0_146.out _ | refine IsS126.far ?_ NB0_155.out _) | exact HI0.out))
             (case side2 => repeat (first | (with_reducible first | exact HB.out | apply la_ | apply ln_ | apply ld_ | refine below_set ?_ (IsS126.ge HI0.out) | refine below_set ?_ GE145.out | refine below_set ?_ GE146.out | refine below_set ?_ GE155.out) | exact HB.out))
             rintro e w17 ⟨rfl, hi, hb, hk⟩
             refine ⟨_, rfl, ?_⟩
             have n0_ := Aside0.mk (KeepBut.blk hk (g' := gb145) (o := .cells #[.slice A1_0 l1_0.length c1_0, .int .i64 a1_1, .slice A1_2 l1_2.length c1_2] 25 (0, 0)) (tk_ BK145.out) NB145_0.out (by simp))
             have n1_ := Aside0.mk (KeepBut.blk hk (g' := gb146) (o := .cells #[.int .i64 0, .int .i64 0, .int .i64 0] 30 (0, 0)) (tk_ BK146.out) NB146_0.out (by simp))
             have n2_ := Aside0.mk (Kd.R_mono (Kd.R_keep (IsS126.apart (show IsS126 w0 _ g s0_0 s0_1 from by repeat (first | (with_reducible first | exact HI0.out | apply IsS126.alloc | apply IsS126.drewN | apply IsS126.drew | apply IsS126.set_1 | refine IsS126.far ?_ NB0_145.out _ | refine IsS126.far ?_ NB0_146.out _ | refine IsS126.far ?_ NB0_155.out _) | exact HI0.out)) (rR_ HO149.out) (by decide)) hk (fun _ h => h.2)) (fun _ h => h.1))
             have n3_ := Aside0.mk (KeepBut.blk hk (g' := gb155) (o := .cells #[.int .i64 0, .int .i64 0, .int .i64 0] 30 (0, 0)) (tk_ BK155.out) NB155_0.out (by simp))
             have n4_ := Aside0.mk (KeepBut.trans (tc_ HK.out) hk (.inl rfl))
             have n5_ := Aside0.mk (hb)
             have n6_ := Aside0.mk (hi)
             clear BK145
             clear BK146
             clear HO149
             clear BK155
             clear HK
             clear HB
             clear HI0
             have BK145 := n0_
             have BK146 := n1_
             have HO149 := n2_
             have BK155 := n3_
             have HK := n4_
             have HB := n5_
             have HI0 := n6_
             clear n0_ n1_ n2_ n3_ n4_ n5_ n6_
             (try clear hb)
             (try clear hb2)
             (try clear hk)
             (try clear hi)
             refine hK.out _ _ trivial (fun hHeld => ?_)
             clear hK K
             refine norm_ (a' := ?_) ?_ ?_
             rotate_left
             ·
              show Act.put _ (some 8) _ = _
              simp only [Act.put, sa_, sb_, sc_, i64_w, i32_w]
              rfl
             refine pure_ (i := 3) (N := some 9) (v := ?_) (a' := ?_) #[true, true, true, true, false, true, false, false, false, false, false, true, false] rfl rfl (any_of HT_.out (by kernel_rfl)) (fun _ _ _ h => h) (Or.inl ⟨by rfl, ?_⟩) ?_ ?_
             rotate_left
             ·
              intro w'
              go_simp
              first | with_reducible rfl | (rw [if_neg (by omega)]; done)
             rotate_left
             ·
              simp only [Act.put, sa_, sb_, sc_, i64_w, i32_w]
              rfl
             exact norm_ tn_ (hJ0_2_11 (.slice (some adz_v148) y147.length co16, adz_v148, gb155) _ ⟨(rR_ HO149.out), ⟨_, rfl⟩, (tk_ BK145.out), (tk_ BK146.out), (tk_ BK155.out), GW155.out, GE155.out, NB0_155.out, NB155_0.out, NB145_155.out, NB155_145.out, NB146_155.out, NB155_146.out, (by repeat (first | (with_reducible first | exact HI0.out | apply IsS126.alloc | apply IsS126.drewN | apply IsS126.drew | apply IsS126.set_1 | refine IsS126.far ?_ NB0_145.out _ | refine IsS126.far ?_ NB0_146.out _ | refine IsS126.far ?_ NB0_155.out _) | exact HI0.out)), (tc_ HK.out), (by repeat (first | (with_reducible first | exact HB.out | apply la_ | apply ln_ | apply ld_ | refine below_set ?_ (IsS126.ge HI0.out) | refine below_set ?_ GE145.out | refine below_set ?_ GE146.out | refine below_set ?_ GE155.out) | exact HB.out))⟩)
           ·
            skip
            rintro ⟨v148, adz_v148⟩ w15 ⟨h0_, h1_, h2_, h3_, h4_, h5_, h6_⟩
            have n0_ : Aside0 (Kd.R (Kd.int .i64) 3 w15 w.heap.size (fun _ => True) v148 y147) := ⟨h0_⟩
            have n1_ : Aside0 (∃ c_, (v148 : Value) = .slice (some adz_v148) y147.length c_) := ⟨h1_⟩
            have n2_ : Aside0 (w15.heap[gb145]? = some (.cells #[.slice A1_0 l1_0.length c1_0, .int .i64 a1_1, .slice A1_2 l1_2.length c1_2] 25 (0, 0))) := ⟨h2_⟩
            have n3_ : Aside0 (w15.heap[gb146]? = some (.cells #[.int .i64 0, .int .i64 0, .int .i64 0] 30 (0, 0))) := ⟨h3_⟩
            have n4_ : Aside0 (IsS126 w0 w15 g s0_0 t151) := ⟨h4_⟩
            have n5_ : Aside0 (KeepBut w w15 g none) := ⟨h5_⟩
            have n6_ : Aside0 (Below w0.heap.size w0 w15) := ⟨h6_⟩
            clear BK145
            clear BK146
            clear HI0
            clear HK
            clear HB
            clear h0_ h1_ h2_ h3_ h4_ h5_ h6_
            have HO149 := n0_
            have HA_HO149 := n1_
            have BK145 := n2_
            have BK146 := n3_
            have HI0 := n4_
            have HK := n5_
            have HB := n6_
            clear n0_ n1_ n2_ n3_ n4_ n5_ n6_
            have hHeld := trivial
            obtain ⟨co16, eo16⟩ := HA_HO149.out
            clear HA_HO149
            subst eo16
            refine norm_ (a' := ?_) ?_ ?_
            rotate_left
            ·
             simp only [putAll, Act.put, sa_, sb_, sc_]
             rfl
            refine three_ (i := 4) (j := 6) (k := 11) (Ni := some 10) (Nj := some 12) (Nk := some 5) #[true, true, true, true, true, true, false, false, false, false, false, false, false] #[true, true, true, true, false, true, true, false, false, false, false, false, false] #[true, true, true, true, false, true, false, false, false, false, false, true, false] rfl rfl rfl rfl rfl rfl (three_of HT_.out (by kernel_rfl)) (by decide) (by decide) (by decide) (fun K hK => ?_) (fun K hK => ?_) (fun K hK => ?_)
            ·
             skip
             (have p152 : 0 ≤ (t150 : Int) := od_; have q152 : t150 < (y147.length : Int) := od_; obtain ⟨ad152, e152, hx152_0⟩ := Kd.at_int (Kd.R_reads' HO149.out).2.2 t150 p152 q152; obtain rfl : adz_v148 = ad152 := (by injection e152))
             refine value_ (w1 := ?_) (v := ?_) (by rfl) rfl ?_ ?_
             rotate_left 2
             ·
              go_simp
              constructor
              ·
               rfl
              ·
               rfl
             clear hx152_0
             refine hK.out _ _ trivial (fun hHeld => ?_)
             clear hK K
             refine norm_ (a' := ?_) ?_ ?_
             rotate_left
             ·
              show Act.put _ (some 10) _ = _
              simp only [Act.put, sa_, sb_, sc_, i64_w, i32_w]
              rfl
             exact norm_ tn_ (hJ0_2_4 (.slice (some adz_v148) y147.length co16, adz_v148) _ ⟨(rR_ HO149.out), ⟨_, rfl⟩, (tk_ BK145.out), (tk_ BK146.out), (by repeat (first | (with_reducible first | exact HI0.out | apply IsS126.alloc | apply IsS126.drewN | apply IsS126.drew | apply IsS126.set_1 | refine IsS126.far ?_ NB0_145.out _ | refine IsS126.far ?_ NB0_146.out _) | exact HI0.out)), (tc_ HK.out), (by repeat (first | (with_reducible first | exact HB.out | apply la_ | apply ln_ | apply ld_ | refine below_set ?_ (IsS126.ge HI0.out) | refine below_set ?_ GE145.out | refine below_set ?_ GE146.out) | exact HB.out))⟩)
            ·
             skip
             refine goes_ Tryd.func101 (by kernel_rfl) rfl #[.pointer (some ⟨g, 0, none⟩), .int .i64 60] (by rfl) rfl rfl tz_ ?_
             with_reducible refine (spec_l20Rd_pick.calls k g s0_0 t151 60 t153 t154 w0 _ ?side1 ?side2 A6.out).mono ?_
             (case side1 => repeat (first | (with_reducible first | exact HI0.out | apply IsS126.alloc | apply IsS126.drewN | apply IsS126.drew | apply IsS126.set_1 | refine IsS126.far ?_ NB0_145.out _ | refine IsS126.far ?_ NB0_146.out _) | exact HI0.out))
             (case side2 => repeat (first | (with_reducible first | exact HB.out | apply la_ | apply ln_ | apply ld_ | refine below_set ?_ (IsS126.ge HI0.out) | refine below_set ?_ GE145.out | refine below_set ?_ GE146.out) | exact HB.out))
             rintro e w17 ⟨rfl, hi, hb, hk⟩
             refine ⟨_, rfl, ?_⟩
             have n0_ := Aside0.mk (KeepBut.blk hk (g' := gb145) (o := .cells #[.slice A1_0 l1_0.length c1_0, .int .i64 a1_1, .slice A1_2 l1_2.length c1_2] 25 (0, 0)) (tk_ BK145.out) NB145_0.out (by simp))
             have n1_ := Aside0.mk (KeepBut.blk hk (g' := gb146) (o := .cells #[.int .i64 0, .int .i64 0, .int .i64 0] 30 (0, 0)) (tk_ BK146.out) NB146_0.out (by simp))
             have n2_ := Aside0.mk (Kd.R_mono (Kd.R_keep (IsS126.apart (show IsS126 w0 _ g s0_0 t151 from by repeat (first | (with_reducible first | exact HI0.out | apply IsS126.alloc | apply IsS126.drewN | apply IsS126.drew | apply IsS126.set_1 | refine IsS126.far ?_ NB0_145.out _ | refine IsS126.far ?_ NB0_146.out _) | exact HI0.out)) (rR_ HO149.out) (by decide)) hk (fun _ h => h.2)) (fun _ h => h.1))
             have n3_ := Aside0.mk (KeepBut.trans (tc_ HK.out) hk (.inl rfl))
             have n4_ := Aside0.mk (hb)
             have n5_ := Aside0.mk (hi)
             clear BK145
             clear BK146
             clear HO149
             clear HK
             clear HB
             clear HI0
             have BK145 := n0_
             have BK146 := n1_
             have HO149 := n2_
             have HK := n3_
             have HB := n4_
             have HI0 := n5_
             clear n0_ n1_ n2_ n3_ n4_ n5_
             (try clear hb)
             (try clear hb2)
             (try clear hk)
             (try clear hi)
             refine hK.out _ _ trivial (fun hHeld => ?_)
             clear hK K
             refine norm_ (a' := ?_) ?_ ?_
             rotate_left
             ·
              show Act.put _ (some 12) _ = _
              simp only [Act.put, sa_, sb_, sc_, i64_w, i32_w]
              rfl
             refine pure_ (i := 7) (N := some 13) (v := ?_) (a' := ?_) #[true, true, true, true, false, true, true, true, false, false, false, false, false] rfl rfl (any_of HT_.out (by kernel_rfl)) (fun _ _ _ h => h) (Or.inl ⟨by rfl, ?_⟩) ?_ ?_
             rotate_left
             ·
              intro w'
              go_simp
              first | with_reducible rfl | (rw [if_neg (by omega)]; done)
             rotate_left
             ·
              simp only [Act.put, sa_, sb_, sc_, i64_w, i32_w]
              rfl
             refine pure_ (i := 8) (N := some 14) (v := ?_) (a' := ?_) #[true, true, true, true, false, true, true, true, true, false, false, false, false] rfl rfl (any_of HT_.out (by kernel_rfl)) (fun _ _ _ h => h) (Or.inl ⟨by rfl, ?_⟩) ?_ ?_
             rotate_left
             ·
              intro w'
              go_simp
              first | with_reducible rfl | (rw [if_neg (by omega)]; done)
             rotate_left
             ·
              simp only [Act.put, sa_, sb_, sc_, i64_w, i32_w]
              rfl
             exact norm_ tn_ (hJ0_2_6 (.slice (some adz_v148) y147.length co16, adz_v148) _ ⟨(rR_ HO149.out), ⟨_, rfl⟩, (tk_ BK145.out), (tk_ BK146.out), (by repeat (first | (with_reducible first | exact HI0.out | apply IsS126.alloc | apply IsS126.drewN | apply IsS126.drew | apply IsS126.set_1 | refine IsS126.far ?_ NB0_145.out _ | refine IsS126.far ?_ NB0_146.out _) | exact HI0.out)), (tc_ HK.out), (by repeat (first | (with_reducible first | exact HB.out | apply la_ | apply ln_ | apply ld_ | refine below_set ?_ (IsS126.ge HI0.out) | refine below_set ?_ GE145.out | refine below_set ?_ GE146.out) | exact HB.out))⟩)
            ·
             skip
             refine box_step ?hg (N := 5) ?hd (cs := #[.int .i64 0, .int .i64 0, .int .i64 0]) (t := 30) ?hr ?_; (case hd => rfl); (case hg => rfl); (case hr => first | (go_simp; done) | (go_simp; rfl))
             intro gb155 hg w17 hbox hb
             have n0_ := Aside0.mk (Kd.R_below (rR_ HO149.out) hb)
             have n1_ := Aside0.mk (IsS126.below (by repeat (first | (with_reducible first | exact HI0.out | apply IsS126.alloc | apply IsS126.drewN | apply IsS126.drew | apply IsS126.set_1 | refine IsS126.far ?_ NB0_145.out _ | refine IsS126.far ?_ NB0_146.out _) | exact HI0.out)) hb)
             have n2_ := Aside0.mk (blk_below (g := gb145) (o := .cells #[.slice A1_0 l1_0.length c1_0, .int .i64 a1_1, .slice A1_2 l1_2.length c1_2] 25 (0, 0)) (tk_ BK145.out) hb)
             have n3_ := Aside0.mk (blk_below (g := gb146) (o := .cells #[.int .i64 0, .int .i64 0, .int .i64 0] 30 (0, 0)) (tk_ BK146.out) hb)
             have n4_ := Aside0.mk (KeepBut.trans (tc_ HK.out) (KeepBut.of_below hb g none) (.inl rfl))
             have n5_ := Aside0.mk (below_step (by repeat (first | (with_reducible first | exact HB.out | apply la_ | apply ln_ | apply ld_ | refine below_set ?_ (IsS126.ge HI0.out) | refine below_set ?_ GE145.out | refine below_set ?_ GE146.out) | exact HB.out)) hb)
             have n6_ := Aside0.mk (hbox)
             have n7_ := Aside0.mk ((by rw [hg]; exact (keep_size (w := w) (g := g) (row := none) (tc_ HK.out)) : w.heap.size ≤ gb155))
             have n8_ := Aside0.mk ((Nat.le_trans HW0.out (by rw [hg]; exact (keep_size (w := w) (g := g) (row := none) (tc_ HK.out)) : w.heap.size ≤ gb155) : w0.heap.size ≤ gb155))
             have n9_ := Aside0.mk ((by rw [hg]; exact Nat.ne_of_lt (blk_lt (g := gb145) (o := .cells #[.slice A1_0 l1_0.length c1_0, .int .i64 a1_1, .slice A1_2 l1_2.length c1_2] 25 (0, 0)) (tk_ BK145.out)) : gb145 ≠ gb155))
             have n10_ := Aside0.mk ((by rw [hg]; exact Nat.ne_of_gt (blk_lt (g := gb145) (o := .cells #[.slice A1_0 l1_0.length c1_0, .int .i64 a1_1, .slice A1_2 l1_2.length c1_2] 25 (0, 0)) (tk_ BK145.out)) : gb155 ≠ gb145))
             have n11_ := Aside0.mk ((by rw [hg]; exact Nat.ne_of_lt (blk_lt (g := gb146) (o := .cells #[.int .i64 0, .int .i64 0, .int .i64 0] 30 (0, 0)) (tk_ BK146.out)) : gb146 ≠ gb155))
             have n12_ := Aside0.mk ((by rw [hg]; exact Nat.ne_of_gt (blk_lt (g := gb146) (o := .cells #[.int .i64 0, .int .i64 0, .int .i64 0] 30 (0, 0)) (tk_ BK146.out)) : gb155 ≠ gb146))
             have n13_ := Aside0.mk ((by rw [hg]; exact Nat.ne_of_lt (IsS126.lt (show IsS126 w0 _ g s0_0 t151 from by repeat (first | (with_reducible first | exact HI0.out | apply IsS126.alloc | apply IsS126.drewN | apply IsS126.drew | apply IsS126.set_1 | refine IsS126.far ?_ NB0_145.out _ | refine IsS126.far ?_ NB0_146.out _) | exact HI0.out))) : g ≠ gb155))
             have n14_ := Aside0.mk ((by rw [hg]; exact Nat.ne_of_gt (IsS126.lt (show IsS126 w0 _ g s0_0 t151 from by repeat (first | (with_reducible first | exact HI0.out | apply IsS126.alloc | apply IsS126.drewN | apply IsS126.drew | apply IsS126.set_1 | refine IsS126.far ?_ NB0_145.out _ | refine IsS126.far ?_ NB0_146.out _) | exact HI0.out))) : gb155 ≠ g))
             clear HO149
             clear HI0
             clear BK145
             clear BK146
             clear HK
             clear HB
             have HO149 := n0_
             have HI0 := n1_
             have BK145 := n2_
             have BK146 := n3_
             have HK := n4_
             have HB := n5_
             have BK155 := n6_
             have GW155 := n7_
             have GE155 := n8_
             have NB145_155 := n9_
             have NB155_145 := n10_
             have NB146_155 := n11_
             have NB155_146 := n12_
             have NB0_155 := n13_
             have NB155_0 := n14_
             clear n0_ n1_ n2_ n3_ n4_ n5_ n6_ n7_ n8_ n9_ n10_ n11_ n12_ n13_ n14_
             clear hb hbox hg
             refine hK.out _ _ trivial (fun hHeld => ?_)
             clear hK K
             refine norm_ (a' := ?_) ?_ ?_
             rotate_left
             ·
              show Act.put _ (some 5) _ = _
              simp only [Act.put, sa_, sb_, sc_, i64_w, i32_w]
              rfl
             exact norm_ tn_ (hJ0_2_11 (.slice (some adz_v148) y147.length co16, adz_v148, gb155) _ ⟨(rR_ HO149.out), ⟨_, rfl⟩, (tk_ BK145.out), (tk_ BK146.out), (tk_ BK155.out), GW155.out, GE155.out, NB0_155.out, NB155_0.out, NB145_155.out, NB155_145.out, NB146_155.out, NB155_146.out, (by repeat (first | (with_reducible first | exact HI0.out | apply IsS126.alloc | apply IsS126.drewN | apply IsS126.drew | apply IsS126.set_1 | refine IsS126.far ?_ NB0_145.out _ | refine IsS126.far ?_ NB0_146.out _ | refine IsS126.far ?_ NB0_155.out _) | exact HI0.out)), (tc_ HK.out), (by repeat (first | (with_reducible first | exact HB.out | apply la_ | apply ln_ | apply ld_ | refine below_set ?_ (IsS126.ge HI0.out) | refine below_set ?_ GE145.out | refine below_set ?_ GE146.out | refine below_set ?_ GE155.out) | exact HB.out))⟩)
          ·
           skip
           rintro gb155 w14 ⟨h0_, h1_, h2_, h3_, h4_, h5_, h6_, h7_, h8_, h9_, h10_, h11_, h12_, h13_⟩
           have n0_ : Aside0 (w14.heap[gb145]? = some (.cells #[.slice A1_0 l1_0.length c1_0, .int .i64 a1_1, .slice A1_2 l1_2.length c1_2] 25 (0, 0))) := ⟨h0_⟩
           have n1_ : Aside0 (w14.heap[gb146]? = some (.cells #[.int .i64 0, .int .i64 0, .int .i64 0] 30 (0, 0))) := ⟨h1_⟩
           have n2_ : Aside0 (w14.heap[gb155]? = some (.cells #[.int .i64 0, .int .i64 0, .int .i64 0] 30 (0, 0))) := ⟨h2_⟩
           have n3_ : Aside0 (w.heap.size ≤ gb155) := ⟨h3_⟩
           have n4_ : Aside0 (w0.heap.size ≤ gb155) := ⟨h4_⟩
           have n5_ : Aside0 (g ≠ gb155) := ⟨h5_⟩
           have n6_ : Aside0 (gb155 ≠ g) := ⟨h6_⟩
           have n7_ : Aside0 (gb145 ≠ gb155) := ⟨h7_⟩
           have n8_ : Aside0 (gb155 ≠ gb145) := ⟨h8_⟩
           have n9_ : Aside0 (gb146 ≠ gb155) := ⟨h9_⟩
           have n10_ : Aside0 (gb155 ≠ gb146) := ⟨h10_⟩
           have n11_ : Aside0 (IsS126 w0 w14 g s0_0 t154) := ⟨h11_⟩
           have n12_ : Aside0 (KeepBut w w14 g none) := ⟨h12_⟩
           have n13_ : Aside0 (Below w0.heap.size w0 w14) := ⟨h13_⟩
           clear BK145
           clear BK146
           clear HI0
           clear HK
           clear HB
           clear h0_ h1_ h2_ h3_ h4_ h5_ h6_ h7_ h8_ h9_ h10_ h11_ h12_ h13_
           have BK145 := n0_
           have BK146 := n1_
           have BK155 := n2_
           have GW155 := n3_
           have GE155 := n4_
           have NB0_155 := n5_
           have NB155_0 := n6_
           have NB145_155 := n7_
           have NB155_145 := n8_
           have NB146_155 := n9_
           have NB155_146 := n10_
           have HI0 := n11_
           have HK := n12_
           have HB := n13_
           clear n0_ n1_ n2_ n3_ n4_ n5_ n6_ n7_ n8_ n9_ n10_ n11_ n12_ n13_
           have hHeld := trivial
           refine norm_ (a' := ?_) ?_ ?_
           rotate_left
           ·
            simp only [putAll, Act.put, sa_, sb_, sc_]
            rfl
           refine one_ (i := 0) (N := some 6) #[true, true, true, false, false, true, true, true, true, false, false, true, false] rfl rfl (one_of HT_.out (by kernel_rfl)) (by decide) (fun K hK => ?_)
           refine Kd.R_lit_step (Kd.int .i64) _ 3 ?hg (N := 6) ?hd (xs := ([0, 1, 2, 2, 2, 2, 3, 4] : List Int)) (inner := [.int .i64 0, .int .i64 1, .int .i64 2, .int .i64 2, .int .i64 2, .int .i64 2, .int .i64 3, .int .i64 4]) (ok := fun _ => True) (okp := fun _ => True) ?hr ?hp (fun _ hk => hk) trivial (Below.refl _ _) (Nat.le_refl _) (by simp) ?_; (case hd => rfl); (case hg => rfl); (case hr => first | (go_simp; done) | (go_simp; rfl)); (case hp => exact (Reps.one (show Kd.M (Kd.int .i64) _ _ _ 0 [.int .i64 0] from rfl) (Reps.one (show Kd.M (Kd.int .i64) _ _ _ 1 [.int .i64 1] from rfl) (Reps.one (show Kd.M (Kd.int .i64) _ _ _ 2 [.int .i64 2] from rfl) (Reps.one (show Kd.M (Kd.int .i64) _ _ _ 2 [.int .i64 2] from rfl) (Reps.one (show Kd.M (Kd.int .i64) _ _ _ 2 [.int .i64 2] from rfl) (Reps.one (show Kd.M (Kd.int .i64) _ _ _ 2 [.int .i64 2] from rfl) (Reps.one (show Kd.M (Kd.int .i64) _ _ _ 3 [.int .i64 3] from rfl) (Reps.one (show Kd.M (Kd.int .i64) _ _ _ 4 [.int .i64 4] from rfl) (Reps.none _ _))))))))))
           intro v148 w15 ho16 hb hg_ hnew_
           clear hg_ hnew_
           (first | rw [← Ny147.out] at ho16 | (simp only [Int.reduceToNat] at ho16; rw [← Ny147.out] at ho16))
           have n0_ := Aside0.mk (Kd.R_lower ho16 (keep_size (w := w) (g := g) (row := none) (tc_ HK.out)))
           have n1_ := Aside0.mk (IsS126.below (by repeat (first | (with_reducible first | exact HI0.out | apply IsS126.alloc | apply IsS126.drewN | apply IsS126.drew | apply IsS126.set_1 | refine IsS126.far ?_ NB0_145.out _ | refine IsS126.far ?_ NB0_146.out _ | refine IsS126.far ?_ NB0_155.out _) | exact HI0.out)) hb)
           have n2_ := Aside0.mk (blk_below (g := gb145) (o := .cells #[.slice A1_0 l1_0.length c1_0, .int .i64 a1_1, .slice A1_2 l1_2.length c1_2] 25 (0, 0)) (tk_ BK145.out) hb)
           have n3_ := Aside0.mk (blk_below (g := gb146) (o := .cells #[.int .i64 0, .int .i64 0, .int .i64 0] 30 (0, 0)) (tk_ BK146.out) hb)
           have n4_ := Aside0.mk (blk_below (g := gb155) (o := .cells #[.int .i64 0, .int .i64 0, .int .i64 0] 30 (0, 0)) (tk_ BK155.out) hb)
           have n5_ := Aside0.mk (KeepBut.trans (tc_ HK.out) (KeepBut.of_below hb g none) (.inl rfl))
           have n6_ := Aside0.mk (below_step (by repeat (first | (with_reducible first | exact HB.out | apply la_ | apply ln_ | apply ld_ | refine below_set ?_ (IsS126.ge HI0.out) | refine below_set ?_ GE145.out | refine below_set ?_ GE146.out | refine below_set ?_ GE155.out) | exact HB.out)) hb)
           clear HI0
           clear BK145
           clear BK146
           clear BK155
           clear HK
           clear HB
           have HO149 := n0_
           have HI0 := n1_
           have BK145 := n2_
           have BK146 := n3_
           have BK155 := n4_
           have HK := n5_
           have HB := n6_
           clear n0_ n1_ n2_ n3_ n4_ n5_ n6_
           clear hb ho16
           obtain ⟨Ao17, co17, eo17⟩ := Kd.R_slice HO149.out
           subst eo17
           obtain ⟨ado17, fo17, _⟩ := Kd.at_int (Kd.R_reads' HO149.out).2.2 0 (by decide) (by rw [Ny147.out]; simp)
           cases fo17
           refine hK.out _ _ trivial (fun hHeld => ?_)
           clear hK K
           refine norm_ (a' := ?_) ?_ ?_
           rotate_left
           ·
            show Act.put _ (some 6) _ = _
            simp only [Act.put, sa_, sb_, sc_, i64_w, i32_w]
            rfl
           refine pure_ (i := 3) (N := some 9) (v := ?_) (a' := ?_) #[true, true, true, true, false, true, true, true, true, false, false, true, false] rfl rfl (any_of HT_.out (by kernel_rfl)) (fun _ _ _ h => h) (Or.inl ⟨by rfl, ?_⟩) ?_ ?_
           rotate_left
           ·
            intro w'
            go_simp
            first | with_reducible rfl | (rw [if_neg (by omega)]; done)
           rotate_left
           ·
            simp only [Act.put, sa_, sb_, sc_, i64_w, i32_w]
            rfl
           exact norm_ tn_ (hJ0_2_6_11 (.slice (some ado17) y147.length co17, ado17, gb155) _ ⟨(rR_ HO149.out), ⟨_, rfl⟩, (tk_ BK145.out), (tk_ BK146.out), (tk_ BK155.out), GW155.out, GE155.out, NB0_155.out, NB155_0.out, NB145_155.out, NB155_145.out, NB146_155.out, NB155_146.out, (by repeat (first | (with_reducible first | exact HI0.out | apply IsS126.alloc | apply IsS126.drewN | apply IsS126.drew | apply IsS126.set_1 | refine IsS126.far ?_ NB0_145.out _ | refine IsS126.far ?_ NB0_146.out _ | refine IsS126.far ?_ NB0_155.out _) | exact HI0.out)), (tc_ HK.out), (by repeat (first | (with_reducible first | exact HB.out | apply la_ | apply ln_ | apply ld_ | refine below_set ?_ (IsS126.ge HI0.out) | refine below_set ?_ GE145.out | refine below_set ?_ GE146.out | refine below_set ?_ GE155.out) | exact HB.out))⟩)
         ·
          skip
          rintro ⟨v148, adz_v148, gb155⟩ w16 ⟨h0_, h1_, h2_, h3_, h4_, h5_, h6_, h7_, h8_, h9_, h10_, h11_, h12_, h13_, h14_, h15_⟩
          have n0_ : Aside0 (Kd.R (Kd.int .i64) 3 w16 w.heap.size (fun _ => True) v148 y147) := ⟨h0_⟩
          have n1_ : Aside0 (∃ c_, (v148 : Value) = .slice (some adz_v148) y147.length c_) := ⟨h1_⟩
          have n2_ : Aside0 (w16.heap[gb145]? = some (.cells #[.slice A1_0 l1_0.length c1_0, .int .i64 a1_1, .slice A1_2 l1_2.length c1_2] 25 (0, 0))) := ⟨h2_⟩
          have n3_ : Aside0 (w16.heap[gb146]? = some (.cells #[.int .i64 0, .int .i64 0, .int .i64 0] 30 (0, 0))) := ⟨h3_⟩
          have n4_ : Aside0 (w16.heap[gb155]? = some (.cells #[.int .i64 0, .int .i64 0, .int .i64 0] 30 (0, 0))) := ⟨h4_⟩
          have n5_ : Aside0 (w.heap.size ≤ gb155) := ⟨h5_⟩
          have n6_ : Aside0 (w0.heap.size ≤ gb155) := ⟨h6_⟩
          have n7_ : Aside0 (g ≠ gb155) := ⟨h7_⟩
          have n8_ : Aside0 (gb155 ≠ g) := ⟨h8_⟩
          have n9_ : Aside0 (gb145 ≠ gb155) := ⟨h9_⟩
          have n10_ : Aside0 (gb155 ≠ gb145) := ⟨h10_⟩
          have n11_ : Aside0 (gb146 ≠ gb155) := ⟨h11_⟩
          have n12_ : Aside0 (gb155 ≠ gb146) := ⟨h12_⟩
          have n13_ : Aside0 (IsS126 w0 w16 g s0_0 t151) := ⟨h13_⟩
          have n14_ : Aside0 (KeepBut w w16 g none) := ⟨h14_⟩
          have n15_ : Aside0 (Below w0.heap.size w0 w16) := ⟨h15_⟩
          clear BK145
          clear BK146
          clear HI0
          clear HK
          clear HB
          clear h0_ h1_ h2_ h3_ h4_ h5_ h6_ h7_ h8_ h9_ h10_ h11_ h12_ h13_ h14_ h15_
          have HO149 := n0_
          have HA_HO149 := n1_
          have BK145 := n2_
          have BK146 := n3_
          have BK155 := n4_
          have GW155 := n5_
          have GE155 := n6_
          have NB0_155 := n7_
          have NB155_0 := n8_
          have NB145_155 := n9_
          have NB155_145 := n10_
          have NB146_155 := n11_
          have NB155_146 := n12_
          have HI0 := n13_
          have HK := n14_
          have HB := n15_
          clear n0_ n1_ n2_ n3_ n4_ n5_ n6_ n7_ n8_ n9_ n10_ n11_ n12_ n13_ n14_ n15_
          have hHeld := trivial
          obtain ⟨co17, eo17⟩ := HA_HO149.out
          clear HA_HO149
          subst eo17
          refine norm_ (a' := ?_) ?_ ?_
          rotate_left
          ·
           simp only [putAll, Act.put, sa_, sb_, sc_]
           rfl
          refine two_ (i := 4) (j := 6) (Ni := some 10) (Nj := some 12) #[true, true, true, true, true, true, false, false, false, false, false, true, false] #[true, true, true, true, false, true, true, false, false, false, false, true, false] rfl rfl rfl rfl (two_of HT_.out (by kernel_rfl)) (by decide) (by decide) (fun K hK => ?_) (fun K hK => ?_)
          ·
           skip
           (have p152 : 0 ≤ (t150 : Int) := od_; have q152 : t150 < (y147.length : Int) := od_; obtain ⟨ad152, e152, hx152_0⟩ := Kd.at_int (Kd.R_reads' HO149.out).2.2 t150 p152 q152; obtain rfl : adz_v148 = ad152 := (by injection e152))
           refine value_ (w1 := ?_) (v := ?_) (by rfl) rfl ?_ ?_
           rotate_left 2
           ·
            go_simp
            constructor
            ·
             rfl
            ·
             rfl
           clear hx152_0
           refine hK.out _ _ trivial (fun hHeld => ?_)
           clear hK K
           refine norm_ (a' := ?_) ?_ ?_
           rotate_left
           ·
            show Act.put _ (some 10) _ = _
            simp only [Act.put, sa_, sb_, sc_, i64_w, i32_w]
            rfl
           exact norm_ tn_ (hJ0_2_4_11 (.slice (some adz_v148) y147.length co17, adz_v148, gb155) _ ⟨(rR_ HO149.out), ⟨_, rfl⟩, (tk_ BK145.out), (tk_ BK146.out), (tk_ BK155.out), GW155.out, GE155.out, NB0_155.out, NB155_0.out, NB145_155.out, NB155_145.out, NB146_155.out, NB155_146.out, (by repeat (first | (with_reducible first | exact HI0.out | apply IsS126.alloc | apply IsS126.drewN | apply IsS126.drew | apply IsS126.set_1 | refine IsS126.far ?_ NB0_145.out _ | refine IsS126.far ?_ NB0_146.out _ | refine IsS126.far ?_ NB0_155.out _) | exact HI0.out)), (tc_ HK.out), (by repeat (first | (with_reducible first | exact HB.out | apply la_ | apply ln_ | apply ld_ | refine below_set ?_ (IsS126.ge HI0.out) | refine below_set ?_ GE145.out | refine below_set ?_ GE146.out | refine below_set ?_ GE155.out) | exact HB.out))⟩)
          ·
           skip
           refine goes_ Tryd.func101 (by kernel_rfl) rfl #[.pointer (some ⟨g, 0, none⟩), .int .i64 60] (by rfl) rfl rfl tz_ ?_
           with_reducible refine (spec_l20Rd_pick.calls k g s0_0 t151 60 t153 t154 w0 _ ?side1 ?side2 A6.out).mono ?_
           (case side1 => repeat (first | (with_reducible first | exact HI0.out | apply IsS126.alloc | apply IsS126.drewN | apply IsS126.drew | apply IsS126.set_1 | refine IsS126.far ?_ NB0_145.out _ | refine IsS126.far ?_ NB0_146.out _ | refine IsS126.far ?_ NB0_155.out _) | exact HI0.out))
           (case side2 => repeat (first | (with_reducible first | exact HB.out | apply la_ | apply ln_ | apply ld_ | refine below_set ?_ (IsS126.ge HI0.out) | refine below_set ?_ GE145.out | refine below_set ?_ GE146.out | refine below_set ?_ GE155.out) | exact HB.out))
           rintro e w18 ⟨rfl, hi, hb, hk⟩
           refine ⟨_, rfl, ?_⟩
           have n0_ := Aside0.mk (KeepBut.blk hk (g' := gb145) (o := .cells #[.slice A1_0 l1_0.length c1_0, .int .i64 a1_1, .slice A1_2 l1_2.length c1_2] 25 (0, 0)) (tk_ BK145.out) NB145_0.out (by simp))
           have n1_ := Aside0.mk (KeepBut.blk hk (g' := gb146) (o := .cells #[.int .i64 0, .int .i64 0, .int .i64 0] 30 (0, 0)) (tk_ BK146.out) NB146_0.out (by simp))
           have n2_ := Aside0.mk (Kd.R_mono (Kd.R_keep (IsS126.apart (show IsS126 w0 _ g s0_0 t151 from by repeat (first | (with_reducible first | exact HI0.out | apply IsS126.alloc | apply IsS126.drewN | apply IsS126.drew | apply IsS126.set_1 | refine IsS126.far ?_ NB0_145.out _ | refine IsS126.far ?_ NB0_146.out _ | refine IsS126.far ?_ NB0_155.out _) | exact HI0.out)) (rR_ HO149.out) (by decide)) hk (fun _ h => h.2)) (fun _ h => h.1))
           have n3_ := Aside0.mk (KeepBut.blk hk (g' := gb155) (o := .cells #[.int .i64 0, .int .i64 0, .int .i64 0] 30 (0, 0)) (tk_ BK155.out) NB155_0.out (by simp))
           have n4_ := Aside0.mk (KeepBut.trans (tc_ HK.out) hk (.inl rfl))
           have n5_ := Aside0.mk (hb)
           have n6_ := Aside0.mk (hi)
           clear BK145
           clear BK146
           clear HO149
           clear BK155
           clear HK
           clear HB
           clear HI0
           have BK145 := n0_
           have BK146 := n1_
           have HO149 := n2_
           have BK155 := n3_
           have HK := n4_
           have HB := n5_
           have HI0 := n6_
           clear n0_ n1_ n2_ n3_ n4_ n5_ n6_
           (try clear hb)
           (try clear hb2)
           (try clear hk)
           (try clear hi)
           refine hK.out _ _ trivial (fun hHeld => ?_)
           clear hK K
           refine norm_ (a' := ?_) ?_ ?_
           rotate_left
           ·
            show Act.put _ (some 12) _ = _
            simp only [Act.put, sa_, sb_, sc_, i64_w, i32_w]
            rfl
           refine pure_ (i := 7) (N := some 13) (v := ?_) (a' := ?_) #[true, true, true, true, false, true, true, true, false, false, false, true, false] rfl rfl (any_of HT_.out (by kernel_rfl)) (fun _ _ _ h => h) (Or.inl ⟨by rfl, ?_⟩) ?_ ?_
           rotate_left
           ·
            intro w'
            go_simp
            first | with_reducible rfl | (rw [if_neg (by omega)]; done)
           rotate_left
           ·
            simp only [Act.put, sa_, sb_, sc_, i64_w, i32_w]
            rfl
           refine pure_ (i := 8) (N := some 14) (v := ?_) (a' := ?_) #[true, true, true, true, false, true, true, true, true, false, false, true, false] rfl rfl (any_of HT_.out (by kernel_rfl)) (fun _ _ _ h => h) (Or.inl ⟨by rfl, ?_⟩) ?_ ?_
           rotate_left
           ·
            intro w'
            go_simp
            first | with_reducible rfl | (rw [if_neg (by omega)]; done)
           rotate_left
           ·
            simp only [Act.put, sa_, sb_, sc_, i64_w, i32_w]
            rfl
           exact norm_ tn_ (hJ0_2_6_11 (.slice (some adz_v148) y147.length co17, adz_v148, gb155) _ ⟨(rR_ HO149.out), ⟨_, rfl⟩, (tk_ BK145.out), (tk_ BK146.out), (tk_ BK155.out), GW155.out, GE155.out, NB0_155.out, NB155_0.out, NB145_155.out, NB155_145.out, NB146_155.out, NB155_146.out, (by repeat (first | (with_reducible first | exact HI0.out | apply IsS126.alloc | apply IsS126.drewN | apply IsS126.drew | apply IsS126.set_1 | refine IsS126.far ?_ NB0_145.out _ | refine IsS126.far ?_ NB0_146.out _ | refine IsS126.far ?_ NB0_155.out _) | exact HI0.out)), (tc_ HK.out), (by repeat (first | (with_reducible first | exact HB.out | apply la_ | apply ln_ | apply ld_ | refine below_set ?_ (IsS126.ge HI0.out) | refine below_set ?_ GE145.out | refine below_set ?_ GE146.out | refine below_set ?_ GE155.out) | exact HB.out))⟩)
        ·
         skip
         rintro ⟨v148, adz_v148⟩ w16 ⟨h0_, h1_, h2_, h3_, h4_, h5_, h6_⟩
         have n0_ : Aside0 (Kd.R (Kd.int .i64) 3 w16 w.heap.size (fun _ => True) v148 y147) := ⟨h0_⟩
         have n1_ : Aside0 (∃ c_, (v148 : Value) = .slice (some adz_v148) y147.length c_) := ⟨h1_⟩
         have n2_ : Aside0 (w16.heap[gb145]? = some (.cells #[.slice A1_0 l1_0.length c1_0, .int .i64 a1_1, .slice A1_2 l1_2.length c1_2] 25 (0, 0))) := ⟨h2_⟩
         have n3_ : Aside0 (w16.heap[gb146]? = some (.cells #[.int .i64 0, .int .i64 0, .int .i64 0] 30 (0, 0))) := ⟨h3_⟩
         have n4_ : Aside0 (IsS126 w0 w16 g s0_0 t154) := ⟨h4_⟩
         have n5_ : Aside0 (KeepBut w w16 g none) := ⟨h5_⟩
         have n6_ : Aside0 (Below w0.heap.size w0 w16) := ⟨h6_⟩
         clear BK145
         clear BK146
         clear HI0
         clear HK
         clear HB
         clear h0_ h1_ h2_ h3_ h4_ h5_ h6_
         have HO149 := n0_
         have HA_HO149 := n1_
         have BK145 := n2_
         have BK146 := n3_
         have HI0 := n4_
         have HK := n5_
         have HB := n6_
         clear n0_ n1_ n2_ n3_ n4_ n5_ n6_
         have hHeld := trivial
         obtain ⟨co17, eo17⟩ := HA_HO149.out
         clear HA_HO149
         subst eo17
         refine norm_ (a' := ?_) ?_ ?_
         rotate_left
         ·
          simp only [putAll, Act.put, sa_, sb_, sc_]
          rfl
         refine two_ (i := 4) (j := 11) (Ni := some 10) (Nj := some 5) #[true, true, true, true, true, true, true, true, true, false, false, false, false] #[true, true, true, true, false, true, true, true, true, false, false, true, false] rfl rfl rfl rfl (two_of HT_.out (by kernel_rfl)) (by decide) (by decide) (fun K hK => ?_) (fun K hK => ?_)
         ·
          skip
          (have p152 : 0 ≤ (t150 : Int) := od_; have q152 : t150 < (y147.length : Int) := od_; obtain ⟨ad152, e152, hx152_0⟩ := Kd.at_int (Kd.R_reads' HO149.out).2.2 t150 p152 q152; obtain rfl : adz_v148 = ad152 := (by injection e152))
          refine value_ (w1 := ?_) (v := ?_) (by rfl) rfl ?_ ?_
          rotate_left 2
          ·
           go_simp
           constructor
           ·
            rfl
           ·
            rfl
          clear hx152_0
          refine hK.out _ _ trivial (fun hHeld => ?_)
          clear hK K
          refine norm_ (a' := ?_) ?_ ?_
          rotate_left
          ·
           show Act.put _ (some 10) _ = _
           simp only [Act.put, sa_, sb_, sc_, i64_w, i32_w]
           rfl
          refine pure_ (i := 9) (N := some 15) (v := ?_) (a' := ?_) #[true, true, true, true, true, true, true, true, true, true, false, false, false] rfl rfl (any_of HT_.out (by kernel_rfl)) (fun _ _ _ h => h) (Or.inl ⟨by rfl, ?_⟩) ?_ ?_
          rotate_left
          ·
           intro w'
           go_simp
           first | with_reducible rfl | (rw [if_neg (by omega)]; done)
          rotate_left
          ·
           simp only [Act.put, sa_, sb_, sc_, i64_w, i32_w]
           rfl
          refine pure_ (i := 10) (N := some 16) (v := ?_) (a' := ?_) #[true, true, true, true, true, true, true, true, true, true, true, false, false] rfl rfl (any_of HT_.out (by kernel_rfl)) (fun _ _ _ h => h) (Or.inl ⟨by rfl, ?_⟩) ?_ ?_
          rotate_left
          ·
           intro w'
           go_simp
           first | with_reducible rfl | (rw [if_neg (by omega)]; done)
          rotate_left
          ·
           simp only [Act.put, sa_, sb_, sc_, i64_w, i32_w]
           rfl
          exact norm_ tn_ (hJ0_2_4_6 (.slice (some adz_v148) y147.length co17, adz_v148) _ ⟨(rR_ HO149.out), ⟨_, rfl⟩, (tk_ BK145.out), (tk_ BK146.out), (by repeat (first | (with_reducible first | exact HI0.out | apply IsS126.alloc | apply IsS126.drewN | apply IsS126.drew | apply IsS126.set_1 | refine IsS126.far ?_ NB0_145.out _ | refine IsS126.far ?_ NB0_146.out _) | exact HI0.out)), (tc_ HK.out), (by repeat (first | (with_reducible first | exact HB.out | apply la_ | apply ln_ | apply ld_ | refine below_set ?_ (IsS126.ge HI0.out) | refine below_set ?_ GE145.out | refine below_set ?_ GE146.out) | exact HB.out))⟩)
         ·
          skip
          refine box_step ?hg (N := 5) ?hd (cs := #[.int .i64 0, .int .i64 0, .int .i64 0]) (t := 30) ?hr ?_; (case hd => rfl); (case hg => rfl); (case hr => first | (go_simp; done) | (go_simp; rfl))
          intro gb155 hg w18 hbox hb
          have n0_ := Aside0.mk (Kd.R_below (rR_ HO149.out) hb)
          have n1_ := Aside0.mk (IsS126.below (by repeat (first | (with_reducible first | exact HI0.out | apply IsS126.alloc | apply IsS126.drewN | apply IsS126.drew | apply IsS126.set_1 | refine IsS126.far ?_ NB0_145.out _ | refine IsS126.far ?_ NB0_146.out _) | exact HI0.out)) hb)
          have n2_ := Aside0.mk (blk_below (g := gb145) (o := .cells #[.slice A1_0 l1_0.length c1_0, .int .i64 a1_1, .slice A1_2 l1_2.length c1_2] 25 (0, 0)) (tk_ BK145.out) hb)
          have n3_ := Aside0.mk (blk_below (g := gb146) (o := .cells #[.int .i64 0, .int .i64 0, .int .i64 0] 30 (0, 0)) (tk_ BK146.out) hb)
          have n4_ := Aside0.mk (KeepBut.trans (tc_ HK.out) (KeepBut.of_below hb g none) (.inl rfl))
          have n5_ := Aside0.mk (below_step (by repeat (first | (with_reducible first | exact HB.out | apply la_ | apply ln_ | apply ld_ | refine below_set ?_ (IsS126.ge HI0.out) | refine below_set ?_ GE145.out | refine below_set ?_ GE146.out) | exact HB.out)) hb)
          have n6_ := Aside0.mk (hbox)
          have n7_ := Aside0.mk ((by rw [hg]; exact (keep_size (w := w) (g := g) (row := none) (tc_ HK.out)) : w.heap.size ≤ gb155))
          have n8_ := Aside0.mk ((Nat.le_trans HW0.out (by rw [hg]; exact (keep_size (w := w) (g := g) (row := none) (tc_ HK.out)) : w.heap.size ≤ gb155) : w0.heap.size ≤ gb155))
          have n9_ := Aside0.mk ((by rw [hg]; exact Nat.ne_of_lt (blk_lt (g := gb145) (o := .cells #[.slice A1_0 l1_0.length c1_0, .int .i64 a1_1, .slice A1_2 l1_2.length c1_2] 25 (0, 0)) (tk_ BK145.out)) : gb145 ≠ gb155))
          have n10_ := Aside0.mk ((by rw [hg]; exact Nat.ne_of_gt (blk_lt (g := gb145) (o := .cells #[.slice A1_0 l1_0.length c1_0, .int .i64 a1_1, .slice A1_2 l1_2.length c1_2] 25 (0, 0)) (tk_ BK145.out)) : gb155 ≠ gb145))
          have n11_ := Aside0.mk ((by rw [hg]; exact Nat.ne_of_lt (blk_lt (g := gb146) (o := .cells #[.int .i64 0, .int .i64 0, .int .i64 0] 30 (0, 0)) (tk_ BK146.out)) : gb146 ≠ gb155))
          have n12_ := Aside0.mk ((by rw [hg]; exact Nat.ne_of_gt (blk_lt (g := gb146) (o := .cells #[.int .i64 0, .int .i64 0, .int .i64 0] 30 (0, 0)) (tk_ BK146.out)) : gb155 ≠ gb146))
          have n13_ := Aside0.mk ((by rw [hg]; exact Nat.ne_of_lt (IsS126.lt (show IsS126 w0 _ g s0_0 t154 from by repeat (first | (with_reducible first | exact HI0.out | apply IsS126.alloc | apply IsS126.drewN | apply IsS126.drew | apply IsS126.set_1 | refine IsS126.far ?_ NB0_145.out _ | refine IsS126.far ?_ NB0_146.out _) | exact HI0.out))) : g ≠ gb155))
          have n14_ := Aside0.mk ((by rw [hg]; exact Nat.ne_of_gt (IsS126.lt (show IsS126 w0 _ g s0_0 t154 from by repeat (first | (with_reducible first | exact HI0.out | apply IsS126.alloc | apply IsS126.drewN | apply IsS126.drew | apply IsS126.set_1 | refine IsS126.far ?_ NB0_145.out _ | refine IsS126.far ?_ NB0_146.out _) | exact HI0.out))) : gb155 ≠ g))
          clear HO149
          clear HI0
          clear BK145
          clear BK146
          clear HK
          clear HB
          have HO149 := n0_
          have HI0 := n1_
          have BK145 := n2_
          have BK146 := n3_
          have HK := n4_
          have HB := n5_
          have BK155 := n6_
          have GW155 := n7_
          have GE155 := n8_
          have NB145_155 := n9_
          have NB155_145 := n10_
          have NB146_155 := n11_
          have NB155_146 := n12_
          have NB0_155 := n13_
          have NB155_0 := n14_
          clear n0_ n1_ n2_ n3_ n4_ n5_ n6_ n7_ n8_ n9_ n10_ n11_ n12_ n13_ n14_
          clear hb hbox hg
          refine hK.out _ _ trivial (fun hHeld => ?_)
          clear hK K
          refine norm_ (a' := ?_) ?_ ?_
          rotate_left
          ·
           show Act.put _ (some 5) _ = _
           simp only [Act.put, sa_, sb_, sc_, i64_w, i32_w]
           rfl
          exact norm_ tn_ (hJ0_2_6_11 (.slice (some adz_v148) y147.length co17, adz_v148, gb155) _ ⟨(rR_ HO149.out), ⟨_, rfl⟩, (tk_ BK145.out), (tk_ BK146.out), (tk_ BK155.out), GW155.out, GE155.out, NB0_155.out, NB155_0.out, NB145_155.out, NB155_145.out, NB146_155.out, NB155_146.out, (by repeat (first | (with_reducible first | exact HI0.out | apply IsS126.alloc | apply IsS126.drewN | apply IsS126.drew | apply IsS126.set_1 | refine IsS126.far ?_ NB0_145.out _ | refine IsS126.far ?_ NB0_146.out _ | refine IsS126.far ?_ NB0_155.out _) | exact HI0.out)), (tc_ HK.out), (by repeat (first | (with_reducible first | exact HB.out | apply la_ | apply ln_ | apply ld_ | refine below_set ?_ (IsS126.ge HI0.out) | refine below_set ?_ GE145.out | refine below_set ?_ GE146.out | refine below_set ?_ GE155.out) | exact HB.out))⟩)
       ·
        skip
        rintro ⟨v148, adz_v148⟩ w15 ⟨h0_, h1_, h2_, h3_, h4_, h5_, h6_⟩
        have n0_ : Aside0 (Kd.R (Kd.int .i64) 3 w15 w.heap.size (fun _ => True) v148 y147) := ⟨h0_⟩
        have n1_ : Aside0 (∃ c_, (v148 : Value) = .slice (some adz_v148) y147.length c_) := ⟨h1_⟩
        have n2_ : Aside0 (w15.heap[gb145]? = some (.cells #[.slice A1_0 l1_0.length c1_0, .int .i64 a1_1, .slice A1_2 l1_2.length c1_2] 25 (0, 0))) := ⟨h2_⟩
        have n3_ : Aside0 (w15.heap[gb146]? = some (.cells #[.int .i64 0, .int .i64 0, .int .i64 0] 30 (0, 0))) := ⟨h3_⟩
        have n4_ : Aside0 (IsS126 w0 w15 g s0_0 t151) := ⟨h4_⟩
        have n5_ : Aside0 (KeepBut w w15 g none) := ⟨h5_⟩
        have n6_ : Aside0 (Below w0.heap.size w0 w15) := ⟨h6_⟩
        clear BK145
        clear BK146
        clear HI0
        clear HK
        clear HB
        clear h0_ h1_ h2_ h3_ h4_ h5_ h6_
        have HO149 := n0_
        have HA_HO149 := n1_
        have BK145 := n2_
        have BK146 := n3_
        have HI0 := n4_
        have HK := n5_
        have HB := n6_
        clear n0_ n1_ n2_ n3_ n4_ n5_ n6_
        have hHeld := trivial
        obtain ⟨co16, eo16⟩ := HA_HO149.out
        clear HA_HO149
        subst eo16
        refine norm_ (a' := ?_) ?_ ?_
        rotate_left
        ·
         simp only [putAll, Act.put, sa_, sb_, sc_]
         rfl
        refine two_ (i := 6) (j := 11) (Ni := some 12) (Nj := some 5) #[true, true, true, true, true, true, true, false, false, false, false, false, false] #[true, true, true, true, true, true, false, false, false, false, false, true, false] rfl rfl rfl rfl (two_of HT_.out (by kernel_rfl)) (by decide) (by decide) (fun K hK => ?_) (fun K hK => ?_)
        ·
         skip
         refine goes_ Tryd.func101 (by kernel_rfl) rfl #[.pointer (some ⟨g, 0, none⟩), .int .i64 60] (by rfl) rfl rfl tz_ ?_
         with_reducible refine (spec_l20Rd_pick.calls k g s0_0 t151 60 t153 t154 w0 _ ?side1 ?side2 A6.out).mono ?_
         (case side1 => repeat (first | (with_reducible first | exact HI0.out | apply IsS126.alloc | apply IsS126.drewN | apply IsS126.drew | apply IsS126.set_1 | refine IsS126.far ?_ NB0_145.out _ | refine IsS126.far ?_ NB0_146.out _) | exact HI0.out))
         (case side2 => repeat (first | (with_reducible first | exact HB.out | apply la_ | apply ln_ | apply ld_ | refine below_set ?_ (IsS126.ge HI0.out) | refine below_set ?_ GE145.out | refine below_set ?_ GE146.out) | exact HB.out))
         rintro e w17 ⟨rfl, hi, hb, hk⟩
         refine ⟨_, rfl, ?_⟩
         have n0_ := Aside0.mk (KeepBut.blk hk (g' := gb145) (o := .cells #[.slice A1_0 l1_0.length c1_0, .int .i64 a1_1, .slice A1_2 l1_2.length c1_2] 25 (0, 0)) (tk_ BK145.out) NB145_0.out (by simp))
         have n1_ := Aside0.mk (KeepBut.blk hk (g' := gb146) (o := .cells #[.int .i64 0, .int .i64 0, .int .i64 0] 30 (0, 0)) (tk_ BK146.out) NB146_0.out (by simp))
         have n2_ := Aside0.mk (Kd.R_mono (Kd.R_keep (IsS126.apart (show IsS126 w0 _ g s0_0 t151 from by repeat (first | (with_reducible first | exact HI0.out | apply IsS126.alloc | apply IsS126.drewN | apply IsS126.drew | apply IsS126.set_1 | refine IsS126.far ?_ NB0_145.out _ | refine IsS126.far ?_ NB0_146.out _) | exact HI0.out)) (rR_ HO149.out) (by decide)) hk (fun _ h => h.2)) (fun _ h => h.1))
         have n3_ := Aside0.mk (KeepBut.trans (tc_ HK.out) hk (.inl rfl))
         have n4_ := Aside0.mk (hb)
         have n5_ := Aside0.mk (hi)
         clear BK145
         clear BK146
         clear HO149
         clear HK
         clear HB
         clear HI0
         have BK145 := n0_
         have BK146 := n1_
         have HO149 := n2_
         have HK := n3_
         have HB := n4_
         have HI0 := n5_
         clear n0_ n1_ n2_ n3_ n4_ n5_
         (try clear hb)
         (try clear hb2)
         (try clear hk)
         (try clear hi)
         refine hK.out _ _ trivial (fun hHeld => ?_)
         clear hK K
         refine norm_ (a' := ?_) ?_ ?_
         rotate_left
         ·
          show Act.put _ (some 12) _ = _
          simp only [Act.put, sa_, sb_, sc_, i64_w, i32_w]
          rfl
         refine pure_ (i := 7) (N := some 13) (v := ?_) (a' := ?_) #[true, true, true, true, true, true, true, true, false, false, false, false, false] rfl rfl (any_of HT_.out (by kernel_rfl)) (fun _ _ _ h => h) (Or.inl ⟨by rfl, ?_⟩) ?_ ?_
         rotate_left
         ·
          intro w'
          go_simp
          first | with_reducible rfl | (rw [if_neg (by omega)]; done)
         rotate_left
         ·
          simp only [Act.put, sa_, sb_, sc_, i64_w, i32_w]
          rfl
         refine pure_ (i := 8) (N := some 14) (v := ?_) (a' := ?_) #[true, true, true, true, true, true, true, true, true, false, false, false, false] rfl rfl (any_of HT_.out (by kernel_rfl)) (fun _ _ _ h => h) (Or.inl ⟨by rfl, ?_⟩) ?_ ?_
         rotate_left
         ·
          intro w'
          go_simp
          first | with_reducible rfl | (rw [if_neg (by omega)]; done)
         rotate_left
         ·
          simp only [Act.put, sa_, sb_, sc_, i64_w, i32_w]
          rfl
         refine pure_ (i := 9) (N := some 15) (v := ?_) (a' := ?_) #[true, true, true, true, true, true, true, true, true, true, false, false, false] rfl rfl (any_of HT_.out (by kernel_rfl)) (fun _ _ _ h => h) (Or.inl ⟨by rfl, ?_⟩) ?_ ?_
         rotate_left
         ·
          intro w'
          go_simp
          first | with_reducible rfl | (rw [if_neg (by omega)]; done)
         rotate_left
         ·
          simp only [Act.put, sa_, sb_, sc_, i64_w, i32_w]
          rfl
         refine pure_ (i := 10) (N := some 16) (v := ?_) (a' := ?_) #[true, true, true, true, true, true, true, true, true, true, true, false, false] rfl rfl (any_of HT_.out (by kernel_rfl)) (fun _ _ _ h => h) (Or.inl ⟨by rfl, ?_⟩) ?_ ?_
         rotate_left
         ·
          intro w'
          go_simp
          first | with_reducible rfl | (rw [if_neg (by omega)]; done)
         rotate_left
         ·
          simp only [Act.put, sa_, sb_, sc_, i64_w, i32_w]
          rfl
         exact norm_ tn_ (hJ0_2_4_6 (.slice (some adz_v148) y147.length co16, adz_v148) _ ⟨(rR_ HO149.out), ⟨_, rfl⟩, (tk_ BK145.out), (tk_ BK146.out), (by repeat (first | (with_reducible first | exact HI0.out | apply IsS126.alloc | apply IsS126.drewN | apply IsS126.drew | apply IsS126.set_1 | refine IsS126.far ?_ NB0_145.out _ | refine IsS126.far ?_ NB0_146.out _) | exact HI0.out)), (tc_ HK.out), (by repeat (first | (with_reducible first | exact HB.out | apply la_ | apply ln_ | apply ld_ | refine below_set ?_ (IsS126.ge HI0.out) | refine below_set ?_ GE145.out | refine below_set ?_ GE146.out) | exact HB.out))⟩)
        ·
         skip
         refine box_step ?hg (N := 5) ?hd (cs := #[.int .i64 0, .int .i64 0, .int .i64 0]) (t := 30) ?hr ?_; (case hd => rfl); (case hg => rfl); (case hr => first | (go_simp; done) | (go_simp; rfl))
         intro gb155 hg w17 hbox hb
         have n0_ := Aside0.mk (Kd.R_below (rR_ HO149.out) hb)
         have n1_ := Aside0.mk (IsS126.below (by repeat (first | (with_reducible first | exact HI0.out | apply IsS126.alloc | apply IsS126.drewN | apply IsS126.drew | apply IsS126.set_1 | refine IsS126.far ?_ NB0_145.out _ | refine IsS126.far ?_ NB0_146.out _) | exact HI0.out)) hb)
         have n2_ := Aside0.mk (blk_below (g := gb145) (o := .cells #[.slice A1_0 l1_0.length c1_0, .int .i64 a1_1, .slice A1_2 l1_2.length c1_2] 25 (0, 0)) (tk_ BK145.out) hb)
         have n3_ := Aside0.mk (blk_below (g := gb146) (o := .cells #[.int .i64 0, .int .i64 0, .int .i64 0] 30 (0, 0)) (tk_ BK146.out) hb)
         have n4_ := Aside0.mk (KeepBut.trans (tc_ HK.out) (KeepBut.of_below hb g none) (.inl rfl))
         have n5_ := Aside0.mk (below_step (by repeat (first | (with_reducible first | exact HB.out | apply la_ | apply ln_ | apply ld_ | refine below_set ?_ (IsS126.ge HI0.out) | refine below_set ?_ GE145.out | refine below_set ?_ GE146.out) | exact HB.out)) hb)
         have n6_ := Aside0.mk (hbox)
         have n7_ := Aside0.mk ((by rw [hg]; exact (keep_size (w := w) (g := g) (row := none) (tc_ HK.out)) : w.heap.size ≤ gb155))
         have n8_ := Aside0.mk ((Nat.le_trans HW0.out (by rw [hg]; exact (keep_size (w := w) (g := g) (row := none) (tc_ HK.out)) : w.heap.size ≤ gb155) : w0.heap.size ≤ gb155))
         have n9_ := Aside0.mk ((by rw [hg]; exact Nat.ne_of_lt (blk_lt (g := gb145) (o := .cells #[.slice A1_0 l1_0.length c1_0, .int .i64 a1_1, .slice A1_2 l1_2.length c1_2] 25 (0, 0)) (tk_ BK145.out)) : gb145 ≠ gb155))
         have n10_ := Aside0.mk ((by rw [hg]; exact Nat.ne_of_gt (blk_lt (g := gb145) (o := .cells #[.slice A1_0 l1_0.length c1_0, .int .i64 a1_1, .slice A1_2 l1_2.length c1_2] 25 (0, 0)) (tk_ BK145.out)) : gb155 ≠ gb145))
         have n11_ := Aside0.mk ((by rw [hg]; exact Nat.ne_of_lt (blk_lt (g := gb146) (o := .cells #[.int .i64 0, .int .i64 0, .int .i64 0] 30 (0, 0)) (tk_ BK146.out)) : gb146 ≠ gb155))
         have n12_ := Aside0.mk ((by rw [hg]; exact Nat.ne_of_gt (blk_lt (g := gb146) (o := .cells #[.int .i64 0, .int .i64 0, .int .i64 0] 30 (0, 0)) (tk_ BK146.out)) : gb155 ≠ gb146))
         have n13_ := Aside0.mk ((by rw [hg]; exact Nat.ne_of_lt (IsS126.lt (show IsS126 w0 _ g s0_0 t151 from by repeat (first | (with_reducible first | exact HI0.out | apply IsS126.alloc | apply IsS126.drewN | apply IsS126.drew | apply IsS126.set_1 | refine IsS126.far ?_ NB0_145.out _ | refine IsS126.far ?_ NB0_146.out _) | exact HI0.out))) : g ≠ gb155))
         have n14_ := Aside0.mk ((by rw [hg]; exact Nat.ne_of_gt (IsS126.lt (show IsS126 w0 _ g s0_0 t151 from by repeat (first | (with_reducible first | exact HI0.out | apply IsS126.alloc | apply IsS126.drewN | apply IsS126.drew | apply IsS126.set_1 | refine IsS126.far ?_ NB0_145.out _ | refine IsS126.far ?_ NB0_146.out _) | exact HI0.out))) : gb155 ≠ g))
         clear HO149
         clear HI0
         clear BK145
         clear BK146
         clear HK
         clear HB
         have HO149 := n0_
         have HI0 := n1_
         have BK145 := n2_
         have BK146 := n3_
         have HK := n4_
         have HB := n5_
         have BK155 := n6_
         have GW155 := n7_
         have GE155 := n8_
         have NB145_155 := n9_
         have NB155_145 := n10_
         have NB146_155 := n11_
         have NB155_146 := n12_
         have NB0_155 := n13_
         have NB155_0 := n14_
         clear n0_ n1_ n2_ n3_ n4_ n5_ n6_ n7_ n8_ n9_ n10_ n11_ n12_ n13_ n14_
         clear hb hbox hg
         refine hK.out _ _ trivial (fun hHeld => ?_)
         clear hK K
         refine norm_ (a' := ?_) ?_ ?_
         rotate_left
         ·
          show Act.put _ (some 5) _ = _
          simp only [Act.put, sa_, sb_, sc_, i64_w, i32_w]
          rfl
         exact norm_ tn_ (hJ0_2_4_11 (.slice (some adz_v148) y147.length co16, adz_v148, gb155) _ ⟨(rR_ HO149.out), ⟨_, rfl⟩, (tk_ BK145.out), (tk_ BK146.out), (tk_ BK155.out), GW155.out, GE155.out, NB0_155.out, NB155_0.out, NB145_155.out, NB155_145.out, NB146_155.out, NB155_146.out, (by repeat (first | (with_reducible first | exact HI0.out | apply IsS126.alloc | apply IsS126.drewN | apply IsS126.drew | apply IsS126.set_1 | refine IsS126.far ?_ NB0_145.out _ | refine IsS126.far ?_ NB0_146.out _ | refine IsS126.far ?_ NB0_155.out _) | exact HI0.out)), (tc_ HK.out), (by repeat (first | (with_reducible first | exact HB.out | apply la_ | apply ln_ | apply ld_ | refine below_set ?_ (IsS126.ge HI0.out) | refine below_set ?_ GE145.out | refine below_set ?_ GE146.out | refine below_set ?_ GE155.out) | exact HB.out))⟩)
      ·
       skip
       rintro ⟨v148, adz_v148, gb155⟩ w17 ⟨h0_, h1_, h2_, h3_, h4_, h5_, h6_, h7_, h8_, h9_, h10_, h11_, h12_, h13_, h14_, h15_⟩
       have n0_ : Aside0 (Kd.R (Kd.int .i64) 3 w17 w.heap.size (fun _ => True) v148 y147) := ⟨h0_⟩
       have n1_ : Aside0 (∃ c_, (v148 : Value) = .slice (some adz_v148) y147.length c_) := ⟨h1_⟩
       have n2_ : Aside0 (w17.heap[gb145]? = some (.cells #[.slice A1_0 l1_0.length c1_0, .int .i64 a1_1, .slice A1_2 l1_2.length c1_2] 25 (0, 0))) := ⟨h2_⟩
       have n3_ : Aside0 (w17.heap[gb146]? = some (.cells #[.int .i64 0, .int .i64 0, .int .i64 0] 30 (0, 0))) := ⟨h3_⟩
       have n4_ : Aside0 (w17.heap[gb155]? = some (.cells #[.int .i64 0, .int .i64 0, .int .i64 0] 30 (0, 0))) := ⟨h4_⟩
       have n5_ : Aside0 (w.heap.size ≤ gb155) := ⟨h5_⟩
       have n6_ : Aside0 (w0.heap.size ≤ gb155) := ⟨h6_⟩
       have n7_ : Aside0 (g ≠ gb155) := ⟨h7_⟩
       have n8_ : Aside0 (gb155 ≠ g) := ⟨h8_⟩
       have n9_ : Aside0 (gb145 ≠ gb155) := ⟨h9_⟩
       have n10_ : Aside0 (gb155 ≠ gb145) := ⟨h10_⟩
       have n11_ : Aside0 (gb146 ≠ gb155) := ⟨h11_⟩
       have n12_ : Aside0 (gb155 ≠ gb146) := ⟨h12_⟩
       have n13_ : Aside0 (IsS126 w0 w17 g s0_0 t154) := ⟨h13_⟩
       have n14_ : Aside0 (KeepBut w w17 g none) := ⟨h14_⟩
       have n15_ : Aside0 (Below w0.heap.size w0 w17) := ⟨h15_⟩
       clear BK145
       clear BK146
       clear HI0
       clear HK
       clear HB
       clear h0_ h1_ h2_ h3_ h4_ h5_ h6_ h7_ h8_ h9_ h10_ h11_ h12_ h13_ h14_ h15_
       have HO149 := n0_
       have HA_HO149 := n1_
       have BK145 := n2_
       have BK146 := n3_
       have BK155 := n4_
       have GW155 := n5_
       have GE155 := n6_
       have NB0_155 := n7_
       have NB155_0 := n8_
       have NB145_155 := n9_
       have NB155_145 := n10_
       have NB146_155 := n11_
       have NB155_146 := n12_
       have HI0 := n13_
       have HK := n14_
       have HB := n15_
       clear n0_ n1_ n2_ n3_ n4_ n5_ n6_ n7_ n8_ n9_ n10_ n11_ n12_ n13_ n14_ n15_
       have hHeld := trivial
       obtain ⟨co18, eo18⟩ := HA_HO149.out
       clear HA_HO149
       subst eo18
       refine norm_ (a' := ?_) ?_ ?_
       rotate_left
       ·
        simp only [putAll, Act.put, sa_, sb_, sc_]
        rfl
       refine one_ (i := 4) (N := some 10) #[true, true, true, true, true, true, true, true, true, false, false, true, false] rfl rfl (one_of HT_.out (by kernel_rfl)) (by decide) (fun K hK => ?_)
       (have p152 : 0 ≤ (t150 : Int) := od_; have q152 : t150 < (y147.length : Int) := od_; obtain ⟨ad152, e152, hx152_0⟩ := Kd.at_int (Kd.R_reads' HO149.out).2.2 t150 p152 q152; obtain rfl : adz_v148 = ad152 := (by injection e152))
       refine value_ (w1 := ?_) (v := ?_) (by rfl) rfl ?_ ?_
       rotate_left 2
       ·
        go_simp
        constructor
        ·
         rfl
        ·
         rfl
       clear hx152_0
       refine hK.out _ _ trivial (fun hHeld => ?_)
       clear hK K
       refine norm_ (a' := ?_) ?_ ?_
       rotate_left
       ·
        show Act.put _ (some 10) _ = _
        simp only [Act.put, sa_, sb_, sc_, i64_w, i32_w]
        rfl
       refine pure_ (i := 9) (N := some 15) (v := ?_) (a' := ?_) #[true, true, true, true, true, true, true, true, true, true, false, true, false] rfl rfl (any_of HT_.out (by kernel_rfl)) (fun _ _ _ h => h) (Or.inl ⟨by rfl, ?_⟩) ?_ ?_
       rotate_left
       ·
        intro w'
        go_simp
        first | with_reducible rfl | (rw [if_neg (by omega)]; done)
       rotate_left
       ·
        simp only [Act.put, sa_, sb_, sc_, i64_w, i32_w]
        rfl
       refine pure_ (i := 10) (N := some 16) (v := ?_) (a' := ?_) #[true, true, true, true, true, true, true, true, true, true, true, true, false] rfl rfl (any_of HT_.out (by kernel_rfl)) (fun _ _ _ h => h) (Or.inl ⟨by rfl, ?_⟩) ?_ ?_
       rotate_left
       ·
        intro w'
        go_simp
        first | with_reducible rfl | (rw [if_neg (by omega)]; done)
       rotate_left
       ·
        simp only [Act.put, sa_, sb_, sc_, i64_w, i32_w]
        rfl
       exact norm_ tn_ (hJ0_2_4_6_11 (.slice (some adz_v148) y147.length co18, adz_v148, gb155) _ ⟨(rR_ HO149.out), ⟨_, rfl⟩, (tk_ BK145.out), (tk_ BK146.out), (tk_ BK155.out), GW155.out, GE155.out, NB0_155.out, NB155_0.out, NB145_155.out, NB155_145.out, NB146_155.out, NB155_146.out, (by repeat (first | (with_reducible first | exact HI0.out | apply IsS126.alloc | apply IsS126.drewN | apply IsS126.drew | apply IsS126.set_1 | refine IsS126.far ?_ NB0_145.out _ | refine IsS126.far ?_ NB0_146.out _ | refine IsS126.far ?_ NB0_155.out _) | exact HI0.out)), (tc_ HK.out), (by repeat (first | (with_reducible first | exact HB.out | apply la_ | apply ln_ | apply ld_ | refine below_set ?_ (IsS126.ge HI0.out) | refine below_set ?_ GE145.out | refine below_set ?_ GE146.out | refine below_set ?_ GE155.out) | exact HB.out))⟩)
     ·
      skip
      rintro ⟨v148, adz_v148, gb155⟩ w16 ⟨h0_, h1_, h2_, h3_, h4_, h5_, h6_, h7_, h8_, h9_, h10_, h11_, h12_, h13_, h14_, h15_⟩
      have n0_ : Aside0 (Kd.R (Kd.int .i64) 3 w16 w.heap.size (fun _ => True) v148 y147) := ⟨h0_⟩
      have n1_ : Aside0 (∃ c_, (v148 : Value) = .slice (some adz_v148) y147.length c_) := ⟨h1_⟩
      have n2_ : Aside0 (w16.heap[gb145]? = some (.cells #[.slice A1_0 l1_0.length c1_0, .int .i64 a1_1, .slice A1_2 l1_2.length c1_2] 25 (0, 0))) := ⟨h2_⟩
      have n3_ : Aside0 (w16.heap[gb146]? = some (.cells #[.int .i64 0, .int .i64 0, .int .i64 0] 30 (0, 0))) := ⟨h3_⟩
      have n4_ : Aside0 (w16.heap[gb155]? = some (.cells #[.int .i64 0, .int .i64 0, .int .i64 0] 30 (0, 0))) := ⟨h4_⟩
      have n5_ : Aside0 (w.heap.size ≤ gb155) := ⟨h5_⟩
      have n6_ : Aside0 (w0.heap.size ≤ gb155) := ⟨h6_⟩
      have n7_ : Aside0 (g ≠ gb155) := ⟨h7_⟩
      have n8_ : Aside0 (gb155 ≠ g) := ⟨h8_⟩
      have n9_ : Aside0 (gb145 ≠ gb155) := ⟨h9_⟩
      have n10_ : Aside0 (gb155 ≠ gb145) := ⟨h10_⟩
      have n11_ : Aside0 (gb146 ≠ gb155) := ⟨h11_⟩
      have n12_ : Aside0 (gb155 ≠ gb146) := ⟨h12_⟩
      have n13_ : Aside0 (IsS126 w0 w16 g s0_0 t151) := ⟨h13_⟩
      have n14_ : Aside0 (KeepBut w w16 g none) := ⟨h14_⟩
      have n15_ : Aside0 (Below w0.heap.size w0 w16) := ⟨h15_⟩
      clear BK145
      clear BK146
      clear HI0
      clear HK
      clear HB
      clear h0_ h1_ h2_ h3_ h4_ h5_ h6_ h7_ h8_ h9_ h10_ h11_ h12_ h13_ h14_ h15_
      have HO149 := n0_
      have HA_HO149 := n1_
      have BK145 := n2_
      have BK146 := n3_
      have BK155 := n4_
      have GW155 := n5_
      have GE155 := n6_
      have NB0_155 := n7_
      have NB155_0 := n8_
      have NB145_155 := n9_
      have NB155_145 := n10_
      have NB146_155 := n11_
      have NB155_146 := n12_
      have HI0 := n13_
      have HK := n14_
      have HB := n15_
      clear n0_ n1_ n2_ n3_ n4_ n5_ n6_ n7_ n8_ n9_ n10_ n11_ n12_ n13_ n14_ n15_
      have hHeld := trivial
      obtain ⟨co17, eo17⟩ := HA_HO149.out
      clear HA_HO149
      subst eo17
      refine norm_ (a' := ?_) ?_ ?_
      rotate_left
      ·
       simp only [putAll, Act.put, sa_, sb_, sc_]
       rfl
      refine one_ (i := 6) (N := some 12) #[true, true, true, true, true, true, true, false, false, false, false, true, false] rfl rfl (one_of HT_.out (by kernel_rfl)) (by decide) (fun K hK => ?_)
      refine goes_ Tryd.func101 (by kernel_rfl) rfl #[.pointer (some ⟨g, 0, none⟩), .int .i64 60] (by rfl) rfl rfl tz_ ?_
      with_reducible refine (spec_l20Rd_pick.calls k g s0_0 t151 60 t153 t154 w0 _ ?side1 ?side2 A6.out).mono ?_
      (case side1 => repeat (first | (with_reducible first | exact HI0.out | apply IsS126.alloc | apply IsS126.drewN | apply IsS126.drew | apply IsS126.set_1 | refine IsS126.far ?_ NB0_145.out _ | refine IsS126.far ?_ NB0_146.out _ | refine IsS126.far ?_ NB0_155.out _) | exact HI0.out))
      (case side2 => repeat (first | (with_reducible first | exact HB.out | apply la_ | apply ln_ | apply ld_ | refine below_set ?_ (IsS126.ge HI0.out) | refine below_set ?_ GE145.out | refine below_set ?_ GE146.out | refine below_set ?_ GE155.out) | exact HB.out))
      rintro e w18 ⟨rfl, hi, hb, hk⟩
      refine ⟨_, rfl, ?_⟩
      have n0_ := Aside0.mk (KeepBut.blk hk (g' := gb145) (o := .cells #[.slice A1_0 l1_0.length c1_0, .int .i64 a1_1, .slice A1_2 l1_2.length c1_2] 25 (0, 0)) (tk_ BK145.out) NB145_0.out (by simp))
      have n1_ := Aside0.mk (KeepBut.blk hk (g' := gb146) (o := .cells #[.int .i64 0, .int .i64 0, .int .i64 0] 30 (0, 0)) (tk_ BK146.out) NB146_0.out (by simp))
      have n2_ := Aside0.mk (Kd.R_mono (Kd.R_keep (IsS126.apart (show IsS126 w0 _ g s0_0 t151 from by repeat (first | (with_reducible first | exact HI0.out | apply IsS126.alloc | apply IsS126.drewN | apply IsS126.drew | apply IsS126.set_1 | refine IsS126.far ?_ NB0_145.out _ | refine IsS126.far ?_ NB0_146.out _ | refine IsS126.far ?_ NB0_155.out _) | exact HI0.out)) (rR_ HO149.out) (by decide)) hk (fun _ h => h.2)) (fun _ h => h.1))
      have n3_ := Aside0.mk (KeepBut.blk hk (g' := gb155) (o := .cells #[.int .i64 0, .int .i64 0, .int .i64 0] 30 (0, 0)) (tk_ BK155.out) NB155_0.out (by simp))
      have n4_ := Aside0.mk (KeepBut.trans (tc_ HK.out) hk (.inl rfl))
      have n5_ := Aside0.mk (hb)
      have n6_ := Aside0.mk (hi)
      clear BK145
      clear BK146
      clear HO149
      clear BK155
      clear HK
      clear HB
      clear HI0
      have BK145 := n0_
      have BK146 := n1_
      have HO149 := n2_
      have BK155 := n3_
      have HK := n4_
      have HB := n5_
      have HI0 := n6_
      clear n0_ n1_ n2_ n3_ n4_ n5_ n6_
      (try clear hb)
      (try clear hb2)
      (try clear hk)
      (try clear hi)
      refine hK.out _ _ trivial (fun hHeld => ?_)
      clear hK K
      refine norm_ (a' := ?_) ?_ ?_
      rotate_left
      ·
       show Act.put _ (some 12) _ = _
       simp only [Act.put, sa_, sb_, sc_, i64_w, i32_w]
       rfl
      refine pure_ (i := 7) (N := some 13) (v := ?_) (a' := ?_) #[true, true, true, true, true, true, true, true, false, false, false, true, false] rfl rfl (any_of HT_.out (by kernel_rfl)) (fun _ _ _ h => h) (Or.inl ⟨by rfl, ?_⟩) ?_ ?_
      rotate_left
      ·
       intro w'
       go_simp
       first | with_reducible rfl | (rw [if_neg (by omega)]; done)
      rotate_left
      ·
       simp only [Act.put, sa_, sb_, sc_, i64_w, i32_w]
       rfl
      refine pure_ (i := 8) (N := some 14) (v := ?_) (a' := ?_) #[true, true, true, true, true, true, true, true, true, false, false, true, false] rfl rfl (any_of HT_.out (by kernel_rfl)) (fun _ _ _ h => h) (Or.inl ⟨by rfl, ?_⟩) ?_ ?_
      rotate_left
      ·
       intro w'
       go_simp
       first | with_reducible rfl | (rw [if_neg (by omega)]; done)
      rotate_left
      ·
       simp only [Act.put, sa_, sb_, sc_, i64_w, i32_w]
       rfl
      refine pure_ (i := 9) (N := some 15) (v := ?_) (a' := ?_) #[true, true, true, true, true, true, true, true, true, true, false, true, false] rfl rfl (any_of HT_.out (by kernel_rfl)) (fun _ _ _ h => h) (Or.inl ⟨by rfl, ?_⟩) ?_ ?_
      rotate_left
      ·
       intro w'
       go_simp
       first | with_reducible rfl | (rw [if_neg (by omega)]; done)
      rotate_left
      ·
       simp only [Act.put, sa_, sb_, sc_, i64_w, i32_w]
       rfl
      refine pure_ (i := 10) (N := some 16) (v := ?_) (a' := ?_) #[true, true, true, true, true, true, true, true, true, true, true, true, false] rfl rfl (any_of HT_.out (by kernel_rfl)) (fun _ _ _ h => h) (Or.inl ⟨by rfl, ?_⟩) ?_ ?_
      rotate_left
      ·
       intro w'
       go_simp
       first | with_reducible rfl | (rw [if_neg (by omega)]; done)
      rotate_left
      ·
       simp only [Act.put, sa_, sb_, sc_, i64_w, i32_w]
       rfl
      exact norm_ tn_ (hJ0_2_4_6_11 (.slice (some adz_v148) y147.length co17, adz_v148, gb155) _ ⟨(rR_ HO149.out), ⟨_, rfl⟩, (tk_ BK145.out), (tk_ BK146.out), (tk_ BK155.out), GW155.out, GE155.out, NB0_155.out, NB155_0.out, NB145_155.out, NB155_145.out, NB146_155.out, NB155_146.out, (by repeat (first | (with_reducible first | exact HI0.out | apply IsS126.alloc | apply IsS126.drewN | apply IsS126.drew | apply IsS126.set_1 | refine IsS126.far ?_ NB0_145.out _ | refine IsS126.far ?_ NB0_146.out _ | refine IsS126.far ?_ NB0_155.out _) | exact HI0.out)), (tc_ HK.out), (by repeat (first | (with_reducible first | exact HB.out | apply la_ | apply ln_ | apply ld_ | refine below_set ?_ (IsS126.ge HI0.out) | refine below_set ?_ GE145.out | refine below_set ?_ GE146.out | refine below_set ?_ GE155.out) | exact HB.out))⟩)
    ·
     skip
     rintro ⟨v148, adz_v148⟩ w16 ⟨h0_, h1_, h2_, h3_, h4_, h5_, h6_⟩
     have n0_ : Aside0 (Kd.R (Kd.int .i64) 3 w16 w.heap.size (fun _ => True) v148 y147) := ⟨h0_⟩
     have n1_ : Aside0 (∃ c_, (v148 : Value) = .slice (some adz_v148) y147.length c_) := ⟨h1_⟩
     have n2_ : Aside0 (w16.heap[gb145]? = some (.cells #[.slice A1_0 l1_0.length c1_0, .int .i64 a1_1, .slice A1_2 l1_2.length c1_2] 25 (0, 0))) := ⟨h2_⟩
     have n3_ : Aside0 (w16.heap[gb146]? = some (.cells #[.int .i64 0, .int .i64 0, .int .i64 0] 30 (0, 0))) := ⟨h3_⟩
     have n4_ : Aside0 (IsS126 w0 w16 g s0_0 t154) := ⟨h4_⟩
     have n5_ : Aside0 (KeepBut w w16 g none) := ⟨h5_⟩
     have n6_ : Aside0 (Below w0.heap.size w0 w16) := ⟨h6_⟩
     clear BK145
     clear BK146
     clear HI0
     clear HK
     clear HB
     clear h0_ h1_ h2_ h3_ h4_ h5_ h6_
     have HO149 := n0_
     have HA_HO149 := n1_
     have BK145 := n2_
     have BK146 := n3_
     have HI0 := n4_
     have HK := n5_
     have HB := n6_
     clear n0_ n1_ n2_ n3_ n4_ n5_ n6_
     have hHeld := trivial
     obtain ⟨co17, eo17⟩ := HA_HO149.out
     clear HA_HO149
     subst eo17
     refine norm_ (a' := ?_) ?_ ?_
     rotate_left
     ·
      simp only [putAll, Act.put, sa_, sb_, sc_]
      rfl
     refine one_ (i := 11) (N := some 5) #[true, true, true, true, true, true, true, true, true, true, true, true, false] rfl rfl (one_of HT_.out (by kernel_rfl)) (by decide) (fun K hK => ?_)
     refine box_step ?hg (N := 5) ?hd (cs := #[.int .i64 0, .int .i64 0, .int .i64 0]) (t := 30) ?hr ?_; (case hd => rfl); (case hg => rfl); (case hr => first | (go_simp; done) | (go_simp; rfl))
     intro gb155 hg w18 hbox hb
     have n0_ := Aside0.mk (Kd.R_below (rR_ HO149.out) hb)
     have n1_ := Aside0.mk (IsS126.below (by repeat (first | (with_reducible first | exact HI0.out | apply IsS126.alloc | apply IsS126.drewN | apply IsS126.drew | apply IsS126.set_1 | refine IsS126.far ?_ NB0_145.out _ | refine IsS126.far ?_ NB0_146.out _) | exact HI0.out)) hb)
     have n2_ := Aside0.mk (blk_below (g := gb145) (o := .cells #[.slice A1_0 l1_0.length c1_0, .int .i64 a1_1, .slice A1_2 l1_2.length c1_2] 25 (0, 0)) (tk_ BK145.out) hb)
     have n3_ := Aside0.mk (blk_below (g := gb146) (o := .cells #[.int .i64 0, .int .i64 0, .int .i64 0] 30 (0, 0)) (tk_ BK146.out) hb)
     have n4_ := Aside0.mk (KeepBut.trans (tc_ HK.out) (KeepBut.of_below hb g none) (.inl rfl))
     have n5_ := Aside0.mk (below_step (by repeat (first | (with_reducible first | exact HB.out | apply la_ | apply ln_ | apply ld_ | refine below_set ?_ (IsS126.ge HI0.out) | refine below_set ?_ GE145.out | refine below_set ?_ GE146.out) | exact HB.out)) hb)
     have n6_ := Aside0.mk (hbox)
     have n7_ := Aside0.mk ((by rw [hg]; exact (keep_size (w := w) (g := g) (row := none) (tc_ HK.out)) : w.heap.size ≤ gb155))
     have n8_ := Aside0.mk ((Nat.le_trans HW0.out (by rw [hg]; exact (keep_size (w := w) (g := g) (row := none) (tc_ HK.out)) : w.heap.size ≤ gb155) : w0.heap.size ≤ gb155))
     have n9_ := Aside0.mk ((by rw [hg]; exact Nat.ne_of_lt (blk_lt (g := gb145) (o := .cells #[.slice A1_0 l1_0.length c1_0, .int .i64 a1_1, .slice A1_2 l1_2.length c1_2] 25 (0, 0)) (tk_ BK145.out)) : gb145 ≠ gb155))
     have n10_ := Aside0.mk ((by rw [hg]; exact Nat.ne_of_gt (blk_lt (g := gb145) (o := .cells #[.slice A1_0 l1_0.length c1_0, .int .i64 a1_1, .slice A1_2 l1_2.length c1_2] 25 (0, 0)) (tk_ BK145.out)) : gb155 ≠ gb145))
     have n11_ := Aside0.mk ((by rw [hg]; exact Nat.ne_of_lt (blk_lt (g := gb146) (o := .cells #[.int .i64 0, .int .i64 0, .int .i64 0] 30 (0, 0)) (tk_ BK146.out)) : gb146 ≠ gb155))
     have n12_ := Aside0.mk ((by rw [hg]; exact Nat.ne_of_gt (blk_lt (g := gb146) (o := .cells #[.int .i64 0, .int .i64 0, .int .i64 0] 30 (0, 0)) (tk_ BK146.out)) : gb155 ≠ gb146))
     have n13_ := Aside0.mk ((by rw [hg]; exact Nat.ne_of_lt (IsS126.lt (show IsS126 w0 _ g s0_0 t154 from by repeat (first | (with_reducible first | exact HI0.out | apply IsS126.alloc | apply IsS126.drewN | apply IsS126.drew | apply IsS126.set_1 | refine IsS126.far ?_ NB0_145.out _ | refine IsS126.far ?_ NB0_146.out _) | exact HI0.out))) : g ≠ gb155))
     have n14_ := Aside0.mk ((by rw [hg]; exact Nat.ne_of_gt (IsS126.lt (show IsS126 w0 _ g s0_0 t154 from by repeat (first | (with_reducible first | exact HI0.out | apply IsS126.alloc | apply IsS126.drewN | apply IsS126.drew | apply IsS126.set_1 | refine IsS126.far ?_ NB0_145.out _ | refine IsS126.far ?_ NB0_146.out _) | exact HI0.out))) : gb155 ≠ g))
     clear HO149
     clear HI0
     clear BK145
     clear BK146
     clear HK
     clear HB
     have HO149 := n0_
     have HI0 := n1_
     have BK145 := n2_
     have BK146 := n3_
     have HK := n4_
     have HB := n5_
     have BK155 := n6_
     have GW155 := n7_
     have GE155 := n8_
     have NB145_155 := n9_
     have NB155_145 := n10_
     have NB146_155 := n11_
     have NB155_146 := n12_
     have NB0_155 := n13_
     have NB155_0 := n14_
     clear n0_ n1_ n2_ n3_ n4_ n5_ n6_ n7_ n8_ n9_ n10_ n11_ n12_ n13_ n14_
     clear hb hbox hg
     refine hK.out _ _ trivial (fun hHeld => ?_)
     clear hK K
     refine norm_ (a' := ?_) ?_ ?_
     rotate_left
     ·
      show Act.put _ (some 5) _ = _
      simp only [Act.put, sa_, sb_, sc_, i64_w, i32_w]
      rfl
     exact norm_ tn_ (hJ0_2_4_6_11 (.slice (some adz_v148) y147.length co17, adz_v148, gb155) _ ⟨(rR_ HO149.out), ⟨_, rfl⟩, (tk_ BK145.out), (tk_ BK146.out), (tk_ BK155.out), GW155.out, GE155.out, NB0_155.out, NB155_0.out, NB145_155.out, NB155_145.out, NB146_155.out, NB155_146.out, (by repeat (first | (with_reducible first | exact HI0.out | apply IsS126.alloc | apply IsS126.drewN | apply IsS126.drew | apply IsS126.set_1 | refine IsS126.far ?_ NB0_145.out _ | refine IsS126.far ?_ NB0_146.out _ | refine IsS126.far ?_ NB0_155.out _) | exact HI0.out)), (tc_ HK.out), (by repeat (first | (with_reducible first | exact HB.out | apply la_ | apply ln_ | apply ld_ | refine below_set ?_ (IsS126.ge HI0.out) | refine below_set ?_ GE145.out | refine below_set ?_ GE146.out | refine below_set ?_ GE155.out) | exact HB.out))⟩)
   rintro ⟨v148, adz_v148, gb155⟩ w17 ⟨h0_, h1_, h2_, h3_, h4_, h5_, h6_, h7_, h8_, h9_, h10_, h11_, h12_, h13_, h14_, h15_⟩
   have n0_ : Aside0 (Kd.R (Kd.int .i64) 3 w17 w.heap.size (fun _ => True) v148 y147) := ⟨h0_⟩
   have n1_ : Aside0 (∃ c_, (v148 : Value) = .slice (some adz_v148) y147.length c_) := ⟨h1_⟩
   have n2_ : Aside0 (w17.heap[gb145]? = some (.cells #[.slice A1_0 l1_0.length c1_0, .int .i64 a1_1, .slice A1_2 l1_2.length c1_2] 25 (0, 0))) := ⟨h2_⟩
   have n3_ : Aside0 (w17.heap[gb146]? = some (.cells #[.int .i64 0, .int .i64 0, .int .i64 0] 30 (0, 0))) := ⟨h3_⟩
   have n4_ : Aside0 (w17.heap[gb155]? = some (.cells #[.int .i64 0, .int .i64 0, .int .i64 0] 30 (0, 0))) := ⟨h4_⟩
   have n5_ : Aside0 (w.heap.size ≤ gb155) := ⟨h5_⟩
   have n6_ : Aside0 (w0.heap.size ≤ gb155) := ⟨h6_⟩
   have n7_ : Aside0 (g ≠ gb155) := ⟨h7_⟩
   have n8_ : Aside0 (gb155 ≠ g) := ⟨h8_⟩
   have n9_ : Aside0 (gb145 ≠ gb155) := ⟨h9_⟩
   have n10_ : Aside0 (gb155 ≠ gb145) := ⟨h10_⟩
   have n11_ : Aside0 (gb146 ≠ gb155) := ⟨h11_⟩
   have n12_ : Aside0 (gb155 ≠ gb146) := ⟨h12_⟩
   have n13_ : Aside0 (IsS126 w0 w17 g s0_0 t154) := ⟨h13_⟩
   have n14_ : Aside0 (KeepBut w w17 g none) := ⟨h14_⟩
   have n15_ : Aside0 (Below w0.heap.size w0 w17) := ⟨h15_⟩
   clear BK145
   clear BK146
   clear HI0
   clear HK
   clear HB
   clear h0_ h1_ h2_ h3_ h4_ h5_ h6_ h7_ h8_ h9_ h10_ h11_ h12_ h13_ h14_ h15_
   have HO149 := n0_
   have HA_HO149 := n1_
   have BK145 := n2_
   have BK146 := n3_
   have BK155 := n4_
   have GW155 := n5_
   have GE155 := n6_
   have NB0_155 := n7_
   have NB155_0 := n8_
   have NB145_155 := n9_
   have NB155_145 := n10_
   have NB146_155 := n11_
   have NB155_146 := n12_
   have HI0 := n13_
   have HK := n14_
   have HB := n15_
   clear n0_ n1_ n2_ n3_ n4_ n5_ n6_ n7_ n8_ n9_ n10_ n11_ n12_ n13_ n14_ n15_
   have hHeld := trivial
   obtain ⟨co18, eo18⟩ := HA_HO149.out
   clear HA_HO149
   subst eo18
   refine norm_ (a' := ?_) ?_ ?_
   rotate_left
   ·
    simp only [putAll, Act.put, sa_, sb_, sc_]
    rfl
   refine one_ (i := 12) (N := none) #[true, true, true, true, true, true, true, true, true, true, true, true, true] rfl rfl (one_of HT_.out (by kernel_rfl)) (by decide) (fun K hK => ?_)
   have hs19 : w17.cell? ⟨gb155, 0, none⟩ = some (.int .i64 0) := (blk_cell BK155.out 0).trans rfl
   have hfs19 := blk_frozen BK155.out 0
   have hns19_0 := NB145_155.out
   have hns19_1 := NB146_155.out
   have hms19_0 := NB155_145.out
   have hms19_1 := NB155_146.out
   have hs20 : w17.cell? ⟨gb155, 1, none⟩ = some (.int .i64 0) := (blk_cell BK155.out 1).trans rfl
   have hfs20 := blk_frozen BK155.out 1
   have hns20_0 := NB145_155.out
   have hns20_1 := NB146_155.out
   have hms20_0 := NB155_145.out
   have hms20_1 := NB155_146.out
   have hs21 : w17.cell? ⟨gb155, 2, none⟩ = some (.int .i64 0) := (blk_cell BK155.out 2).trans rfl
   have hfs21 := blk_frozen BK155.out 2
   have hns21_0 := NB145_155.out
   have hns21_1 := NB146_155.out
   have hms21_0 := NB155_145.out
   have hms21_1 := NB155_146.out
   refine skip_ (w1 := ?_) (by rfl) rfl ?_ ?_
   rotate_left
   ·
    go_simp
    rfl
   refine hK.out _ _ trivial (fun hHeld => ?_)
   clear hK K
   refine done_ (done_of HT_.out (by kernel_rfl)) ?_
   have hnb22 := NB155_145.out
   have hnc22 := NB145_155.out
   have hnb23 := NB155_146.out
   have hnc23 := NB146_155.out
   have hnb24 := NB155_0.out
   have hnc24 := NB0_155.out
   have hcz25_0 : w17.cell? ⟨gb155, 0, none⟩ = some (.int .i64 0) := (blk_cell BK155.out 0).trans rfl
   have hcz25_1 : w17.cell? ⟨gb155, 1, none⟩ = some (.int .i64 0) := (blk_cell BK155.out 1).trans rfl
   have hcz25_2 : w17.cell? ⟨gb155, 2, none⟩ = some (.int .i64 0) := (blk_cell BK155.out 2).trans rfl
   have hfz25_0 := blk_frozen BK155.out 0
   have hfz25_1 := blk_frozen BK155.out 1
   have hfz25_2 := blk_frozen BK155.out 2
   go_upto_block 0 with (fail)
   go_cut [] (fun wc => ∃ (kq : Nat) (x1001_6 : Int) (x156001_6 : Int) (x156002_6 : Int), Aside0 (spec_l20Deed.j0 kq s0_0 x1001_6 (wrap64 ((rd y147 t150) + (wrap64 ((wrap64 (Int.tdiv t153 59)) * 5)))) x156001_6 x156002_6 = some (r1, r2, r3, r4)) ∧ Aside0 (kq ≤ k) ∧ Aside0 (wc.heap[gb145]? = some (.cells #[(.slice A1_0 l1_0.length c1_0), .int .i64 a1_1, (.slice A1_2 l1_2.length c1_2)] 25 (0, 0))) ∧ Aside0 (wc.heap[gb146]? = some (.cells #[.int .i64 0, .int .i64 0, .int .i64 0] 30 (0, 0))) ∧ Aside0 (wc.heap[gb155]? = some (.cells #[.int .i64 (wrap64 ((rd y147 t150) + (wrap64 ((wrap64 (Int.tdiv t153 59)) * 5)))), .int .i64 x156001_6, .int .i64 x156002_6] 30 (0, 0))) ∧ Aside0 (IsS126 w0 wc g s0_0 x1001_6) ∧ Aside0 (KeepBut w wc g none) ∧ Aside0 (Below w0.heap.size w0 wc))
   case first =>
    have H := HC7.out
    clear HC7
    by_cases c26 : (wrap64 ((rd y147 t150) + (wrap64 ((wrap64 (Int.tdiv t153 59)) * 5)))) = 0
    ·
     rw [if_pos c26] at H
     have c26b0 : ((wrap64 ((rd y147 t150) + (wrap64 ((wrap64 (Int.tdiv t153 59)) * 5)))) == 0) = true := beq_iff_eq.mpr c26
     have c26b1 : ((wrap64 ((rd y147 t150) + (wrap64 ((wrap64 (Int.tdiv t153 59)) * 5)))) != 0) = false := bne_eq_false_iff_eq.mpr c26
     clear c26
     (first | rw [c26b0] | (simp only [i64_w, i32_w]; rw [c26b0]) | skip)
     obtain ⟨ji27, hji27⟩ : ∃ j_ : Int, (mx (l1_0.length : Int) 1) = j_ := ⟨_, rfl⟩
     replace H : ((spec_l20Rd_pick.f k s0_0 t154 (ji27)).bind fun bt156 => ((spec_l20Rd_pick.f k s0_0 bt156.2 7).bind fun bt158 => (spec_l20Deed.j0 k s0_0 bt158.2 (wrap64 ((rd y147 t150) + (wrap64 ((wrap64 (Int.tdiv t153 59)) * 5)))) bt156.1 (wrap64 (bt158.1 - 3))))) = some (r1, r2, r3, r4) := by first | (rw [hji27] at H; exact H) | (simp only [hji27] at H ⊢; exact H)
     (try (have hji27l : 1 ≤ ji27 := by (rw [← hji27]; unfold mx; (repeat' split) <;> omega)))
     (try (have hji27m : 0 ≤ ji27 := by omega))
     have hji27_ : (if (l1_0.length : Int) < 1 then 1 else (l1_0.length : Int)) = ji27 := hji27
     replace H := Option.bind_eq_some_iff.mp H
     obtain ⟨⟨t156, t157⟩, A280, H⟩ := H
     replace H : ((spec_l20Rd_pick.f k s0_0 t157 7).bind fun bt158 => (spec_l20Deed.j0 k s0_0 bt158.2 (wrap64 ((rd y147 t150) + (wrap64 ((wrap64 (Int.tdiv t153 59)) * 5)))) t156 (wrap64 (bt158.1 - 3)))) = some (r1, r2, r3, r4) := H
     have A28 := Aside0.mk A280
     clear A280
     replace H := Option.bind_eq_some_iff.mp H
     obtain ⟨⟨t158, t159⟩, A290, H⟩ := H
     replace H : (spec_l20Deed.j0 k s0_0 t159 (wrap64 ((rd y147 t150) + (wrap64 ((wrap64 (Int.tdiv t153 59)) * 5)))) t156 (wrap64 (t158 - 3))) = some (r1, r2, r3, r4) := H
     have A29 := Aside0.mk A290
     clear A290
     have H' := Aside0.mk H
     clear H
     have hnb30 := NB145_146.out
     have hnc30 := NB146_145.out
     have hnb31 := NB145_155.out
     have hnc31 := NB155_145.out
     have hnb32 := NB145_0.out
     have hnc32 := NB0_145.out
     have hcz33_0 : w17.cell? ⟨gb145, 0, none⟩ = some (.slice A1_0 l1_0.length c1_0) := (blk_cell BK145.out 0).trans rfl
     have hcz33_1 : w17.cell? ⟨gb145, 1, none⟩ = some (.int .i64 a1_1) := (blk_cell BK145.out 1).trans rfl
     have hcz33_2 : w17.cell? ⟨gb145, 2, none⟩ = some (.slice A1_2 l1_2.length c1_2) := (blk_cell BK145.out 2).trans rfl
     have hfz33_0 := blk_frozen BK145.out 0
     have hfz33_1 := blk_frozen BK145.out 1
     have hfz33_2 := blk_frozen BK145.out 2
     go_wp2_with (first | ((with_reducible refine gate_callee (f := 101) rfl ?_); refine goesL_ (some 26) rfl rfl Tryd.func101 (by kernel_rfl) rfl #[.pointer (some ⟨g, 0, none⟩), .int .i64 ji27] rfl (by (try simp only [List.map_toArray, List.map_cons, List.map_nil]); first | done | (simp only [hji27]; rfl) | rfl | (simp only [List.length_drop, List.length_take]; rfl)) ?_; (with_reducible refine (spec_l20Rd_pick.calls k g s0_0 t154 ji27 t156 t157 w0 _ ?side1 ?side2 A28.out).mono ?_); (case side1 => repeat (first | (with_reducible first | exact HI0.out | apply IsS126.alloc | apply IsS126.drewN | apply IsS126.drew | apply IsS126.set_1 | refine IsS126.far ?_ NB0_145.out _ | refine IsS126.far ?_ NB0_146.out _ | refine IsS126.far ?_ NB0_155.out _) | exact HI0.out)); (case side2 => repeat (first | (with_reducible first | exact HB.out | apply la_ | apply ln_ | apply ld_ | refine below_set ?_ (IsS126.ge HI0.out) | refine below_set ?_ GE145.out | refine below_set ?_ GE146.out | refine below_set ?_ GE155.out) | exact HB.out)); rintro e w34 ⟨rfl, hi, hb, hk⟩; refine ⟨_, rfl, ?_⟩; have n0_ := Aside0.mk (KeepBut.blk hk (g' := gb145) (o := .cells #[.slice A1_0 l1_0.length c1_0, .int .i64 a1_1, .slice A1_2 l1_2.length c1_2] 25 (0, 0)) (tk_ BK145.out) NB145_0.out (by simp)); have n1_ := Aside0.mk (KeepBut.blk hk (g' := gb146) (o := .cells #[.int .i64 0, .int .i64 0, .int .i64 0] 30 (0, 0)) (tk_ BK146.out) NB146_0.out (by simp)); have n2_ := Aside0.mk (Kd.R_mono (Kd.R_keep (IsS126.apart (show IsS126 w0 _ g s0_0 t154 from by repeat (first | (with_reducible first | exact HI0.out | apply IsS126.alloc | apply IsS126.drewN | apply IsS126.drew | apply IsS126.set_1 | refine IsS126.far ?_ NB0_145.out _ | refine IsS126.far ?_ NB0_146.out _ | refine IsS126.far ?_ NB0_155.out _) | exact HI0.out)) (by refine qR_ ?_; exact (Kd.R_mono (Kd.R_far (p := ⟨gb155, 2, none⟩) (Kd.R_far (p := ⟨gb155, 1, none⟩) (Kd.R_far (p := ⟨gb155, 0, none⟩) (Kd.R_types HO149.out BK155.out (by decide)) (fun _ hk => hk.2) (.int .i64 (wrap64 ((rd y147 t150) + (wrap64 ((wrap64 (Int.tdiv t153 59)) * 5)))))) (fun _ hk => hk.2) (.int .i64 0)) (fun _ hk => hk.2) (.int .i64 0)) (fun _ h_ => h_.1))) (by decide)) hk (fun _ h => h.2)) (fun _ h => h.1)); have n3_ := Aside0.mk (KeepBut.blk hk (g' := gb155) (o := .cells #[.int .i64 (wrap64 ((rd y147 t150) + (wrap64 ((wrap64 (Int.tdiv t153 59)) * 5)))), .int .i64 0, .int .i64 0] 30 (0, 0)) (by refine bq_ ?_; refine blk_put (cs := #[.int .i64 (wrap64 ((rd y147 t150) + (wrap64 ((wrap64 (Int.tdiv t153 59)) * 5)))), .int .i64 0, .int .i64 0]) ?_ 2 _ rfl; refine bq_ ?_; refine blk_put (cs := #[.int .i64 (wrap64 ((rd y147 t150) + (wrap64 ((wrap64 (Int.tdiv t153 59)) * 5)))), .int .i64 0, .int .i64 0]) ?_ 1 _ rfl; refine bq_ ?_; refine blk_put (cs := #[.int .i64 0, .int .i64 0, .int .i64 0]) ?_ 0 _ rfl; exact tk_ BK155.out) NB155_0.out (by simp)); have n4_ := Aside0.mk (KeepBut.trans (tc_ HK.out) hk (.inl rfl)); have n5_ := Aside0.mk (hb); have n6_ := Aside0.mk (hi); clear BK145 BK146 HO149 BK155 HK HB HI0; have BK145 := n0_; have BK146 := n1_; have HO149 := n2_; have BK155 := n3_; have HK := n4_; have HB := n5_; have HI0 := n6_; clear n0_ n1_ n2_ n3_ n4_ n5_ n6_; (try clear hb); (try clear hb2); (try clear hk); (try clear hi); have hnb35 := NB155_146.out; have hnc35 := NB146_155.out; have hnb36 := NB155_0.out; have hnc36 := NB0_155.out; have hcz37_0 : w34.cell? ⟨gb155, 0, none⟩ = some (.int .i64 (wrap64 ((rd y147 t150) + (wrap64 ((wrap64 (Int.tdiv t153 59)) * 5))))) := (blk_cell BK155.out 0).trans rfl; have hcz37_1 : w34.cell? ⟨gb155, 1, none⟩ = some (.int .i64 0) := (blk_cell BK155.out 1).trans rfl; have hcz37_2 : w34.cell? ⟨gb155, 2, none⟩ = some (.int .i64 0) := (blk_cell BK155.out 2).trans rfl; have hfz37_0 := blk_frozen BK155.out 0; have hfz37_1 := blk_frozen BK155.out 1; have hfz37_2 := blk_frozen BK155.out 2) | ((with_reducible refine gate_callee (f := 101) rfl ?_); refine goesL_ (some 29) rfl rfl Tryd.func101 (by kernel_rfl) rfl #[.pointer (some ⟨g, 0, none⟩), .int .i64 7] rfl tz_ ?_; (with_reducible refine (spec_l20Rd_pick.calls k g s0_0 t157 7 t158 t159 w0 _ ?side1 ?side2 A29.out).mono ?_); (case side1 => repeat (first | (with_reducible first | exact HI0.out | apply IsS126.alloc | apply IsS126.drewN | apply IsS126.drew | apply IsS126.set_1 | refine IsS126.far ?_ NB0_145.out _ | refine IsS126.far ?_ NB0_146.out _ | refine IsS126.far ?_ NB0_155.out _) | exact HI0.out)); (case side2 => repeat (first | (with_reducible first | exact HB.out | apply la_ | apply ln_ | apply ld_ | refine below_set ?_ (IsS126.ge HI0.out) | refine below_set ?_ GE145.out | refine below_set ?_ GE146.out | refine below_set ?_ GE155.out) | exact HB.out)); rintro e w38 ⟨rfl, hi, hb, hk⟩; refine ⟨_, rfl, ?_⟩; have n0_ := Aside0.mk (KeepBut.blk hk (g' := gb145) (o := .cells #[.slice A1_0 l1_0.length c1_0, .int .i64 a1_1, .slice A1_2 l1_2.length c1_2] 25 (0, 0)) (tk_ BK145.out) NB145_0.out (by simp)); have n1_ := Aside0.mk (KeepBut.blk hk (g' := gb146) (o := .cells #[.int .i64 0, .int .i64 0, .int .i64 0] 30 (0, 0)) (tk_ BK146.out) NB146_0.out (by simp)); have n2_ := Aside0.mk (Kd.R_mono (Kd.R_keep (IsS126.apart (show IsS126 w0 _ g s0_0 t157 from by repeat (first | (with_reducible first | exact HI0.out | apply IsS126.alloc | apply IsS126.drewN | apply IsS126.drew | apply IsS126.set_1 | refine IsS126.far ?_ NB0_145.out _ | refine IsS126.far ?_ NB0_146.out _ | refine IsS126.far ?_ NB0_155.out _) | exact HI0.out)) (by refine qR_ ?_; exact (Kd.R_mono (Kd.R_far (p := ⟨gb155, 1, none⟩) (Kd.R_types HO149.out BK155.out (by decide)) (fun _ hk => hk.2) (.int .i64 t156)) (fun _ h_ => h_.1))) (by decide)) hk (fun _ h => h.2)) (fun _ h => h.1)); have n3_ := Aside0.mk (KeepBut.blk hk (g' := gb155) (o := .cells #[.int .i64 (wrap64 ((rd y147 t150) + (wrap64 ((wrap64 (Int.tdiv t153 59)) * 5)))), .int .i64 t156, .int .i64 0] 30 (0, 0)) (by refine bq_ ?_; refine blk_put (cs := #[.int .i64 (wrap64 ((rd y147 t150) + (wrap64 ((wrap64 (Int.tdiv t153 59)) * 5)))), .int .i64 0, .int .i64 0]) ?_ 1 _ rfl; exact tk_ BK155.out) NB155_0.out (by simp)); have n4_ := Aside0.mk (KeepBut.trans (tc_ HK.out) hk (.inl rfl)); have n5_ := Aside0.mk (hb); have n6_ := Aside0.mk (hi); clear BK145 BK146 HO149 BK155 HK HB HI0; have BK145 := n0_; have BK146 := n1_; have HO149 := n2_; have BK155 := n3_; have HK := n4_; have HB := n5_; have HI0 := n6_; clear n0_ n1_ n2_ n3_ n4_ n5_ n6_; (try clear hb); (try clear hb2); (try clear hk); (try clear hi); have hcz39_0 : w38.cell? ⟨gb155, 0, none⟩ = some (.int .i64 (wrap64 ((rd y147 t150) + (wrap64 ((wrap64 (Int.tdiv t153 59)) * 5))))) := (blk_cell BK155.out 0).trans rfl; have hcz39_1 : w38.cell? ⟨gb155, 1, none⟩ = some (.int .i64 t156) := (blk_cell BK155.out 1).trans rfl; have hcz39_2 : w38.cell? ⟨gb155, 2, none⟩ = some (.int .i64 0) := (blk_cell BK155.out 2).trans rfl; have hfz39_0 := blk_frozen BK155.out 0; have hfz39_1 := blk_frozen BK155.out 1; have hfz39_2 := blk_frozen BK155.out 2))
     go_meet
     case rel => exact ⟨_, (t159), (t156), (wrap64 (t158 - 3)), H', ⟨by first | omega | exact Nat.le_refl _⟩, ⟨tk_ BK145.out⟩, ⟨tk_ BK146.out⟩, ⟨by refine bq_ ?_; refine blk_put (cs := #[.int .i64 (wrap64 ((rd y147 t150) + (wrap64 ((wrap64 (Int.tdiv t153 59)) * 5)))), .int .i64 t156, .int .i64 0]) ?_ 2 _ rfl; exact tk_ BK155.out⟩, ⟨by repeat (first | (with_reducible first | exact HI0.out | apply IsS126.alloc | apply IsS126.drewN | apply IsS126.drew | apply IsS126.set_1 | refine IsS126.far ?_ NB0_145.out _ | refine IsS126.far ?_ NB0_146.out _ | refine IsS126.far ?_ NB0_155.out _) | exact HI0.out)⟩, ⟨(tc_ HK.out)⟩, ⟨by repeat (first | (with_reducible first | exact HB.out | apply la_ | apply ln_ | apply ld_ | refine below_set ?_ (IsS126.ge HI0.out) | refine below_set ?_ GE145.out | refine below_set ?_ GE146.out | refine below_set ?_ GE155.out) | exact HB.out)⟩⟩
    ·
     rw [if_neg c26] at H
     have c26b0 : ((wrap64 ((rd y147 t150) + (wrap64 ((wrap64 (Int.tdiv t153 59)) * 5)))) == 0) = false := beq_eq_false_iff_ne.mpr c26
     have c26b1 : ((wrap64 ((rd y147 t150) + (wrap64 ((wrap64 (Int.tdiv t153 59)) * 5)))) != 0) = true := bne_iff_ne.mpr c26
     (first | rw [c26b0] | (simp only [i64_w, i32_w]; rw [c26b0]) | skip)
     by_cases c40 : (wrap64 ((rd y147 t150) + (wrap64 ((wrap64 (Int.tdiv t153 59)) * 5)))) = 1
     ·
      rw [if_pos c40] at H
      have c40b0 : ((wrap64 ((rd y147 t150) + (wrap64 ((wrap64 (Int.tdiv t153 59)) * 5)))) == 1) = true := beq_iff_eq.mpr c40
      have c40b1 : ((wrap64 ((rd y147 t150) + (wrap64 ((wrap64 (Int.tdiv t153 59)) * 5)))) != 1) = false := bne_eq_false_iff_eq.mpr c40
      clear c40
      replace H := Option.bind_eq_some_iff.mp H
      obtain ⟨⟨t160, t161⟩, A410, H⟩ := H
      replace H : (spec_l20Deed.j0 k s0_0 t161 (wrap64 ((rd y147 t150) + (wrap64 ((wrap64 (Int.tdiv t153 59)) * 5)))) (wrap64 (t160 - 1)) 0) = some (r1, r2, r3, r4) := H
      have A41 := Aside0.mk A410
      clear A410
      have H' := Aside0.mk H
      clear H
      go_wp2_with (first | ((with_reducible refine gate_callee (f := 101) rfl ?_); refine goesL_ (some 35) rfl rfl Tryd.func101 (by kernel_rfl) rfl #[.pointer (some ⟨g, 0, none⟩), .int .i64 5] rfl tz_ ?_; (with_reducible refine (spec_l20Rd_pick.calls k g s0_0 t154 5 t160 t161 w0 _ ?side1 ?side2 A41.out).mono ?_); (case side1 => repeat (first | (with_reducible first | exact HI0.out | apply IsS126.alloc | apply IsS126.drewN | apply IsS126.drew | apply IsS126.set_1 | refine IsS126.far ?_ NB0_145.out _ | refine IsS126.far ?_ NB0_146.out _ | refine IsS126.far ?_ NB0_155.out _) | exact HI0.out)); (case side2 => repeat (first | (with_reducible first | exact HB.out | apply la_ | apply ln_ | apply ld_ | refine below_set ?_ (IsS126.ge HI0.out) | refine below_set ?_ GE145.out | refine below_set ?_ GE146.out | refine below_set ?_ GE155.out) | exact HB.out)); rintro e w42 ⟨rfl, hi, hb, hk⟩; refine ⟨_, rfl, ?_⟩; have n0_ := Aside0.mk (KeepBut.blk hk (g' := gb145) (o := .cells #[.slice A1_0 l1_0.length c1_0, .int .i64 a1_1, .slice A1_2 l1_2.length c1_2] 25 (0, 0)) (tk_ BK145.out) NB145_0.out (by simp)); have n1_ := Aside0.mk (KeepBut.blk hk (g' := gb146) (o := .cells #[.int .i64 0, .int .i64 0, .int .i64 0] 30 (0, 0)) (tk_ BK146.out) NB146_0.out (by simp)); have n2_ := Aside0.mk (Kd.R_mono (Kd.R_keep (IsS126.apart (show IsS126 w0 _ g s0_0 t154 from by repeat (first | (with_reducible first | exact HI0.out | apply IsS126.alloc | apply IsS126.drewN | apply IsS126.drew | apply IsS126.set_1 | refine IsS126.far ?_ NB0_145.out _ | refine IsS126.far ?_ NB0_146.out _ | refine IsS126.far ?_ NB0_155.out _) | exact HI0.out)) (by refine qR_ ?_; exact (Kd.R_mono (Kd.R_far (p := ⟨gb155, 2, none⟩) (Kd.R_far (p := ⟨gb155, 1, none⟩) (Kd.R_far (p := ⟨gb155, 0, none⟩) (Kd.R_types HO149.out BK155.out (by decide)) (fun _ hk => hk.2) (.int .i64 (wrap64 ((rd y147 t150) + (wrap64 ((wrap64 (Int.tdiv t153 59)) * 5)))))) (fun _ hk => hk.2) (.int .i64 0)) (fun _ hk => hk.2) (.int .i64 0)) (fun _ h_ => h_.1))) (by decide)) hk (fun _ h => h.2)) (fun _ h => h.1)); have n3_ := Aside0.mk (KeepBut.blk hk (g' := gb155) (o := .cells #[.int .i64 (wrap64 ((rd y147 t150) + (wrap64 ((wrap64 (Int.tdiv t153 59)) * 5)))), .int .i64 0, .int .i64 0] 30 (0, 0)) (by refine bq_ ?_; refine blk_put (cs := #[.int .i64 (wrap64 ((rd y147 t150) + (wrap64 ((wrap64 (Int.tdiv t153 59)) * 5)))), .int .i64 0, .int .i64 0]) ?_ 2 _ rfl; refine bq_ ?_; refine blk_put (cs := #[.int .i64 (wrap64 ((rd y147 t150) + (wrap64 ((wrap64 (Int.tdiv t153 59)) * 5)))), .int .i64 0, .int .i64 0]) ?_ 1 _ rfl; refine bq_ ?_; refine blk_put (cs := #[.int .i64 0, .int .i64 0, .int .i64 0]) ?_ 0 _ rfl; exact tk_ BK155.out) NB155_0.out (by simp)); have n4_ := Aside0.mk (KeepBut.trans (tc_ HK.out) hk (.inl rfl)); have n5_ := Aside0.mk (hb); have n6_ := Aside0.mk (hi); clear BK145 BK146 HO149 BK155 HK HB HI0; have BK145 := n0_; have BK146 := n1_; have HO149 := n2_; have BK155 := n3_; have HK := n4_; have HB := n5_; have HI0 := n6_; clear n0_ n1_ n2_ n3_ n4_ n5_ n6_; (try clear hb); (try clear hb2); (try clear hk); (try clear hi); have hnb43 := NB155_145.out; have hnc43 := NB145_155.out; have hnb44 := NB155_146.out; have hnc44 := NB146_155.out; have hnb45 := NB155_0.out; have hnc45 := NB0_155.out; have hcz46_0 : w42.cell? ⟨gb155, 0, none⟩ = some (.int .i64 (wrap64 ((rd y147 t150) + (wrap64 ((wrap64 (Int.tdiv t153 59)) * 5))))) := (blk_cell BK155.out 0).trans rfl; have hcz46_1 : w42.cell? ⟨gb155, 1, none⟩ = some (.int .i64 0) := (blk_cell BK155.out 1).trans rfl; have hcz46_2 : w42.cell? ⟨gb155, 2, none⟩ = some (.int .i64 0) := (blk_cell BK155.out 2).trans rfl; have hfz46_0 := blk_frozen BK155.out 0; have hfz46_1 := blk_frozen BK155.out 1; have hfz46_2 := blk_frozen BK155.out 2))
      go_meet
      case rel => exact ⟨_, (t161), (wrap64 (t160 - 1)), (0), H', ⟨by first | omega | exact Nat.le_refl _⟩, ⟨tk_ BK145.out⟩, ⟨tk_ BK146.out⟩, ⟨by refine bq_ ?_; refine blk_put (cs := #[.int .i64 (wrap64 ((rd y147 t150) + (wrap64 ((wrap64 (Int.tdiv t153 59)) * 5)))), .int .i64 0, .int .i64 0]) ?_ 1 _ rfl; exact tk_ BK155.out⟩, ⟨by repeat (first | (with_reducible first | exact HI0.out | apply IsS126.alloc | apply IsS126.drewN | apply IsS126.drew | apply IsS126.set_1 | refine IsS126.far ?_ NB0_145.out _ | refine IsS126.far ?_ NB0_146.out _ | refine IsS126.far ?_ NB0_155.out _) | exact HI0.out)⟩, ⟨(tc_ HK.out)⟩, ⟨by repeat (first | (with_reducible first | exact HB.out | apply la_ | apply ln_ | apply ld_ | refine below_set ?_ (IsS126.ge HI0.out) | refine below_set ?_ GE145.out | refine below_set ?_ GE146.out | refine below_set ?_ GE155.out) | exact HB.out)⟩⟩
     ·
      rw [if_neg c40] at H
      have c40b0 : ((wrap64 ((rd y147 t150) + (wrap64 ((wrap64 (Int.tdiv t153 59)) * 5)))) == 1) = false := beq_eq_false_iff_ne.mpr c40
      have c40b1 : ((wrap64 ((rd y147 t150) + (wrap64 ((wrap64 (Int.tdiv t153 59)) * 5)))) != 1) = true := bne_iff_ne.mpr c40
      by_cases c47 : (wrap64 ((rd y147 t150) + (wrap64 ((wrap64 (Int.tdiv t153 59)) * 5)))) = 2
      ·
       rw [if_pos c47] at H
       have c47b0 : ((wrap64 ((rd y147 t150) + (wrap64 ((wrap64 (Int.tdiv t153 59)) * 5)))) == 2) = true := beq_iff_eq.mpr c47
       have c47b1 : ((wrap64 ((rd y147 t150) + (wrap64 ((wrap64 (Int.tdiv t153 59)) * 5)))) != 2) = false := bne_eq_false_iff_eq.mpr c47
       clear c47
       obtain ⟨ji48, hji48⟩ : ∃ j_ : Int, (mx (l1_0.length : Int) 1) = j_ := ⟨_, rfl⟩
       replace H : ((spec_l20Rd_pick.f k s0_0 t154 (ji48)).bind fun bt162 => (spec_l20Deed.j0 k s0_0 bt162.2 (wrap64 ((rd y147 t150) + (wrap64 ((wrap64 (Int.tdiv t153 59)) * 5)))) bt162.1 0)) = some (r1, r2, r3, r4) := by first | (rw [hji48] at H; exact H) | (simp only [hji48] at H ⊢; exact H)
       (try (have hji48l : 1 ≤ ji48 := by (rw [← hji48]; unfold mx; (repeat' split) <;> omega)))
       (try (have hji48m : 0 ≤ ji48 := by omega))
       have hji48_ : (if (l1_0.length : Int) < 1 then 1 else (l1_0.length : Int)) = ji48 := hji48
       replace H := Option.bind_eq_some_iff.mp H
       obtain ⟨⟨t162, t163⟩, A490, H⟩ := H
       replace H : (spec_l20Deed.j0 k s0_0 t163 (wrap64 ((rd y147 t150) + (wrap64 ((wrap64 (Int.tdiv t153 59)) * 5)))) t162 0) = some (r1, r2, r3, r4) := H
       have A49 := Aside0.mk A490
       clear A490
       have H' := Aside0.mk H
       clear H
       have hnb50 := NB145_146.out
       have hnc50 := NB146_145.out
       have hnb51 := NB145_155.out
       have hnc51 := NB155_145.out
       have hnb52 := NB145_0.out
       have hnc52 := NB0_145.out
       have hcz53_0 : w17.cell? ⟨gb145, 0, none⟩ = some (.slice A1_0 l1_0.length c1_0) := (blk_cell BK145.out 0).trans rfl
       have hcz53_1 : w17.cell? ⟨gb145, 1, none⟩ = some (.int .i64 a1_1) := (blk_cell BK145.out 1).trans rfl
       have hcz53_2 : w17.cell? ⟨gb145, 2, none⟩ = some (.slice A1_2 l1_2.length c1_2) := (blk_cell BK145.out 2).trans rfl
       have hfz53_0 := blk_frozen BK145.out 0
       have hfz53_1 := blk_frozen BK145.out 1
       have hfz53_2 := blk_frozen BK145.out 2
       go_wp2_with (first | ((with_reducible refine gate_callee (f := 101) rfl ?_); refine goesL_ (some 45) rfl rfl Tryd.func101 (by kernel_rfl) rfl #[.pointer (some ⟨g, 0, none⟩), .int .i64 ji48] rfl (by (try simp only [List.map_toArray, List.map_cons, List.map_nil]); first | done | (simp only [hji48]; rfl) | rfl | (simp only [List.length_drop, List.length_take]; rfl)) ?_; (with_reducible refine (spec_l20Rd_pick.calls k g s0_0 t154 ji48 t162 t163 w0 _ ?side1 ?side2 A49.out).mono ?_); (case side1 => repeat (first | (with_reducible first | exact HI0.out | apply IsS126.alloc | apply IsS126.drewN | apply IsS126.drew | apply IsS126.set_1 | refine IsS126.far ?_ NB0_145.out _ | refine IsS126.far ?_ NB0_146.out _ | refine IsS126.far ?_ NB0_155.out _) | exact HI0.out)); (case side2 => repeat (first | (with_reducible first | exact HB.out | apply la_ | apply ln_ | apply ld_ | refine below_set ?_ (IsS126.ge HI0.out) | refine below_set ?_ GE145.out | refine below_set ?_ GE146.out | refine below_set ?_ GE155.out) | exact HB.out)); rintro e w54 ⟨rfl, hi, hb, hk⟩; refine ⟨_, rfl, ?_⟩; have n0_ := Aside0.mk (KeepBut.blk hk (g' := gb145) (o := .cells #[.slice A1_0 l1_0.length c1_0, .int .i64 a1_1, .slice A1_2 l1_2.length c1_2] 25 (0, 0)) (tk_ BK145.out) NB145_0.out (by simp)); have n1_ := Aside0.mk (KeepBut.blk hk (g' := gb146) (o := .cells #[.int .i64 0, .int .i64 0, .int .i64 0] 30 (0, 0)) (tk_ BK146.out) NB146_0.out (by simp)); have n2_ := Aside0.mk (Kd.R_mono (Kd.R_keep (IsS126.apart (show IsS126 w0 _ g s0_0 t154 from by repeat (first | (with_reducible first | exact HI0.out | apply IsS126.alloc | apply IsS126.drewN | apply IsS126.drew | apply IsS126.set_1 | refine IsS126.far ?_ NB0_145.out _ | refine IsS126.far ?_ NB0_146.out _ | refine IsS126.far ?_ NB0_155.out _) | exact HI0.out)) (by refine qR_ ?_; exact (Kd.R_mono (Kd.R_far (p := ⟨gb155, 2, none⟩) (Kd.R_far (p := ⟨gb155, 1, none⟩) (Kd.R_far (p := ⟨gb155, 0, none⟩) (Kd.R_types HO149.out BK155.out (by decide)) (fun _ hk => hk.2) (.int .i64 (wrap64 ((rd y147 t150) + (wrap64 ((wrap64 (Int.tdiv t153 59)) * 5)))))) (fun _ hk => hk.2) (.int .i64 0)) (fun _ hk => hk.2) (.int .i64 0)) (fun _ h_ => h_.1))) (by decide)) hk (fun _ h => h.2)) (fun _ h => h.1)); have n3_ := Aside0.mk (KeepBut.blk hk (g' := gb155) (o := .cells #[.int .i64 (wrap64 ((rd y147 t150) + (wrap64 ((wrap64 (Int.tdiv t153 59)) * 5)))), .int .i64 0, .int .i64 0] 30 (0, 0)) (by refine bq_ ?_; refine blk_put (cs := #[.int .i64 (wrap64 ((rd y147 t150) + (wrap64 ((wrap64 (Int.tdiv t153 59)) * 5)))), .int .i64 0, .int .i64 0]) ?_ 2 _ rfl; refine bq_ ?_; refine blk_put (cs := #[.int .i64 (wrap64 ((rd y147 t150) + (wrap64 ((wrap64 (Int.tdiv t153 59)) * 5)))), .int .i64 0, .int .i64 0]) ?_ 1 _ rfl; refine bq_ ?_; refine blk_put (cs := #[.int .i64 0, .int .i64 0, .int .i64 0]) ?_ 0 _ rfl; exact tk_ BK155.out) NB155_0.out (by simp)); have n4_ := Aside0.mk (KeepBut.trans (tc_ HK.out) hk (.inl rfl)); have n5_ := Aside0.mk (hb); have n6_ := Aside0.mk (hi); clear BK145 BK146 HO149 BK155 HK HB HI0; have BK145 := n0_; have BK146 := n1_; have HO149 := n2_; have BK155 := n3_; have HK := n4_; have HB := n5_; have HI0 := n6_; clear n0_ n1_ n2_ n3_ n4_ n5_ n6_; (try clear hb); (try clear hb2); (try clear hk); (try clear hi); have hnb55 := NB155_146.out; have hnc55 := NB146_155.out; have hnb56 := NB155_0.out; have hnc56 := NB0_155.out; have hcz57_0 : w54.cell? ⟨gb155, 0, none⟩ = some (.int .i64 (wrap64 ((rd y147 t150) + (wrap64 ((wrap64 (Int.tdiv t153 59)) * 5))))) := (blk_cell BK155.out 0).trans rfl; have hcz57_1 : w54.cell? ⟨gb155, 1, none⟩ = some (.int .i64 0) := (blk_cell BK155.out 1).trans rfl; have hcz57_2 : w54.cell? ⟨gb155, 2, none⟩ = some (.int .i64 0) := (blk_cell BK155.out 2).trans rfl; have hfz57_0 := blk_frozen BK155.out 0; have hfz57_1 := blk_frozen BK155.out 1; have hfz57_2 := blk_frozen BK155.out 2))
       go_meet
       case rel => exact ⟨_, (t163), (t162), (0), H', ⟨by first | omega | exact Nat.le_refl _⟩, ⟨tk_ BK145.out⟩, ⟨tk_ BK146.out⟩, ⟨by refine bq_ ?_; refine blk_put (cs := #[.int .i64 (wrap64 ((rd y147 t150) + (wrap64 ((wrap64 (Int.tdiv t153 59)) * 5)))), .int .i64 0, .int .i64 0]) ?_ 1 _ rfl; exact tk_ BK155.out⟩, ⟨by repeat (first | (with_reducible first | exact HI0.out | apply IsS126.alloc | apply IsS126.drewN | apply IsS126.drew | apply IsS126.set_1 | refine IsS126.far ?_ NB0_145.out _ | refine IsS126.far ?_ NB0_146.out _ | refine IsS126.far ?_ NB0_155.out _) | exact HI0.out)⟩, ⟨(tc_ HK.out)⟩, ⟨by repeat (first | (with_reducible first | exact HB.out | apply la_ | apply ln_ | apply ld_ | refine below_set ?_ (IsS126.ge HI0.out) | refine below_set ?_ GE145.out | refine below_set ?_ GE146.out | refine below_set ?_ GE155.out) | exact HB.out)⟩⟩
      ·
       rw [if_neg c47] at H
       have c47b0 : ((wrap64 ((rd y147 t150) + (wrap64 ((wrap64 (Int.tdiv t153 59)) * 5)))) == 2) = false := beq_eq_false_iff_ne.mpr c47
       have c47b1 : ((wrap64 ((rd y147 t150) + (wrap64 ((wrap64 (Int.tdiv t153 59)) * 5)))) != 2) = true := bne_iff_ne.mpr c47
       have H' := Aside0.mk H
       clear H
       go_wp2
       go_meet
       case rel => exact ⟨_, (t154), (0), (0), H', ⟨by first | omega | exact Nat.le_refl _⟩, ⟨tk_ BK145.out⟩, ⟨tk_ BK146.out⟩, ⟨by refine bq_ ?_; refine blk_put (cs := #[.int .i64 (wrap64 ((rd y147 t150) + (wrap64 ((wrap64 (Int.tdiv t153 59)) * 5)))), .int .i64 0, .int .i64 0]) ?_ 2 _ rfl; refine bq_ ?_; refine blk_put (cs := #[.int .i64 (wrap64 ((rd y147 t150) + (wrap64 ((wrap64 (Int.tdiv t153 59)) * 5)))), .int .i64 0, .int .i64 0]) ?_ 1 _ rfl; refine bq_ ?_; refine blk_put (cs := #[.int .i64 0, .int .i64 0, .int .i64 0]) ?_ 0 _ rfl; exact tk_ BK155.out⟩, ⟨by repeat (first | (with_reducible first | exact HI0.out | apply IsS126.alloc | apply IsS126.drewN | apply IsS126.drew | apply IsS126.set_1 | refine IsS126.far ?_ NB0_145.out _ | refine IsS126.far ?_ NB0_146.out _ | refine IsS126.far ?_ NB0_155.out _) | exact HI0.out)⟩, ⟨(tc_ HK.out)⟩, ⟨by repeat (first | (with_reducible first | exact HB.out | apply la_ | apply ln_ | apply ld_ | refine below_set ?_ (IsS126.ge HI0.out) | refine below_set ?_ GE145.out | refine below_set ?_ GE146.out | refine below_set ?_ GE155.out) | exact HB.out)⟩⟩
   case rest =>
    clear HC7
    try clear c1
    try clear p1
    try clear q1
    try clear hx1
    try clear c2
    try clear p2
    try clear c3
    try clear c4
    try clear c5
    try clear p6
    try clear c10
    try clear p15
    try clear q15
    try clear hx15
    try clear c22
    try clear c23
    try clear c24
    try clear c26
    try clear c26b0
    try clear c26b1
    try clear c30
    try clear c31
    try clear c32
    try clear c35
    try clear c36
    try clear c40
    try clear c40b0
    try clear c40b1
    try clear c43
    try clear c44
    try clear c45
    try clear c47
    try clear c47b0
    try clear c47b1
    try clear c50
    try clear c51
    try clear c52
    try clear c55
    try clear c56
    try clear hcz25_0
    try clear hcz25_1
    try clear hcz25_2
    try clear hcz33_0
    try clear hcz33_1
    try clear hcz33_2
    try clear hcz37_0
    try clear hcz37_1
    try clear hcz37_2
    try clear hcz39_0
    try clear hcz39_1
    try clear hcz39_2
    try clear hcz46_0
    try clear hcz46_1
    try clear hcz46_2
    try clear hcz53_0
    try clear hcz53_1
    try clear hcz53_2
    try clear hcz57_0
    try clear hcz57_1
    try clear hcz57_2
    try clear hfz25_0
    try clear hfz25_1
    try clear hfz25_2
    try clear hfz33_0
    try clear hfz33_1
    try clear hfz33_2
    try clear hfz37_0
    try clear hfz37_1
    try clear hfz37_2
    try clear hfz39_0
    try clear hfz39_1
    try clear hfz39_2
    try clear hfz46_0
    try clear hfz46_1
    try clear hfz46_2
    try clear hfz53_0
    try clear hfz53_1
    try clear hfz53_2
    try clear hfz57_0
    try clear hfz57_1
    try clear hfz57_2
    try clear hx152_0
    try clear p152
    try clear q152
    obtain ⟨kq, x1001_6, x156001_6, x156002_6, HA, HJ6, BK145, BK146, BK155, HI0, HK, HB⟩ := hcut
    cases kq with
    | zero => exact absurd HA.out (by simp [spec_l20Deed.j0])
    | succ kj6 =>
     have H := HA.out
     clear HA
     simp only [spec_l20Deed.j0] at H
     replace H := Option.bind_eq_some_iff.mp H
     obtain ⟨⟨t164, t165⟩, A580, H⟩ := H
     replace H : (if t164 = true then ((spec_l20Rd_pick.f kj6 s0_0 t165 2).bind fun bt166 => (if bt166.1 = 0 then ((some (([(-100), 100] : List Int) : List Int)).bind fun y168 => ((spec_l20Rd_pick.f kj6 s0_0 bt166.2 2).bind fun bt171 => (if 0 ≤ bt171.1 then (if bt171.1 < (y168.length : Int) then (some ((wrap64 ((rd y147 t150) + (wrap64 ((wrap64 (Int.tdiv t153 59)) * 5)))), rd y168 bt171.1, x156002_6, bt171.2)) else (none)) else (none)))) else (some ((wrap64 ((rd y147 t150) + (wrap64 ((wrap64 (Int.tdiv t153 59)) * 5)))), x156001_6, 99, bt166.2)))) else (some ((wrap64 ((rd y147 t150) + (wrap64 ((wrap64 (Int.tdiv t153 59)) * 5)))), x156001_6, x156002_6, t165))) = some (r1, r2, r3, r4) := H
     have A58 := Aside0.mk A580
     clear A580
     by_cases c59 : t164 = true
     ·
      subst c59
      have H1 : ((spec_l20Rd_pick.f kj6 s0_0 t165 2).bind fun bt166 => (if bt166.1 = 0 then ((some (([(-100), 100] : List Int) : List Int)).bind fun y168 => ((spec_l20Rd_pick.f kj6 s0_0 bt166.2 2).bind fun bt171 => (if 0 ≤ bt171.1 then (if bt171.1 < (y168.length : Int) then (some ((wrap64 ((rd y147 t150) + (wrap64 ((wrap64 (Int.tdiv t153 59)) * 5)))), rd y168 bt171.1, x156002_6, bt171.2)) else (none)) else (none)))) else (some ((wrap64 ((rd y147 t150) + (wrap64 ((wrap64 (Int.tdiv t153 59)) * 5)))), x156001_6, 99, bt166.2)))) = some (r1, r2, r3, r4) := by rw [if_pos rfl] at H; exact H
      clear H
      have H := H1
      clear H1
      replace H := Option.bind_eq_some_iff.mp H
      obtain ⟨⟨t166, t167⟩, A600, H⟩ := H
      replace H : (if t166 = 0 then ((some (([(-100), 100] : List Int) : List Int)).bind fun y168 => ((spec_l20Rd_pick.f kj6 s0_0 t167 2).bind fun bt171 => (if 0 ≤ bt171.1 then (if bt171.1 < (y168.length : Int) then (some ((wrap64 ((rd y147 t150) + (wrap64 ((wrap64 (Int.tdiv t153 59)) * 5)))), rd y168 bt171.1, x156002_6, bt171.2)) else (none)) else (none)))) else (some ((wrap64 ((rd y147 t150) + (wrap64 ((wrap64 (Int.tdiv t153 59)) * 5)))), x156001_6, 99, t167))) = some (r1, r2, r3, r4) := H
      have A60 := Aside0.mk A600
      clear A600
      by_cases c61 : t166 = 0
      ·
       rw [if_pos c61] at H
       have c61b0 : (t166 == 0) = true := beq_iff_eq.mpr c61
       have c61b1 : (t166 != 0) = false := bne_eq_false_iff_eq.mpr c61
       clear c61
       obtain ⟨y168, hy168⟩ : ∃ y_ : List Int, y_ = (([(-100), 100] : List Int)) := ⟨_, rfl⟩
       replace H : ((spec_l20Rd_pick.f kj6 s0_0 t167 2).bind fun bt171 => (if 0 ≤ bt171.1 then (if bt171.1 < (y168.length : Int) then (some ((wrap64 ((rd y147 t150) + (wrap64 ((wrap64 (Int.tdiv t153 59)) * 5)))), rd y168 bt171.1, x156002_6, bt171.2)) else (none)) else (none))) = some (r1, r2, r3, r4) := by first | (rw [hy168]; with_reducible exact H) | (have H2_ := (Option.bind_some _ _).symm.trans H; rw [hy168]; with_reducible exact H2_) | (have H2_ := (Option.bind_some _ _).symm.trans H; with_reducible exact H2_) | with_reducible exact H | (rw [hy168]; exact H) | exact H
       have Ny168 := Aside0.mk hy168
       clear hy168
       replace H := Option.bind_eq_some_iff.mp H
       obtain ⟨⟨t171, t172⟩, A620, H⟩ := H
       replace H : (if 0 ≤ t171 then (if t171 < (y168.length : Int) then (some ((wrap64 ((rd y147 t150) + (wrap64 ((wrap64 (Int.tdiv t153 59)) * 5)))), rd y168 t171, x156002_6, t172)) else (none)) else (none)) = some (r1, r2, r3, r4) := H
       have A62 := Aside0.mk A620
       clear A620
       by_cases c63 : 0 ≤ t171
       ·
        rw [if_pos c63] at H
        have c63b0 : decide (0 ≤ t171) = true := decide_eq_true c63
        clear c63
        by_cases c64 : t171 < (y168.length : Int)
        ·
         rw [if_pos c64] at H
         have c64b0 : decide (t171 < (y168.length : Int)) = true := decide_eq_true c64
         clear c64
         simp only [Option.some.injEq, Prod.mk.injEq] at H
         obtain ⟨rfl, rfl, rfl, rfl⟩ := H
         go_wp2_with (first | ((with_reducible refine gate_callee (f := 80) rfl ?_); refine goesL_ (some 48) rfl rfl Tryd.func80 (by kernel_rfl) rfl #[.pointer (some ⟨g, 0, none⟩), .int .i64 40] rfl tz_ ?_; (with_reducible refine (spec_l20Rd_odd.calls kj6 g s0_0 x1001_6 40 true t165 w0 _ ?side1 ?side2 A58.out).mono ?_); (case side1 => repeat (first | (with_reducible first | exact HI0.out | apply IsS126.alloc | apply IsS126.drewN | apply IsS126.drew | apply IsS126.set_1 | refine IsS126.far ?_ NB0_145.out _ | refine IsS126.far ?_ NB0_146.out _ | refine IsS126.far ?_ NB0_155.out _) | exact HI0.out)); (case side2 => repeat (first | (with_reducible first | exact HB.out | apply la_ | apply ln_ | apply ld_ | refine below_set ?_ (IsS126.ge HI0.out) | refine below_set ?_ GE145.out | refine below_set ?_ GE146.out | refine below_set ?_ GE155.out) | exact HB.out)); rintro e w65 ⟨rfl, hi, hb, hk⟩; refine ⟨_, rfl, ?_⟩; have n0_ := Aside0.mk (KeepBut.blk hk (g' := gb145) (o := .cells #[.slice A1_0 l1_0.length c1_0, .int .i64 a1_1, .slice A1_2 l1_2.length c1_2] 25 (0, 0)) (tk_ BK145.out) NB145_0.out (by simp)); have n1_ := Aside0.mk (KeepBut.blk hk (g' := gb146) (o := .cells #[.int .i64 0, .int .i64 0, .int .i64 0] 30 (0, 0)) (tk_ BK146.out) NB146_0.out (by simp)); have n2_ := Aside0.mk (KeepBut.blk hk (g' := gb155) (o := .cells #[.int .i64 (wrap64 ((rd y147 t150) + (wrap64 ((wrap64 (Int.tdiv t153 59)) * 5)))), .int .i64 x156001_6, .int .i64 x156002_6] 30 (0, 0)) (tk_ BK155.out) NB155_0.out (by simp)); have n3_ := Aside0.mk (KeepBut.trans (tc_ HK.out) hk (.inl rfl)); have n4_ := Aside0.mk (hb); have n5_ := Aside0.mk (hi); clear BK145 BK146 BK155 HK HB HI0; have BK145 := n0_; have BK146 := n1_; have BK155 := n2_; have HK := n3_; have HB := n4_; have HI0 := n5_; clear n0_ n1_ n2_ n3_ n4_ n5_; (try clear hb); (try clear hb2); (try clear hk); (try clear hi)) | ((with_reducible refine gate_callee (f := 101) rfl ?_); refine goesL_ (some 50) rfl rfl Tryd.func101 (by kernel_rfl) rfl #[.pointer (some ⟨g, 0, none⟩), .int .i64 2] rfl tz_ ?_; (with_reducible refine (spec_l20Rd_pick.calls kj6 g s0_0 t165 2 t166 t167 w0 _ ?side1 ?side2 A60.out).mono ?_); (case side1 => repeat (first | (with_reducible first | exact HI0.out | apply IsS126.alloc | apply IsS126.drewN | apply IsS126.drew | apply IsS126.set_1 | refine IsS126.far ?_ NB0_145.out _ | refine IsS126.far ?_ NB0_146.out _ | refine IsS126.far ?_ NB0_155.out _) | exact HI0.out)); (case side2 => repeat (first | (with_reducible first | exact HB.out | apply la_ | apply ln_ | apply ld_ | refine below_set ?_ (IsS126.ge HI0.out) | refine below_set ?_ GE145.out | refine below_set ?_ GE146.out | refine below_set ?_ GE155.out) | exact HB.out)); rintro e w66 ⟨rfl, hi, hb, hk⟩; refine ⟨_, rfl, ?_⟩; have n0_ := Aside0.mk (KeepBut.blk hk (g' := gb145) (o := .cells #[.slice A1_0 l1_0.length c1_0, .int .i64 a1_1, .slice A1_2 l1_2.length c1_2] 25 (0, 0)) (tk_ BK145.out) NB145_0.out (by simp)); have n1_ := Aside0.mk (KeepBut.blk hk (g' := gb146) (o := .cells #[.int .i64 0, .int .i64 0, .int .i64 0] 30 (0, 0)) (tk_ BK146.out) NB146_0.out (by simp)); have n2_ := Aside0.mk (KeepBut.blk hk (g' := gb155) (o := .cells #[.int .i64 (wrap64 ((rd y147 t150) + (wrap64 ((wrap64 (Int.tdiv t153 59)) * 5)))), .int .i64 x156001_6, .int .i64 x156002_6] 30 (0, 0)) (tk_ BK155.out) NB155_0.out (by simp)); have n3_ := Aside0.mk (KeepBut.trans (tc_ HK.out) hk (.inl rfl)); have n4_ := Aside0.mk (hb); have n5_ := Aside0.mk (hi); clear BK145 BK146 BK155 HK HB HI0; have BK145 := n0_; have BK146 := n1_; have BK155 := n2_; have HK := n3_; have HB := n4_; have HI0 := n5_; clear n0_ n1_ n2_ n3_ n4_ n5_; (try clear hb); (try clear hb2); (try clear hk); (try clear hi)) | ((with_reducible refine gate_dst (N := 54) rfl ?_); refine Kd.R_lit (Kd.int .i64) _ 3 ?hg (N := 54) ?hd (xs := ([(-100), 100] : List Int)) (inner := [.int .i64 (-100), .int .i64 100]) (ok := fun _ => True) (okp := fun _ => True) ?hr ?hp (fun _ hk => hk) trivial (Below.refl _ _) (Nat.le_refl _) (by simp) ?_; (case hd => rfl); (case hg => rfl); (case hr => first | (go_simp; done) | (go_simp; rfl)); (case hp => exact (Reps.one (show Kd.M (Kd.int .i64) _ _ _ (-100) [.int .i64 (-100)] from rfl) (Reps.one (show Kd.M (Kd.int .i64) _ _ _ 100 [.int .i64 100] from rfl) (Reps.none _ _)))); intro v169 w67 ho68 hb hg_ hnew_; clear hg_ hnew_; (first | rw [← Ny168.out] at ho68 | (simp only [Int.reduceToNat] at ho68; rw [← Ny168.out] at ho68)); have n0_ := Aside0.mk (Kd.R_lower ho68 (keep_size (w := w) (g := g) (row := none) (tc_ HK.out))); have n1_ := Aside0.mk (blk_below (g := gb145) (o := .cells #[.slice A1_0 l1_0.length c1_0, .int .i64 a1_1, .slice A1_2 l1_2.length c1_2] 25 (0, 0)) (tk_ BK145.out) hb); have n2_ := Aside0.mk (blk_below (g := gb146) (o := .cells #[.int .i64 0, .int .i64 0, .int .i64 0] 30 (0, 0)) (tk_ BK146.out) hb); have n3_ := Aside0.mk (blk_below (g := gb155) (o := .cells #[.int .i64 (wrap64 ((rd y147 t150) + (wrap64 ((wrap64 (Int.tdiv t153 59)) * 5)))), .int .i64 x156001_6, .int .i64 x156002_6] 30 (0, 0)) (tk_ BK155.out) hb); have n4_ := Aside0.mk (IsS126.below (by repeat (first | (with_reducible first | exact HI0.out | apply IsS126.alloc | apply IsS126.drewN | apply IsS126.drew | apply IsS126.set_1 | refine IsS126.far ?_ NB0_145.out _ | refine IsS126.far ?_ NB0_146.out _ | refine IsS126.far ?_ NB0_155.out _) | exact HI0.out)) hb); have n5_ := Aside0.mk (KeepBut.trans (tc_ HK.out) (KeepBut.of_below hb g none) (.inl rfl)); have n6_ := Aside0.mk (below_step (by repeat (first | (with_reducible first | exact HB.out | apply la_ | apply ln_ | apply ld_ | refine below_set ?_ (IsS126.ge HI0.out) | refine below_set ?_ GE145.out | refine below_set ?_ GE146.out | refine below_set ?_ GE155.out) | exact HB.out)) hb); clear BK145 BK146 BK155 HI0 HK HB; have HO170 := n0_; have BK145 := n1_; have BK146 := n2_; have BK155 := n3_; have HI0 := n4_; have HK := n5_; have HB := n6_; clear n0_ n1_ n2_ n3_ n4_ n5_ n6_ hb ho68) | ((with_reducible refine gate_callee (f := 101) rfl ?_); refine goesL_ (some 56) rfl rfl Tryd.func101 (by kernel_rfl) rfl #[.pointer (some ⟨g, 0, none⟩), .int .i64 2] rfl tz_ ?_; (with_reducible refine (spec_l20Rd_pick.calls kj6 g s0_0 t167 2 t171 t172 w0 _ ?side1 ?side2 A62.out).mono ?_); (case side1 => repeat (first | (with_reducible first | exact HI0.out | apply IsS126.alloc | apply IsS126.drewN | apply IsS126.drew | apply IsS126.set_1 | refine IsS126.far ?_ NB0_145.out _ | refine IsS126.far ?_ NB0_146.out _ | refine IsS126.far ?_ NB0_155.out _) | exact HI0.out)); (case side2 => repeat (first | (with_reducible first | exact HB.out | apply la_ | apply ln_ | apply ld_ | refine below_set ?_ (IsS126.ge HI0.out) | refine below_set ?_ GE145.out | refine below_set ?_ GE146.out | refine below_set ?_ GE155.out) | exact HB.out)); rintro e w69 ⟨rfl, hi, hb, hk⟩; refine ⟨_, rfl, ?_⟩; have n0_ := Aside0.mk (KeepBut.blk hk (g' := gb145) (o := .cells #[.slice A1_0 l1_0.length c1_0, .int .i64 a1_1, .slice A1_2 l1_2.length c1_2] 25 (0, 0)) (tk_ BK145.out) NB145_0.out (by simp)); have n1_ := Aside0.mk (KeepBut.blk hk (g' := gb146) (o := .cells #[.int .i64 0, .int .i64 0, .int .i64 0] 30 (0, 0)) (tk_ BK146.out) NB146_0.out (by simp)); have n2_ := Aside0.mk (KeepBut.blk hk (g' := gb155) (o := .cells #[.int .i64 (wrap64 ((rd y147 t150) + (wrap64 ((wrap64 (Int.tdiv t153 59)) * 5)))), .int .i64 x156001_6, .int .i64 x156002_6] 30 (0, 0)) (tk_ BK155.out) NB155_0.out (by simp)); have n3_ := Aside0.mk (Kd.R_mono (Kd.R_keep (IsS126.apart (show IsS126 w0 _ g s0_0 t167 from by repeat (first | (with_reducible first | exact HI0.out | apply IsS126.alloc | apply IsS126.drewN | apply IsS126.drew | apply IsS126.set_1 | refine IsS126.far ?_ NB0_145.out _ | refine IsS126.far ?_ NB0_146.out _ | refine IsS126.far ?_ NB0_155.out _) | exact HI0.out)) (rR_ HO170.out) (by decide)) hk (fun _ h => h.2)) (fun _ h => h.1)); have n4_ := Aside0.mk (KeepBut.trans (tc_ HK.out) hk (.inl rfl)); have n5_ := Aside0.mk (hb); have n6_ := Aside0.mk (hi); clear BK145 BK146 BK155 HO170 HK HB HI0; have BK145 := n0_; have BK146 := n1_; have BK155 := n2_; have HO170 := n3_; have HK := n4_; have HB := n5_; have HI0 := n6_; clear n0_ n1_ n2_ n3_ n4_ n5_ n6_; (try clear hb); (try clear hb2); (try clear hk); (try clear hi); obtain ⟨Ao70, co70, eo70⟩ := Kd.R_slice HO170.out; subst eo70; have p173 : 0 ≤ (t171 : Int) := od_; have q173 : t171 < (y168.length : Int) := od_; obtain ⟨ad173, e173, hx173_0⟩ := Kd.at_int (Kd.R_reads' HO170.out).2.2 t171 p173 q173; cases e173; replace p173 := eq_true p173; replace q173 := eq_true q173; have hnb71 := NB155_145.out; have hnc71 := NB145_155.out; have hnb72 := NB155_146.out; have hnc72 := NB146_155.out; have hnb73 := NB155_0.out; have hnc73 := NB0_155.out; have hcz74_0 : w69.cell? ⟨gb155, 0, none⟩ = some (.int .i64 (wrap64 ((rd y147 t150) + (wrap64 ((wrap64 (Int.tdiv t153 59)) * 5))))) := (blk_cell BK155.out 0).trans rfl; have hcz74_1 : w69.cell? ⟨gb155, 1, none⟩ = some (.int .i64 x156001_6) := (blk_cell BK155.out 1).trans rfl; have hcz74_2 : w69.cell? ⟨gb155, 2, none⟩ = some (.int .i64 x156002_6) := (blk_cell BK155.out 2).trans rfl; have hfz74_0 := blk_frozen BK155.out 0; have hfz74_1 := blk_frozen BK155.out 1; have hfz74_2 := blk_frozen BK155.out 2; have hnb75 := NB146_145.out; have hnc75 := NB145_146.out; have hnb76 := NB146_0.out; have hnc76 := NB0_146.out; have hcz77_0 : w69.cell? ⟨gb146, 0, none⟩ = some (.int .i64 0) := (blk_cell BK146.out 0).trans rfl; have hcz77_1 : w69.cell? ⟨gb146, 1, none⟩ = some (.int .i64 0) := (blk_cell BK146.out 1).trans rfl; have hcz77_2 : w69.cell? ⟨gb146, 2, none⟩ = some (.int .i64 0) := (blk_cell BK146.out 2).trans rfl; have hfz77_0 := blk_frozen BK146.out 0; have hfz77_1 := blk_frozen BK146.out 1; have hfz77_2 := blk_frozen BK146.out 2))
         refine bodyPost_ret (results_cell_row rfl _ _ gb146 30 #[.int .i64 (wrap64 ((rd y147 t150) + (wrap64 ((wrap64 (Int.tdiv t153 59)) * 5)))), .int .i64 (rd y168 t171), .int .i64 x156002_6] (0, 0) _ rfl (by refine bq_ ?_; refine blk_put (cs := #[.int .i64 (wrap64 ((rd y147 t150) + (wrap64 ((wrap64 (Int.tdiv t153 59)) * 5)))), .int .i64 (rd y168 t171), .int .i64 0]) ?_ 2 _ rfl; refine bq_ ?_; refine blk_put (cs := #[.int .i64 (wrap64 ((rd y147 t150) + (wrap64 ((wrap64 (Int.tdiv t153 59)) * 5)))), .int .i64 0, .int .i64 0]) ?_ 1 _ rfl; refine bq_ ?_; refine blk_put (cs := #[.int .i64 0, .int .i64 0, .int .i64 0]) ?_ 0 _ rfl; exact tk_ BK146.out) Tryd.underlying30 rfl (by kernel_rfl)) rfl ?_
         exact ⟨by first | rfl | (simp [errW_none, errW_some, Option.map_none, Option.map_some] <;> rfl) | (simp [*, errW_none, errW_some] <;> rfl), by repeat (first | (with_reducible first | exact HI0.out | apply IsS126.alloc | apply IsS126.drewN | apply IsS126.drew | apply IsS126.set_1 | refine IsS126.far ?_ NB0_145.out _ | refine IsS126.far ?_ NB0_146.out _ | refine IsS126.far ?_ NB0_155.out _) | exact HI0.out), by repeat (first | (with_reducible first | exact HB.out | apply la_ | apply ln_ | apply ld_ | refine below_set ?_ (IsS126.ge HI0.out) | refine below_set ?_ GE145.out | refine below_set ?_ GE146.out | refine below_set ?_ GE155.out) | exact HB.out), (tc_ HK.out)⟩
        ·
         rw [if_neg c64] at H
         exact absurd H (by simp)
       ·
        rw [if_neg c63] at H
        exact absurd H (by simp)
      ·
       rw [if_neg c61] at H
       have c61b0 : (t166 == 0) = false := beq_eq_false_iff_ne.mpr c61
       have c61b1 : (t166 != 0) = true := bne_iff_ne.mpr c61
       simp only [Option.some.injEq, Prod.mk.injEq] at H
       obtain ⟨rfl, rfl, rfl, rfl⟩ := H
       go_wp2_with (first | ((with_reducible refine gate_callee (f := 80) rfl ?_); refine goesL_ (some 48) rfl rfl Tryd.func80 (by kernel_rfl) rfl #[.pointer (some ⟨g, 0, none⟩), .int .i64 40] rfl tz_ ?_; (with_reducible refine (spec_l20Rd_odd.calls kj6 g s0_0 x1001_6 40 true t165 w0 _ ?side1 ?side2 A58.out).mono ?_); (case side1 => repeat (first | (with_reducible first | exact HI0.out | apply IsS126.alloc | apply IsS126.drewN | apply IsS126.drew | apply IsS126.set_1 | refine IsS126.far ?_ NB0_145.out _ | refine IsS126.far ?_ NB0_146.out _ | refine IsS126.far ?_ NB0_155.out _) | exact HI0.out)); (case side2 => repeat (first | (with_reducible first | exact HB.out | apply la_ | apply ln_ | apply ld_ | refine below_set ?_ (IsS126.ge HI0.out) | refine below_set ?_ GE145.out | refine below_set ?_ GE146.out | refine below_set ?_ GE155.out) | exact HB.out)); rintro e w78 ⟨rfl, hi, hb, hk⟩; refine ⟨_, rfl, ?_⟩; have n0_ := Aside0.mk (KeepBut.blk hk (g' := gb145) (o := .cells #[.slice A1_0 l1_0.length c1_0, .int .i64 a1_1, .slice A1_2 l1_2.length c1_2] 25 (0, 0)) (tk_ BK145.out) NB145_0.out (by simp)); have n1_ := Aside0.mk (KeepBut.blk hk (g' := gb146) (o := .cells #[.int .i64 0, .int .i64 0, .int .i64 0] 30 (0, 0)) (tk_ BK146.out) NB146_0.out (by simp)); have n2_ := Aside0.mk (KeepBut.blk hk (g' := gb155) (o := .cells #[.int .i64 (wrap64 ((rd y147 t150) + (wrap64 ((wrap64 (Int.tdiv t153 59)) * 5)))), .int .i64 x156001_6, .int .i64 x156002_6] 30 (0, 0)) (tk_ BK155.out) NB155_0.out (by simp)); have n3_ := Aside0.mk (KeepBut.trans (tc_ HK.out) hk (.inl rfl)); have n4_ := Aside0.mk (hb); have n5_ := Aside0.mk (hi); clear BK145 BK146 BK155 HK HB HI0; have BK145 := n0_; have BK146 := n1_; have BK155 := n2_; have HK := n3_; have HB := n4_; have HI0 := n5_; clear n0_ n1_ n2_ n3_ n4_ n5_; (try clear hb); (try clear hb2); (try clear hk); (try clear hi)) | ((with_reducible refine gate_callee (f := 101) rfl ?_); refine goesL_ (some 50) rfl rfl Tryd.func101 (by kernel_rfl) rfl #[.pointer (some ⟨g, 0, none⟩), .int .i64 2] rfl tz_ ?_; (with_reducible refine (spec_l20Rd_pick.calls kj6 g s0_0 t165 2 t166 t167 w0 _ ?side1 ?side2 A60.out).mono ?_); (case side1 => repeat (first | (with_reducible first | exact HI0.out | apply IsS126.alloc | apply IsS126.drewN | apply IsS126.drew | apply IsS126.set_1 | refine IsS126.far ?_ NB0_145.out _ | refine IsS126.far ?_ NB0_146.out _ | refine IsS126.far ?_ NB0_155.out _) | exact HI0.out)); (case side2 => repeat (first | (with_reducible first | exact HB.out | apply la_ | apply ln_ | apply ld_ | refine below_set ?_ (IsS126.ge HI0.out) | refine below_set ?_ GE145.out | refine below_set ?_ GE146.out | refine below_set ?_ GE155.out) | exact HB.out)); rintro e w79 ⟨rfl, hi, hb, hk⟩; refine ⟨_, rfl, ?_⟩; have n0_ := Aside0.mk (KeepBut.blk hk (g' := gb145) (o := .cells #[.slice A1_0 l1_0.length c1_0, .int .i64 a1_1, .slice A1_2 l1_2.length c1_2] 25 (0, 0)) (tk_ BK145.out) NB145_0.out (by simp)); have n1_ := Aside0.mk (KeepBut.blk hk (g' := gb146) (o := .cells #[.int .i64 0, .int .i64 0, .int .i64 0] 30 (0, 0)) (tk_ BK146.out) NB146_0.out (by simp)); have n2_ := Aside0.mk (KeepBut.blk hk (g' := gb155) (o := .cells #[.int .i64 (wrap64 ((rd y147 t150) + (wrap64 ((wrap64 (Int.tdiv t153 59)) * 5)))), .int .i64 x156001_6, .int .i64 x156002_6] 30 (0, 0)) (tk_ BK155.out) NB155_0.out (by simp)); have n3_ := Aside0.mk (KeepBut.trans (tc_ HK.out) hk (.inl rfl)); have n4_ := Aside0.mk (hb); have n5_ := Aside0.mk (hi); clear BK145 BK146 BK155 HK HB HI0; have BK145 := n0_; have BK146 := n1_; have BK155 := n2_; have HK := n3_; have HB := n4_; have HI0 := n5_; clear n0_ n1_ n2_ n3_ n4_ n5_; (try clear hb); (try clear hb2); (try clear hk); (try clear hi); have hnb80 := NB155_145.out; have hnc80 := NB145_155.out; have hnb81 := NB155_146.out; have hnc81 := NB146_155.out; have hnb82 := NB155_0.out; have hnc82 := NB0_155.out; have hcz83_0 : w79.cell? ⟨gb155, 0, none⟩ = some (.int .i64 (wrap64 ((rd y147 t150) + (wrap64 ((wrap64 (Int.tdiv t153 59)) * 5))))) := (blk_cell BK155.out 0).trans rfl; have hcz83_1 : w79.cell? ⟨gb155, 1, none⟩ = some (.int .i64 x156001_6) := (blk_cell BK155.out 1).trans rfl; have hcz83_2 : w79.cell? ⟨gb155, 2, none⟩ = some (.int .i64 x156002_6) := (blk_cell BK155.out 2).trans rfl; have hfz83_0 := blk_frozen BK155.out 0; have hfz83_1 := blk_frozen BK155.out 1; have hfz83_2 := blk_frozen BK155.out 2; have hnb84 := NB146_145.out; have hnc84 := NB145_146.out; have hnb85 := NB146_0.out; have hnc85 := NB0_146.out; have hcz86_0 : w79.cell? ⟨gb146, 0, none⟩ = some (.int .i64 0) := (blk_cell BK146.out 0).trans rfl; have hcz86_1 : w79.cell? ⟨gb146, 1, none⟩ = some (.int .i64 0) := (blk_cell BK146.out 1).trans rfl; have hcz86_2 : w79.cell? ⟨gb146, 2, none⟩ = some (.int .i64 0) := (blk_cell BK146.out 2).trans rfl; have hfz86_0 := blk_frozen BK146.out 0; have hfz86_1 := blk_frozen BK146.out 1; have hfz86_2 := blk_frozen BK146.out 2))
       refine bodyPost_ret (results_cell_row rfl _ _ gb146 30 #[.int .i64 (wrap64 ((rd y147 t150) + (wrap64 ((wrap64 (Int.tdiv t153 59)) * 5)))), .int .i64 x156001_6, .int .i64 99] (0, 0) _ rfl (by refine bq_ ?_; refine blk_put (cs := #[.int .i64 (wrap64 ((rd y147 t150) + (wrap64 ((wrap64 (Int.tdiv t153 59)) * 5)))), .int .i64 x156001_6, .int .i64 0]) ?_ 2 _ rfl; refine bq_ ?_; refine blk_put (cs := #[.int .i64 (wrap64 ((rd y147 t150) + (wrap64 ((wrap64 (Int.tdiv t153 59)) * 5)))), .int .i64 0, .int .i64 0]) ?_ 1 _ rfl; refine bq_ ?_; refine blk_put (cs := #[.int .i64 0, .int .i64 0, .int .i64 0]) ?_ 0 _ rfl; exact tk_ BK146.out) Tryd.underlying30 rfl (by kernel_rfl)) rfl ?_
       exact ⟨by first | rfl | (simp [errW_none, errW_some, Option.map_none, Option.map_some] <;> rfl) | (simp [*, errW_none, errW_some] <;> rfl), by repeat (first | (with_reducible first | exact HI0.out | apply IsS126.alloc | apply IsS126.drewN | apply IsS126.drew | apply IsS126.set_1 | refine IsS126.far ?_ NB0_145.out _ | refine IsS126.far ?_ NB0_146.out _ | refine IsS126.far ?_ NB0_155.out _) | exact HI0.out), by repeat (first | (with_reducible first | exact HB.out | apply la_ | apply ln_ | apply ld_ | refine below_set ?_ (IsS126.ge HI0.out) | refine below_set ?_ GE145.out | refine below_set ?_ GE146.out | refine below_set ?_ GE155.out) | exact HB.out), (tc_ HK.out)⟩
     ·
      replace c59 := Bool.eq_false_iff.mpr c59
      subst c59
      have H1 : (some ((wrap64 ((rd y147 t150) + (wrap64 ((wrap64 (Int.tdiv t153 59)) * 5)))), x156001_6, x156002_6, t165)) = some (r1, r2, r3, r4) := by rw [if_neg (show ¬ (false = true) by decide)] at H; exact H
      clear H
      have H := H1
      clear H1
      simp only [Option.some.injEq, Prod.mk.injEq] at H
      obtain ⟨rfl, rfl, rfl, rfl⟩ := H
      go_wp2_with (first | ((with_reducible refine gate_callee (f := 80) rfl ?_); refine goesL_ (some 48) rfl rfl Tryd.func80 (by kernel_rfl) rfl #[.pointer (some ⟨g, 0, none⟩), .int .i64 40] rfl tz_ ?_; (with_reducible refine (spec_l20Rd_odd.calls kj6 g s0_0 x1001_6 40 false t165 w0 _ ?side1 ?side2 A58.out).mono ?_); (case side1 => repeat (first | (with_reducible first | exact HI0.out | apply IsS126.alloc | apply IsS126.drewN | apply IsS126.drew | apply IsS126.set_1 | refine IsS126.far ?_ NB0_145.out _ | refine IsS126.far ?_ NB0_146.out _ | refine IsS126.far ?_ NB0_155.out _) | exact HI0.out)); (case side2 => repeat (first | (with_reducible first | exact HB.out | apply la_ | apply ln_ | apply ld_ | refine below_set ?_ (IsS126.ge HI0.out) | refine below_set ?_ GE145.out | refine below_set ?_ GE146.out | refine below_set ?_ GE155.out) | exact HB.out)); rintro e w87 ⟨rfl, hi, hb, hk⟩; refine ⟨_, rfl, ?_⟩; have n0_ := Aside0.mk (KeepBut.blk hk (g' := gb145) (o := .cells #[.slice A1_0 l1_0.length c1_0, .int .i64 a1_1, .slice A1_2 l1_2.length c1_2] 25 (0, 0)) (tk_ BK145.out) NB145_0.out (by simp)); have n1_ := Aside0.mk (KeepBut.blk hk (g' := gb146) (o := .cells #[.int .i64 0, .int .i64 0, .int .i64 0] 30 (0, 0)) (tk_ BK146.out) NB146_0.out (by simp)); have n2_ := Aside0.mk (KeepBut.blk hk (g' := gb155) (o := .cells #[.int .i64 (wrap64 ((rd y147 t150) + (wrap64 ((wrap64 (Int.tdiv t153 59)) * 5)))), .int .i64 x156001_6, .int .i64 x156002_6] 30 (0, 0)) (tk_ BK155.out) NB155_0.out (by simp)); have n3_ := Aside0.mk (KeepBut.trans (tc_ HK.out) hk (.inl rfl)); have n4_ := Aside0.mk (hb); have n5_ := Aside0.mk (hi); clear BK145 BK146 BK155 HK HB HI0; have BK145 := n0_; have BK146 := n1_; have BK155 := n2_; have HK := n3_; have HB := n4_; have HI0 := n5_; clear n0_ n1_ n2_ n3_ n4_ n5_; (try clear hb); (try clear hb2); (try clear hk); (try clear hi); have hnb88 := NB155_145.out; have hnc88 := NB145_155.out; have hnb89 := NB155_146.out; have hnc89 := NB146_155.out; have hnb90 := NB155_0.out; have hnc90 := NB0_155.out; have hcz91_0 : w87.cell? ⟨gb155, 0, none⟩ = some (.int .i64 (wrap64 ((rd y147 t150) + (wrap64 ((wrap64 (Int.tdiv t153 59)) * 5))))) := (blk_cell BK155.out 0).trans rfl; have hcz91_1 : w87.cell? ⟨gb155, 1, none⟩ = some (.int .i64 x156001_6) := (blk_cell BK155.out 1).trans rfl; have hcz91_2 : w87.cell? ⟨gb155, 2, none⟩ = some (.int .i64 x156002_6) := (blk_cell BK155.out 2).trans rfl; have hfz91_0 := blk_frozen BK155.out 0; have hfz91_1 := blk_frozen BK155.out 1; have hfz91_2 := blk_frozen BK155.out 2; have hnb92 := NB146_145.out; have hnc92 := NB145_146.out; have hnb93 := NB146_0.out; have hnc93 := NB0_146.out; have hcz94_0 : w87.cell? ⟨gb146, 0, none⟩ = some (.int .i64 0) := (blk_cell BK146.out 0).trans rfl; have hcz94_1 : w87.cell? ⟨gb146, 1, none⟩ = some (.int .i64 0) := (blk_cell BK146.out 1).trans rfl; have hcz94_2 : w87.cell? ⟨gb146, 2, none⟩ = some (.int .i64 0) := (blk_cell BK146.out 2).trans rfl; have hfz94_0 := blk_frozen BK146.out 0; have hfz94_1 := blk_frozen BK146.out 1; have hfz94_2 := blk_frozen BK146.out 2))
      refine bodyPost_ret (results_cell_row rfl _ _ gb146 30 #[.int .i64 (wrap64 ((rd y147 t150) + (wrap64 ((wrap64 (Int.tdiv t153 59)) * 5)))), .int .i64 x156001_6, .int .i64 x156002_6] (0, 0) _ rfl (by refine bq_ ?_; refine blk_put (cs := #[.int .i64 (wrap64 ((rd y147 t150) + (wrap64 ((wrap64 (Int.tdiv t153 59)) * 5)))), .int .i64 x156001_6, .int .i64 0]) ?_ 2 _ rfl; refine bq_ ?_; refine blk_put (cs := #[.int .i64 (wrap64 ((rd y147 t150) + (wrap64 ((wrap64 (Int.tdiv t153 59)) * 5)))), .int .i64 0, .int .i64 0]) ?_ 1 _ rfl; refine bq_ ?_; refine blk_put (cs := #[.int .i64 0, .int .i64 0, .int .i64 0]) ?_ 0 _ rfl; exact tk_ BK146.out) Tryd.underlying30 rfl (by kernel_rfl)) rfl ?_
      exact ⟨by first | rfl | (simp [errW_none, errW_some, Option.map_none, Option.map_some] <;> rfl) | (simp [*, errW_none, errW_some] <;> rfl), by repeat (first | (with_reducible first | exact HI0.out | apply IsS126.alloc | apply IsS126.drewN | apply IsS126.drew | apply IsS126.set_1 | refine IsS126.far ?_ NB0_145.out _ | refine IsS126.far ?_ NB0_146.out _ | refine IsS126.far ?_ NB0_155.out _) | exact HI0.out), by repeat (first | (with_reducible first | exact HB.out | apply la_ | apply ln_ | apply ld_ | refine below_set ?_ (IsS126.ge HI0.out) | refine below_set ?_ GE145.out | refine below_set ?_ GE146.out | refine below_set ?_ GE155.out) | exact HB.out), (tc_ HK.out)⟩
  ·
   rw [if_neg c5] at H
   exact absurd H (by simp)
 ·
  rw [if_neg c4] at H
  exact absurd H (by simp)

end Go.Proofs.YtlhiienanbpdlaaDoor.MFnDeedText
