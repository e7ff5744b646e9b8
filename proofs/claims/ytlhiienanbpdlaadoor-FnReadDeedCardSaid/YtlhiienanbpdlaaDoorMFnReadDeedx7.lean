/- For the law FnReadDeed: walks of the functions that it reaches: each call returns what the plain function beside it tells. The conditions stand in each statement. -/
import Derived.Test.YtlhiienanbpdlaaDoorV
import Derived.Test.YtlhiienanbpdlaaDoorMFnReadDeedx0
import Derived.Test.YtlhiienanbpdlaaDoorMFnReadDeedx6
namespace Go.Proofs.YtlhiienanbpdlaaDoor.MFnReadDeed
open Go.RowKit Go.Proofs.YtlhiienanbpdlaaDoorW.PrintWords Go.Proofs.YtlhiienanbpdlaaDoorW.PrintLast Go.Proofs.YtlhiienanbpdlaaDoorW.PrintMore
attribute [local go_sem] max2_int min2_int max_two min_two max_three min_three max_four min_four   -- for this text's walks alone
set_option linter.unusedVariables false
set_option linter.unusedSimpArgs false

/-! ### spec_l20Deed: function 66 -/
def spec_l20Deed.j0 : Nat → List Int → Int → Int → Int → Int → Option (Int × Int × Int × Int)
 | 0, _, _, _, _, _ => none
 | k + 1, x1000, x1001, x210000, x210001, x210002 => (spec_l20Rd_odd.f k x1000 x1001 40).bind fun bt218 => (if bt218.1 = true then ((spec_l20Rd_pick.f k x1000 bt218.2 2).bind fun bt220 => (if bt220.1 = 0 then ((some (([(-100), 100] : List Int) : List Int)).bind fun y222 => ((spec_l20Rd_pick.f k x1000 bt220.2 2).bind fun bt225 => (if 0 ≤ bt225.1 then (if bt225.1 < (y222.length : Int) then (some (x210000, rd y222 bt225.1, x210002, bt225.2)) else (none)) else (none)))) else (some (x210000, x210001, 99, bt220.2)))) else (some (x210000, x210001, x210002, bt218.2)))
def spec_l20Deed.f (k : Nat) (s0_0 : List Int) (s0_1 : Int) (l1_0 : List Int) (a1_1 : Int) (l1_2 : List Int) : Option (Int × Int × Int × Int) := (some (([0, 1, 2, 2, 2, 2, 3, 4] : List Int) : List Int)).bind fun y201 => ((spec_l20Rd_pick.f k s0_0 s0_1 8).bind fun bt204 => (if 0 ≤ bt204.1 then (if bt204.1 < (y201.length : Int) then ((spec_l20Rd_pick.f k s0_0 bt204.2 60).bind fun bt207 => (if (wrap64 ((rd y201 bt204.1) + (wrap64 ((wrap64 (Int.tdiv bt207.1 59)) * 5)))) = 0 then ((spec_l20Rd_pick.f k s0_0 bt207.2 (mx (l1_0.length : Int) 1)).bind fun bt210 => ((spec_l20Rd_pick.f k s0_0 bt210.2 7).bind fun bt212 => (spec_l20Deed.j0 k s0_0 bt212.2 (wrap64 ((rd y201 bt204.1) + (wrap64 ((wrap64 (Int.tdiv bt207.1 59)) * 5)))) bt210.1 (wrap64 (bt212.1 - 3))))) else (if (wrap64 ((rd y201 bt204.1) + (wrap64 ((wrap64 (Int.tdiv bt207.1 59)) * 5)))) = 1 then ((spec_l20Rd_pick.f k s0_0 bt207.2 5).bind fun bt214 => (spec_l20Deed.j0 k s0_0 bt214.2 (wrap64 ((rd y201 bt204.1) + (wrap64 ((wrap64 (Int.tdiv bt207.1 59)) * 5)))) (wrap64 (bt214.1 - 1)) 0)) else (if (wrap64 ((rd y201 bt204.1) + (wrap64 ((wrap64 (Int.tdiv bt207.1 59)) * 5)))) = 2 then ((spec_l20Rd_pick.f k s0_0 bt207.2 (mx (l1_0.length : Int) 1)).bind fun bt216 => (spec_l20Deed.j0 k s0_0 bt216.2 (wrap64 ((rd y201 bt204.1) + (wrap64 ((wrap64 (Int.tdiv bt207.1 59)) * 5)))) bt216.1 0)) else (spec_l20Deed.j0 k s0_0 bt207.2 (wrap64 ((rd y201 bt204.1) + (wrap64 ((wrap64 (Int.tdiv bt207.1 59)) * 5)))) 0 0))))) else (none)) else (none)))
theorem spec_l20Deed.mono_l : ∀ k, (∀ y0 y1 y2 y3 y4, LeO (spec_l20Deed.j0 k y0 y1 y2 y3 y4) (spec_l20Deed.j0 (k + 1) y0 y1 y2 y3 y4))
 | 0 => fun _ _ _ _ _ r h => by simp [spec_l20Deed.j0] at h
 | k + 1 => by
  have ih0 := spec_l20Deed.mono_l k
  ·
   intro y0 y1 y2 y3 y4
   unfold spec_l20Deed.j0
   repeat' first
   | (with_reducible exact ih0 _ _ _ _ _)
   | (with_reducible exact spec_l20Rd_odd.mono _ _ _ _)
   | (with_reducible exact spec_l20Rd_pick.mono _ _ _ _)
   | (with_reducible exact LeO.refl _)
   | (with_reducible exact LeO.none _)
   | (with_reducible refine LeO.ite ?_ ?_)
   | (with_reducible refine LeO.bind ?_ (fun _ => ?_))
   | exact ih0 _ _ _ _ _
   | exact spec_l20Rd_odd.mono _ _ _ _
   | exact spec_l20Rd_pick.mono _ _ _ _
   | exact LeO.none _
   | refine LeO.ite ?_ ?_
   | refine LeO.bind ?_ (fun _ => ?_)
theorem spec_l20Deed.mono : ∀ a0 a1 a2 a3 a4 k, LeO (spec_l20Deed.f k a0 a1 a2 a3 a4) (spec_l20Deed.f (k + 1) a0 a1 a2 a3 a4) := by
 intro a0 a1 a2 a3 a4 k
 have ih0 := spec_l20Deed.mono_l k
 unfold spec_l20Deed.f
 repeat' first
   | (with_reducible exact ih0 _ _ _ _ _)
   | (with_reducible exact spec_l20Rd_odd.mono _ _ _ _)
   | (with_reducible exact spec_l20Rd_pick.mono _ _ _ _)
   | (with_reducible exact LeO.refl _)
   | (with_reducible exact LeO.none _)
   | (with_reducible refine LeO.ite ?_ ?_)
   | (with_reducible refine LeO.bind ?_ (fun _ => ?_))
   | exact ih0 _ _ _ _ _
   | exact spec_l20Rd_odd.mono _ _ _ _
   | exact spec_l20Rd_pick.mono _ _ _ _
   | exact LeO.none _
   | refine LeO.ite ?_ ?_
   | refine LeO.bind ?_ (fun _ => ?_)
def spec_l20Deed.T1 : Bool × List (List Nat × List Nat) := (true, [([], []), ([], []), ([1], [1]), ([0, 2], [0, 2]), ([3], [3]), ([], []), ([5, 2], [5]), ([6], [6]), ([7], [7]), ([4, 8], [4, 8]), ([9], [9]), ([], []), ([11, 10, 6, 0, 1, 2, 3, 4, 5, 6, 7, 8, 9, 10, 11], [10, 11])])
def spec_l20Deed.B1 : List Nat := [0, 0, 2, 7, 15, 0, 38, 102, 230, 511, 1023, 0, 4095]
theorem spec_l20Deed.tab1 : rtab .any (opsOf Tryd.f66 1) = spec_l20Deed.T1 := by kernel_rfl
theorem spec_l20Deed.bits1 : waitsOk spec_l20Deed.T1.2 spec_l20Deed.B1 = true := by kernel_rfl
set_option maxHeartbeats 8000000 in
set_option maxRecDepth 100000 in
theorem spec_l20Deed.calls (k : Nat) (g : Nat) (s0_0 : List Int) (s0_1 : Int) (A1_0 : Option Addr) (c1_0 : Nat) (l1_0 : List Int) (a1_1 : Int) (A1_2 : Option Addr) (c1_2 : Nat) (l1_2 : List Int) (r1 : Int) (r2 : Int) (r3 : Int) (r4 : Int) (w0 w : World) (hI : IsS126 w0 w g s0_0 s0_1) (hB : Below w0.heap.size w0 w) (hr1_0 : Kd.C (Kd.int .i64) w A1_0 l1_0.length l1_0) (hc1_0 : l1_0.length ≤ c1_0) (hf1_0 : ∀ ad, A1_0 = some ad → 0 < l1_0.length → ad.block ≠ g) (hr1_2 : Kd.C (Kd.int .i64) w A1_2 l1_2.length l1_2) (hc1_2 : l1_2.length ≤ c1_2) (hf1_2 : ∀ ad, A1_2 = some ad → 0 < l1_2.length → ad.block ≠ g) (h : spec_l20Deed.f k s0_0 s0_1 l1_0 a1_1 l1_2 = some (r1, r2, r3, r4)) :
  Calls Tryd.prog 66 #[.pointer (some ⟨g, 0, none⟩), .agg #[.slice A1_0 l1_0.length c1_0, .int .i64 a1_1, .slice A1_2 l1_2.length c1_2]] w fun e w' => e = .returned (.agg #[.int .i64 r1, .int .i64 r2, .int .i64 r3]) ∧ IsS126 w0 w' g s0_0 r4 ∧ Below w0.heap.size w0 w' ∧ KeepBut w w' g none := by
 have hu25 := Tryd.underlying25
 have hu30 := Tryd.underlying30
 have HR1_0 := Aside0.mk hr1_0
 have HC1_0 := Aside0.mk hc1_0
 clear hr1_0 hc1_0
 have HR1_2 := Aside0.mk hr1_2
 have HC1_2 := Aside0.mk hc1_2
 clear hr1_2 hc1_2
 have HI0 := Aside0.mk hI
 have HK := Aside0.mk (KeepBut.refl w g none)
 have HL := Aside0.mk hB.size
 have HLg := Aside0.mk hI.lt
 clear hI
 have HW0 := Aside0.mk hB.size
 have HB := Aside0.mk hB
 clear hB
 have H : ((some (([0, 1, 2, 2, 2, 2, 3, 4] : List Int) : List Int)).bind fun y201 => ((spec_l20Rd_pick.f k s0_0 s0_1 8).bind fun bt204 => (if 0 ≤ bt204.1 then (if bt204.1 < (y201.length : Int) then ((spec_l20Rd_pick.f k s0_0 bt204.2 60).bind fun bt207 => (if (wrap64 ((rd y201 bt204.1) + (wrap64 ((wrap64 (Int.tdiv bt207.1 59)) * 5)))) = 0 then ((spec_l20Rd_pick.f k s0_0 bt207.2 (mx (l1_0.length : Int) 1)).bind fun bt210 => ((spec_l20Rd_pick.f k s0_0 bt210.2 7).bind fun bt212 => (spec_l20Deed.j0 k s0_0 bt212.2 (wrap64 ((rd y201 bt204.1) + (wrap64 ((wrap64 (Int.tdiv bt207.1 59)) * 5)))) bt210.1 (wrap64 (bt212.1 - 3))))) else (if (wrap64 ((rd y201 bt204.1) + (wrap64 ((wrap64 (Int.tdiv bt207.1 59)) * 5)))) = 1 then ((spec_l20Rd_pick.f k s0_0 bt207.2 5).bind fun bt214 => (spec_l20Deed.j0 k s0_0 bt214.2 (wrap64 ((rd y201 bt204.1) + (wrap64 ((wrap64 (Int.tdiv bt207.1 59)) * 5)))) (wrap64 (bt214.1 - 1)) 0)) else (if (wrap64 ((rd y201 bt204.1) + (wrap64 ((wrap64 (Int.tdiv bt207.1 59)) * 5)))) = 2 then ((spec_l20Rd_pick.f k s0_0 bt207.2 (mx (l1_0.length : Int) 1)).bind fun bt216 => (spec_l20Deed.j0 k s0_0 bt216.2 (wrap64 ((rd y201 bt204.1) + (wrap64 ((wrap64 (Int.tdiv bt207.1 59)) * 5)))) bt216.1 0)) else (spec_l20Deed.j0 k s0_0 bt207.2 (wrap64 ((rd y201 bt204.1) + (wrap64 ((wrap64 (Int.tdiv bt207.1 59)) * 5)))) 0 0))))) else (none)) else (none)))) = some (r1, r2, r3, r4) := h
 clear h
 obtain ⟨y201, hy201⟩ : ∃ y_ : List Int, y_ = (([0, 1, 2, 2, 2, 2, 3, 4] : List Int)) := ⟨_, rfl⟩
 replace H : ((spec_l20Rd_pick.f k s0_0 s0_1 8).bind fun bt204 => (if 0 ≤ bt204.1 then (if bt204.1 < (y201.length : Int) then ((spec_l20Rd_pick.f k s0_0 bt204.2 60).bind fun bt207 => (if (wrap64 ((rd y201 bt204.1) + (wrap64 ((wrap64 (Int.tdiv bt207.1 59)) * 5)))) = 0 then ((spec_l20Rd_pick.f k s0_0 bt207.2 (mx (l1_0.length : Int) 1)).bind fun bt210 => ((spec_l20Rd_pick.f k s0_0 bt210.2 7).bind fun bt212 => (spec_l20Deed.j0 k s0_0 bt212.2 (wrap64 ((rd y201 bt204.1) + (wrap64 ((wrap64 (Int.tdiv bt207.1 59)) * 5)))) bt210.1 (wrap64 (bt212.1 - 3))))) else (if (wrap64 ((rd y201 bt204.1) + (wrap64 ((wrap64 (Int.tdiv bt207.1 59)) * 5)))) = 1 then ((spec_l20Rd_pick.f k s0_0 bt207.2 5).bind fun bt214 => (spec_l20Deed.j0 k s0_0 bt214.2 (wrap64 ((rd y201 bt204.1) + (wrap64 ((wrap64 (Int.tdiv bt207.1 59)) * 5)))) (wrap64 (bt214.1 - 1)) 0)) else (if (wrap64 ((rd y201 bt204.1) + (wrap64 ((wrap64 (Int.tdiv bt207.1 59)) * 5)))) = 2 then ((spec_l20Rd_pick.f k s0_0 bt207.2 (mx (l1_0.length : Int) 1)).bind fun bt216 => (spec_l20Deed.j0 k s0_0 bt216.2 (wrap64 ((rd y201 bt204.1) + (wrap64 ((wrap64 (Int.tdiv bt207.1 59)) * 5)))) bt216.1 0)) else (spec_l20Deed.j0 k s0_0 bt207.2 (wrap64 ((rd y201 bt204.1) + (wrap64 ((wrap64 (Int.tdiv bt207.1 59)) * 5)))) 0 0))))) else (none)) else (none))) = some (r1, r2, r3, r4) := by first | (rw [hy201]; with_reducible exact H) | (have H2_ := (Option.bind_some _ _).symm.trans H; rw [hy201]; with_reducible exact H2_) | (have H2_ := (Option.bind_some _ _).symm.trans H; with_reducible exact H2_) | with_reducible exact H | (rw [hy201]; exact H) | exact H
 have Ny201 := Aside0.mk hy201
 clear hy201
 replace H := Option.bind_eq_some_iff.mp H
 obtain ⟨⟨t204, t205⟩, A30, H⟩ := H
 replace H : (if 0 ≤ t204 then (if t204 < (y201.length : Int) then ((spec_l20Rd_pick.f k s0_0 t205 60).bind fun bt207 => (if (wrap64 ((rd y201 t204) + (wrap64 ((wrap64 (Int.tdiv bt207.1 59)) * 5)))) = 0 then ((spec_l20Rd_pick.f k s0_0 bt207.2 (mx (l1_0.length : Int) 1)).bind fun bt210 => ((spec_l20Rd_pick.f k s0_0 bt210.2 7).bind fun bt212 => (spec_l20Deed.j0 k s0_0 bt212.2 (wrap64 ((rd y201 t204) + (wrap64 ((wrap64 (Int.tdiv bt207.1 59)) * 5)))) bt210.1 (wrap64 (bt212.1 - 3))))) else (if (wrap64 ((rd y201 t204) + (wrap64 ((wrap64 (Int.tdiv bt207.1 59)) * 5)))) = 1 then ((spec_l20Rd_pick.f k s0_0 bt207.2 5).bind fun bt214 => (spec_l20Deed.j0 k s0_0 bt214.2 (wrap64 ((rd y201 t204) + (wrap64 ((wrap64 (Int.tdiv bt207.1 59)) * 5)))) (wrap64 (bt214.1 - 1)) 0)) else (if (wrap64 ((rd y201 t204) + (wrap64 ((wrap64 (Int.tdiv bt207.1 59)) * 5)))) = 2 then ((spec_l20Rd_pick.f k s0_0 bt207.2 (mx (l1_0.length : Int) 1)).bind fun bt216 => (spec_l20Deed.j0 k s0_0 bt216.2 (wrap64 ((rd y201 t204) + (wrap64 ((wrap64 (Int.tdiv bt207.1 59)) * 5)))) bt216.1 0)) else (spec_l20Deed.j0 k s0_0 bt207.2 (wrap64 ((rd y201 t204) + (wrap64 ((wrap64 (Int.tdiv bt207.1 59)) * 5)))) 0 0))))) else (none)) else (none)) = some (r1, r2, r3, r4) := H
 have A3 := Aside0.mk A30
 clear A30
 by_cases c4 : 0 ≤ t204
 ·
  rw [if_pos c4] at H
  have c4b0 : decide (0 ≤ t204) = true := decide_eq_true c4
  clear c4
  by_cases c5 : t204 < (y201.length : Int)
  ·
   rw [if_pos c5] at H
   have c5b0 : decide (t204 < (y201.length : Int)) = true := decide_eq_true c5
   clear c5
   replace H := Option.bind_eq_some_iff.mp H
   obtain ⟨⟨t207, t208⟩, A60, H⟩ := H
   replace H : (if (wrap64 ((rd y201 t204) + (wrap64 ((wrap64 (Int.tdiv t207 59)) * 5)))) = 0 then ((spec_l20Rd_pick.f k s0_0 t208 (mx (l1_0.length : Int) 1)).bind fun bt210 => ((spec_l20Rd_pick.f k s0_0 bt210.2 7).bind fun bt212 => (spec_l20Deed.j0 k s0_0 bt212.2 (wrap64 ((rd y201 t204) + (wrap64 ((wrap64 (Int.tdiv t207 59)) * 5)))) bt210.1 (wrap64 (bt212.1 - 3))))) else (if (wrap64 ((rd y201 t204) + (wrap64 ((wrap64 (Int.tdiv t207 59)) * 5)))) = 1 then ((spec_l20Rd_pick.f k s0_0 t208 5).bind fun bt214 => (spec_l20Deed.j0 k s0_0 bt214.2 (wrap64 ((rd y201 t204) + (wrap64 ((wrap64 (Int.tdiv t207 59)) * 5)))) (wrap64 (bt214.1 - 1)) 0)) else (if (wrap64 ((rd y201 t204) + (wrap64 ((wrap64 (Int.tdiv t207 59)) * 5)))) = 2 then ((spec_l20Rd_pick.f k s0_0 t208 (mx (l1_0.length : Int) 1)).bind fun bt216 => (spec_l20Deed.j0 k s0_0 bt216.2 (wrap64 ((rd y201 t204) + (wrap64 ((wrap64 (Int.tdiv t207 59)) * 5)))) bt216.1 0)) else (spec_l20Deed.j0 k s0_0 t208 (wrap64 ((rd y201 t204) + (wrap64 ((wrap64 (Int.tdiv t207 59)) * 5)))) 0 0)))) = some (r1, r2, r3, r4) := H
   have A6 := Aside0.mk A60
   clear A60
   have HC7 := Aside0.mk H
   clear H
   go_enter Tryd.func66, Tryd.ntmps66
   try go_wp2_with (first | ((with_reducible refine gate_dst (N := 3) rfl ?_); refine box_event ?hg (N := 3) ?hd (cs := #[.slice A1_0 l1_0.length c1_0, .int .i64 a1_1, .slice A1_2 l1_2.length c1_2]) (t := 25) ?hr ?_; (case hd => rfl); (case hg => rfl); (case hr => first | (go_simp; done) | (go_simp; rfl)); intro gb199 hg w8 hbox hb; have n0_ := Aside0.mk (IsS126.below (by repeat (first | (with_reducible first | exact HI0.out | apply IsS126.alloc | apply IsS126.drewN | apply IsS126.drew | apply IsS126.set_1) | exact HI0.out)) hb); have n1_ := Aside0.mk (KeepBut.trans (tc_ HK.out) (KeepBut.of_below hb g none) (.inl rfl)); have n2_ := Aside0.mk (below_step (by repeat (first | (with_reducible first | exact HB.out | apply la_ | apply ln_ | apply ld_ | refine below_set ?_ (IsS126.ge HI0.out)) | exact HB.out)) hb); have n3_ := Aside0.mk (hbox); have n4_ := Aside0.mk ((by rw [hg]; exact (keep_size (w := w) (g := g) (row := none) (tc_ HK.out)) : w.heap.size ≤ gb199)); have n5_ := Aside0.mk ((Nat.le_trans HW0.out (by rw [hg]; exact (keep_size (w := w) (g := g) (row := none) (tc_ HK.out)) : w.heap.size ≤ gb199) : w0.heap.size ≤ gb199)); have n6_ := Aside0.mk ((Nat.ne_of_lt (Nat.lt_of_lt_of_le HLg.out (by rw [hg]; exact (keep_size (w := w) (g := g) (row := none) (tc_ HK.out)))) : g ≠ gb199)); have n7_ := Aside0.mk ((Nat.ne_of_gt (Nat.lt_of_lt_of_le HLg.out (by rw [hg]; exact (keep_size (w := w) (g := g) (row := none) (tc_ HK.out)))) : gb199 ≠ g)); clear HI0 HK HB; have HI0 := n0_; have HK := n1_; have HB := n2_; have BK199 := n3_; have GW199 := n4_; have GE199 := n5_; have NB0_199 := n6_; have NB199_0 := n7_; clear n0_ n1_ n2_ n3_ n4_ n5_ n6_ n7_ hb hbox hg) | ((with_reducible refine gate_dst (N := 4) rfl ?_); refine box_event ?hg (N := 4) ?hd (cs := #[.int .i64 0, .int .i64 0, .int .i64 0]) (t := 30) ?hr ?_; (case hd => rfl); (case hg => rfl); (case hr => first | (go_simp; done) | (go_simp; rfl)); intro gb200 hg w9 hbox hb; have n0_ := Aside0.mk (IsS126.below (by repeat (first | (with_reducible first | exact HI0.out | apply IsS126.alloc | apply IsS126.drewN | apply IsS126.drew | apply IsS126.set_1 | refine IsS126.far ?_ NB0_199.out _) | exact HI0.out)) hb); have n1_ := Aside0.mk (blk_below (g := gb199) (o := .cells #[.slice A1_0 l1_0.length c1_0, .int .i64 a1_1, .slice A1_2 l1_2.length c1_2] 25 (0, 0)) (tk_ BK199.out) hb); have n2_ := Aside0.mk (KeepBut.trans (tc_ HK.out) (KeepBut.of_below hb g none) (.inl rfl)); have n3_ := Aside0.mk (below_step (by repeat (first | (with_reducible first | exact HB.out | apply la_ | apply ln_ | apply ld_ | refine below_set ?_ (IsS126.ge HI0.out) | refine below_set ?_ GE199.out) | exact HB.out)) hb); have n4_ := Aside0.mk (hbox); have n5_ := Aside0.mk ((by rw [hg]; exact (keep_size (w := w) (g := g) (row := none) (tc_ HK.out)) : w.heap.size ≤ gb200)); have n6_ := Aside0.mk ((Nat.le_trans HW0.out (by rw [hg]; exact (keep_size (w := w) (g := g) (row := none) (tc_ HK.out)) : w.heap.size ≤ gb200) : w0.heap.size ≤ gb200)); have n7_ := Aside0.mk ((by rw [hg]; exact Nat.ne_of_lt (blk_lt (g := gb199) (o := .cells #[.slice A1_0 l1_0.length c1_0, .int .i64 a1_1, .slice A1_2 l1_2.length c1_2] 25 (0, 0)) (tk_ BK199.out)) : gb199 ≠ gb200)); have n8_ := Aside0.mk ((by rw [hg]; exact Nat.ne_of_gt (blk_lt (g := gb199) (o := .cells #[.slice A1_0 l1_0.length c1_0, .int .i64 a1_1, .slice A1_2 l1_2.length c1_2] 25 (0, 0)) (tk_ BK199.out)) : gb200 ≠ gb199)); have n9_ := Aside0.mk ((Nat.ne_of_lt (Nat.lt_of_lt_of_le HLg.out (by rw [hg]; exact (keep_size (w := w) (g := g) (row := none) (tc_ HK.out)))) : g ≠ gb200)); have n10_ := Aside0.mk ((Nat.ne_of_gt (Nat.lt_of_lt_of_le HLg.out (by rw [hg]; exact (keep_size (w := w) (g := g) (row := none) (tc_ HK.out)))) : gb200 ≠ g)); clear HI0 BK199 HK HB; have HI0 := n0_; have BK199 := n1_; have HK := n2_; have HB := n3_; have BK200 := n4_; have GW200 := n5_; have GE200 := n6_; have NB199_200 := n7_; have NB200_199 := n8_; have NB0_200 := n9_; have NB200_0 := n10_; clear n0_ n1_ n2_ n3_ n4_ n5_ n6_ n7_ n8_ n9_ n10_ hb hbox hg))
   have pi206 : (0 ≤ (t204 : Int)) = True := eq_true (od_)
   have qi206 : (t204 < (y201.length : Int)) = True := eq_true (od_)
   have n0_ := Aside0.mk (blk_drew BK199.out)
   have n1_ := Aside0.mk (blk_drew BK200.out)
   have n2_ := Aside0.mk (IsS126.drew HI0.out)
   have n3_ := Aside0.mk (keep_drew HK.out)
   have n4_ := Aside0.mk (ld_ HB.out)
   clear BK199
   clear BK200
   clear HI0
   clear HK
   clear HB
   have BK199 := n0_
   have BK200 := n1_
   have HI0 := n2_
   have HK := n3_
   have HB := n4_
   clear n0_ n1_ n2_ n3_ n4_
   refine start_ (n := 13) (S := fun w' => True) (ds := []) #[false, false, false, false, false, false, false, false, false, false, false, false, false] (by kernel_rfl) rfl rfl trivial (fun hHeld => ?_); refine with_tabW spec_l20Deed.tab1 spec_l20Deed.bits1 (fun HT_ HW_ => ?_)
   generalize w9.drew = w10 at BK199 BK200 HI0 HK HB hHeld ⊢
   refine pure_ (i := 1) (N := some 7) (v := ?_) (a' := ?_) #[false, true, false, false, false, false, false, false, false, false, false, false, false] rfl rfl (any_of HT_.out (by kernel_rfl)) (fun _ _ _ h => h) (Or.inl ⟨by rfl, ?_⟩) ?_ ?_
   rotate_left
   ·
    intro w'
    go_simp
    first | with_reducible rfl | (rw [if_neg (by omega)]; done)
   rotate_left
   ·
    simp only [Act.put, sa_, sb_, sc_, i64_w, i32_w]
    rfl
   refine pure_ (i := 5) (N := some 11) (v := ?_) (a' := ?_) #[false, true, false, false, false, true, false, false, false, false, false, false, false] rfl rfl (any_of HT_.out (by kernel_rfl)) (fun _ _ _ h => h) (Or.inl ⟨by rfl, ?_⟩) ?_ ?_
   rotate_left
   ·
    intro w'
    go_simp
    first | with_reducible rfl | (rw [if_neg (by omega)]; done)
   rotate_left
   ·
    simp only [Act.put, sa_, sb_, sc_, i64_w, i32_w]
    rfl
   refine inv_at [0, 2, 3, 4, 6, 7, 8, 9, 10, 11, 12] (fun a0_ b a w' => ∃ (v202 : Value) (adz_v202 : Addr) (gb209 : Nat) (m3_ : Value) (m11_ : Value), a = putSel a0_ b [(0, 6, v202), (2, 8, .int .i64 t204), (3, 9, m3_), (4, 10, .int .i64 (rd y201 t204)), (6, 12, .int .i64 t207), (7, 13, .int .i64 (wrap64 (Int.tdiv t207 59))), (8, 14, .int .i64 (wrap64 ((wrap64 (Int.tdiv t207 59)) * 5))), (9, 15, .int .i64 (wrap64 ((rd y201 t204) + (wrap64 ((wrap64 (Int.tdiv t207 59)) * 5))))), (10, 16, .agg #[.int .i64 (wrap64 ((rd y201 t204) + (wrap64 ((wrap64 (Int.tdiv t207 59)) * 5)))), .int .i64 0, .int .i64 0]), (11, 5, m11_)] ∧ (w'.heap[gb199]? = some (.cells #[.slice A1_0 l1_0.length c1_0, .int .i64 a1_1, .slice A1_2 l1_2.length c1_2] 25 (0, 0))) ∧ (w'.heap[gb200]? = some (.cells #[.int .i64 0, .int .i64 0, .int .i64 0] 30 (0, 0))) ∧ (b 2 = false → IsS126 w0 w' g s0_0 s0_1) ∧ (KeepBut w w' g none) ∧ (Below w0.heap.size w0 w') ∧ (b 0 = true → Kd.R (Kd.int .i64) 3 w' w.heap.size (fun _ => True) v202 y201) ∧ (b 0 = true → ∃ c_, (v202 : Value) = .slice (some adz_v202) y201.length c_) ∧ (b 2 = true → b 6 = false → IsS126 w0 w' g s0_0 t205) ∧ (b 6 = true → IsS126 w0 w' g s0_0 t208) ∧ (b 11 = true → b 12 = false → w'.heap[gb209]? = some (.cells #[.int .i64 0, .int .i64 0, .int .i64 0] 30 (0, 0))) ∧ (b 11 = true → w.heap.size ≤ gb209) ∧ (b 11 = true → w0.heap.size ≤ gb209) ∧ (b 11 = true → g ≠ gb209) ∧ (b 11 = true → gb209 ≠ g) ∧ (b 11 = true → gb199 ≠ gb209) ∧ (b 11 = true → gb209 ≠ gb199) ∧ (b 11 = true → gb200 ≠ gb209) ∧ (b 11 = true → gb209 ≠ gb200) ∧ (b 12 = true → w'.heap[gb209]? = some (.cells #[.int .i64 (wrap64 ((rd y201 t204) + (wrap64 ((wrap64 (Int.tdiv t207 59)) * 5)))), .int .i64 0, .int .i64 0] 30 (0, 0))) ∧ (b 3 = true → (m3_ : Value) = .pointer (some (adz_v202.add (t204).toNat))) ∧ (b 11 = true → (m11_ : Value) = .pointer (some ⟨gb209, 0, none⟩))) HT_.out HW_.out (by kernel_rfl) (by kernel_rfl) ?_ ?_ ?_
   ·
    exact ⟨.bool false, ⟨0, 0, none⟩, 0, .bool false, .bool false, by simp only [putSel, Bool.false_eq_true, if_false], BK199.out, BK200.out, fun _ => HI0.out, HK.out, HB.out, fun h_ => absurd h_ (by decide), fun h_ => absurd h_ (by decide), fun h_ => absurd h_ (by decide), fun h_ => absurd h_ (by decide), fun h_ => absurd h_ (by decide), fun h_ => absurd h_ (by decide), fun h_ => absurd h_ (by decide), fun h_ => absurd h_ (by decide), fun h_ => absurd h_ (by decide), fun h_ => absurd h_ (by decide), fun h_ => absurd h_ (by decide), fun h_ => absurd h_ (by decide), fun h_ => absurd h_ (by decide), fun h_ => absurd h_ (by decide), fun h_ => absurd h_ (by decide), fun h_ => absurd h_ (by decide)⟩
   ·
    skip
    clear BK199 BK200 HB HI0 HK
    refine steps_cons ?_ ?_
    ·
     rintro b a w' ⟨v202, adz_v202, gb209, m3_, m11_, ha, Q_BK199, Q_BK200, Q_HI0, Q_HK, Q_HB, Q_HO203, Q_HA_HO203, Q_HI0_e2, Q_HI0_e6, Q_BK209, Q_GW209, Q_GE209, Q_NB0_209, Q_NB209_0, Q_NB199_209, Q_NB209_199, Q_NB200_209, Q_NB209_200, Q_BK209_e12, Q_X3_, Q_X11_⟩ hb_ hon hoff
     refine ⟨_, rfl, fun K hK => ?_⟩
     replace ha := Aside0.mk ha
     have BK199 := Aside0.mk Q_BK199
     have BK200 := Aside0.mk Q_BK200
     have HK := Aside0.mk Q_HK
     have HB := Aside0.mk Q_HB
     refine Kd.R_lit_step (Kd.int .i64) _ 3 ?hg (N := 6) ?hd (xs := ([0, 1, 2, 2, 2, 2, 3, 4] : List Int)) (inner := [.int .i64 0, .int .i64 1, .int .i64 2, .int .i64 2, .int .i64 2, .int .i64 2, .int .i64 3, .int .i64 4]) (ok := fun _ => True) (okp := fun _ => True) ?hr ?hp (fun _ hk => hk) trivial (Below.refl _ _) (Nat.le_refl _) (by simp) ?_; (case hd => rfl); (case hg => rfl); (case hr => first | (go_simp; done) | (go_simp; rfl)); (case hp => exact (Reps.one (show Kd.M (Kd.int .i64) _ _ _ 0 [.int .i64 0] from rfl) (Reps.one (show Kd.M (Kd.int .i64) _ _ _ 1 [.int .i64 1] from rfl) (Reps.one (show Kd.M (Kd.int .i64) _ _ _ 2 [.int .i64 2] from rfl) (Reps.one (show Kd.M (Kd.int .i64) _ _ _ 2 [.int .i64 2] from rfl) (Reps.one (show Kd.M (Kd.int .i64) _ _ _ 2 [.int .i64 2] from rfl) (Reps.one (show Kd.M (Kd.int .i64) _ _ _ 2 [.int .i64 2] from rfl) (Reps.one (show Kd.M (Kd.int .i64) _ _ _ 3 [.int .i64 3] from rfl) (Reps.one (show Kd.M (Kd.int .i64) _ _ _ 4 [.int .i64 4] from rfl) (Reps.none _ _))))))))))
     intro v202 w11 ho12 hb hg_ hnew_
     clear hg_ hnew_
     (first | rw [← Ny201.out] at ho12 | (simp only [Int.reduceToNat] at ho12; rw [← Ny201.out] at ho12))
     have n0_ := Aside0.mk (Kd.R_lower ho12 (keep_size (w := w) (g := g) (row := none) (tc_ HK.out)))
     have n2_ := Aside0.mk (blk_below (g := gb199) (o := .cells #[.slice A1_0 l1_0.length c1_0, .int .i64 a1_1, .slice A1_2 l1_2.length c1_2] 25 (0, 0)) (tk_ BK199.out) hb)
     have n3_ := Aside0.mk (blk_below (g := gb200) (o := .cells #[.int .i64 0, .int .i64 0, .int .i64 0] 30 (0, 0)) (tk_ BK200.out) hb)
     have n4_ := Aside0.mk (KeepBut.trans (tc_ HK.out) (KeepBut.of_below hb g none) (.inl rfl))
     have n5_ := Aside0.mk (below_step (tb_ HB.out) hb)
     have z_HI0 := fun (h0_ : b 2 = false) => (show IsS126 w0 w11 g s0_0 s0_1 from by first | exact (IsS126.below (by repeat (first | (with_reducible first | exact (Q_HI0 h0_) | apply IsS126.alloc | apply IsS126.drewN | apply IsS126.drew | apply IsS126.set_1 | refine IsS126.far ?_ NB0_199.out _ | refine IsS126.far ?_ NB0_200.out _) | exact (Q_HI0 h0_))) hb))
     have z_HI0_e2 := fun (h0_ : b 2 = true) (h1_ : b 6 = false) => (show IsS126 w0 w11 g s0_0 t205 from by first | exact (IsS126.below (by repeat (first | (with_reducible first | exact (Q_HI0_e2 h0_ h1_) | apply IsS126.alloc | apply IsS126.drewN | apply IsS126.drew | apply IsS126.set_1 | refine IsS126.far ?_ NB0_199.out _ | refine IsS126.far ?_ NB0_200.out _) | exact (Q_HI0_e2 h0_ h1_))) hb))
     have z_HI0_e6 := fun (h0_ : b 6 = true) => (show IsS126 w0 w11 g s0_0 t208 from by first | exact (IsS126.below (by repeat (first | (with_reducible first | exact (Q_HI0_e6 h0_) | apply IsS126.alloc | apply IsS126.drewN | apply IsS126.drew | apply IsS126.set_1 | refine IsS126.far ?_ NB0_199.out _ | refine IsS126.far ?_ NB0_200.out _) | exact (Q_HI0_e6 h0_))) hb))
     have z_BK209 := fun (h0_ : b 11 = true) (h1_ : b 12 = false) => (show w11.heap[gb209]? = some (.cells #[.int .i64 0, .int .i64 0, .int .i64 0] 30 (0, 0)) from by first | exact (blk_below (g := gb209) (o := .cells #[.int .i64 0, .int .i64 0, .int .i64 0] 30 (0, 0)) (by (with_reducible repeat (first | refine blk_drewN ?_ _ | refine blk_drew ?_ | refine blk_alloc ?_ _)); exact (Q_BK209 h0_ h1_)) hb))
     clear BK199
     clear BK200
     clear HK
     clear HB
     have HO203 := n0_
     have BK199 := n2_
     have BK200 := n3_
     have HK := n4_
     have HB := n5_
     clear n0_ n2_ n3_ n4_ n5_
     clear hb ho12
     obtain ⟨Ao13, co13, eo13⟩ := Kd.R_slice HO203.out
     subst eo13
     obtain ⟨ado13, fo13, _⟩ := Kd.at_int (Kd.R_reads' HO203.out).2.2 0 (by decide) (by rw [Ny201.out]; simp)
     cases fo13
     refine hK.out _ _ ⟨.slice (some ado13) y201.length co13, ado13, gb209, m3_, m11_, (by rw [ha.out]; exact putSel_upk 0 hb_ rfl rfl rfl), (tk_ BK199.out), (tk_ BK200.out), z_HI0, (tc_ HK.out), (tb_ HB.out), fun _ => (rR_ HO203.out), fun _ => ⟨_, rfl⟩, z_HI0_e2, z_HI0_e6, z_BK209, Q_GW209, Q_GE209, Q_NB0_209, Q_NB209_0, Q_NB199_209, Q_NB209_199, Q_NB200_209, Q_NB209_200, fun h0_ => absurd ((hoff 12 (by kernel_rfl)).symm.trans h0_) (by decide), fun h0_ => absurd ((hoff 3 (by kernel_rfl)).symm.trans h0_) (by decide), Q_X11_⟩
    refine steps_cons ?_ ?_
    ·
     rintro b a w' ⟨v202, adz_v202, gb209, m3_, m11_, ha, Q_BK199, Q_BK200, Q_HI0, Q_HK, Q_HB, Q_HO203, Q_HA_HO203, Q_HI0_e2, Q_HI0_e6, Q_BK209, Q_GW209, Q_GE209, Q_NB0_209, Q_NB209_0, Q_NB199_209, Q_NB209_199, Q_NB200_209, Q_NB209_200, Q_BK209_e12, Q_X3_, Q_X11_⟩ hb_ hon hoff
     refine ⟨_, rfl, fun K hK => ?_⟩
     have e7 : a.tmps[7]? = some (.pointer (some ⟨g, 0, none⟩)) := by rw [ha]; exact (putSel_off rfl).trans rfl
     replace ha := Aside0.mk ha
     have BK199 := Aside0.mk Q_BK199
     have BK200 := Aside0.mk Q_BK200
     have HI0 := Aside0.mk (Q_HI0 hb_)
     have HK := Aside0.mk Q_HK
     have HB := Aside0.mk Q_HB
     refine goes_ Tryd.func101 (by kernel_rfl) rfl #[.pointer (some ⟨g, 0, none⟩), .int .i64 8] (by rfl) rfl rfl (by first | (simp only [List.map_toArray, List.map_cons, List.map_nil, Act.eval, Array.getD_eq_getD_getElem?, Option.getD_some, e7]; done) | (simp only [List.map_toArray, List.map_cons, List.map_nil, Act.eval, Array.getD_eq_getD_getElem?, Option.getD_some, e7]; rfl)) ?_
     with_reducible refine (spec_l20Rd_pick.calls k g s0_0 s0_1 8 t204 t205 w0 _ ?side1 ?side2 A3.out).mono ?_
     (case side1 => repeat (first | (with_reducible first | exact HI0.out | apply IsS126.alloc | apply IsS126.drewN | apply IsS126.drew | apply IsS126.set_1 | refine IsS126.far ?_ NB0_199.out _ | refine IsS126.far ?_ NB0_200.out _) | exact HI0.out))
     (case side2 => repeat (first | (with_reducible first | exact HB.out | apply la_ | apply ln_ | apply ld_ | refine below_set ?_ (IsS126.ge HI0.out) | refine below_set ?_ GE199.out | refine below_set ?_ GE200.out) | exact HB.out))
     rintro e w11 ⟨rfl, hi, hb, hk⟩
     refine ⟨_, rfl, ?_⟩
     have n0_ := Aside0.mk (KeepBut.blk hk (g' := gb199) (o := .cells #[.slice A1_0 l1_0.length c1_0, .int .i64 a1_1, .slice A1_2 l1_2.length c1_2] 25 (0, 0)) (tk_ BK199.out) NB199_0.out (by simp))
     have n1_ := Aside0.mk (KeepBut.blk hk (g' := gb200) (o := .cells #[.int .i64 0, .int .i64 0, .int .i64 0] 30 (0, 0)) (tk_ BK200.out) NB200_0.out (by simp))
     have n2_ := Aside0.mk (KeepBut.trans (tc_ HK.out) hk (.inl rfl))
     have n3_ := Aside0.mk (hb)
     have n4_ := Aside0.mk (hi)
     have z_HO203 := fun (h0_ : b 0 = true) => (show Kd.R (Kd.int .i64) 3 w11 w.heap.size (fun _ => True) v202 y201 from by first | exact (Kd.R_mono (Kd.R_keep (IsS126.apart (show IsS126 w0 _ g s0_0 s0_1 from by repeat (first | (with_reducible first | exact HI0.out | apply IsS126.alloc | apply IsS126.drewN | apply IsS126.drew | apply IsS126.set_1 | refine IsS126.far ?_ NB0_199.out _ | refine IsS126.far ?_ NB0_200.out _) | exact HI0.out)) (by refine qR_ ?_; exact (Q_HO203 h0_)) (by decide)) hk (fun _ h => h.2)) (fun _ h => h.1)) | exact Kd.R_mono (Kd.R_mono (Kd.R_keep (IsS126.apart (show IsS126 w0 _ g s0_0 s0_1 from by repeat (first | (with_reducible first | exact HI0.out | apply IsS126.alloc | apply IsS126.drewN | apply IsS126.drew | apply IsS126.set_1 | refine IsS126.far ?_ NB0_199.out _ | refine IsS126.far ?_ NB0_200.out _) | exact HI0.out)) (by refine qR_ ?_; exact (Q_HO203 h0_)) (by decide)) hk (fun _ h => h.2)) (fun _ h => h.1)) (fun _ h_ => by first | trivial | exact h_ | exact h_.1))
     have z_BK209 := fun (h0_ : b 11 = true) (h1_ : b 12 = false) => (show w11.heap[gb209]? = some (.cells #[.int .i64 0, .int .i64 0, .int .i64 0] 30 (0, 0)) from by first | exact (KeepBut.blk hk (g' := gb209) (o := .cells #[.int .i64 0, .int .i64 0, .int .i64 0] 30 (0, 0)) (by (with_reducible repeat (first | refine blk_drewN ?_ _ | refine blk_drew ?_ | refine blk_alloc ?_ _)); exact (Q_BK209 h0_ h1_)) (Q_NB209_0 h0_) (by simp)))
     clear BK199
     clear BK200
     clear HK
     clear HB
     clear HI0
     have BK199 := n0_
     have BK200 := n1_
     have HK := n2_
     have HB := n3_
     have HI0 := n4_
     clear n0_ n1_ n2_ n3_ n4_
     (try clear hb)
     (try clear hb2)
     (try clear hk)
     (try clear hi)
     refine hK.out _ _ ⟨v202, adz_v202, gb209, m3_, m11_, (by rw [ha.out]; exact putSel_upk 1 hb_ rfl rfl rfl), (tk_ BK199.out), (tk_ BK200.out), fun h0_ => absurd ((up_self b 2).symm.trans h0_) (by decide), (tc_ HK.out), (by repeat (first | (with_reducible first | exact HB.out | apply la_ | apply ln_ | apply ld_ | refine below_set ?_ (IsS126.ge HI0.out) | refine below_set ?_ GE199.out | refine below_set ?_ GE200.out) | exact HB.out)), z_HO203, Q_HA_HO203, fun _ _ => (by repeat (first | (with_reducible first | exact HI0.out | apply IsS126.alloc | apply IsS126.drewN | apply IsS126.drew | apply IsS126.set_1 | refine IsS126.far ?_ NB0_199.out _ | refine IsS126.far ?_ NB0_200.out _) | exact HI0.out)), fun h0_ => absurd ((hoff 6 (by kernel_rfl)).symm.trans h0_) (by decide), z_BK209, Q_GW209, Q_GE209, Q_NB0_209, Q_NB209_0, Q_NB199_209, Q_NB209_199, Q_NB200_209, Q_NB209_200, fun h0_ => absurd ((hoff 12 (by kernel_rfl)).symm.trans h0_) (by decide), fun h0_ => absurd ((hoff 3 (by kernel_rfl)).symm.trans h0_) (by decide), Q_X11_⟩
    refine steps_cons ?_ ?_
    ·
     rintro b a w' ⟨v202, adz_v202, gb209, m3_, m11_, ha, Q_BK199, Q_BK200, Q_HI0, Q_HK, Q_HB, Q_HO203, Q_HA_HO203, Q_HI0_e2, Q_HI0_e6, Q_BK209, Q_GW209, Q_GE209, Q_NB0_209, Q_NB209_0, Q_NB199_209, Q_NB209_199, Q_NB200_209, Q_NB209_200, Q_BK209_e12, Q_X3_, Q_X11_⟩ hb_ hon hoff
     refine ⟨_, rfl, fun K hK => ?_⟩
     have e6 : a.tmps[6]? = some (v202) := by rw [ha]; exact putSel_on (e := (0, 6, v202)) 0 rfl rfl (hon 0 (by kernel_rfl)) rfl
     have e8 : a.tmps[8]? = some (.int .i64 t204) := by rw [ha]; exact putSel_on (e := (2, 8, .int .i64 t204)) 1 rfl rfl (hon 2 (by kernel_rfl)) rfl
     replace ha := Aside0.mk ha
     have BK199 := Aside0.mk Q_BK199
     have BK200 := Aside0.mk Q_BK200
     have HK := Aside0.mk Q_HK
     have HB := Aside0.mk Q_HB
     have HO203 := Aside0.mk (Q_HO203 (hon 0 (by kernel_rfl)))
     have HA_HO203 := Aside0.mk (Q_HA_HO203 (hon 0 (by kernel_rfl)))
     obtain ⟨c_, hv_⟩ := HA_HO203.out
     rw [hv_] at e6
     refine value_ (w1 := w') (v := .pointer (some (adz_v202.add (t204).toNat))) (by rfl) rfl ?_ ?_
     ·
      go_simp
      (try simp only [i64_w])
      try rfl
     refine hK.out _ _ ⟨v202, adz_v202, gb209, (.pointer (some (adz_v202.add (t204).toNat))), m11_, (by rw [ha.out]; exact putSel_upk 2 hb_ rfl rfl rfl), Q_BK199, Q_BK200, fun h0_ => absurd ((hon 2 (by kernel_rfl)).symm.trans h0_) (by decide), Q_HK, Q_HB, Q_HO203, Q_HA_HO203, Q_HI0_e2, Q_HI0_e6, Q_BK209, Q_GW209, Q_GE209, Q_NB0_209, Q_NB209_0, Q_NB199_209, Q_NB209_199, Q_NB200_209, Q_NB209_200, fun h0_ => absurd ((hoff 12 (by kernel_rfl)).symm.trans h0_) (by decide), fun _ => rfl, Q_X11_⟩
    refine steps_cons ?_ ?_
    ·
     rintro b a w' ⟨v202, adz_v202, gb209, m3_, m11_, ha, Q_BK199, Q_BK200, Q_HI0, Q_HK, Q_HB, Q_HO203, Q_HA_HO203, Q_HI0_e2, Q_HI0_e6, Q_BK209, Q_GW209, Q_GE209, Q_NB0_209, Q_NB209_0, Q_NB199_209, Q_NB209_199, Q_NB200_209, Q_NB209_200, Q_BK209_e12, Q_X3_, Q_X11_⟩ hb_ hon hoff
     refine ⟨_, rfl, fun K hK => ?_⟩
     have e9 : a.tmps[9]? = some (m3_) := by rw [ha]; exact putSel_on (e := (3, 9, m3_)) 2 rfl rfl (hon 3 (by kernel_rfl)) rfl
     rw [Q_X3_ (hon 3 (by kernel_rfl))] at e9
     replace ha := Aside0.mk ha
     have BK199 := Aside0.mk Q_BK199
     have BK200 := Aside0.mk Q_BK200
     have HK := Aside0.mk Q_HK
     have HB := Aside0.mk Q_HB
     have HO203 := Aside0.mk (Q_HO203 (hon 0 (by kernel_rfl)))
     have HA_HO203 := Aside0.mk (Q_HA_HO203 (hon 0 (by kernel_rfl)))
     obtain ⟨c_, hv_⟩ := HA_HO203.out
     have hF_ := HO203.out
     rw [hv_] at hF_
     obtain ⟨ad_, ea_, hx_⟩ := Kd.at_int (Kd.R_reads' hF_).2.2 t204 (of_eq_true pi206) (of_eq_true qi206)
     cases ea_
     refine value_ (w1 := w') (v := .int .i64 (rd y201 t204)) (by rfl) rfl ?_ ?_
     ·
      go_simp
      (try simp only [i64_w])
      try rfl
     refine hK.out _ _ ⟨v202, adz_v202, gb209, m3_, m11_, (by rw [ha.out]; exact putSel_upk 3 hb_ rfl rfl rfl), Q_BK199, Q_BK200, fun h0_ => absurd ((hon 2 (by kernel_rfl)).symm.trans h0_) (by decide), Q_HK, Q_HB, Q_HO203, Q_HA_HO203, Q_HI0_e2, Q_HI0_e6, Q_BK209, Q_GW209, Q_GE209, Q_NB0_209, Q_NB209_0, Q_NB199_209, Q_NB209_199, Q_NB200_209, Q_NB209_200, fun h0_ => absurd ((hoff 12 (by kernel_rfl)).symm.trans h0_) (by decide), Q_X3_, Q_X11_⟩
    refine steps_cons ?_ ?_
    ·
     rintro b a w' ⟨v202, adz_v202, gb209, m3_, m11_, ha, Q_BK199, Q_BK200, Q_HI0, Q_HK, Q_HB, Q_HO203, Q_HA_HO203, Q_HI0_e2, Q_HI0_e6, Q_BK209, Q_GW209, Q_GE209, Q_NB0_209, Q_NB209_0, Q_NB199_209, Q_NB209_199, Q_NB200_209, Q_NB209_200, Q_BK209_e12, Q_X3_, Q_X11_⟩ hb_ hon hoff
     refine ⟨_, rfl, fun K hK => ?_⟩
     have e11 : a.tmps[11]? = some (.pointer (some ⟨g, 0, none⟩)) := by rw [ha]; exact (putSel_off rfl).trans rfl
     replace ha := Aside0.mk ha
     have BK199 := Aside0.mk Q_BK199
     have BK200 := Aside0.mk Q_BK200
     have HK := Aside0.mk Q_HK
     have HB := Aside0.mk Q_HB
     have HI0 := Aside0.mk (Q_HI0_e2 (hon 2 (by kernel_rfl)) hb_)
     refine goes_ Tryd.func101 (by kernel_rfl) rfl #[.pointer (some ⟨g, 0, none⟩), .int .i64 60] (by rfl) rfl rfl (by first | (simp only [List.map_toArray, List.map_cons, List.map_nil, Act.eval, Array.getD_eq_getD_getElem?, Option.getD_some, e11]; done) | (simp only [List.map_toArray, List.map_cons, List.map_nil, Act.eval, Array.getD_eq_getD_getElem?, Option.getD_some, e11]; rfl)) ?_
     with_reducible refine (spec_l20Rd_pick.calls k g s0_0 t205 60 t207 t208 w0 _ ?side1 ?side2 A6.out).mono ?_
     (case side1 => repeat (first | (with_reducible first | exact HI0.out | apply IsS126.alloc | apply IsS126.drewN | apply IsS126.drew | apply IsS126.set_1 | refine IsS126.far ?_ NB0_199.out _ | refine IsS126.far ?_ NB0_200.out _) | exact HI0.out))
     (case side2 => repeat (first | (with_reducible first | exact HB.out | apply la_ | apply ln_ | apply ld_ | refine below_set ?_ (IsS126.ge HI0.out) | refine below_set ?_ GE199.out | refine below_set ?_ GE200.out) | exact HB.out))
     rintro e w13 ⟨rfl, hi, hb, hk⟩
     refine ⟨_, rfl, ?_⟩
     have n0_ := Aside0.mk (KeepBut.blk hk (g' := gb199) (o := .cells #[.slice A1_0 l1_0.length c1_0, .int .i64 a1_1, .slice A1_2 l1_2.length c1_2] 25 (0, 0)) (tk_ BK199.out) NB199_0.out (by simp))
     have n1_ := Aside0.mk (KeepBut.blk hk (g' := gb200) (o := .cells #[.int .i64 0, .int .i64 0, .int .i64 0] 30 (0, 0)) (tk_ BK200.out) NB200_0.out (by simp))
     have n2_ := Aside0.mk (KeepBut.trans (tc_ HK.out) hk (.inl rfl))
     have n3_ := Aside0.mk (hb)
     have n4_ := Aside0.mk (hi)
     have z_HO203 := fun (h0_ : b 0 = true) => (show Kd.R (Kd.int .i64) 3 w13 w.heap.size (fun _ => True) v202 y201 from by first | exact (Kd.R_mono (Kd.R_keep (IsS126.apart (show IsS126 w0 _ g s0_0 t205 from by repeat (first | (with_reducible first | exact HI0.out | apply IsS126.alloc | apply IsS126.drewN | apply IsS126.drew | apply IsS126.set_1 | refine IsS126.far ?_ NB0_199.out _ | refine IsS126.far ?_ NB0_200.out _) | exact HI0.out)) (by refine qR_ ?_; exact (Q_HO203 h0_)) (by decide)) hk (fun _ h => h.2)) (fun _ h => h.1)) | exact Kd.R_mono (Kd.R_mono (Kd.R_keep (IsS126.apart (show IsS126 w0 _ g s0_0 t205 from by repeat (first | (with_reducible first | exact HI0.out | apply IsS126.alloc | apply IsS126.drewN | apply IsS126.drew | apply IsS126.set_1 | refine IsS126.far ?_ NB0_199.out _ | refine IsS126.far ?_ NB0_200.out _) | exact HI0.out)) (by refine qR_ ?_; exact (Q_HO203 h0_)) (by decide)) hk (fun _ h => h.2)) (fun _ h => h.1)) (fun _ h_ => by first | trivial | exact h_ | exact h_.1))
     have z_BK209 := fun (h0_ : b 11 = true) (h1_ : b 12 = false) => (show w13.heap[gb209]? = some (.cells #[.int .i64 0, .int .i64 0, .int .i64 0] 30 (0, 0)) from by first | exact (KeepBut.blk hk (g' := gb209) (o := .cells #[.int .i64 0, .int .i64 0, .int .i64 0] 30 (0, 0)) (by (with_reducible repeat (first | refine blk_drewN ?_ _ | refine blk_drew ?_ | refine blk_alloc ?_ _)); exact (Q_BK209 h0_ h1_)) (Q_NB209_0 h0_) (by simp)))
     clear BK199
     clear BK200
     clear HK
     clear HB
     clear HI0
     have BK199 := n0_
     have BK200 := n1_
     have HK := n2_
     have HB := n3_
     have HI0 := n4_
     clear n0_ n1_ n2_ n3_ n4_
     (try clear hb)
     (try clear hb2)
     (try clear hk)
     (try clear hi)
     refine hK.out _ _ ⟨v202, adz_v202, gb209, m3_, m11_, (by rw [ha.out]; exact putSel_upk 4 hb_ rfl rfl rfl), (tk_ BK199.out), (tk_ BK200.out), fun h0_ => absurd ((hon 2 (by kernel_rfl)).symm.trans h0_) (by decide), (tc_ HK.out), (by repeat (first | (with_reducible first | exact HB.out | apply la_ | apply ln_ | apply ld_ | refine below_set ?_ (IsS126.ge HI0.out) | refine below_set ?_ GE199.out | refine below_set ?_ GE200.out) | exact HB.out)), z_HO203, Q_HA_HO203, fun _ h1_ => absurd ((up_self b 6).symm.trans h1_) (by decide), fun _ => (by repeat (first | (with_reducible first | exact HI0.out | apply IsS126.alloc | apply IsS126.drewN | apply IsS126.drew | apply IsS126.set_1 | refine IsS126.far ?_ NB0_199.out _ | refine IsS126.far ?_ NB0_200.out _) | exact HI0.out)), z_BK209, Q_GW209, Q_GE209, Q_NB0_209, Q_NB209_0, Q_NB199_209, Q_NB209_199, Q_NB200_209, Q_NB209_200, fun h0_ => absurd ((hoff 12 (by kernel_rfl)).symm.trans h0_) (by decide), Q_X3_, Q_X11_⟩
    refine steps_cons ?_ ?_
    ·
     rintro b a w' ⟨v202, adz_v202, gb209, m3_, m11_, ha, Q_BK199, Q_BK200, Q_HI0, Q_HK, Q_HB, Q_HO203, Q_HA_HO203, Q_HI0_e2, Q_HI0_e6, Q_BK209, Q_GW209, Q_GE209, Q_NB0_209, Q_NB209_0, Q_NB199_209, Q_NB209_199, Q_NB200_209, Q_NB209_200, Q_BK209_e12, Q_X3_, Q_X11_⟩ hb_ hon hoff
     refine ⟨_, rfl, fun K hK => ?_⟩
     have e12 : a.tmps[12]? = some (.int .i64 t207) := by rw [ha]; exact putSel_on (e := (6, 12, .int .i64 t207)) 4 rfl rfl (hon 6 (by kernel_rfl)) rfl
     replace ha := Aside0.mk ha
     have BK199 := Aside0.mk Q_BK199
     have BK200 := Aside0.mk Q_BK200
     have HK := Aside0.mk Q_HK
     have HB := Aside0.mk Q_HB
     have HI0 := Aside0.mk (Q_HI0_e6 (hon 6 (by kernel_rfl)))
     refine value_ (w1 := w') (v := .int .i64 (wrap64 (Int.tdiv t207 59))) (by rfl) rfl ?_ ?_
     ·
      go_simp
      (try simp only [i64_w])
      try rfl
     refine hK.out _ _ ⟨v202, adz_v202, gb209, m3_, m11_, (by rw [ha.out]; exact putSel_upk 5 hb_ rfl rfl rfl), Q_BK199, Q_BK200, fun h0_ => absurd ((hon 2 (by kernel_rfl)).symm.trans h0_) (by decide), Q_HK, Q_HB, Q_HO203, Q_HA_HO203, fun _ h1_ => absurd ((hon 6 (by kernel_rfl)).symm.trans h1_) (by decide), Q_HI0_e6, Q_BK209, Q_GW209, Q_GE209, Q_NB0_209, Q_NB209_0, Q_NB199_209, Q_NB209_199, Q_NB200_209, Q_NB209_200, fun h0_ => absurd ((hoff 12 (by kernel_rfl)).symm.trans h0_) (by decide), Q_X3_, Q_X11_⟩
    refine steps_cons ?_ ?_
    ·
     rintro b a w' ⟨v202, adz_v202, gb209, m3_, m11_, ha, Q_BK199, Q_BK200, Q_HI0, Q_HK, Q_HB, Q_HO203, Q_HA_HO203, Q_HI0_e2, Q_HI0_e6, Q_BK209, Q_GW209, Q_GE209, Q_NB0_209, Q_NB209_0, Q_NB199_209, Q_NB209_199, Q_NB200_209, Q_NB209_200, Q_BK209_e12, Q_X3_, Q_X11_⟩ hb_ hon hoff
     refine ⟨_, rfl, fun K hK => ?_⟩
     have e13 : a.tmps[13]? = some (.int .i64 (wrap64 (Int.tdiv t207 59))) := by rw [ha]; exact putSel_on (e := (7, 13, .int .i64 (wrap64 (Int.tdiv t207 59)))) 5 rfl rfl (hon 7 (by kernel_rfl)) rfl
     replace ha := Aside0.mk ha
     have BK199 := Aside0.mk Q_BK199
     have BK200 := Aside0.mk Q_BK200
     have HK := Aside0.mk Q_HK
     have HB := Aside0.mk Q_HB
     have HI0 := Aside0.mk (Q_HI0_e6 (hon 6 (by kernel_rfl)))
     refine value_ (w1 := w') (v := .int .i64 (wrap64 ((wrap64 (Int.tdiv t207 59)) * 5))) (by rfl) rfl ?_ ?_
     ·
      go_simp
      (try simp only [i64_w])
      try rfl
     refine hK.out _ _ ⟨v202, adz_v202, gb209, m3_, m11_, (by rw [ha.out]; exact putSel_upk 6 hb_ rfl rfl rfl), Q_BK199, Q_BK200, fun h0_ => absurd ((hon 2 (by kernel_rfl)).symm.trans h0_) (by decide), Q_HK, Q_HB, Q_HO203, Q_HA_HO203, fun _ h1_ => absurd ((hon 6 (by kernel_rfl)).symm.trans h1_) (by decide), Q_HI0_e6, Q_BK209, Q_GW209, Q_GE209, Q_NB0_209, Q_NB209_0, Q_NB199_209, Q_NB209_199, Q_NB200_209, Q_NB209_200, fun h0_ => absurd ((hoff 12 (by kernel_rfl)).symm.trans h0_) (by decide), Q_X3_, Q_X11_⟩
    refine steps_cons ?_ ?_
    ·
     rintro b a w' ⟨v202, adz_v202, gb209, m3_, m11_, ha, Q_BK199, Q_BK200, Q_HI0, Q_HK, Q_HB, Q_HO203, Q_HA_HO203, Q_HI0_e2, Q_HI0_e6, Q_BK209, Q_GW209, Q_GE209, Q_NB0_209, Q_NB209_0, Q_NB199_209, Q_NB209_199, Q_NB200_209, Q_NB209_200, Q_BK209_e12, Q_X3_, Q_X11_⟩ hb_ hon hoff
     refine ⟨_, rfl, fun K hK => ?_⟩
     have e10 : a.tmps[10]? = some (.int .i64 (rd y201 t204)) := by rw [ha]; exact putSel_on (e := (4, 10, .int .i64 (rd y201 t204))) 3 rfl rfl (hon 4 (by kernel_rfl)) rfl
     have e14 : a.tmps[14]? = some (.int .i64 (wrap64 ((wrap64 (Int.tdiv t207 59)) * 5))) := by rw [ha]; exact putSel_on (e := (8, 14, .int .i64 (wrap64 ((wrap64 (Int.tdiv t207 59)) * 5)))) 6 rfl rfl (hon 8 (by kernel_rfl)) rfl
     replace ha := Aside0.mk ha
     have BK199 := Aside0.mk Q_BK199
     have BK200 := Aside0.mk Q_BK200
     have HK := Aside0.mk Q_HK
     have HB := Aside0.mk Q_HB
     have HO203 := Aside0.mk (Q_HO203 (hon 0 (by kernel_rfl)))
     have HA_HO203 := Aside0.mk (Q_HA_HO203 (hon 0 (by kernel_rfl)))
     have HI0 := Aside0.mk (Q_HI0_e6 (hon 6 (by kernel_rfl)))
     refine value_ (w1 := w') (v := .int .i64 (wrap64 ((rd y201 t204) + (wrap64 ((wrap64 (Int.tdiv t207 59)) * 5))))) (by rfl) rfl ?_ ?_
     ·
      go_simp
      (try simp only [i64_w])
      try rfl
     refine hK.out _ _ ⟨v202, adz_v202, gb209, m3_, m11_, (by rw [ha.out]; exact putSel_upk 7 hb_ rfl rfl rfl), Q_BK199, Q_BK200, fun h0_ => absurd ((hon 2 (by kernel_rfl)).symm.trans h0_) (by decide), Q_HK, Q_HB, Q_HO203, Q_HA_HO203, fun _ h1_ => absurd ((hon 6 (by kernel_rfl)).symm.trans h1_) (by decide), Q_HI0_e6, Q_BK209, Q_GW209, Q_GE209, Q_NB0_209, Q_NB209_0, Q_NB199_209, Q_NB209_199, Q_NB200_209, Q_NB209_200, fun h0_ => absurd ((hoff 12 (by kernel_rfl)).symm.trans h0_) (by decide), Q_X3_, Q_X11_⟩
    refine steps_cons ?_ ?_
    ·
     rintro b a w' ⟨v202, adz_v202, gb209, m3_, m11_, ha, Q_BK199, Q_BK200, Q_HI0, Q_HK, Q_HB, Q_HO203, Q_HA_HO203, Q_HI0_e2, Q_HI0_e6, Q_BK209, Q_GW209, Q_GE209, Q_NB0_209, Q_NB209_0, Q_NB199_209, Q_NB209_199, Q_NB200_209, Q_NB209_200, Q_BK209_e12, Q_X3_, Q_X11_⟩ hb_ hon hoff
     refine ⟨_, rfl, fun K hK => ?_⟩
     have e15 : a.tmps[15]? = some (.int .i64 (wrap64 ((rd y201 t204) + (wrap64 ((wrap64 (Int.tdiv t207 59)) * 5))))) := by rw [ha]; exact putSel_on (e := (9, 15, .int .i64 (wrap64 ((rd y201 t204) + (wrap64 ((wrap64 (Int.tdiv t207 59)) * 5)))))) 7 rfl rfl (hon 9 (by kernel_rfl)) rfl
     replace ha := Aside0.mk ha
     have BK199 := Aside0.mk Q_BK199
     have BK200 := Aside0.mk Q_BK200
     have HK := Aside0.mk Q_HK
     have HB := Aside0.mk Q_HB
     have HO203 := Aside0.mk (Q_HO203 (hon 0 (by kernel_rfl)))
     have HA_HO203 := Aside0.mk (Q_HA_HO203 (hon 0 (by kernel_rfl)))
     have HI0 := Aside0.mk (Q_HI0_e6 (hon 6 (by kernel_rfl)))
     refine value_ (w1 := w') (v := .agg #[.int .i64 (wrap64 ((rd y201 t204) + (wrap64 ((wrap64 (Int.tdiv t207 59)) * 5)))), .int .i64 0, .int .i64 0]) (by rfl) rfl ?_ ?_
     ·
      go_simp
      (try simp only [i64_w])
      try rfl
     refine hK.out _ _ ⟨v202, adz_v202, gb209, m3_, m11_, (by rw [ha.out]; exact putSel_upk 8 hb_ rfl rfl rfl), Q_BK199, Q_BK200, fun h0_ => absurd ((hon 2 (by kernel_rfl)).symm.trans h0_) (by decide), Q_HK, Q_HB, Q_HO203, Q_HA_HO203, fun _ h1_ => absurd ((hon 6 (by kernel_rfl)).symm.trans h1_) (by decide), Q_HI0_e6, Q_BK209, Q_GW209, Q_GE209, Q_NB0_209, Q_NB209_0, Q_NB199_209, Q_NB209_199, Q_NB200_209, Q_NB209_200, fun h0_ => absurd ((hoff 12 (by kernel_rfl)).symm.trans h0_) (by decide), Q_X3_, Q_X11_⟩
    refine steps_cons ?_ ?_
    ·
     rintro b a w' ⟨v202, adz_v202, gb209, m3_, m11_, ha, Q_BK199, Q_BK200, Q_HI0, Q_HK, Q_HB, Q_HO203, Q_HA_HO203, Q_HI0_e2, Q_HI0_e6, Q_BK209, Q_GW209, Q_GE209, Q_NB0_209, Q_NB209_0, Q_NB199_209, Q_NB209_199, Q_NB200_209, Q_NB209_200, Q_BK209_e12, Q_X3_, Q_X11_⟩ hb_ hon hoff
     refine ⟨_, rfl, fun K hK => ?_⟩
     replace ha := Aside0.mk ha
     have BK199 := Aside0.mk Q_BK199
     have BK200 := Aside0.mk Q_BK200
     have HK := Aside0.mk Q_HK
     have HB := Aside0.mk Q_HB
     refine box_step ?hg (N := 5) ?hd (cs := #[.int .i64 0, .int .i64 0, .int .i64 0]) (t := 30) ?hr ?_; (case hd => rfl); (case hg => rfl); (case hr => first | (go_simp; done) | (go_simp; rfl))
     intro gb209 hg w11 hbox hb
     have n1_ := Aside0.mk (blk_below (g := gb199) (o := .cells #[.slice A1_0 l1_0.length c1_0, .int .i64 a1_1, .slice A1_2 l1_2.length c1_2] 25 (0, 0)) (tk_ BK199.out) hb)
     have n2_ := Aside0.mk (blk_below (g := gb200) (o := .cells #[.int .i64 0, .int .i64 0, .int .i64 0] 30 (0, 0)) (tk_ BK200.out) hb)
     have n3_ := Aside0.mk (KeepBut.trans (tc_ HK.out) (KeepBut.of_below hb g none) (.inl rfl))
     have n4_ := Aside0.mk (below_step (tb_ HB.out) hb)
     have n5_ := Aside0.mk (hbox)
     have n6_ := Aside0.mk ((by rw [hg]; exact (keep_size (w := w) (g := g) (row := none) (tc_ HK.out)) : w.heap.size ≤ gb209))
     have n7_ := Aside0.mk ((Nat.le_trans HW0.out (by rw [hg]; exact (keep_size (w := w) (g := g) (row := none) (tc_ HK.out)) : w.heap.size ≤ gb209) : w0.heap.size ≤ gb209))
     have n8_ := Aside0.mk ((by rw [hg]; exact Nat.ne_of_lt (blk_lt (g := gb199) (o := .cells #[.slice A1_0 l1_0.length c1_0, .int .i64 a1_1, .slice A1_2 l1_2.length c1_2] 25 (0, 0)) (tk_ BK199.out)) : gb199 ≠ gb209))
     have n9_ := Aside0.mk ((by rw [hg]; exact Nat.ne_of_gt (blk_lt (g := gb199) (o := .cells #[.slice A1_0 l1_0.length c1_0, .int .i64 a1_1, .slice A1_2 l1_2.length c1_2] 25 (0, 0)) (tk_ BK199.out)) : gb209 ≠ gb199))
     have n10_ := Aside0.mk ((by rw [hg]; exact Nat.ne_of_lt (blk_lt (g := gb200) (o := .cells #[.int .i64 0, .int .i64 0, .int .i64 0] 30 (0, 0)) (tk_ BK200.out)) : gb200 ≠ gb209))
     have n11_ := Aside0.mk ((by rw [hg]; exact Nat.ne_of_gt (blk_lt (g := gb200) (o := .cells #[.int .i64 0, .int .i64 0, .int .i64 0] 30 (0, 0)) (tk_ BK200.out)) : gb209 ≠ gb200))
     have n12_ := Aside0.mk ((Nat.ne_of_lt (Nat.lt_of_lt_of_le HLg.out (by rw [hg]; exact (keep_size (w := w) (g := g) (row := none) (tc_ HK.out)))) : g ≠ gb209))
     have n13_ := Aside0.mk ((Nat.ne_of_gt (Nat.lt_of_lt_of_le HLg.out (by rw [hg]; exact (keep_size (w := w) (g := g) (row := none) (tc_ HK.out)))) : gb209 ≠ g))
     have z_HI0 := fun (h0_ : b 2 = false) => (show IsS126 w0 w11 g s0_0 s0_1 from by first | exact (IsS126.below (by repeat (first | (with_reducible first | exact (Q_HI0 h0_) | apply IsS126.alloc | apply IsS126.drewN | apply IsS126.drew | apply IsS126.set_1 | refine IsS126.far ?_ NB0_199.out _ | refine IsS126.far ?_ NB0_200.out _) | exact (Q_HI0 h0_))) hb))
     have z_HO203 := fun (h0_ : b 0 = true) => (show Kd.R (Kd.int .i64) 3 w11 w.heap.size (fun _ => True) v202 y201 from by first | exact (Kd.R_below (by refine qR_ ?_; exact (Q_HO203 h0_)) hb) | exact Kd.R_mono (Kd.R_below (by refine qR_ ?_; exact (Q_HO203 h0_)) hb) (fun _ h_ => by first | trivial | exact h_ | exact h_.1))
     have z_HI0_e2 := fun (h0_ : b 2 = true) (h1_ : b 6 = false) => (show IsS126 w0 w11 g s0_0 t205 from by first | exact (IsS126.below (by repeat (first | (with_reducible first | exact (Q_HI0_e2 h0_ h1_) | apply IsS126.alloc | apply IsS126.drewN | apply IsS126.drew | apply IsS126.set_1 | refine IsS126.far ?_ NB0_199.out _ | refine IsS126.far ?_ NB0_200.out _) | exact (Q_HI0_e2 h0_ h1_))) hb))
     have z_HI0_e6 := fun (h0_ : b 6 = true) => (show IsS126 w0 w11 g s0_0 t208 from by first | exact (IsS126.below (by repeat (first | (with_reducible first | exact (Q_HI0_e6 h0_) | apply IsS126.alloc | apply IsS126.drewN | apply IsS126.drew | apply IsS126.set_1 | refine IsS126.far ?_ NB0_199.out _ | refine IsS126.far ?_ NB0_200.out _) | exact (Q_HI0_e6 h0_))) hb))
     clear BK199
     clear BK200
     clear HK
     clear HB
     have BK199 := n1_
     have BK200 := n2_
     have HK := n3_
     have HB := n4_
     have BK209 := n5_
     have GW209 := n6_
     have GE209 := n7_
     have NB199_209 := n8_
     have NB209_199 := n9_
     have NB200_209 := n10_
     have NB209_200 := n11_
     have NB0_209 := n12_
     have NB209_0 := n13_
     clear n1_ n2_ n3_ n4_ n5_ n6_ n7_ n8_ n9_ n10_ n11_ n12_ n13_
     clear hb hbox hg
     refine hK.out _ _ ⟨v202, adz_v202, gb209, m3_, (.pointer (some ⟨gb209, 0, none⟩)), (by rw [ha.out]; exact putSel_upk 9 hb_ rfl rfl rfl), (tk_ BK199.out), (tk_ BK200.out), z_HI0, (tc_ HK.out), (tb_ HB.out), z_HO203, Q_HA_HO203, z_HI0_e2, z_HI0_e6, fun _ _ => (tk_ BK209.out), fun _ => GW209.out, fun _ => GE209.out, fun _ => NB0_209.out, fun _ => NB209_0.out, fun _ => NB199_209.out, fun _ => NB209_199.out, fun _ => NB200_209.out, fun _ => NB209_200.out, fun h0_ => absurd ((hoff 12 (by kernel_rfl)).symm.trans h0_) (by decide), Q_X3_, fun _ => rfl⟩
    refine steps_cons ?_ ?_
    ·
     rintro b a w' ⟨v202, adz_v202, gb209, m3_, m11_, ha, Q_BK199, Q_BK200, Q_HI0, Q_HK, Q_HB, Q_HO203, Q_HA_HO203, Q_HI0_e2, Q_HI0_e6, Q_BK209, Q_GW209, Q_GE209, Q_NB0_209, Q_NB209_0, Q_NB199_209, Q_NB209_199, Q_NB200_209, Q_NB209_200, Q_BK209_e12, Q_X3_, Q_X11_⟩ hb_ hon hoff
     refine ⟨_, rfl, fun K hK => ?_⟩
     have e5 : a.tmps[5]? = some (m11_) := by rw [ha]; exact putSel_on (e := (11, 5, m11_)) 9 rfl rfl (hon 11 (by kernel_rfl)) rfl
     rw [Q_X11_ (hon 11 (by kernel_rfl))] at e5
     have e16 : a.tmps[16]? = some (.agg #[.int .i64 (wrap64 ((rd y201 t204) + (wrap64 ((wrap64 (Int.tdiv t207 59)) * 5)))), .int .i64 0, .int .i64 0]) := by rw [ha]; exact putSel_on (e := (10, 16, .agg #[.int .i64 (wrap64 ((rd y201 t204) + (wrap64 ((wrap64 (Int.tdiv t207 59)) * 5)))), .int .i64 0, .int .i64 0])) 8 rfl rfl (hon 10 (by kernel_rfl)) rfl
     replace ha := Aside0.mk ha
     have BK199 := Aside0.mk Q_BK199
     have BK200 := Aside0.mk Q_BK200
     have HK := Aside0.mk Q_HK
     have HB := Aside0.mk Q_HB
     have HO203 := Aside0.mk (Q_HO203 (hon 0 (by kernel_rfl)))
     have HA_HO203 := Aside0.mk (Q_HA_HO203 (hon 0 (by kernel_rfl)))
     have HI0 := Aside0.mk (Q_HI0_e6 (hon 6 (by kernel_rfl)))
     have BK209 := Aside0.mk (Q_BK209 (hon 11 (by kernel_rfl)) hb_)
     have GW209 := Aside0.mk (Q_GW209 (hon 11 (by kernel_rfl)))
     have GE209 := Aside0.mk (Q_GE209 (hon 11 (by kernel_rfl)))
     have NB0_209 := Aside0.mk (Q_NB0_209 (hon 11 (by kernel_rfl)))
     have NB209_0 := Aside0.mk (Q_NB209_0 (hon 11 (by kernel_rfl)))
     have NB199_209 := Aside0.mk (Q_NB199_209 (hon 11 (by kernel_rfl)))
     have NB209_199 := Aside0.mk (Q_NB209_199 (hon 11 (by kernel_rfl)))
     have NB200_209 := Aside0.mk (Q_NB200_209 (hon 11 (by kernel_rfl)))
     have NB209_200 := Aside0.mk (Q_NB209_200 (hon 11 (by kernel_rfl)))
     obtain ⟨co18, eo18⟩ := HA_HO203.out
     clear HA_HO203
     subst eo18
     have hs19 : w'.cell? ⟨gb209, 0, none⟩ = some (.int .i64 0) := (blk_cell BK209.out 0).trans rfl
     have hfs19 := blk_frozen BK209.out 0
     have hns19_0 := NB199_209.out
     have hns19_1 := NB200_209.out
     have hms19_0 := NB209_199.out
     have hms19_1 := NB209_200.out
     have hs20 : w'.cell? ⟨gb209, 1, none⟩ = some (.int .i64 0) := (blk_cell BK209.out 1).trans rfl
     have hfs20 := blk_frozen BK209.out 1
     have hns20_0 := NB199_209.out
     have hns20_1 := NB200_209.out
     have hms20_0 := NB209_199.out
     have hms20_1 := NB209_200.out
     have hs21 : w'.cell? ⟨gb209, 2, none⟩ = some (.int .i64 0) := (blk_cell BK209.out 2).trans rfl
     have hfs21 := blk_frozen BK209.out 2
     have hns21_0 := NB199_209.out
     have hns21_1 := NB200_209.out
     have hms21_0 := NB209_199.out
     have hms21_1 := NB209_200.out
     refine skip_ (w1 := ?_) (by rfl) rfl ?_ ?_
     rotate_left
     ·
      go_simp
      rfl
     refine hK.out _ _ ⟨.slice (some adz_v202) y201.length co18, adz_v202, gb209, m3_, m11_, (by rw [ha.out]; exact putSel_none (v := undef) rfl), (tk_ BK199.out), (tk_ BK200.out), fun h0_ => absurd ((hon 2 (by kernel_rfl)).symm.trans h0_) (by decide), (tc_ HK.out), (by repeat (first | (with_reducible first | exact HB.out | apply la_ | apply ln_ | apply ld_ | refine below_set ?_ (IsS126.ge HI0.out) | refine below_set ?_ GE199.out | refine below_set ?_ GE200.out | refine below_set ?_ GE209.out) | exact HB.out)), fun _ => (by refine qR_ ?_; exact Kd.R_mono (Kd.R_far (p := ⟨gb209, 2, none⟩) (Kd.R_far (p := ⟨gb209, 1, none⟩) (Kd.R_far (p := ⟨gb209, 0, none⟩) (Kd.R_types HO203.out BK209.out (by decide)) (fun _ hk => hk.2) (.int .i64 (wrap64 ((rd y201 t204) + (wrap64 ((wrap64 (Int.tdiv t207 59)) * 5)))))) (fun _ hk => hk.2) (.int .i64 0)) (fun _ hk => hk.2) (.int .i64 0)) (fun _ hk => trivial)), fun _ => ⟨_, rfl⟩, fun _ h1_ => absurd ((hon 6 (by kernel_rfl)).symm.trans h1_) (by decide), fun _ => (by repeat (first | (with_reducible first | exact HI0.out | apply IsS126.alloc | apply IsS126.drewN | apply IsS126.drew | apply IsS126.set_1 | refine IsS126.far ?_ NB0_199.out _ | refine IsS126.far ?_ NB0_200.out _ | refine IsS126.far ?_ NB0_209.out _) | exact HI0.out)), fun _ h1_ => absurd ((up_self b 12).symm.trans h1_) (by decide), fun _ => GW209.out, fun _ => GE209.out, fun _ => NB0_209.out, fun _ => NB209_0.out, fun _ => NB199_209.out, fun _ => NB209_199.out, fun _ => NB200_209.out, fun _ => NB209_200.out, fun _ => (by refine bq_ ?_; refine blk_put (cs := #[.int .i64 (wrap64 ((rd y201 t204) + (wrap64 ((wrap64 (Int.tdiv t207 59)) * 5)))), .int .i64 0, .int .i64 0]) ?_ 2 _ rfl; refine bq_ ?_; refine blk_put (cs := #[.int .i64 (wrap64 ((rd y201 t204) + (wrap64 ((wrap64 (Int.tdiv t207 59)) * 5)))), .int .i64 0, .int .i64 0]) ?_ 1 _ rfl; refine bq_ ?_; refine blk_put (cs := #[.int .i64 0, .int .i64 0, .int .i64 0]) ?_ 0 _ rfl; exact tk_ BK209.out), Q_X3_, Q_X11_⟩
    exact steps_nil
   rintro b a w20 hall ⟨v202, adz_v202, gb209, m3_, m11_, ha, Q_BK199, Q_BK200, Q_HI0, Q_HK, Q_HB, Q_HO203, Q_HA_HO203, Q_HI0_e2, Q_HI0_e6, Q_BK209, Q_GW209, Q_GE209, Q_NB0_209, Q_NB209_0, Q_NB199_209, Q_NB209_199, Q_NB200_209, Q_NB209_200, Q_BK209_e12, Q_X3_, Q_X11_⟩
   clear BK199 BK200 HB HI0 HK
   have hb0_ := hall 0 (by kernel_rfl)
   have hb2_ := hall 2 (by kernel_rfl)
   have hb3_ := hall 3 (by kernel_rfl)
   have hb4_ := hall 4 (by kernel_rfl)
   have hb6_ := hall 6 (by kernel_rfl)
   have hb7_ := hall 7 (by kernel_rfl)
   have hb8_ := hall 8 (by kernel_rfl)
   have hb9_ := hall 9 (by kernel_rfl)
   have hb10_ := hall 10 (by kernel_rfl)
   have hb11_ := hall 11 (by kernel_rfl)
   have hb12_ := hall 12 (by kernel_rfl)
   subst ha
   obtain rfl := Q_X3_ hb3_
   obtain rfl := Q_X11_ hb11_
   simp only [putSel, hb0_, hb2_, hb3_, hb4_, hb6_, hb7_, hb8_, hb9_, hb10_, hb11_, hb12_, if_true, Act.put, sa_, sb_, sc_]
   have BK199 := Aside0.mk Q_BK199
   clear Q_BK199
   have BK200 := Aside0.mk Q_BK200
   clear Q_BK200
   clear Q_HI0
   have HK := Aside0.mk Q_HK
   clear Q_HK
   have HB := Aside0.mk Q_HB
   clear Q_HB
   have HO203 := Aside0.mk (Q_HO203 hb0_)
   clear Q_HO203
   have HA_HO203 := Aside0.mk (Q_HA_HO203 hb0_)
   clear Q_HA_HO203
   clear Q_HI0_e2
   have HI0 := Aside0.mk (Q_HI0_e6 hb6_)
   clear Q_HI0_e6
   clear Q_BK209
   have GW209 := Aside0.mk (Q_GW209 hb11_)
   clear Q_GW209
   have GE209 := Aside0.mk (Q_GE209 hb11_)
   clear Q_GE209
   have NB0_209 := Aside0.mk (Q_NB0_209 hb11_)
   clear Q_NB0_209
   have NB209_0 := Aside0.mk (Q_NB209_0 hb11_)
   clear Q_NB209_0
   have NB199_209 := Aside0.mk (Q_NB199_209 hb11_)
   clear Q_NB199_209
   have NB209_199 := Aside0.mk (Q_NB209_199 hb11_)
   clear Q_NB209_199
   have NB200_209 := Aside0.mk (Q_NB200_209 hb11_)
   clear Q_NB200_209
   have NB209_200 := Aside0.mk (Q_NB209_200 hb11_)
   clear Q_NB209_200
   have BK209 := Aside0.mk (Q_BK209_e12 hb12_)
   clear Q_BK209_e12
   clear hall hb0_ hb2_ hb3_ hb4_ hb6_ hb7_ hb8_ hb9_ hb10_ hb11_ hb12_
   obtain ⟨co21, eo21⟩ := HA_HO203.out
   clear HA_HO203
   subst eo21
   have hnb22 := NB209_199.out
   have hnc22 := NB199_209.out
   have hnb23 := NB209_200.out
   have hnc23 := NB200_209.out
   have hnb24 := NB209_0.out
   have hnc24 := NB0_209.out
   have hcz25_0 : w20.cell? ⟨gb209, 0, none⟩ = some (.int .i64 (wrap64 ((rd y201 t204) + (wrap64 ((wrap64 (Int.tdiv t207 59)) * 5))))) := (blk_cell BK209.out 0).trans rfl
   have hcz25_1 : w20.cell? ⟨gb209, 1, none⟩ = some (.int .i64 0) := (blk_cell BK209.out 1).trans rfl
   have hcz25_2 : w20.cell? ⟨gb209, 2, none⟩ = some (.int .i64 0) := (blk_cell BK209.out 2).trans rfl
   have hfz25_0 := blk_frozen BK209.out 0
   have hfz25_1 := blk_frozen BK209.out 1
   have hfz25_2 := blk_frozen BK209.out 2
   go_upto_block 0 with (fail)
   go_cut [] (fun wc => ∃ (kq : Nat) (x1001_6 : Int) (x210001_6 : Int) (x210002_6 : Int), Aside0 (spec_l20Deed.j0 kq s0_0 x1001_6 (wrap64 ((rd y201 t204) + (wrap64 ((wrap64 (Int.tdiv t207 59)) * 5)))) x210001_6 x210002_6 = some (r1, r2, r3, r4)) ∧ Aside0 (kq ≤ k) ∧ Aside0 (wc.heap[gb199]? = some (.cells #[(.slice A1_0 l1_0.length c1_0), .int .i64 a1_1, (.slice A1_2 l1_2.length c1_2)] 25 (0, 0))) ∧ Aside0 (wc.heap[gb200]? = some (.cells #[.int .i64 0, .int .i64 0, .int .i64 0] 30 (0, 0))) ∧ Aside0 (wc.heap[gb209]? = some (.cells #[.int .i64 (wrap64 ((rd y201 t204) + (wrap64 ((wrap64 (Int.tdiv t207 59)) * 5)))), .int .i64 x210001_6, .int .i64 x210002_6] 30 (0, 0))) ∧ Aside0 (IsS126 w0 wc g s0_0 x1001_6) ∧ Aside0 (KeepBut w wc g none) ∧ Aside0 (Below w0.heap.size w0 wc))
   case first =>
    have H := HC7.out
    clear HC7
    by_cases c26 : (wrap64 ((rd y201 t204) + (wrap64 ((wrap64 (Int.tdiv t207 59)) * 5)))) = 0
    ·
     rw [if_pos c26] at H
     have c26b0 : ((wrap64 ((rd y201 t204) + (wrap64 ((wrap64 (Int.tdiv t207 59)) * 5)))) == 0) = true := beq_iff_eq.mpr c26
     have c26b1 : ((wrap64 ((rd y201 t204) + (wrap64 ((wrap64 (Int.tdiv t207 59)) * 5)))) != 0) = false := bne_eq_false_iff_eq.mpr c26
     clear c26
     (first | rw [c26b0] | (simp only [i64_w, i32_w]; rw [c26b0]) | skip)
     obtain ⟨ji27, hji27⟩ : ∃ j_ : Int, (mx (l1_0.length : Int) 1) = j_ := ⟨_, rfl⟩
     replace H : ((spec_l20Rd_pick.f k s0_0 t208 (ji27)).bind fun bt210 => ((spec_l20Rd_pick.f k s0_0 bt210.2 7).bind fun bt212 => (spec_l20Deed.j0 k s0_0 bt212.2 (wrap64 ((rd y201 t204) + (wrap64 ((wrap64 (Int.tdiv t207 59)) * 5)))) bt210.1 (wrap64 (bt212.1 - 3))))) = some (r1, r2, r3, r4) := by first | (rw [hji27] at H; exact H) | (simp only [hji27] at H ⊢; exact H)
     (try (have hji27l : 1 ≤ ji27 := by (rw [← hji27]; unfold mx; (repeat' split) <;> omega)))
     (try (have hji27m : 0 ≤ ji27 := by omega))
     have hji27_ : (if (l1_0.length : Int) < 1 then 1 else (l1_0.length : Int)) = ji27 := hji27
     replace H := Option.bind_eq_some_iff.mp H
     obtain ⟨⟨t210, t211⟩, A280, H⟩ := H
     replace H : ((spec_l20Rd_pick.f k s0_0 t211 7).bind fun bt212 => (spec_l20Deed.j0 k s0_0 bt212.2 (wrap64 ((rd y201 t204) + (wrap64 ((wrap64 (Int.tdiv t207 59)) * 5)))) t210 (wrap64 (bt212.1 - 3)))) = some (r1, r2, r3, r4) := H
     have A28 := Aside0.mk A280
     clear A280
     replace H := Option.bind_eq_some_iff.mp H
     obtain ⟨⟨t212, t213⟩, A290, H⟩ := H
     replace H : (spec_l20Deed.j0 k s0_0 t213 (wrap64 ((rd y201 t204) + (wrap64 ((wrap64 (Int.tdiv t207 59)) * 5)))) t210 (wrap64 (t212 - 3))) = some (r1, r2, r3, r4) := H
     have A29 := Aside0.mk A290
     clear A290
     have H' := Aside0.mk H
     clear H
     have hnb30 := NB199_200.out
     have hnc30 := NB200_199.out
     have hnb31 := NB199_209.out
     have hnc31 := NB209_199.out
     have hnb32 := NB199_0.out
     have hnc32 := NB0_199.out
     have hcz33_0 : w20.cell? ⟨gb199, 0, none⟩ = some (.slice A1_0 l1_0.length c1_0) := (blk_cell BK199.out 0).trans rfl
     have hcz33_1 : w20.cell? ⟨gb199, 1, none⟩ = some (.int .i64 a1_1) := (blk_cell BK199.out 1).trans rfl
     have hcz33_2 : w20.cell? ⟨gb199, 2, none⟩ = some (.slice A1_2 l1_2.length c1_2) := (blk_cell BK199.out 2).trans rfl
     have hfz33_0 := blk_frozen BK199.out 0
     have hfz33_1 := blk_frozen BK199.out 1
     have hfz33_2 := blk_frozen BK199.out 2
     go_wp2_with (first | ((with_reducible refine gate_callee (f := 101) rfl ?_); refine goesL_ (some 26) rfl rfl Tryd.func101 (by kernel_rfl) rfl #[.pointer (some ⟨g, 0, none⟩), .int .i64 ji27] rfl (by (try simp only [List.map_toArray, List.map_cons, List.map_nil]); first | done | (simp only [hji27]; rfl) | rfl | (simp only [List.length_drop, List.length_take]; rfl)) ?_; (with_reducible refine (spec_l20Rd_pick.calls k g s0_0 t208 ji27 t210 t211 w0 _ ?side1 ?side2 A28.out).mono ?_); (case side1 => repeat (first | (with_reducible first | exact HI0.out | apply IsS126.alloc | apply IsS126.drewN | apply IsS126.drew | apply IsS126.set_1 | refine IsS126.far ?_ NB0_199.out _ | refine IsS126.far ?_ NB0_200.out _ | refine IsS126.far ?_ NB0_209.out _) | exact HI0.out)); (case side2 => repeat (first | (with_reducible first | exact HB.out | apply la_ | apply ln_ | apply ld_ | refine below_set ?_ (IsS126.ge HI0.out) | refine below_set ?_ GE199.out | refine below_set ?_ GE200.out | refine below_set ?_ GE209.out) | exact HB.out)); rintro e w34 ⟨rfl, hi, hb, hk⟩; refine ⟨_, rfl, ?_⟩; have n0_ := Aside0.mk (KeepBut.blk hk (g' := gb199) (o := .cells #[.slice A1_0 l1_0.length c1_0, .int .i64 a1_1, .slice A1_2 l1_2.length c1_2] 25 (0, 0)) (tk_ BK199.out) NB199_0.out (by simp)); have n1_ := Aside0.mk (KeepBut.blk hk (g' := gb200) (o := .cells #[.int .i64 0, .int .i64 0, .int .i64 0] 30 (0, 0)) (tk_ BK200.out) NB200_0.out (by simp)); have n2_ := Aside0.mk (Kd.R_mono (Kd.R_keep (IsS126.apart (show IsS126 w0 _ g s0_0 t208 from by repeat (first | (with_reducible first | exact HI0.out | apply IsS126.alloc | apply IsS126.drewN | apply IsS126.drew | apply IsS126.set_1 | refine IsS126.far ?_ NB0_199.out _ | refine IsS126.far ?_ NB0_200.out _ | refine IsS126.far ?_ NB0_209.out _) | exact HI0.out)) (rR_ HO203.out) (by decide)) hk (fun _ h => h.2)) (fun _ h => h.1)); have n3_ := Aside0.mk (KeepBut.blk hk (g' := gb209) (o := .cells #[.int .i64 (wrap64 ((rd y201 t204) + (wrap64 ((wrap64 (Int.tdiv t207 59)) * 5)))), .int .i64 0, .int .i64 0] 30 (0, 0)) (tk_ BK209.out) NB209_0.out (by simp)); have n4_ := Aside0.mk (KeepBut.trans (tc_ HK.out) hk (.inl rfl)); have n5_ := Aside0.mk (hb); have n6_ := Aside0.mk (hi); clear BK199 BK200 HO203 BK209 HK HB HI0; have BK199 := n0_; have BK200 := n1_; have HO203 := n2_; have BK209 := n3_; have HK := n4_; have HB := n5_; have HI0 := n6_; clear n0_ n1_ n2_ n3_ n4_ n5_ n6_; (try clear hb); (try clear hb2); (try clear hk); (try clear hi); have hnb35 := NB209_200.out; have hnc35 := NB200_209.out; have hnb36 := NB209_0.out; have hnc36 := NB0_209.out; have hcz37_0 : w34.cell? ⟨gb209, 0, none⟩ = some (.int .i64 (wrap64 ((rd y201 t204) + (wrap64 ((wrap64 (Int.tdiv t207 59)) * 5))))) := (blk_cell BK209.out 0).trans rfl; have hcz37_1 : w34.cell? ⟨gb209, 1, none⟩ = some (.int .i64 0) := (blk_cell BK209.out 1).trans rfl; have hcz37_2 : w34.cell? ⟨gb209, 2, none⟩ = some (.int .i64 0) := (blk_cell BK209.out 2).trans rfl; have hfz37_0 := blk_frozen BK209.out 0; have hfz37_1 := blk_frozen BK209.out 1; have hfz37_2 := blk_frozen BK209.out 2) | ((with_reducible refine gate_callee (f := 101) rfl ?_); refine goesL_ (some 29) rfl rfl Tryd.func101 (by kernel_rfl) rfl #[.pointer (some ⟨g, 0, none⟩), .int .i64 7] rfl tz_ ?_; (with_reducible refine (spec_l20Rd_pick.calls k g s0_0 t211 7 t212 t213 w0 _ ?side1 ?side2 A29.out).mono ?_); (case side1 => repeat (first | (with_reducible first | exact HI0.out | apply IsS126.alloc | apply IsS126.drewN | apply IsS126.drew | apply IsS126.set_1 | refine IsS126.far ?_ NB0_199.out _ | refine IsS126.far ?_ NB0_200.out _ | refine IsS126.far ?_ NB0_209.out _) | exact HI0.out)); (case side2 => repeat (first | (with_reducible first | exact HB.out | apply la_ | apply ln_ | apply ld_ | refine below_set ?_ (IsS126.ge HI0.out) | refine below_set ?_ GE199.out | refine below_set ?_ GE200.out | refine below_set ?_ GE209.out) | exact HB.out)); rintro e w38 ⟨rfl, hi, hb, hk⟩; refine ⟨_, rfl, ?_⟩; have n0_ := Aside0.mk (KeepBut.blk hk (g' := gb199) (o := .cells #[.slice A1_0 l1_0.length c1_0, .int .i64 a1_1, .slice A1_2 l1_2.length c1_2] 25 (0, 0)) (tk_ BK199.out) NB199_0.out (by simp)); have n1_ := Aside0.mk (KeepBut.blk hk (g' := gb200) (o := .cells #[.int .i64 0, .int .i64 0, .int .i64 0] 30 (0, 0)) (tk_ BK200.out) NB200_0.out (by simp)); have n2_ := Aside0.mk (Kd.R_mono (Kd.R_keep (IsS126.apart (show IsS126 w0 _ g s0_0 t211 from by repeat (first | (with_reducible first | exact HI0.out | apply IsS126.alloc | apply IsS126.drewN | apply IsS126.drew | apply IsS126.set_1 | refine IsS126.far ?_ NB0_199.out _ | refine IsS126.far ?_ NB0_200.out _ | refine IsS126.far ?_ NB0_209.out _) | exact HI0.out)) (by refine qR_ ?_; exact (Kd.R_mono (Kd.R_far (p := ⟨gb209, 1, none⟩) (Kd.R_types HO203.out BK209.out (by decide)) (fun _ hk => hk.2) (.int .i64 t210)) (fun _ h_ => h_.1))) (by decide)) hk (fun _ h => h.2)) (fun _ h => h.1)); have n3_ := Aside0.mk (KeepBut.blk hk (g' := gb209) (o := .cells #[.int .i64 (wrap64 ((rd y201 t204) + (wrap64 ((wrap64 (Int.tdiv t207 59)) * 5)))), .int .i64 t210, .int .i64 0] 30 (0, 0)) (by refine bq_ ?_; refine blk_put (cs := #[.int .i64 (wrap64 ((rd y201 t204) + (wrap64 ((wrap64 (Int.tdiv t207 59)) * 5)))), .int .i64 0, .int .i64 0]) ?_ 1 _ rfl; exact tk_ BK209.out) NB209_0.out (by simp)); have n4_ := Aside0.mk (KeepBut.trans (tc_ HK.out) hk (.inl rfl)); have n5_ := Aside0.mk (hb); have n6_ := Aside0.mk (hi); clear BK199 BK200 HO203 BK209 HK HB HI0; have BK199 := n0_; have BK200 := n1_; have HO203 := n2_; have BK209 := n3_; have HK := n4_; have HB := n5_; have HI0 := n6_; clear n0_ n1_ n2_ n3_ n4_ n5_ n6_; (try clear hb); (try clear hb2); (try clear hk); (try clear hi); have hcz39_0 : w38.cell? ⟨gb209, 0, none⟩ = some (.int .i64 (wrap64 ((rd y201 t204) + (wrap64 ((wrap64 (Int.tdiv t207 59)) * 5))))) := (blk_cell BK209.out 0).trans rfl; have hcz39_1 : w38.cell? ⟨gb209, 1, none⟩ = some (.int .i64 t210) := (blk_cell BK209.out 1).trans rfl; have hcz39_2 : w38.cell? ⟨gb209, 2, none⟩ = some (.int .i64 0) := (blk_cell BK209.out 2).trans rfl; have hfz39_0 := blk_frozen BK209.out 0; have hfz39_1 := blk_frozen BK209.out 1; have hfz39_2 := blk_frozen BK209.out 2))
     go_meet
     case rel => exact ⟨_, (t213), (t210), (wrap64 (t212 - 3)), H', ⟨by first | omega | exact Nat.le_refl _⟩, ⟨tk_ BK199.out⟩, ⟨tk_ BK200.out⟩, ⟨by refine bq_ ?_; refine blk_put (cs := #[.int .i64 (wrap64 ((rd y201 t204) + (wrap64 ((wrap64 (Int.tdiv t207 59)) * 5)))), .int .i64 t210, .int .i64 0]) ?_ 2 _ rfl; exact tk_ BK209.out⟩, ⟨by repeat (first | (with_reducible first | exact HI0.out | apply IsS126.alloc | apply IsS126.drewN | apply IsS126.drew | apply IsS126.set_1 | refine IsS126.far ?_ NB0_199.out _ | refine IsS126.far ?_ NB0_200.out _ | refine IsS126.far ?_ NB0_209.out _) | exact HI0.out)⟩, ⟨(tc_ HK.out)⟩, ⟨by repeat (first | (with_reducible first | exact HB.out | apply la_ | apply ln_ | apply ld_ | refine below_set ?_ (IsS126.ge HI0.out) | refine below_set ?_ GE199.out | refine below_set ?_ GE200.out | refine below_set ?_ GE209.out) | exact HB.out)⟩⟩
    ·
     rw [if_neg c26] at H
     have c26b0 : ((wrap64 ((rd y201 t204) + (wrap64 ((wrap64 (Int.tdiv t207 59)) * 5)))) == 0) = false := beq_eq_false_iff_ne.mpr c26
     have c26b1 : ((wrap64 ((rd y201 t204) + (wrap64 ((wrap64 (Int.tdiv t207 59)) * 5)))) != 0) = true := bne_iff_ne.mpr c26
     (first | rw [c26b0] | (simp only [i64_w, i32_w]; rw [c26b0]) | skip)
     by_cases c40 : (wrap64 ((rd y201 t204) + (wrap64 ((wrap64 (Int.tdiv t207 59)) * 5)))) = 1
     ·
      rw [if_pos c40] at H
      have c40b0 : ((wrap64 ((rd y201 t204) + (wrap64 ((wrap64 (Int.tdiv t207 59)) * 5)))) == 1) = true := beq_iff_eq.mpr c40
      have c40b1 : ((wrap64 ((rd y201 t204) + (wrap64 ((wrap64 (Int.tdiv t207 59)) * 5)))) != 1) = false := bne_eq_false_iff_eq.mpr c40
      clear c40
      replace H := Option.bind_eq_some_iff.mp H
      obtain ⟨⟨t214, t215⟩, A410, H⟩ := H
      replace H : (spec_l20Deed.j0 k s0_0 t215 (wrap64 ((rd y201 t204) + (wrap64 ((wrap64 (Int.tdiv t207 59)) * 5)))) (wrap64 (t214 - 1)) 0) = some (r1, r2, r3, r4) := H
      have A41 := Aside0.mk A410
      clear A410
      have H' := Aside0.mk H
      clear H
      go_wp2_with (first | ((with_reducible refine gate_callee (f := 101) rfl ?_); refine goesL_ (some 35) rfl rfl Tryd.func101 (by kernel_rfl) rfl #[.pointer (some ⟨g, 0, none⟩), .int .i64 5] rfl tz_ ?_; (with_reducible refine (spec_l20Rd_pick.calls k g s0_0 t208 5 t214 t215 w0 _ ?side1 ?side2 A41.out).mono ?_); (case side1 => repeat (first | (with_reducible first | exact HI0.out | apply IsS126.alloc | apply IsS126.drewN | apply IsS126.drew | apply IsS126.set_1 | refine IsS126.far ?_ NB0_199.out _ | refine IsS126.far ?_ NB0_200.out _ | refine IsS126.far ?_ NB0_209.out _) | exact HI0.out)); (case side2 => repeat (first | (with_reducible first | exact HB.out | apply la_ | apply ln_ | apply ld_ | refine below_set ?_ (IsS126.ge HI0.out) | refine below_set ?_ GE199.out | refine below_set ?_ GE200.out | refine below_set ?_ GE209.out) | exact HB.out)); rintro e w42 ⟨rfl, hi, hb, hk⟩; refine ⟨_, rfl, ?_⟩; have n0_ := Aside0.mk (KeepBut.blk hk (g' := gb199) (o := .cells #[.slice A1_0 l1_0.length c1_0, .int .i64 a1_1, .slice A1_2 l1_2.length c1_2] 25 (0, 0)) (tk_ BK199.out) NB199_0.out (by simp)); have n1_ := Aside0.mk (KeepBut.blk hk (g' := gb200) (o := .cells #[.int .i64 0, .int .i64 0, .int .i64 0] 30 (0, 0)) (tk_ BK200.out) NB200_0.out (by simp)); have n2_ := Aside0.mk (Kd.R_mono (Kd.R_keep (IsS126.apart (show IsS126 w0 _ g s0_0 t208 from by repeat (first | (with_reducible first | exact HI0.out | apply IsS126.alloc | apply IsS126.drewN | apply IsS126.drew | apply IsS126.set_1 | refine IsS126.far ?_ NB0_199.out _ | refine IsS126.far ?_ NB0_200.out _ | refine IsS126.far ?_ NB0_209.out _) | exact HI0.out)) (rR_ HO203.out) (by decide)) hk (fun _ h => h.2)) (fun _ h => h.1)); have n3_ := Aside0.mk (KeepBut.blk hk (g' := gb209) (o := .cells #[.int .i64 (wrap64 ((rd y201 t204) + (wrap64 ((wrap64 (Int.tdiv t207 59)) * 5)))), .int .i64 0, .int .i64 0] 30 (0, 0)) (tk_ BK209.out) NB209_0.out (by simp)); have n4_ := Aside0.mk (KeepBut.trans (tc_ HK.out) hk (.inl rfl)); have n5_ := Aside0.mk (hb); have n6_ := Aside0.mk (hi); clear BK199 BK200 HO203 BK209 HK HB HI0; have BK199 := n0_; have BK200 := n1_; have HO203 := n2_; have BK209 := n3_; have HK := n4_; have HB := n5_; have HI0 := n6_; clear n0_ n1_ n2_ n3_ n4_ n5_ n6_; (try clear hb); (try clear hb2); (try clear hk); (try clear hi); have hnb43 := NB209_199.out; have hnc43 := NB199_209.out; have hnb44 := NB209_200.out; have hnc44 := NB200_209.out; have hnb45 := NB209_0.out; have hnc45 := NB0_209.out; have hcz46_0 : w42.cell? ⟨gb209, 0, none⟩ = some (.int .i64 (wrap64 ((rd y201 t204) + (wrap64 ((wrap64 (Int.tdiv t207 59)) * 5))))) := (blk_cell BK209.out 0).trans rfl; have hcz46_1 : w42.cell? ⟨gb209, 1, none⟩ = some (.int .i64 0) := (blk_cell BK209.out 1).trans rfl; have hcz46_2 : w42.cell? ⟨gb209, 2, none⟩ = some (.int .i64 0) := (blk_cell BK209.out 2).trans rfl; have hfz46_0 := blk_frozen BK209.out 0; have hfz46_1 := blk_frozen BK209.out 1; have hfz46_2 := blk_frozen BK209.out 2))
      go_meet
      case rel => exact ⟨_, (t215), (wrap64 (t214 - 1)), (0), H', ⟨by first | omega | exact Nat.le_refl _⟩, ⟨tk_ BK199.out⟩, ⟨tk_ BK200.out⟩, ⟨by refine bq_ ?_; refine blk_put (cs := #[.int .i64 (wrap64 ((rd y201 t204) + (wrap64 ((wrap64 (Int.tdiv t207 59)) * 5)))), .int .i64 0, .int .i64 0]) ?_ 1 _ rfl; exact tk_ BK209.out⟩, ⟨by repeat (first | (with_reducible first | exact HI0.out | apply IsS126.alloc | apply IsS126.drewN | apply IsS126.drew | apply IsS126.set_1 | refine IsS126.far ?_ NB0_199.out _ | refine IsS126.far ?_ NB0_200.out _ | refine IsS126.far ?_ NB0_209.out _) | exact HI0.out)⟩, ⟨(tc_ HK.out)⟩, ⟨by repeat (first | (with_reducible first | exact HB.out | apply la_ | apply ln_ | apply ld_ | refine below_set ?_ (IsS126.ge HI0.out) | refine below_set ?_ GE199.out | refine below_set ?_ GE200.out | refine below_set ?_ GE209.out) | exact HB.out)⟩⟩
     ·
      rw [if_neg c40] at H
      have c40b0 : ((wrap64 ((rd y201 t204) + (wrap64 ((wrap64 (Int.tdiv t207 59)) * 5)))) == 1) = false := beq_eq_false_iff_ne.mpr c40
      have c40b1 : ((wrap64 ((rd y201 t204) + (wrap64 ((wrap64 (Int.tdiv t207 59)) * 5)))) != 1) = true := bne_iff_ne.mpr c40
      by_cases c47 : (wrap64 ((rd y201 t204) + (wrap64 ((wrap64 (Int.tdiv t207 59)) * 5)))) = 2
      ·
       rw [if_pos c47] at H
       have c47b0 : ((wrap64 ((rd y201 t204) + (wrap64 ((wrap64 (Int.tdiv t207 59)) * 5)))) == 2) = true := beq_iff_eq.mpr c47
       have c47b1 : ((wrap64 ((rd y201 t204) + (wrap64 ((wrap64 (Int.tdiv t207 59)) * 5)))) != 2) = false := bne_eq_false_iff_eq.mpr c47
       clear c47
       obtain ⟨ji48, hji48⟩ : ∃ j_ : Int, (mx (l1_0.length : Int) 1) = j_ := ⟨_, rfl⟩
       replace H : ((spec_l20Rd_pick.f k s0_0 t208 (ji48)).bind fun bt216 => (spec_l20Deed.j0 k s0_0 bt216.2 (wrap64 ((rd y201 t204) + (wrap64 ((wrap64 (Int.tdiv t207 59)) * 5)))) bt216.1 0)) = some (r1, r2, r3, r4) := by first | (rw [hji48] at H; exact H) | (simp only [hji48] at H ⊢; exact H)
       (try (have hji48l : 1 ≤ ji48 := by (rw [← hji48]; unfold mx; (repeat' split) <;> omega)))
       (try (have hji48m : 0 ≤ ji48 := by omega))
       have hji48_ : (if (l1_0.length : Int) < 1 then 1 else (l1_0.length : Int)) = ji48 := hji48
       replace H := Option.bind_eq_some_iff.mp H
       obtain ⟨⟨t216, t217⟩, A490, H⟩ := H
       replace H : (spec_l20Deed.j0 k s0_0 t217 (wrap64 ((rd y201 t204) + (wrap64 ((wrap64 (Int.tdiv t207 59)) * 5)))) t216 0) = some (r1, r2, r3, r4) := H
       have A49 := Aside0.mk A490
       clear A490
       have H' := Aside0.mk H
       clear H
       have hnb50 := NB199_200.out
       have hnc50 := NB200_199.out
       have hnb51 := NB199_209.out
       have hnc51 := NB209_199.out
       have hnb52 := NB199_0.out
       have hnc52 := NB0_199.out
       have hcz53_0 : w20.cell? ⟨gb199, 0, none⟩ = some (.slice A1_0 l1_0.length c1_0) := (blk_cell BK199.out 0).trans rfl
       have hcz53_1 : w20.cell? ⟨gb199, 1, none⟩ = some (.int .i64 a1_1) := (blk_cell BK199.out 1).trans rfl
       have hcz53_2 : w20.cell? ⟨gb199, 2, none⟩ = some (.slice A1_2 l1_2.length c1_2) := (blk_cell BK199.out 2).trans rfl
       have hfz53_0 := blk_frozen BK199.out 0
       have hfz53_1 := blk_frozen BK199.out 1
       have hfz53_2 := blk_frozen BK199.out 2
       go_wp2_with (first | ((with_reducible refine gate_callee (f := 101) rfl ?_); refine goesL_ (some 45) rfl rfl Tryd.func101 (by kernel_rfl) rfl #[.pointer (some ⟨g, 0, none⟩), .int .i64 ji48] rfl (by (try simp only [List.map_toArray, List.map_cons, List.map_nil]); first | done | (simp only [hji48]; rfl) | rfl | (simp only [List.length_drop, List.length_take]; rfl)) ?_; (with_reducible refine (spec_l20Rd_pick.calls k g s0_0 t208 ji48 t216 t217 w0 _ ?side1 ?side2 A49.out).mono ?_); (case side1 => repeat (first | (with_reducible first | exact HI0.out | apply IsS126.alloc | apply IsS126.drewN | apply IsS126.drew | apply IsS126.set_1 | refine IsS126.far ?_ NB0_199.out _ | refine IsS126.far ?_ NB0_200.out _ | refine IsS126.far ?_ NB0_209.out _) | exact HI0.out)); (case side2 => repeat (first | (with_reducible first | exact HB.out | apply la_ | apply ln_ | apply ld_ | refine below_set ?_ (IsS126.ge HI0.out) | refine below_set ?_ GE199.out | refine below_set ?_ GE200.out | refine below_set ?_ GE209.out) | exact HB.out)); rintro e w54 ⟨rfl, hi, hb, hk⟩; refine ⟨_, rfl, ?_⟩; have n0_ := Aside0.mk (KeepBut.blk hk (g' := gb199) (o := .cells #[.slice A1_0 l1_0.length c1_0, .int .i64 a1_1, .slice A1_2 l1_2.length c1_2] 25 (0, 0)) (tk_ BK199.out) NB199_0.out (by simp)); have n1_ := Aside0.mk (KeepBut.blk hk (g' := gb200) (o := .cells #[.int .i64 0, .int .i64 0, .int .i64 0] 30 (0, 0)) (tk_ BK200.out) NB200_0.out (by simp)); have n2_ := Aside0.mk (Kd.R_mono (Kd.R_keep (IsS126.apart (show IsS126 w0 _ g s0_0 t208 from by repeat (first | (with_reducible first | exact HI0.out | apply IsS126.alloc | apply IsS126.drewN | apply IsS126.drew | apply IsS126.set_1 | refine IsS126.far ?_ NB0_199.out _ | refine IsS126.far ?_ NB0_200.out _ | refine IsS126.far ?_ NB0_209.out _) | exact HI0.out)) (rR_ HO203.out) (by decide)) hk (fun _ h => h.2)) (fun _ h => h.1)); have n3_ := Aside0.mk (KeepBut.blk hk (g' := gb209) (o := .cells #[.int .i64 (wrap64 ((rd y201 t204) + (wrap64 ((wrap64 (Int.tdiv t207 59)) * 5)))), .int .i64 0, .int .i64 0] 30 (0, 0)) (tk_ BK209.out) NB209_0.out (by simp)); have n4_ := Aside0.mk (KeepBut.trans (tc_ HK.out) hk (.inl rfl)); have n5_ := Aside0.mk (hb); have n6_ := Aside0.mk (hi); clear BK199 BK200 HO203 BK209 HK HB HI0; have BK199 := n0_; have BK200 := n1_; have HO203 := n2_; have BK209 := n3_; have HK := n4_; have HB := n5_; have HI0 := n6_; clear n0_ n1_ n2_ n3_ n4_ n5_ n6_; (try clear hb); (try clear hb2); (try clear hk); (try clear hi); have hnb55 := NB209_200.out; have hnc55 := NB200_209.out; have hnb56 := NB209_0.out; have hnc56 := NB0_209.out; have hcz57_0 : w54.cell? ⟨gb209, 0, none⟩ = some (.int .i64 (wrap64 ((rd y201 t204) + (wrap64 ((wrap64 (Int.tdiv t207 59)) * 5))))) := (blk_cell BK209.out 0).trans rfl; have hcz57_1 : w54.cell? ⟨gb209, 1, none⟩ = some (.int .i64 0) := (blk_cell BK209.out 1).trans rfl; have hcz57_2 : w54.cell? ⟨gb209, 2, none⟩ = some (.int .i64 0) := (blk_cell BK209.out 2).trans rfl; have hfz57_0 := blk_frozen BK209.out 0; have hfz57_1 := blk_frozen BK209.out 1; have hfz57_2 := blk_frozen BK209.out 2))
       go_meet
       case rel => exact ⟨_, (t217), (t216), (0), H', ⟨by first | omega | exact Nat.le_refl _⟩, ⟨tk_ BK199.out⟩, ⟨tk_ BK200.out⟩, ⟨by refine bq_ ?_; refine blk_put (cs := #[.int .i64 (wrap64 ((rd y201 t204) + (wrap64 ((wrap64 (Int.tdiv t207 59)) * 5)))), .int .i64 0, .int .i64 0]) ?_ 1 _ rfl; exact tk_ BK209.out⟩, ⟨by repeat (first | (with_reducible first | exact HI0.out | apply IsS126.alloc | apply IsS126.drewN | apply IsS126.drew | apply IsS126.set_1 | refine IsS126.far ?_ NB0_199.out _ | refine IsS126.far ?_ NB0_200.out _ | refine IsS126.far ?_ NB0_209.out _) | exact HI0.out)⟩, ⟨(tc_ HK.out)⟩, ⟨by repeat (first | (with_reducible first | exact HB.out | apply la_ | apply ln_ | apply ld_ | refine below_set ?_ (IsS126.ge HI0.out) | refine below_set ?_ GE199.out | refine below_set ?_ GE200.out | refine below_set ?_ GE209.out) | exact HB.out)⟩⟩
      ·
       rw [if_neg c47] at H
       have c47b0 : ((wrap64 ((rd y201 t204) + (wrap64 ((wrap64 (Int.tdiv t207 59)) * 5)))) == 2) = false := beq_eq_false_iff_ne.mpr c47
       have c47b1 : ((wrap64 ((rd y201 t204) + (wrap64 ((wrap64 (Int.tdiv t207 59)) * 5)))) != 2) = true := bne_iff_ne.mpr c47
       have H' := Aside0.mk H
       clear H
       go_wp2
       go_meet
       case rel => exact ⟨_, (t208), (0), (0), H', ⟨by first | omega | exact Nat.le_refl _⟩, ⟨tk_ BK199.out⟩, ⟨tk_ BK200.out⟩, ⟨tk_ BK209.out⟩, ⟨by repeat (first | (with_reducible first | exact HI0.out | apply IsS126.alloc | apply IsS126.drewN | apply IsS126.drew | apply IsS126.set_1 | refine IsS126.far ?_ NB0_199.out _ | refine IsS126.far ?_ NB0_200.out _ | refine IsS126.far ?_ NB0_209.out _) | exact HI0.out)⟩, ⟨(tc_ HK.out)⟩, ⟨by repeat (first | (with_reducible first | exact HB.out | apply la_ | apply ln_ | apply ld_ | refine below_set ?_ (IsS126.ge HI0.out) | refine below_set ?_ GE199.out | refine below_set ?_ GE200.out | refine below_set ?_ GE209.out) | exact HB.out)⟩⟩
   case rest =>
    clear HC7
    try clear c1
    try clear c2
    try clear p2
    try clear qi2
    try clear c3
    try clear c4
    try clear c4b0
    try clear c5
    try clear c5b0
    try clear c6
    try clear p6
    try clear c10
    try clear qi20
    try clear c22
    try clear c23
    try clear c24
    try clear c26
    try clear c26b0
    try clear c26b1
    try clear c30
    try clear c31
    try clear c32
    try clear c35
    try clear c36
    try clear c40
    try clear c40b0
    try clear c40b1
    try clear c43
    try clear c44
    try clear c45
    try clear c47
    try clear c47b0
    try clear c47b1
    try clear c50
    try clear c51
    try clear c52
    try clear c55
    try clear c56
    try clear hcz25_0
    try clear hcz25_1
    try clear hcz25_2
    try clear hcz33_0
    try clear hcz33_1
    try clear hcz33_2
    try clear hcz37_0
    try clear hcz37_1
    try clear hcz37_2
    try clear hcz39_0
    try clear hcz39_1
    try clear hcz39_2
    try clear hcz46_0
    try clear hcz46_1
    try clear hcz46_2
    try clear hcz53_0
    try clear hcz53_1
    try clear hcz53_2
    try clear hcz57_0
    try clear hcz57_1
    try clear hcz57_2
    try clear hfz25_0
    try clear hfz25_1
    try clear hfz25_2
    try clear hfz33_0
    try clear hfz33_1
    try clear hfz33_2
    try clear hfz37_0
    try clear hfz37_1
    try clear hfz37_2
    try clear hfz39_0
    try clear hfz39_1
    try clear hfz39_2
    try clear hfz46_0
    try clear hfz46_1
    try clear hfz46_2
    try clear hfz53_0
    try clear hfz53_1
    try clear hfz53_2
    try clear hfz57_0
    try clear hfz57_1
    try clear hfz57_2
    obtain ⟨kq, x1001_6, x210001_6, x210002_6, HA, HJ6, BK199, BK200, BK209, HI0, HK, HB⟩ := hcut
    cases kq with
    | zero => exact absurd HA.out (by simp [spec_l20Deed.j0])
    | succ kj6 =>
     have H := HA.out
     clear HA
     simp only [spec_l20Deed.j0] at H
     replace H := Option.bind_eq_some_iff.mp H
     obtain ⟨⟨t218, t219⟩, A580, H⟩ := H
     replace H : (if t218 = true then ((spec_l20Rd_pick.f kj6 s0_0 t219 2).bind fun bt220 => (if bt220.1 = 0 then ((some (([(-100), 100] : List Int) : List Int)).bind fun y222 => ((spec_l20Rd_pick.f kj6 s0_0 bt220.2 2).bind fun bt225 => (if 0 ≤ bt225.1 then (if bt225.1 < (y222.length : Int) then (some ((wrap64 ((rd y201 t204) + (wrap64 ((wrap64 (Int.tdiv t207 59)) * 5)))), rd y222 bt225.1, x210002_6, bt225.2)) else (none)) else (none)))) else (some ((wrap64 ((rd y201 t204) + (wrap64 ((wrap64 (Int.tdiv t207 59)) * 5)))), x210001_6, 99, bt220.2)))) else (some ((wrap64 ((rd y201 t204) + (wrap64 ((wrap64 (Int.tdiv t207 59)) * 5)))), x210001_6, x210002_6, t219))) = some (r1, r2, r3, r4) := H
     have A58 := Aside0.mk A580
     clear A580
     by_cases c59 : t218 = true
     ·
      subst c59
      have H1 : ((spec_l20Rd_pick.f kj6 s0_0 t219 2).bind fun bt220 => (if bt220.1 = 0 then ((some (([(-100), 100] : List Int) : List Int)).bind fun y222 => ((spec_l20Rd_pick.f kj6 s0_0 bt220.2 2).bind fun bt225 => (if 0 ≤ bt225.1 then (if bt225.1 < (y222.length : Int) then (some ((wrap64 ((rd y201 t204) + (wrap64 ((wrap64 (Int.tdiv t207 59)) * 5)))), rd y222 bt225.1, x210002_6, bt225.2)) else (none)) else (none)))) else (some ((wrap64 ((rd y201 t204) + (wrap64 ((wrap64 (Int.tdiv t207 59)) * 5)))), x210001_6, 99, bt220.2)))) = some (r1, r2, r3, r4) := by rw [if_pos rfl] at H; exact H
      clear H
      have H := H1
      clear H1
      replace H := Option.bind_eq_some_iff.mp H
      obtain ⟨⟨t220, t221⟩, A600, H⟩ := H
      replace H : (if t220 = 0 then ((some (([(-100), 100] : List Int) : List Int)).bind fun y222 => ((spec_l20Rd_pick.f kj6 s0_0 t221 2).bind fun bt225 => (if 0 ≤ bt225.1 then (if bt225.1 < (y222.length : Int) then (some ((wrap64 ((rd y201 t204) + (wrap64 ((wrap64 (Int.tdiv t207 59)) * 5)))), rd y222 bt225.1, x210002_6, bt225.2)) else (none)) else (none)))) else (some ((wrap64 ((rd y201 t204) + (wrap64 ((wrap64 (Int.tdiv t207 59)) * 5)))), x210001_6, 99, t221))) = some (r1, r2, r3, r4) := H
      have A60 := Aside0.mk A600
      clear A600
      by_cases c61 : t220 = 0
      ·
       rw [if_pos c61] at H
       have c61b0 : (t220 == 0) = true := beq_iff_eq.mpr c61
       have c61b1 : (t220 != 0) = false := bne_eq_false_iff_eq.mpr c61
       clear c61
       obtain ⟨y222, hy222⟩ : ∃ y_ : List Int, y_ = (([(-100), 100] : List Int)) := ⟨_, rfl⟩
       replace H : ((spec_l20Rd_pick.f kj6 s0_0 t221 2).bind fun bt225 => (if 0 ≤ bt225.1 then (if bt225.1 < (y222.length : Int) then (some ((wrap64 ((rd y201 t204) + (wrap64 ((wrap64 (Int.tdiv t207 59)) * 5)))), rd y222 bt225.1, x210002_6, bt225.2)) else (none)) else (none))) = some (r1, r2, r3, r4) := by first | (rw [hy222]; with_reducible exact H) | (have H2_ := (Option.bind_some _ _).symm.trans H; rw [hy222]; with_reducible exact H2_) | (have H2_ := (Option.bind_some _ _).symm.trans H; with_reducible exact H2_) | with_reducible exact H | (rw [hy222]; exact H) | exact H
       have Ny222 := Aside0.mk hy222
       clear hy222
       replace H := Option.bind_eq_some_iff.mp H
       obtain ⟨⟨t225, t226⟩, A620, H⟩ := H
       replace H : (if 0 ≤ t225 then (if t225 < (y222.length : Int) then (some ((wrap64 ((rd y201 t204) + (wrap64 ((wrap64 (Int.tdiv t207 59)) * 5)))), rd y222 t225, x210002_6, t226)) else (none)) else (none)) = some (r1, r2, r3, r4) := H
       have A62 := Aside0.mk A620
       clear A620
       by_cases c63 : 0 ≤ t225
       ·
        rw [if_pos c63] at H
        have c63b0 : decide (0 ≤ t225) = true := decide_eq_true c63
        clear c63
        by_cases c64 : t225 < (y222.length : Int)
        ·
         rw [if_pos c64] at H
         have c64b0 : decide (t225 < (y222.length : Int)) = true := decide_eq_true c64
         clear c64
         simp only [Option.some.injEq, Prod.mk.injEq] at H
         obtain ⟨rfl, rfl, rfl, rfl⟩ := H
         go_wp2_with (first | ((with_reducible refine gate_callee (f := 80) rfl ?_); refine goesL_ (some 48) rfl rfl Tryd.func80 (by kernel_rfl) rfl #[.pointer (some ⟨g, 0, none⟩), .int .i64 40] rfl tz_ ?_; (with_reducible refine (spec_l20Rd_odd.calls kj6 g s0_0 x1001_6 40 true t219 w0 _ ?side1 ?side2 A58.out).mono ?_); (case side1 => repeat (first | (with_reducible first | exact HI0.out | apply IsS126.alloc | apply IsS126.drewN | apply IsS126.drew | apply IsS126.set_1 | refine IsS126.far ?_ NB0_199.out _ | refine IsS126.far ?_ NB0_200.out _ | refine IsS126.far ?_ NB0_209.out _) | exact HI0.out)); (case side2 => repeat (first | (with_reducible first | exact HB.out | apply la_ | apply ln_ | apply ld_ | refine below_set ?_ (IsS126.ge HI0.out) | refine below_set ?_ GE199.out | refine below_set ?_ GE200.out | refine below_set ?_ GE209.out) | exact HB.out)); rintro e w65 ⟨rfl, hi, hb, hk⟩; refine ⟨_, rfl, ?_⟩; have n0_ := Aside0.mk (KeepBut.blk hk (g' := gb199) (o := .cells #[.slice A1_0 l1_0.length c1_0, .int .i64 a1_1, .slice A1_2 l1_2.length c1_2] 25 (0, 0)) (tk_ BK199.out) NB199_0.out (by simp)); have n1_ := Aside0.mk (KeepBut.blk hk (g' := gb200) (o := .cells #[.int .i64 0, .int .i64 0, .int .i64 0] 30 (0, 0)) (tk_ BK200.out) NB200_0.out (by simp)); have n2_ := Aside0.mk (KeepBut.blk hk (g' := gb209) (o := .cells #[.int .i64 (wrap64 ((rd y201 t204) + (wrap64 ((wrap64 (Int.tdiv t207 59)) * 5)))), .int .i64 x210001_6, .int .i64 x210002_6] 30 (0, 0)) (tk_ BK209.out) NB209_0.out (by simp)); have n3_ := Aside0.mk (KeepBut.trans (tc_ HK.out) hk (.inl rfl)); have n4_ := Aside0.mk (hb); have n5_ := Aside0.mk (hi); clear BK199 BK200 BK209 HK HB HI0; have BK199 := n0_; have BK200 := n1_; have BK209 := n2_; have HK := n3_; have HB := n4_; have HI0 := n5_; clear n0_ n1_ n2_ n3_ n4_ n5_; (try clear hb); (try clear hb2); (try clear hk); (try clear hi)) | ((with_reducible refine gate_callee (f := 101) rfl ?_); refine goesL_ (some 50) rfl rfl Tryd.func101 (by kernel_rfl) rfl #[.pointer (some ⟨g, 0, none⟩), .int .i64 2] rfl tz_ ?_; (with_reducible refine (spec_l20Rd_pick.calls kj6 g s0_0 t219 2 t220 t221 w0 _ ?side1 ?side2 A60.out).mono ?_); (case side1 => repeat (first | (with_reducible first | exact HI0.out | apply IsS126.alloc | apply IsS126.drewN | apply IsS126.drew | apply IsS126.set_1 | refine IsS126.far ?_ NB0_199.out _ | refine IsS126.far ?_ NB0_200.out _ | refine IsS126.far ?_ NB0_209.out _) | exact HI0.out)); (case side2 => repeat (first | (with_reducible first | exact HB.out | apply la_ | apply ln_ | apply ld_ | refine below_set ?_ (IsS126.ge HI0.out) | refine below_set ?_ GE199.out | refine below_set ?_ GE200.out | refine below_set ?_ GE209.out) | exact HB.out)); rintro e w66 ⟨rfl, hi, hb, hk⟩; refine ⟨_, rfl, ?_⟩; have n0_ := Aside0.mk (KeepBut.blk hk (g' := gb199) (o := .cells #[.slice A1_0 l1_0.length c1_0, .int .i64 a1_1, .slice A1_2 l1_2.length c1_2] 25 (0, 0)) (tk_ BK199.out) NB199_0.out (by simp)); have n1_ := Aside0.mk (KeepBut.blk hk (g' := gb200) (o := .cells #[.int .i64 0, .int .i64 0, .int .i64 0] 30 (0, 0)) (tk_ BK200.out) NB200_0.out (by simp)); have n2_ := Aside0.mk (KeepBut.blk hk (g' := gb209) (o := .cells #[.int .i64 (wrap64 ((rd y201 t204) + (wrap64 ((wrap64 (Int.tdiv t207 59)) * 5)))), .int .i64 x210001_6, .int .i64 x210002_6] 30 (0, 0)) (tk_ BK209.out) NB209_0.out (by simp)); have n3_ := Aside0.mk (KeepBut.trans (tc_ HK.out) hk (.inl rfl)); have n4_ := Aside0.mk (hb); have n5_ := Aside0.mk (hi); clear BK199 BK200 BK209 HK HB HI0; have BK199 := n0_; have BK200 := n1_; have BK209 := n2_; have HK := n3_; have HB := n4_; have HI0 := n5_; clear n0_ n1_ n2_ n3_ n4_ n5_; (try clear hb); (try clear hb2); (try clear hk); (try clear hi)) | ((with_reducible refine gate_dst (N := 54) rfl ?_); refine Kd.R_lit (Kd.int .i64) _ 3 ?hg (N := 54) ?hd (xs := ([(-100), 100] : List Int)) (inner := [.int .i64 (-100), .int .i64 100]) (ok := fun _ => True) (okp := fun _ => True) ?hr ?hp (fun _ hk => hk) trivial (Below.refl _ _) (Nat.le_refl _) (by simp) ?_; (case hd => rfl); (case hg => rfl); (case hr => first | (go_simp; done) | (go_simp; rfl)); (case hp => exact (Reps.one (show Kd.M (Kd.int .i64) _ _ _ (-100) [.int .i64 (-100)] from rfl) (Reps.one (show Kd.M (Kd.int .i64) _ _ _ 100 [.int .i64 100] from rfl) (Reps.none _ _)))); intro v223 w67 ho68 hb hg_ hnew_; clear hg_ hnew_; (first | rw [← Ny222.out] at ho68 | (simp only [Int.reduceToNat] at ho68; rw [← Ny222.out] at ho68)); have n0_ := Aside0.mk (Kd.R_lower ho68 (keep_size (w := w) (g := g) (row := none) (tc_ HK.out))); have n1_ := Aside0.mk (blk_below (g := gb199) (o := .cells #[.slice A1_0 l1_0.length c1_0, .int .i64 a1_1, .slice A1_2 l1_2.length c1_2] 25 (0, 0)) (tk_ BK199.out) hb); have n2_ := Aside0.mk (blk_below (g := gb200) (o := .cells #[.int .i64 0, .int .i64 0, .int .i64 0] 30 (0, 0)) (tk_ BK200.out) hb); have n3_ := Aside0.mk (blk_below (g := gb209) (o := .cells #[.int .i64 (wrap64 ((rd y201 t204) + (wrap64 ((wrap64 (Int.tdiv t207 59)) * 5)))), .int .i64 x210001_6, .int .i64 x210002_6] 30 (0, 0)) (tk_ BK209.out) hb); have n4_ := Aside0.mk (IsS126.below (by repeat (first | (with_reducible first | exact HI0.out | apply IsS126.alloc | apply IsS126.drewN | apply IsS126.drew | apply IsS126.set_1 | refine IsS126.far ?_ NB0_199.out _ | refine IsS126.far ?_ NB0_200.out _ | refine IsS126.far ?_ NB0_209.out _) | exact HI0.out)) hb); have n5_ := Aside0.mk (KeepBut.trans (tc_ HK.out) (KeepBut.of_below hb g none) (.inl rfl)); have n6_ := Aside0.mk (below_step (by repeat (first | (with_reducible first | exact HB.out | apply la_ | apply ln_ | apply ld_ | refine below_set ?_ (IsS126.ge HI0.out) | refine below_set ?_ GE199.out | refine below_set ?_ GE200.out | refine below_set ?_ GE209.out) | exact HB.out)) hb); clear BK199 BK200 BK209 HI0 HK HB; have HO224 := n0_; have BK199 := n1_; have BK200 := n2_; have BK209 := n3_; have HI0 := n4_; have HK := n5_; have HB := n6_; clear n0_ n1_ n2_ n3_ n4_ n5_ n6_ hb ho68) | ((with_reducible refine gate_callee (f := 101) rfl ?_); refine goesL_ (some 56) rfl rfl Tryd.func101 (by kernel_rfl) rfl #[.pointer (some ⟨g, 0, none⟩), .int .i64 2] rfl tz_ ?_; (with_reducible refine (spec_l20Rd_pick.calls kj6 g s0_0 t221 2 t225 t226 w0 _ ?side1 ?side2 A62.out).mono ?_); (case side1 => repeat (first | (with_reducible first | exact HI0.out | apply IsS126.alloc | apply IsS126.drewN | apply IsS126.drew | apply IsS126.set_1 | refine IsS126.far ?_ NB0_199.out _ | refine IsS126.far ?_ NB0_200.out _ | refine IsS126.far ?_ NB0_209.out _) | exact HI0.out)); (case side2 => repeat (first | (with_reducible first | exact HB.out | apply la_ | apply ln_ | apply ld_ | refine below_set ?_ (IsS126.ge HI0.out) | refine below_set ?_ GE199.out | refine below_set ?_ GE200.out | refine below_set ?_ GE209.out) | exact HB.out)); rintro e w69 ⟨rfl, hi, hb, hk⟩; refine ⟨_, rfl, ?_⟩; have n0_ := Aside0.mk (KeepBut.blk hk (g' := gb199) (o := .cells #[.slice A1_0 l1_0.length c1_0, .int .i64 a1_1, .slice A1_2 l1_2.length c1_2] 25 (0, 0)) (tk_ BK199.out) NB199_0.out (by simp)); have n1_ := Aside0.mk (KeepBut.blk hk (g' := gb200) (o := .cells #[.int .i64 0, .int .i64 0, .int .i64 0] 30 (0, 0)) (tk_ BK200.out) NB200_0.out (by simp)); have n2_ := Aside0.mk (KeepBut.blk hk (g' := gb209) (o := .cells #[.int .i64 (wrap64 ((rd y201 t204) + (wrap64 ((wrap64 (Int.tdiv t207 59)) * 5)))), .int .i64 x210001_6, .int .i64 x210002_6] 30 (0, 0)) (tk_ BK209.out) NB209_0.out (by simp)); have n3_ := Aside0.mk (Kd.R_mono (Kd.R_keep (IsS126.apart (show IsS126 w0 _ g s0_0 t221 from by repeat (first | (with_reducible first | exact HI0.out | apply IsS126.alloc | apply IsS126.drewN | apply IsS126.drew | apply IsS126.set_1 | refine IsS126.far ?_ NB0_199.out _ | refine IsS126.far ?_ NB0_200.out _ | refine IsS126.far ?_ NB0_209.out _) | exact HI0.out)) (rR_ HO224.out) (by decide)) hk (fun _ h => h.2)) (fun _ h => h.1)); have n4_ := Aside0.mk (KeepBut.trans (tc_ HK.out) hk (.inl rfl)); have n5_ := Aside0.mk (hb); have n6_ := Aside0.mk (hi); clear BK199 BK200 BK209 HO224 HK HB HI0; have BK199 := n0_; have BK200 := n1_; have BK209 := n2_; have HO224 := n3_; have HK := n4_; have HB := n5_; have HI0 := n6_; clear n0_ n1_ n2_ n3_ n4_ n5_ n6_; (try clear hb); (try clear hb2); (try clear hk); (try clear hi); obtain ⟨Ao70, co70, eo70⟩ := Kd.R_slice HO224.out; subst eo70; have p227 : 0 ≤ (t225 : Int) := od_; have q227 : t225 < (y222.length : Int) := od_; obtain ⟨ad227, e227, hx227_0⟩ := Kd.at_int (Kd.R_reads' HO224.out).2.2 t225 p227 q227; cases e227; replace p227 := eq_true p227; replace q227 := eq_true q227; have hnb71 := NB209_199.out; have hnc71 := NB199_209.out; have hnb72 := NB209_200.out; have hnc72 := NB200_209.out; have hnb73 := NB209_0.out; have hnc73 := NB0_209.out; have hcz74_0 : w69.cell? ⟨gb209, 0, none⟩ = some (.int .i64 (wrap64 ((rd y201 t204) + (wrap64 ((wrap64 (Int.tdiv t207 59)) * 5))))) := (blk_cell BK209.out 0).trans rfl; have hcz74_1 : w69.cell? ⟨gb209, 1, none⟩ = some (.int .i64 x210001_6) := (blk_cell BK209.out 1).trans rfl; have hcz74_2 : w69.cell? ⟨gb209, 2, none⟩ = some (.int .i64 x210002_6) := (blk_cell BK209.out 2).trans rfl; have hfz74_0 := blk_frozen BK209.out 0; have hfz74_1 := blk_frozen BK209.out 1; have hfz74_2 := blk_frozen BK209.out 2; have hnb75 := NB200_199.out; have hnc75 := NB199_200.out; have hnb76 := NB200_0.out; have hnc76 := NB0_200.out; have hcz77_0 : w69.cell? ⟨gb200, 0, none⟩ = some (.int .i64 0) := (blk_cell BK200.out 0).trans rfl; have hcz77_1 : w69.cell? ⟨gb200, 1, none⟩ = some (.int .i64 0) := (blk_cell BK200.out 1).trans rfl; have hcz77_2 : w69.cell? ⟨gb200, 2, none⟩ = some (.int .i64 0) := (blk_cell BK200.out 2).trans rfl; have hfz77_0 := blk_frozen BK200.out 0; have hfz77_1 := blk_frozen BK200.out 1; have hfz77_2 := blk_frozen BK200.out 2))
         refine bodyPost_ret (results_cell_row rfl _ _ gb200 30 #[.int .i64 (wrap64 ((rd y201 t204) + (wrap64 ((wrap64 (Int.tdiv t207 59)) * 5)))), .int .i64 (rd y222 t225), .int .i64 x210002_6] (0, 0) _ rfl (by refine bq_ ?_; refine blk_put (cs := #[.int .i64 (wrap64 ((rd y201 t204) + (wrap64 ((wrap64 (Int.tdiv t207 59)) * 5)))), .int .i64 (rd y222 t225), .int .i64 0]) ?_ 2 _ rfl; refine bq_ ?_; refine blk_put (cs := #[.int .i64 (wrap64 ((rd y201 t204) + (wrap64 ((wrap64 (Int.tdiv t207 59)) * 5)))), .int .i64 0, .int .i64 0]) ?_ 1 _ rfl; refine bq_ ?_; refine blk_put (cs := #[.int .i64 0, .int .i64 0, .int .i64 0]) ?_ 0 _ rfl; exact tk_ BK200.out) Tryd.underlying30 rfl (by kernel_rfl)) rfl ?_
         exact ⟨by first | rfl | (simp [errW_none, errW_some, Option.map_none, Option.map_some] <;> rfl) | (simp [*, errW_none, errW_some] <;> rfl), by repeat (first | (with_reducible first | exact HI0.out | apply IsS126.alloc | apply IsS126.drewN | apply IsS126.drew | apply IsS126.set_1 | refine IsS126.far ?_ NB0_199.out _ | refine IsS126.far ?_ NB0_200.out _ | refine IsS126.far ?_ NB0_209.out _) | exact HI0.out), by repeat (first | (with_reducible first | exact HB.out | apply la_ | apply ln_ | apply ld_ | refine below_set ?_ (IsS126.ge HI0.out) | refine below_set ?_ GE199.out | refine below_set ?_ GE200.out | refine below_set ?_ GE209.out) | exact HB.out), (tc_ HK.out)⟩
        ·
         rw [if_neg c64] at H
         exact absurd H (by simp)
       ·
        rw [if_neg c63] at H
        exact absurd H (by simp)
      ·
       rw [if_neg c61] at H
       have c61b0 : (t220 == 0) = false := beq_eq_false_iff_ne.mpr c61
       have c61b1 : (t220 != 0) = true := bne_iff_ne.mpr c61
       simp only [Option.some.injEq, Prod.mk.injEq] at H
       obtain ⟨rfl, rfl, rfl, rfl⟩ := H
       go_wp2_with (first | ((with_reducible refine gate_callee (f := 80) rfl ?_); refine goesL_ (some 48) rfl rfl Tryd.func80 (by kernel_rfl) rfl #[.pointer (some ⟨g, 0, none⟩), .int .i64 40] rfl tz_ ?_; (with_reducible refine (spec_l20Rd_odd.calls kj6 g s0_0 x1001_6 40 true t219 w0 _ ?side1 ?side2 A58.out).mono ?_); (case side1 => repeat (first | (with_reducible first | exact HI0.out | apply IsS126.alloc | apply IsS126.drewN | apply IsS126.drew | apply IsS126.set_1 | refine IsS126.far ?_ NB0_199.out _ | refine IsS126.far ?_ NB0_200.out _ | refine IsS126.far ?_ NB0_209.out _) | exact HI0.out)); (case side2 => repeat (first | (with_reducible first | exact HB.out | apply la_ | apply ln_ | apply ld_ | refine below_set ?_ (IsS126.ge HI0.out) | refine below_set ?_ GE199.out | refine below_set ?_ GE200.out | refine below_set ?_ GE209.out) | exact HB.out)); rintro e w78 ⟨rfl, hi, hb, hk⟩; refine ⟨_, rfl, ?_⟩; have n0_ := Aside0.mk (KeepBut.blk hk (g' := gb199) (o := .cells #[.slice A1_0 l1_0.length c1_0, .int .i64 a1_1, .slice A1_2 l1_2.length c1_2] 25 (0, 0)) (tk_ BK199.out) NB199_0.out (by simp)); have n1_ := Aside0.mk (KeepBut.blk hk (g' := gb200) (o := .cells #[.int .i64 0, .int .i64 0, .int .i64 0] 30 (0, 0)) (tk_ BK200.out) NB200_0.out (by simp)); have n2_ := Aside0.mk (KeepBut.blk hk (g' := gb209) (o := .cells #[.int .i64 (wrap64 ((rd y201 t204) + (wrap64 ((wrap64 (Int.tdiv t207 59)) * 5)))), .int .i64 x210001_6, .int .i64 x210002_6] 30 (0, 0)) (tk_ BK209.out) NB209_0.out (by simp)); have n3_ := Aside0.mk (KeepBut.trans (tc_ HK.out) hk (.inl rfl)); have n4_ := Aside0.mk (hb); have n5_ := Aside0.mk (hi); clear BK199 BK200 BK209 HK HB HI0; have BK199 := n0_; have BK200 := n1_; have BK209 := n2_; have HK := n3_; have HB := n4_; have HI0 := n5_; clear n0_ n1_ n2_ n3_ n4_ n5_; (try clear hb); (try clear hb2); (try clear hk); (try clear hi)) | ((with_reducible refine gate_callee (f := 101) rfl ?_); refine goesL_ (some 50) rfl rfl Tryd.func101 (by kernel_rfl) rfl #[.pointer (some ⟨g, 0, none⟩), .int .i64 2] rfl tz_ ?_; (with_reducible refine (spec_l20Rd_pick.calls kj6 g s0_0 t219 2 t220 t221 w0 _ ?side1 ?side2 A60.out).mono ?_); (case side1 => repeat (first | (with_reducible first | exact HI0.out | apply IsS126.alloc | apply IsS126.drewN | apply IsS126.drew | apply IsS126.set_1 | refine IsS126.far ?_ NB0_199.out _ | refine IsS126.far ?_ NB0_200.out _ | refine IsS126.far ?_ NB0_209.out _) | exact HI0.out)); (case side2 => repeat (first | (with_reducible first | exact HB.out | apply la_ | apply ln_ | apply ld_ | refine below_set ?_ (IsS126.ge HI0.out) | refine below_set ?_ GE199.out | refine below_set ?_ GE200.out | refine below_set ?_ GE209.out) | exact HB.out)); rintro e w79 ⟨rfl, hi, hb, hk⟩; refine ⟨_, rfl, ?_⟩; have n0_ := Aside0.mk (KeepBut.blk hk (g' := gb199) (o := .cells #[.slice A1_0 l1_0.length c1_0, .int .i64 a1_1, .slice A1_2 l1_2.length c1_2] 25 (0, 0)) (tk_ BK199.out) NB199_0.out (by simp)); have n1_ := Aside0.mk (KeepBut.blk hk (g' := gb200) (o := .cells #[.int .i64 0, .int .i64 0, .int .i64 0] 30 (0, 0)) (tk_ BK200.out) NB200_0.out (by simp)); have n2_ := Aside0.mk (KeepBut.blk hk (g' := gb209) (o := .cells #[.int .i64 (wrap64 ((rd y201 t204) + (wrap64 ((wrap64 (Int.tdiv t207 59)) * 5)))), .int .i64 x210001_6, .int .i64 x210002_6] 30 (0, 0)) (tk_ BK209.out) NB209_0.out (by simp)); have n3_ := Aside0.mk (KeepBut.trans (tc_ HK.out) hk (.inl rfl)); have n4_ := Aside0.mk (hb); have n5_ := Aside0.mk (hi); clear BK199 BK200 BK209 HK HB HI0; have BK199 := n0_; have BK200 := n1_; have BK209 := n2_; have HK := n3_; have HB := n4_; have HI0 := n5_; clear n0_ n1_ n2_ n3_ n4_ n5_; (try clear hb); (try clear hb2); (try clear hk); (try clear hi); have hnb80 := NB209_199.out; have hnc80 := NB199_209.out; have hnb81 := NB209_200.out; have hnc81 := NB200_209.out; have hnb82 := NB209_0.out; have hnc82 := NB0_209.out; have hcz83_0 : w79.cell? ⟨gb209, 0, none⟩ = some (.int .i64 (wrap64 ((rd y201 t204) + (wrap64 ((wrap64 (Int.tdiv t207 59)) * 5))))) := (blk_cell BK209.out 0).trans rfl; have hcz83_1 : w79.cell? ⟨gb209, 1, none⟩ = some (.int .i64 x210001_6) := (blk_cell BK209.out 1).trans rfl; have hcz83_2 : w79.cell? ⟨gb209, 2, none⟩ = some (.int .i64 x210002_6) := (blk_cell BK209.out 2).trans rfl; have hfz83_0 := blk_frozen BK209.out 0; have hfz83_1 := blk_frozen BK209.out 1; have hfz83_2 := blk_frozen BK209.out 2; have hnb84 := NB200_199.out; have hnc84 := NB199_200.out; have hnb85 := NB200_0.out; have hnc85 := NB0_200.out; have hcz86_0 : w79.cell? ⟨gb200, 0, none⟩ = some (.int .i64 0) := (blk_cell BK200.out 0).trans rfl; have hcz86_1 : w79.cell? ⟨gb200, 1, none⟩ = some (.int .i64 0) := (blk_cell BK200.out 1).trans rfl; have hcz86_2 : w79.cell? ⟨gb200, 2, none⟩ = some (.int .i64 0) := (blk_cell BK200.out 2).trans rfl; have hfz86_0 := blk_frozen BK200.out 0; have hfz86_1 := blk_frozen BK200.out 1; have hfz86_2 := blk_frozen BK200.out 2))
       refine bodyPost_ret (results_cell_row rfl _ _ gb200 30 #[.int .i64 (wrap64 ((rd y201 t204) + (wrap64 ((wrap64 (Int.tdiv t207 59)) * 5)))), .int .i64 x210001_6, .int .i64 99] (0, 0) _ rfl (by refine bq_ ?_; refine blk_put (cs := #[.int .i64 (wrap64 ((rd y201 t204) + (wrap64 ((wrap64 (Int.tdiv t207 59)) * 5)))), .int .i64 x210001_6, .int .i64 0]) ?_ 2 _ rfl; refine bq_ ?_; refine blk_put (cs := #[.int .i64 (wrap64 ((rd y201 t204) + (wrap64 ((wrap64 (Int.tdiv t207 59)) * 5)))), .int .i64 0, .int .i64 0]) ?_ 1 _ rfl; refine bq_ ?_; refine blk_put (cs := #[.int .i64 0, .int .i64 0, .int .i64 0]) ?_ 0 _ rfl; exact tk_ BK200.out) Tryd.underlying30 rfl (by kernel_rfl)) rfl ?_
       exact ⟨by first | rfl | (simp [errW_none, errW_some, Option.map_none, Option.map_some] <;> rfl) | (simp [*, errW_none, errW_some] <;> rfl), by repeat (first | (with_reducible first | exact HI0.out | apply IsS126.alloc | apply IsS126.drewN | apply IsS126.drew | apply IsS126.set_1 | refine IsS126.far ?_ NB0_199.out _ | refine IsS126.far ?_ NB0_200.out _ | refine IsS126.far ?_ NB0_209.out _) | exact HI0.out), by repeat (first | (with_reducible first | exact HB.out | apply la_ | apply ln_ | apply ld_ | refine below_set ?_ (IsS126.ge HI0.out) | refine below_set ?_ GE199.out | refine below_set ?_ GE200.out | refine below_set ?_ GE209.out) | exact HB.out), (tc_ HK.out)⟩
     ·
      replace c59 := Bool.eq_false_iff.mpr c59
      subst c59
      have H1 : (some ((wrap64 ((rd y201 t204) + (wrap64 ((wrap64 (Int.tdiv t207 59)) * 5)))), x210001_6, x210002_6, t219)) = some (r1, r2, r3, r4) := by rw [if_neg (show ¬ (false = true) by decide)] at H; exact H
      clear H
      have H := H1
      clear H1
      simp only [Option.some.injEq, Prod.mk.injEq] at H
      obtain ⟨rfl, rfl, rfl, rfl⟩ := H
      go_wp2_with (first | ((with_reducible refine gate_callee (f := 80) rfl ?_); refine goesL_ (some 48) rfl rfl Tryd.func80 (by kernel_rfl) rfl #[.pointer (some ⟨g, 0, none⟩), .int .i64 40] rfl tz_ ?_; (with_reducible refine (spec_l20Rd_odd.calls kj6 g s0_0 x1001_6 40 false t219 w0 _ ?side1 ?side2 A58.out).mono ?_); (case side1 => repeat (first | (with_reducible first | exact HI0.out | apply IsS126.alloc | apply IsS126.drewN | apply IsS126.drew | apply IsS126.set_1 | refine IsS126.far ?_ NB0_199.out _ | refine IsS126.far ?_ NB0_200.out _ | refine IsS126.far ?_ NB0_209.out _) | exact HI0.out)); (case side2 => repeat (first | (with_reducible first | exact HB.out | apply la_ | apply ln_ | apply ld_ | refine below_set ?_ (IsS126.ge HI0.out) | refine below_set ?_ GE199.out | refine below_set ?_ GE200.out | refine below_set ?_ GE209.out) | exact HB.out)); rintro e w87 ⟨rfl, hi, hb, hk⟩; refine ⟨_, rfl, ?_⟩; have n0_ := Aside0.mk (KeepBut.blk hk (g' := gb199) (o := .cells #[.slice A1_0 l1_0.length c1_0, .int .i64 a1_1, .slice A1_2 l1_2.length c1_2] 25 (0, 0)) (tk_ BK199.out) NB199_0.out (by simp)); have n1_ := Aside0.mk (KeepBut.blk hk (g' := gb200) (o := .cells #[.int .i64 0, .int .i64 0, .int .i64 0] 30 (0, 0)) (tk_ BK200.out) NB200_0.out (by simp)); have n2_ := Aside0.mk (KeepBut.blk hk (g' := gb209) (o := .cells #[.int .i64 (wrap64 ((rd y201 t204) + (wrap64 ((wrap64 (Int.tdiv t207 59)) * 5)))), .int .i64 x210001_6, .int .i64 x210002_6] 30 (0, 0)) (tk_ BK209.out) NB209_0.out (by simp)); have n3_ := Aside0.mk (KeepBut.trans (tc_ HK.out) hk (.inl rfl)); have n4_ := Aside0.mk (hb); have n5_ := Aside0.mk (hi); clear BK199 BK200 BK209 HK HB HI0; have BK199 := n0_; have BK200 := n1_; have BK209 := n2_; have HK := n3_; have HB := n4_; have HI0 := n5_; clear n0_ n1_ n2_ n3_ n4_ n5_; (try clear hb); (try clear hb2); (try clear hk); (try clear hi); have hnb88 := NB209_199.out; have hnc88 := NB199_209.out; have hnb89 := NB209_200.out; have hnc89 := NB200_209.out; have hnb90 := NB209_0.out; have hnc90 := NB0_209.out; have hcz91_0 : w87.cell? ⟨gb209, 0, none⟩ = some (.int .i64 (wrap64 ((rd y201 t204) + (wrap64 ((wrap64 (Int.tdiv t207 59)) * 5))))) := (blk_cell BK209.out 0).trans rfl; have hcz91_1 : w87.cell? ⟨gb209, 1, none⟩ = some (.int .i64 x210001_6) := (blk_cell BK209.out 1).trans rfl; have hcz91_2 : w87.cell? ⟨gb209, 2, none⟩ = some (.int .i64 x210002_6) := (blk_cell BK209.out 2).trans rfl; have hfz91_0 := blk_frozen BK209.out 0; have hfz91_1 := blk_frozen BK209.out 1; have hfz91_2 := blk_frozen BK209.out 2; have hnb92 := NB200_199.out; have hnc92 := NB199_200.out; have hnb93 := NB200_0.out; have hnc93 := NB0_200.out; have hcz94_0 : w87.cell? ⟨gb200, 0, none⟩ = some (.int .i64 0) := (blk_cell BK200.out 0).trans rfl; have hcz94_1 : w87.cell? ⟨gb200, 1, none⟩ = some (.int .i64 0) := (blk_cell BK200.out 1).trans rfl; have hcz94_2 : w87.cell? ⟨gb200, 2, none⟩ = some (.int .i64 0) := (blk_cell BK200.out 2).trans rfl; have hfz94_0 := blk_frozen BK200.out 0; have hfz94_1 := blk_frozen BK200.out 1; have hfz94_2 := blk_frozen BK200.out 2))
      refine bodyPost_ret (results_cell_row rfl _ _ gb200 30 #[.int .i64 (wrap64 ((rd y201 t204) + (wrap64 ((wrap64 (Int.tdiv t207 59)) * 5)))), .int .i64 x210001_6, .int .i64 x210002_6] (0, 0) _ rfl (by refine bq_ ?_; refine blk_put (cs := #[.int .i64 (wrap64 ((rd y201 t204) + (wrap64 ((wrap64 (Int.tdiv t207 59)) * 5)))), .int .i64 x210001_6, .int .i64 0]) ?_ 2 _ rfl; refine bq_ ?_; refine blk_put (cs := #[.int .i64 (wrap64 ((rd y201 t204) + (wrap64 ((wrap64 (Int.tdiv t207 59)) * 5)))), .int .i64 0, .int .i64 0]) ?_ 1 _ rfl; refine bq_ ?_; refine blk_put (cs := #[.int .i64 0, .int .i64 0, .int .i64 0]) ?_ 0 _ rfl; exact tk_ BK200.out) Tryd.underlying30 rfl (by kernel_rfl)) rfl ?_
      exact ⟨by first | rfl | (simp [errW_none, errW_some, Option.map_none, Option.map_some] <;> rfl) | (simp [*, errW_none, errW_some] <;> rfl), by repeat (first | (with_reducible first | exact HI0.out | apply IsS126.alloc | apply IsS126.drewN | apply IsS126.drew | apply IsS126.set_1 | refine IsS126.far ?_ NB0_199.out _ | refine IsS126.far ?_ NB0_200.out _ | refine IsS126.far ?_ NB0_209.out _) | exact HI0.out), by repeat (first | (with_reducible first | exact HB.out | apply la_ | apply ln_ | apply ld_ | refine below_set ?_ (IsS126.ge HI0.out) | refine below_set ?_ GE199.out | refine below_set ?_ GE200.out | refine below_set ?_ GE209.out) | exact HB.out), (tc_ HK.out)⟩
  ·
   rw [if_neg c5] at H
   exact absurd H (by simp)
 ·
  rw [if_neg c4] at H
  exact absurd H (by simp)

end Go.Proofs.YtlhiienanbpdlaaDoor.MFnReadDeed
