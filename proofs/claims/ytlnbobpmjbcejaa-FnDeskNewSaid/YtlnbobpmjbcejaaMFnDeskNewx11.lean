/- For the law FnDeskNew: walks of the functions that it reaches: each call returns what the plain function beside it tells. The conditions stand in each statement. -/
import Derived.Test.YtlnbobpmjbcejaaMFnDeskNewx0
import Derived.Test.YtlnbobpmjbcejaaMFnDeskNewx2
import Derived.Test.YtlnbobpmjbcejaaMFnDeskNewx7
import Derived.Test.YtlnbobpmjbcejaaMFnDeskNewx8
import Derived.Test.YtlnbobpmjbcejaaMFnDeskNewx9
import Derived.Test.YtlnbobpmjbcejaaMFnDeskNewx10
namespace Go.Proofs.Ytlnbobpmjbcejaa.MFnDeskNew
open Go.RowKit Go.Proofs.YtlnbobpmjbcejaaW.PrintWords Go.Proofs.YtlnbobpmjbcejaaW.PrintLast Go.Proofs.YtlnbobpmjbcejaaW.PrintMore
attribute [local go_sem] max2_int min2_int max_two min_two max_three min_three max_four min_four   -- for this text's walks alone
set_option linter.unusedVariables false
set_option linter.unusedSimpArgs false

/-! ### impl_DeskOk: function 21 -/
def impl_DeskOk.l0 : Nat → List (S27) → Int → Int → List Int → Int → List Int → List (S27) → Option (Bool)
 | 0, _, _, _, _, _, _, _ => none
 | k + 1, x6, x7, x8, x353000, x353001, x353002, x353003 => if x8 < x7 then (if 0 ≤ x8 then (if x8 < (x6.length : Int) then ((impl_PlaceOk.f k ((rd_T27 x6 x8).f0) ((rd_T27 x6 x8).f1) ((rd_T27 x6 x8).f2)).bind fun t355 => (if t355 = true then (impl_DeskOk.l0 k x6 x7 (wrap64 (x8 + 1)) x353000 x353001 x353002 x353003) else (some false))) else (none)) else (none)) else ((impl_PlaceOk.f k x353000 x353001 x353002).bind fun t356 => (if t356 = true then (some (decide ((x353003.length : Int) ≤ 8))) else (some false)))
def impl_DeskOk.f (k : Nat) (l0_0 : List Int) (a0_1 : Int) (l0_2 : List Int) (l0_3 : List (S27)) : Option (Bool) := impl_DeskOk.l0 k l0_3 (l0_3.length : Int) 0 l0_0 a0_1 l0_2 l0_3
theorem impl_DeskOk.mono_l : ∀ k, (∀ y0 y1 y2 y3 y4 y5 y6, LeO (impl_DeskOk.l0 k y0 y1 y2 y3 y4 y5 y6) (impl_DeskOk.l0 (k + 1) y0 y1 y2 y3 y4 y5 y6))
 | 0 => fun _ _ _ _ _ _ _ r h => by simp [impl_DeskOk.l0] at h
 | k + 1 => by
  have ih0 := impl_DeskOk.mono_l k
  ·
   intro y0 y1 y2 y3 y4 y5 y6
   unfold impl_DeskOk.l0
   repeat' first
   | (with_reducible exact ih0 _ _ _ _ _ _ _)
   | (with_reducible exact impl_PlaceOk.mono _ _ _ _)
   | (with_reducible exact LeO.refl _)
   | (with_reducible exact LeO.none _)
   | (with_reducible refine LeO.ite ?_ ?_)
   | (with_reducible refine LeO.bind ?_ (fun _ => ?_))
   | exact ih0 _ _ _ _ _ _ _
   | exact impl_PlaceOk.mono _ _ _ _
   | exact LeO.none _
   | refine LeO.ite ?_ ?_
   | refine LeO.bind ?_ (fun _ => ?_)
theorem impl_DeskOk.mono : ∀ a0 a1 a2 a3 k, LeO (impl_DeskOk.f k a0 a1 a2 a3) (impl_DeskOk.f (k + 1) a0 a1 a2 a3) := by
 intro a0 a1 a2 a3 k
 have ih0 := impl_DeskOk.mono_l k
 unfold impl_DeskOk.f
 repeat' first
   | (with_reducible exact ih0 _ _ _ _ _ _ _)
   | (with_reducible exact impl_PlaceOk.mono _ _ _ _)
   | (with_reducible exact LeO.refl _)
   | (with_reducible exact LeO.none _)
   | (with_reducible refine LeO.ite ?_ ?_)
   | (with_reducible refine LeO.bind ?_ (fun _ => ?_))
   | exact ih0 _ _ _ _ _ _ _
   | exact impl_PlaceOk.mono _ _ _ _
   | exact LeO.none _
   | refine LeO.ite ?_ ?_
   | refine LeO.bind ?_ (fun _ => ?_)
set_option maxHeartbeats 8000000 in
set_option maxRecDepth 100000 in
theorem impl_DeskOk.calls (k : Nat) (A0_0 : Option Addr) (c0_0 : Nat) (l0_0 : List Int) (a0_1 : Int) (A0_2 : Option Addr) (c0_2 : Nat) (l0_2 : List Int) (A0_3 : Option Addr) (c0_3 : Nat) (l0_3 : List (S27)) (r : Bool) (w : World) (hr0_0 : Kd.C (Kd.int .i64) w A0_0 l0_0.length l0_0) (hc0_0 : l0_0.length ≤ c0_0) (hr0_2 : Kd.C (Kd.int .i64) w A0_2 l0_2.length l0_2) (hc0_2 : l0_2.length ≤ c0_2) (hr0_3 : Kd.C k27 w A0_3 l0_3.length l0_3) (hc0_3 : l0_3.length ≤ c0_3) (h : impl_DeskOk.f k l0_0 a0_1 l0_2 l0_3 = some r) :
  Calls Try.prog 21 #[.agg #[.slice A0_0 l0_0.length c0_0, .int .i64 a0_1, .slice A0_2 l0_2.length c0_2, .slice A0_3 l0_3.length c0_3]] w fun e w' => e = .returned (.bool r) ∧ Below w.heap.size w w' := by
 have hu37 := Try.underlying37
 have hu27 := Try.underlying27
 have HR0_0 := Aside0.mk hr0_0
 have HC0_0 := Aside0.mk hc0_0
 clear hr0_0 hc0_0
 have HR0_2 := Aside0.mk hr0_2
 have HC0_2 := Aside0.mk hc0_2
 clear hr0_2 hc0_2
 have HR0_3 := Aside0.mk hr0_3
 have HC0_3 := Aside0.mk hc0_3
 clear hr0_3 hc0_3
 have HB := Aside0.mk (Below.refl w.heap.size w)
 have H : (impl_DeskOk.l0 k l0_3 (l0_3.length : Int) 0 l0_0 a0_1 l0_2 l0_3) = some r := h
 clear h
 have H' := Aside0.mk H
 clear H
 go_enter Try.func21, Try.ntmps21
 go_wp2_with (first | ((with_reducible refine gate_dst (N := 1) rfl ?_); (try (refine gate_guard (by rfl) ?_; dsimp only)); refine box_event ?hg (N := 1) ?hd (cs := #[.slice A0_0 l0_0.length c0_0, .int .i64 a0_1, .slice A0_2 l0_2.length c0_2, .slice A0_3 l0_3.length c0_3]) (t := 37) ?hr ?_; (case hd => rfl); (case hg => rfl); (case hr => first | (go_simp; done) | (go_simp; rfl)); intro gb352 hg w2 hbox hb; have n0_ := Aside0.mk (below_step (tb_ HB.out) hb); have n1_ := Aside0.mk (hbox); have n2_ := Aside0.mk ((by rw [hg]; exact (below_size (tb_ HB.out)) : w.heap.size ≤ gb352)); have n3_ := Aside0.mk ((by rw [hg]; exact (below_size (tb_ HB.out)) : w.heap.size ≤ gb352)); clear HB; have HB := n0_; have BK352 := n1_; have GW352 := n2_; have GE352 := n3_; clear n0_ n1_ n2_ n3_ hb hbox hg; have hcz3_0 : w2.cell? ⟨gb352, 0, none⟩ = some (.slice A0_0 l0_0.length c0_0) := (blk_cell BK352.out 0).trans rfl; have hcz3_1 : w2.cell? ⟨gb352, 1, none⟩ = some (.int .i64 a0_1) := (blk_cell BK352.out 1).trans rfl; have hcz3_2 : w2.cell? ⟨gb352, 2, none⟩ = some (.slice A0_2 l0_2.length c0_2) := (blk_cell BK352.out 2).trans rfl; have hcz3_3 : w2.cell? ⟨gb352, 3, none⟩ = some (.slice A0_3 l0_3.length c0_3) := (blk_cell BK352.out 3).trans rfl; have hfz3_0 := blk_frozen BK352.out 0; have hfz3_1 := blk_frozen BK352.out 1; have hfz3_2 := blk_frozen BK352.out 2; have hfz3_3 := blk_frozen BK352.out 3))
 go_loopg [8] k (fun kq v8 w' => ∃ (x8_1 : Int), v8 = .int .i64 x8_1 ∧ Aside0 (impl_DeskOk.l0 kq l0_3 (l0_3.length : Int) x8_1 l0_0 a0_1 l0_2 l0_3 = some r) ∧ Aside0 (kq ≤ k) ∧ Aside0 (w'.heap[gb352]? = some (.cells #[(.slice A0_0 l0_0.length c0_0), .int .i64 a0_1, (.slice A0_2 l0_2.length c0_2), (.slice A0_3 l0_3.length c0_3)] 37 (0, 0))) ∧ Aside0 (Below w.heap.size w w'))
 case atStart => exact ⟨(0), tx_, H', ⟨Nat.le_refl _⟩, ⟨tk_ BK352.out⟩, ⟨(tb_ HB.out)⟩⟩
 case round =>
  clear H'
  try clear c2
  try clear p2
  try clear hcz3_0
  try clear hcz3_1
  try clear hcz3_2
  try clear hcz3_3
  try clear hfz3_0
  try clear hfz3_1
  try clear hfz3_2
  try clear hfz3_3
  obtain ⟨x8_1, rfl, HA, HK1, BK352, HB⟩ := hrel
  cases gk with
  | zero => exact absurd HA.out (by simp [impl_DeskOk.l0])
  | succ k1 =>
   have H := HA.out
   clear HA
   simp only [impl_DeskOk.l0] at H
   by_cases c4 : x8_1 < (l0_3.length : Int)
   ·
    rw [if_pos c4] at H
    have c4b0 : decide (x8_1 < (l0_3.length : Int)) = true := decide_eq_true c4
    clear c4
    by_cases c5 : 0 ≤ x8_1
    ·
     rw [if_pos c5] at H
     have c5b0 : decide (0 ≤ x8_1) = true := decide_eq_true c5
     clear c5
     by_cases c6 : x8_1 < (l0_3.length : Int)
     ·
      rw [if_pos c6] at H
      have c6b0 : decide (x8_1 < (l0_3.length : Int)) = true := decide_eq_true c6
      clear c6
      replace H := Option.bind_eq_some_iff.mp H
      obtain ⟨t355, A70, H⟩ := H
      replace H : (if t355 = true then (impl_DeskOk.l0 k1 l0_3 (l0_3.length : Int) (wrap64 (x8_1 + 1)) l0_0 a0_1 l0_2 l0_3) else (some false)) = some r := H
      have A7 := Aside0.mk A70
      clear A70
      by_cases c8 : t355 = true
      ·
       subst c8
       have H1 : (impl_DeskOk.l0 k1 l0_3 (l0_3.length : Int) (wrap64 (x8_1 + 1)) l0_0 a0_1 l0_2 l0_3) = some r := by rw [if_pos rfl] at H; exact H
       clear H
       have H := H1
       clear H1
       have H' := Aside0.mk H
       clear H
       have p353 : 0 ≤ (x8_1 : Int) := od_
       have q353 : x8_1 < (l0_3.length : Int) := od_
       obtain ⟨ad353, A353_0, c353_0, A353_2, c353_2, e353, hx353_0, hx353_1, hx353_2, hl353_0, hi353_0, hl353_2, hi353_2⟩ := at_T27 HR0_3.out x8_1 p353 q353
       cases e353
       replace hx353_0 := (HB.out.cell (World.block_lt_of_cell? w _ hx353_0)).trans hx353_0
       replace hx353_1 := (HB.out.cell (World.block_lt_of_cell? w _ hx353_1)).trans hx353_1
       replace hx353_2 := (HB.out.cell (World.block_lt_of_cell? w _ hx353_2)).trans hx353_2
       have HR353_0 := Aside0.mk hi353_0
       have HC353_0 := Aside0.mk hl353_0
       clear hi353_0 hl353_0
       have HR353_2 := Aside0.mk hi353_2
       have HC353_2 := Aside0.mk hl353_2
       clear hi353_2 hl353_2
       replace p353 := eq_true p353
       replace q353 := eq_true q353
       go_wp2_with (first | ((with_reducible refine gate_dst (N := 4) rfl ?_); (try (refine gate_guard (by rfl) ?_; dsimp only)); refine box_event ?hg (N := 4) ?hd (cs := #[.slice none 0 0, .int .i64 0, .slice none 0 0]) (t := 27) ?hr ?_; (case hd => rfl); (case hg => rfl); (case hr => first | (go_simp; done) | (go_simp; rfl)); intro gb354 hg w9 hbox hb; have n0_ := Aside0.mk (blk_below (g := gb352) (o := .cells #[.slice A0_0 l0_0.length c0_0, .int .i64 a0_1, .slice A0_2 l0_2.length c0_2, .slice (some ad353) l0_3.length c0_3] 37 (0, 0)) (tk_ BK352.out) hb); have n1_ := Aside0.mk (below_step (tb_ HB.out) hb); have n2_ := Aside0.mk (hbox); have n3_ := Aside0.mk ((by rw [hg]; exact (below_size (tb_ HB.out)) : w.heap.size ≤ gb354)); have n4_ := Aside0.mk ((by rw [hg]; exact (below_size (tb_ HB.out)) : w.heap.size ≤ gb354)); have n5_ := Aside0.mk ((by rw [hg]; exact Nat.ne_of_lt (blk_lt (g := gb352) (o := .cells #[.slice A0_0 l0_0.length c0_0, .int .i64 a0_1, .slice A0_2 l0_2.length c0_2, .slice (some ad353) l0_3.length c0_3] 37 (0, 0)) (tk_ BK352.out)) : gb352 ≠ gb354)); have n6_ := Aside0.mk ((by rw [hg]; exact Nat.ne_of_gt (blk_lt (g := gb352) (o := .cells #[.slice A0_0 l0_0.length c0_0, .int .i64 a0_1, .slice A0_2 l0_2.length c0_2, .slice (some ad353) l0_3.length c0_3] 37 (0, 0)) (tk_ BK352.out)) : gb354 ≠ gb352)); clear BK352 HB; have BK352 := n0_; have HB := n1_; have BK354 := n2_; have GW354 := n3_; have GE354 := n4_; have NB352_354 := n5_; have NB354_352 := n6_; clear n0_ n1_ n2_ n3_ n4_ n5_ n6_ hb hbox hg; have hnb10 := NB354_352.out; have hnc10 := NB352_354.out; have hcz11_0 : w9.cell? ⟨gb354, 0, none⟩ = some (.slice none 0 0) := (blk_cell BK354.out 0).trans rfl; have hcz11_1 : w9.cell? ⟨gb354, 1, none⟩ = some (.int .i64 0) := (blk_cell BK354.out 1).trans rfl; have hcz11_2 : w9.cell? ⟨gb354, 2, none⟩ = some (.slice none 0 0) := (blk_cell BK354.out 2).trans rfl; have hfz11_0 := blk_frozen BK354.out 0; have hfz11_1 := blk_frozen BK354.out 1; have hfz11_2 := blk_frozen BK354.out 2) | ((with_reducible refine gate_callee (f := 12) rfl ?_); refine goesL_ (some 13) rfl rfl Try.func12 (by kernel_rfl) rfl #[.agg #[.slice A353_0 ((rd_T27 l0_3 x8_1).f0).length c353_0, .int .i64 ((rd_T27 l0_3 x8_1).f1), .slice A353_2 ((rd_T27 l0_3 x8_1).f2).length c353_2]] rfl tz_ ?_; (with_reducible refine (impl_PlaceOk.calls k1 _ _ ((rd_T27 l0_3 x8_1).f0) ((rd_T27 l0_3 x8_1).f1) _ _ ((rd_T27 l0_3 x8_1).f2) true _ ?side1 ?side2 ?side3 ?side4 A7.out).mono ?_); (case side1 => exact Kd.C_below HR353_0.out (tb_ HB.out)); (case side2 => exact HC353_0.out); (case side3 => exact Kd.C_below HR353_2.out (tb_ HB.out)); (case side4 => exact HC353_2.out); rintro e w12 ⟨rfl, hb⟩; refine ⟨_, rfl, ?_⟩; have n0_ := Aside0.mk (blk_below (g := gb352) (o := .cells #[.slice A0_0 l0_0.length c0_0, .int .i64 a0_1, .slice A0_2 l0_2.length c0_2, .slice (some ad353) l0_3.length c0_3] 37 (0, 0)) (tk_ BK352.out) hb); have n1_ := Aside0.mk (blk_below (g := gb354) (o := .cells #[.slice A353_0 ((rd_T27 l0_3 x8_1).f0).length c353_0, .int .i64 ((rd_T27 l0_3 x8_1).f1), .slice A353_2 ((rd_T27 l0_3 x8_1).f2).length c353_2] 27 (0, 0)) (by refine bq_ ?_; refine blk_put (cs := #[.slice A353_0 ((rd_T27 l0_3 x8_1).f0).length c353_0, .int .i64 ((rd_T27 l0_3 x8_1).f1), .slice none 0 0]) ?_ 2 _ rfl; refine bq_ ?_; refine blk_put (cs := #[.slice A353_0 ((rd_T27 l0_3 x8_1).f0).length c353_0, .int .i64 0, .slice none 0 0]) ?_ 1 _ rfl; refine bq_ ?_; refine blk_put (cs := #[.slice none 0 0, .int .i64 0, .slice none 0 0]) ?_ 0 _ rfl; exact tk_ BK354.out) hb); have n2_ := Aside0.mk (below_step (tb_ HB.out) hb); clear BK352 BK354 HB; have BK352 := n0_; have BK354 := n1_; have HB := n2_; clear n0_ n1_ n2_; (try clear hb); (try clear hb2); (try clear hk); (try clear hi)))
       go_roundg k1
       case measure => have := HK1.out; omega
       case rel => exact ⟨(wrap64 (x8_1 + 1)), tx_, H', ⟨by have := HK1.out; omega⟩, ⟨tk_ BK352.out⟩, ⟨(tb_ HB.out)⟩⟩
      ·
       replace c8 := Bool.eq_false_iff.mpr c8
       subst c8
       have H1 : (some false) = some r := by rw [if_neg (show ¬ (false = true) by decide)] at H; exact H
       clear H
       have H := H1
       clear H1
       obtain rfl := Option.some.inj H
       have p353 : 0 ≤ (x8_1 : Int) := od_
       have q353 : x8_1 < (l0_3.length : Int) := od_
       obtain ⟨ad353, A353_0, c353_0, A353_2, c353_2, e353, hx353_0, hx353_1, hx353_2, hl353_0, hi353_0, hl353_2, hi353_2⟩ := at_T27 HR0_3.out x8_1 p353 q353
       cases e353
       replace hx353_0 := (HB.out.cell (World.block_lt_of_cell? w _ hx353_0)).trans hx353_0
       replace hx353_1 := (HB.out.cell (World.block_lt_of_cell? w _ hx353_1)).trans hx353_1
       replace hx353_2 := (HB.out.cell (World.block_lt_of_cell? w _ hx353_2)).trans hx353_2
       have HR353_0 := Aside0.mk hi353_0
       have HC353_0 := Aside0.mk hl353_0
       clear hi353_0 hl353_0
       have HR353_2 := Aside0.mk hi353_2
       have HC353_2 := Aside0.mk hl353_2
       clear hi353_2 hl353_2
       replace p353 := eq_true p353
       replace q353 := eq_true q353
       go_wp2_with (first | ((with_reducible refine gate_dst (N := 4) rfl ?_); (try (refine gate_guard (by rfl) ?_; dsimp only)); refine box_event ?hg (N := 4) ?hd (cs := #[.slice none 0 0, .int .i64 0, .slice none 0 0]) (t := 27) ?hr ?_; (case hd => rfl); (case hg => rfl); (case hr => first | (go_simp; done) | (go_simp; rfl)); intro gb354 hg w13 hbox hb; have n0_ := Aside0.mk (blk_below (g := gb352) (o := .cells #[.slice A0_0 l0_0.length c0_0, .int .i64 a0_1, .slice A0_2 l0_2.length c0_2, .slice (some ad353) l0_3.length c0_3] 37 (0, 0)) (tk_ BK352.out) hb); have n1_ := Aside0.mk (below_step (tb_ HB.out) hb); have n2_ := Aside0.mk (hbox); have n3_ := Aside0.mk ((by rw [hg]; exact (below_size (tb_ HB.out)) : w.heap.size ≤ gb354)); have n4_ := Aside0.mk ((by rw [hg]; exact (below_size (tb_ HB.out)) : w.heap.size ≤ gb354)); have n5_ := Aside0.mk ((by rw [hg]; exact Nat.ne_of_lt (blk_lt (g := gb352) (o := .cells #[.slice A0_0 l0_0.length c0_0, .int .i64 a0_1, .slice A0_2 l0_2.length c0_2, .slice (some ad353) l0_3.length c0_3] 37 (0, 0)) (tk_ BK352.out)) : gb352 ≠ gb354)); have n6_ := Aside0.mk ((by rw [hg]; exact Nat.ne_of_gt (blk_lt (g := gb352) (o := .cells #[.slice A0_0 l0_0.length c0_0, .int .i64 a0_1, .slice A0_2 l0_2.length c0_2, .slice (some ad353) l0_3.length c0_3] 37 (0, 0)) (tk_ BK352.out)) : gb354 ≠ gb352)); clear BK352 HB; have BK352 := n0_; have HB := n1_; have BK354 := n2_; have GW354 := n3_; have GE354 := n4_; have NB352_354 := n5_; have NB354_352 := n6_; clear n0_ n1_ n2_ n3_ n4_ n5_ n6_ hb hbox hg; have hnb14 := NB354_352.out; have hnc14 := NB352_354.out; have hcz15_0 : w13.cell? ⟨gb354, 0, none⟩ = some (.slice none 0 0) := (blk_cell BK354.out 0).trans rfl; have hcz15_1 : w13.cell? ⟨gb354, 1, none⟩ = some (.int .i64 0) := (blk_cell BK354.out 1).trans rfl; have hcz15_2 : w13.cell? ⟨gb354, 2, none⟩ = some (.slice none 0 0) := (blk_cell BK354.out 2).trans rfl; have hfz15_0 := blk_frozen BK354.out 0; have hfz15_1 := blk_frozen BK354.out 1; have hfz15_2 := blk_frozen BK354.out 2) | ((with_reducible refine gate_callee (f := 12) rfl ?_); refine goesL_ (some 13) rfl rfl Try.func12 (by kernel_rfl) rfl #[.agg #[.slice A353_0 ((rd_T27 l0_3 x8_1).f0).length c353_0, .int .i64 ((rd_T27 l0_3 x8_1).f1), .slice A353_2 ((rd_T27 l0_3 x8_1).f2).length c353_2]] rfl tz_ ?_; (with_reducible refine (impl_PlaceOk.calls k1 _ _ ((rd_T27 l0_3 x8_1).f0) ((rd_T27 l0_3 x8_1).f1) _ _ ((rd_T27 l0_3 x8_1).f2) false _ ?side1 ?side2 ?side3 ?side4 A7.out).mono ?_); (case side1 => exact Kd.C_below HR353_0.out (tb_ HB.out)); (case side2 => exact HC353_0.out); (case side3 => exact Kd.C_below HR353_2.out (tb_ HB.out)); (case side4 => exact HC353_2.out); rintro e w16 ⟨rfl, hb⟩; refine ⟨_, rfl, ?_⟩; have n0_ := Aside0.mk (blk_below (g := gb352) (o := .cells #[.slice A0_0 l0_0.length c0_0, .int .i64 a0_1, .slice A0_2 l0_2.length c0_2, .slice (some ad353) l0_3.length c0_3] 37 (0, 0)) (tk_ BK352.out) hb); have n1_ := Aside0.mk (blk_below (g := gb354) (o := .cells #[.slice A353_0 ((rd_T27 l0_3 x8_1).f0).length c353_0, .int .i64 ((rd_T27 l0_3 x8_1).f1), .slice A353_2 ((rd_T27 l0_3 x8_1).f2).length c353_2] 27 (0, 0)) (by refine bq_ ?_; refine blk_put (cs := #[.slice A353_0 ((rd_T27 l0_3 x8_1).f0).length c353_0, .int .i64 ((rd_T27 l0_3 x8_1).f1), .slice none 0 0]) ?_ 2 _ rfl; refine bq_ ?_; refine blk_put (cs := #[.slice A353_0 ((rd_T27 l0_3 x8_1).f0).length c353_0, .int .i64 0, .slice none 0 0]) ?_ 1 _ rfl; refine bq_ ?_; refine blk_put (cs := #[.slice none 0 0, .int .i64 0, .slice none 0 0]) ?_ 0 _ rfl; exact tk_ BK354.out) hb); have n2_ := Aside0.mk (below_step (tb_ HB.out) hb); clear BK352 BK354 HB; have BK352 := n0_; have BK354 := n1_; have HB := n2_; clear n0_ n1_ n2_; (try clear hb); (try clear hb2); (try clear hk); (try clear hi)))
       go_ret
       exact ⟨by first | rfl | (simp [errW_none, errW_some] <;> rfl) | (simp [*, errW_none, errW_some] <;> rfl), (tb_ HB.out)⟩
     ·
      rw [if_neg c6] at H
      exact absurd H (by simp)
    ·
     rw [if_neg c5] at H
     exact absurd H (by simp)
   ·
    rw [if_neg c4] at H
    have c4b0 : decide (x8_1 < (l0_3.length : Int)) = false := decide_eq_false c4
    clear c4
    replace H := Option.bind_eq_some_iff.mp H
    obtain ⟨t356, A170, H⟩ := H
    replace H : (if t356 = true then (some (decide ((l0_3.length : Int) ≤ 8))) else (some false)) = some r := H
    have A17 := Aside0.mk A170
    clear A170
    by_cases c18 : t356 = true
    ·
     subst c18
     have H1 : (some (decide ((l0_3.length : Int) ≤ 8))) = some r := by rw [if_pos rfl] at H; exact H
     clear H
     have H := H1
     clear H1
     obtain rfl := Option.some.inj H
     have hcz19_0 : wr.cell? ⟨gb352, 0, none⟩ = some (.slice A0_0 l0_0.length c0_0) := (blk_cell BK352.out 0).trans rfl
     have hcz19_1 : wr.cell? ⟨gb352, 1, none⟩ = some (.int .i64 a0_1) := (blk_cell BK352.out 1).trans rfl
     have hcz19_2 : wr.cell? ⟨gb352, 2, none⟩ = some (.slice A0_2 l0_2.length c0_2) := (blk_cell BK352.out 2).trans rfl
     have hcz19_3 : wr.cell? ⟨gb352, 3, none⟩ = some (.slice A0_3 l0_3.length c0_3) := (blk_cell BK352.out 3).trans rfl
     have hfz19_0 := blk_frozen BK352.out 0
     have hfz19_1 := blk_frozen BK352.out 1
     have hfz19_2 := blk_frozen BK352.out 2
     have hfz19_3 := blk_frozen BK352.out 3
     go_wp2_with (first | ((with_reducible refine gate_callee (f := 12) rfl ?_); refine goesL_ (some 18) rfl rfl Try.func12 (by kernel_rfl) rfl #[.agg #[.slice A0_0 l0_0.length c0_0, .int .i64 a0_1, .slice A0_2 l0_2.length c0_2]] rfl tz_ ?_; (with_reducible refine (impl_PlaceOk.calls k1 _ _ l0_0 a0_1 _ _ l0_2 true _ ?side1 ?side2 ?side3 ?side4 A17.out).mono ?_); (case side1 => exact tD_); (case side2 => exact HC0_0.out); (case side3 => exact tD_); (case side4 => exact HC0_2.out); rintro e w20 ⟨rfl, hb⟩; refine ⟨_, rfl, ?_⟩; have n0_ := Aside0.mk (blk_below (g := gb352) (o := .cells #[.slice A0_0 l0_0.length c0_0, .int .i64 a0_1, .slice A0_2 l0_2.length c0_2, .slice A0_3 l0_3.length c0_3] 37 (0, 0)) (tk_ BK352.out) hb); have n1_ := Aside0.mk (below_step (tb_ HB.out) hb); clear BK352 HB; have BK352 := n0_; have HB := n1_; clear n0_ n1_; (try clear hb); (try clear hb2); (try clear hk); (try clear hi); have hcz21_0 : w20.cell? ⟨gb352, 0, none⟩ = some (.slice A0_0 l0_0.length c0_0) := (blk_cell BK352.out 0).trans rfl; have hcz21_1 : w20.cell? ⟨gb352, 1, none⟩ = some (.int .i64 a0_1) := (blk_cell BK352.out 1).trans rfl; have hcz21_2 : w20.cell? ⟨gb352, 2, none⟩ = some (.slice A0_2 l0_2.length c0_2) := (blk_cell BK352.out 2).trans rfl; have hcz21_3 : w20.cell? ⟨gb352, 3, none⟩ = some (.slice A0_3 l0_3.length c0_3) := (blk_cell BK352.out 3).trans rfl; have hfz21_0 := blk_frozen BK352.out 0; have hfz21_1 := blk_frozen BK352.out 1; have hfz21_2 := blk_frozen BK352.out 2; have hfz21_3 := blk_frozen BK352.out 3))
     go_ret
     exact ⟨by first | rfl | (simp [errW_none, errW_some] <;> rfl) | (simp [*, errW_none, errW_some] <;> rfl), (tb_ HB.out)⟩
    ·
     replace c18 := Bool.eq_false_iff.mpr c18
     subst c18
     have H1 : (some false) = some r := by rw [if_neg (show ¬ (false = true) by decide)] at H; exact H
     clear H
     have H := H1
     clear H1
     obtain rfl := Option.some.inj H
     have hcz22_0 : wr.cell? ⟨gb352, 0, none⟩ = some (.slice A0_0 l0_0.length c0_0) := (blk_cell BK352.out 0).trans rfl
     have hcz22_1 : wr.cell? ⟨gb352, 1, none⟩ = some (.int .i64 a0_1) := (blk_cell BK352.out 1).trans rfl
     have hcz22_2 : wr.cell? ⟨gb352, 2, none⟩ = some (.slice A0_2 l0_2.length c0_2) := (blk_cell BK352.out 2).trans rfl
     have hcz22_3 : wr.cell? ⟨gb352, 3, none⟩ = some (.slice A0_3 l0_3.length c0_3) := (blk_cell BK352.out 3).trans rfl
     have hfz22_0 := blk_frozen BK352.out 0
     have hfz22_1 := blk_frozen BK352.out 1
     have hfz22_2 := blk_frozen BK352.out 2
     have hfz22_3 := blk_frozen BK352.out 3
     go_wp2_with (first | ((with_reducible refine gate_callee (f := 12) rfl ?_); refine goesL_ (some 18) rfl rfl Try.func12 (by kernel_rfl) rfl #[.agg #[.slice A0_0 l0_0.length c0_0, .int .i64 a0_1, .slice A0_2 l0_2.length c0_2]] rfl tz_ ?_; (with_reducible refine (impl_PlaceOk.calls k1 _ _ l0_0 a0_1 _ _ l0_2 false _ ?side1 ?side2 ?side3 ?side4 A17.out).mono ?_); (case side1 => exact tD_); (case side2 => exact HC0_0.out); (case side3 => exact tD_); (case side4 => exact HC0_2.out); rintro e w23 ⟨rfl, hb⟩; refine ⟨_, rfl, ?_⟩; have n0_ := Aside0.mk (blk_below (g := gb352) (o := .cells #[.slice A0_0 l0_0.length c0_0, .int .i64 a0_1, .slice A0_2 l0_2.length c0_2, .slice A0_3 l0_3.length c0_3] 37 (0, 0)) (tk_ BK352.out) hb); have n1_ := Aside0.mk (below_step (tb_ HB.out) hb); clear BK352 HB; have BK352 := n0_; have HB := n1_; clear n0_ n1_; (try clear hb); (try clear hb2); (try clear hk); (try clear hi)))
     go_ret
     exact ⟨by first | rfl | (simp [errW_none, errW_some] <;> rfl) | (simp [*, errW_none, errW_some] <;> rfl), (tb_ HB.out)⟩

/-! ### laws_FnDeskNew: function 5 -/
def laws_FnDeskNew.j0 : Nat → Bool → Bool → List Int → Int → List Int → List Int → Int → List Int → List (S27) → Option (Bool)
 | 0, _, _, _, _, _, _, _, _, _ => none
 | k + 1, x5, x31, x365000, x365001, x365002, x377000, x377001, x377002, x377003 => if x31 = true then (some false) else (if x5 = true then ((impl_DeskOk.f k x377000 x377001 x377002 x377003).bind fun t390 => (if t390 = true then ((laws_samePlace.f k x377000 x377001 x377002 x365000 x365001 x365002).bind fun t391 => (if t391 = true then (some ((x377003.length : Int) == 0)) else (some false))) else (some false))) else ((laws_noDesk.f k x377000 x377001 x377002 x377003).bind fun t392 => (if t392 = true then ((impl_PlaceOk.f k x365000 x365001 x365002).bind fun t393 => (if t393 = true then (some false) else ((laws_alive.f k).bind fun t394 => (some t394)))) else (some false))))
def laws_FnDeskNew.f (k : Nat) (l0 : List Int) : Option (Bool) := if (l0.length : Int) > 1048576 then (some true) else ((spec_DrawDeskNew.f k l0).bind fun bt357 => ((impl_DeskNew.f k bt357.1 bt357.2.1 bt357.2.2).bind fun bt365 => ((spec_DeskNew.f k bt357.1 bt357.2.1 bt357.2.2).bind fun bt377 => ((laws_sameDesk.f k bt365.1 bt365.2.1 bt365.2.2.1 bt365.2.2.2.1 bt377.1 bt377.2.1 bt377.2.2.1 bt377.2.2.2.1).bind fun t389 => (if t389 = true then (laws_FnDeskNew.j0 k bt365.2.2.2.2 (bt365.2.2.2.2 != bt377.2.2.2.2) bt357.1 bt357.2.1 bt357.2.2 bt365.1 bt365.2.1 bt365.2.2.1 bt365.2.2.2.1) else (laws_FnDeskNew.j0 k bt365.2.2.2.2 true bt357.1 bt357.2.1 bt357.2.2 bt365.1 bt365.2.1 bt365.2.2.1 bt365.2.2.2.1))))))
theorem laws_FnDeskNew.mono_l : ∀ k, (∀ y0 y1 y2 y3 y4 y5 y6 y7 y8, LeO (laws_FnDeskNew.j0 k y0 y1 y2 y3 y4 y5 y6 y7 y8) (laws_FnDeskNew.j0 (k + 1) y0 y1 y2 y3 y4 y5 y6 y7 y8))
 | 0 => fun _ _ _ _ _ _ _ _ _ r h => by simp [laws_FnDeskNew.j0] at h
 | k + 1 => by
  have ih0 := laws_FnDeskNew.mono_l k
  ·
   intro y0 y1 y2 y3 y4 y5 y6 y7 y8
   unfold laws_FnDeskNew.j0
   repeat' first
   | (with_reducible exact ih0 _ _ _ _ _ _ _ _ _)
   | (with_reducible exact impl_DeskNew.mono _ _ _ _)
   | (with_reducible exact impl_DeskOk.mono _ _ _ _ _)
   | (with_reducible exact impl_PlaceOk.mono _ _ _ _)
   | (with_reducible exact laws_alive.mono _)
   | (with_reducible exact laws_noDesk.mono _ _ _ _ _)
   | (with_reducible exact laws_sameDesk.mono _ _ _ _ _ _ _ _ _)
   | (with_reducible exact laws_samePlace.mono _ _ _ _ _ _ _)
   | (with_reducible exact spec_DeskNew.mono _ _ _ _)
   | (with_reducible exact spec_DrawDeskNew.mono _ _)
   | (with_reducible exact LeO.refl _)
   | (with_reducible exact LeO.none _)
   | (with_reducible refine LeO.ite ?_ ?_)
   | (with_reducible refine LeO.bind ?_ (fun _ => ?_))
   | exact ih0 _ _ _ _ _ _ _ _ _
   | exact impl_DeskNew.mono _ _ _ _
   | exact impl_DeskOk.mono _ _ _ _ _
   | exact impl_PlaceOk.mono _ _ _ _
   | exact laws_alive.mono _
   | exact laws_noDesk.mono _ _ _ _ _
   | exact laws_sameDesk.mono _ _ _ _ _ _ _ _ _
   | exact laws_samePlace.mono _ _ _ _ _ _ _
   | exact spec_DeskNew.mono _ _ _ _
   | exact spec_DrawDeskNew.mono _ _
   | exact LeO.none _
   | refine LeO.ite ?_ ?_
   | refine LeO.bind ?_ (fun _ => ?_)
theorem laws_FnDeskNew.mono : ∀ a0 k, LeO (laws_FnDeskNew.f k a0) (laws_FnDeskNew.f (k + 1) a0) := by
 intro a0 k
 have ih0 := laws_FnDeskNew.mono_l k
 unfold laws_FnDeskNew.f
 repeat' first
   | (with_reducible exact ih0 _ _ _ _ _ _ _ _ _)
   | (with_reducible exact impl_DeskNew.mono _ _ _ _)
   | (with_reducible exact impl_DeskOk.mono _ _ _ _ _)
   | (with_reducible exact impl_PlaceOk.mono _ _ _ _)
   | (with_reducible exact laws_alive.mono _)
   | (with_reducible exact laws_noDesk.mono _ _ _ _ _)
   | (with_reducible exact laws_sameDesk.mono _ _ _ _ _ _ _ _ _)
   | (with_reducible exact laws_samePlace.mono _ _ _ _ _ _ _)
   | (with_reducible exact spec_DeskNew.mono _ _ _ _)
   | (with_reducible exact spec_DrawDeskNew.mono _ _)
   | (with_reducible exact LeO.refl _)
   | (with_reducible exact LeO.none _)
   | (with_reducible refine LeO.ite ?_ ?_)
   | (with_reducible refine LeO.bind ?_ (fun _ => ?_))
   | exact ih0 _ _ _ _ _ _ _ _ _
   | exact impl_DeskNew.mono _ _ _ _
   | exact impl_DeskOk.mono _ _ _ _ _
   | exact impl_PlaceOk.mono _ _ _ _
   | exact laws_alive.mono _
   | exact laws_noDesk.mono _ _ _ _ _
   | exact laws_sameDesk.mono _ _ _ _ _ _ _ _ _
   | exact laws_samePlace.mono _ _ _ _ _ _ _
   | exact spec_DeskNew.mono _ _ _ _
   | exact spec_DrawDeskNew.mono _ _
   | exact LeO.none _
   | refine LeO.ite ?_ ?_
   | refine LeO.bind ?_ (fun _ => ?_)
set_option maxHeartbeats 8000000 in
set_option maxRecDepth 100000 in
theorem laws_FnDeskNew.calls (k : Nat) (A0 : Option Addr) (c0 : Nat) (l0 : List Int) (r : Bool) (w : World) (hr0 : Kd.C (Kd.int .u8) w A0 l0.length l0) (hc0 : l0.length ≤ c0) (h : laws_FnDeskNew.f k l0 = some r) :
  Calls Try.prog 5 #[.slice A0 l0.length c0] w fun e w' => e = .returned (.bool r) ∧ Below w.heap.size w w' := by
 have hu27 := Try.underlying27
 have hu37 := Try.underlying37
 have HR0 := Aside0.mk hr0
 have HC0 := Aside0.mk hc0
 clear hr0 hc0
 have HB := Aside0.mk (Below.refl w.heap.size w)
 have H : (if (l0.length : Int) > 1048576 then (some true) else ((spec_DrawDeskNew.f k l0).bind fun bt357 => ((impl_DeskNew.f k bt357.1 bt357.2.1 bt357.2.2).bind fun bt365 => ((spec_DeskNew.f k bt357.1 bt357.2.1 bt357.2.2).bind fun bt377 => ((laws_sameDesk.f k bt365.1 bt365.2.1 bt365.2.2.1 bt365.2.2.2.1 bt377.1 bt377.2.1 bt377.2.2.1 bt377.2.2.2.1).bind fun t389 => (if t389 = true then (laws_FnDeskNew.j0 k bt365.2.2.2.2 (bt365.2.2.2.2 != bt377.2.2.2.2) bt357.1 bt357.2.1 bt357.2.2 bt365.1 bt365.2.1 bt365.2.2.1 bt365.2.2.2.1) else (laws_FnDeskNew.j0 k bt365.2.2.2.2 true bt357.1 bt357.2.1 bt357.2.2 bt365.1 bt365.2.1 bt365.2.2.1 bt365.2.2.2.1))))))) = some r := h
 clear h
 by_cases c2 : (l0.length : Int) > 1048576
 ·
  rw [if_pos c2] at H
  have c2b0 : decide (1048576 < (l0.length : Int)) = true := decide_eq_true c2
  have c2b1 : decide (1048576 < l0.length) = true := decide_eq_true (by omega)
  clear c2
  obtain rfl := Option.some.inj H
  go_enter Try.func5, Try.ntmps5
  go_wp2
  go_ret
  exact ⟨by first | rfl | (simp [errW_none, errW_some] <;> rfl) | (simp [*, errW_none, errW_some] <;> rfl), (tb_ HB.out)⟩
 ·
  rw [if_neg c2] at H
  have c2b0 : decide (1048576 < (l0.length : Int)) = false := decide_eq_false c2
  have c2b1 : decide (1048576 < l0.length) = false := decide_eq_false (by omega)
  clear c2
  replace H := Option.bind_eq_some_iff.mp H
  obtain ⟨⟨t357, t360, t361⟩, A30, H⟩ := H
  replace H : ((impl_DeskNew.f k t357 t360 t361).bind fun bt365 => ((spec_DeskNew.f k t357 t360 t361).bind fun bt377 => ((laws_sameDesk.f k bt365.1 bt365.2.1 bt365.2.2.1 bt365.2.2.2.1 bt377.1 bt377.2.1 bt377.2.2.1 bt377.2.2.2.1).bind fun t389 => (if t389 = true then (laws_FnDeskNew.j0 k bt365.2.2.2.2 (bt365.2.2.2.2 != bt377.2.2.2.2) t357 t360 t361 bt365.1 bt365.2.1 bt365.2.2.1 bt365.2.2.2.1) else (laws_FnDeskNew.j0 k bt365.2.2.2.2 true t357 t360 t361 bt365.1 bt365.2.1 bt365.2.2.1 bt365.2.2.2.1))))) = some r := H
  have A3 := Aside0.mk A30
  clear A30
  replace H := Option.bind_eq_some_iff.mp H
  obtain ⟨⟨t365, t368, t369, t372, t375⟩, A40, H⟩ := H
  replace H : ((spec_DeskNew.f k t357 t360 t361).bind fun bt377 => ((laws_sameDesk.f k t365 t368 t369 t372 bt377.1 bt377.2.1 bt377.2.2.1 bt377.2.2.2.1).bind fun t389 => (if t389 = true then (laws_FnDeskNew.j0 k t375 (t375 != bt377.2.2.2.2) t357 t360 t361 t365 t368 t369 t372) else (laws_FnDeskNew.j0 k t375 true t357 t360 t361 t365 t368 t369 t372)))) = some r := H
  have A4 := Aside0.mk A40
  clear A40
  replace H := Option.bind_eq_some_iff.mp H
  obtain ⟨⟨t377, t380, t381, t384, t387⟩, A50, H⟩ := H
  replace H : ((laws_sameDesk.f k t365 t368 t369 t372 t377 t380 t381 t384).bind fun t389 => (if t389 = true then (laws_FnDeskNew.j0 k t375 (t375 != t387) t357 t360 t361 t365 t368 t369 t372) else (laws_FnDeskNew.j0 k t375 true t357 t360 t361 t365 t368 t369 t372))) = some r := H
  have A5 := Aside0.mk A50
  clear A50
  have HC6 := Aside0.mk H
  clear H
  go_enter Try.func5, Try.ntmps5
  go_upto_region 6 with (first | ((with_reducible refine gate_callee (f := 16) rfl ?_); refine goesL_ (some 12) rfl rfl Try.func16 (by kernel_rfl) rfl #[.slice A0 l0.length c0] rfl tz_ ?_; (with_reducible refine (spec_DrawDeskNew.calls k _ _ l0 t357 t360 t361 _ ?side1 ?side2 A3.out).mono ?_); (case side1 => exact td_); (case side2 => exact HC0.out); rintro e w7 ⟨v358, v362, rfl, ho0, ho1, hb⟩; refine ⟨_, rfl, ?_⟩; have n0_ := Aside0.mk (Kd.R_lower ho0 (below_size (tb_ HB.out))); have n1_ := Aside0.mk (Kd.R_lower ho1 (below_size (tb_ HB.out))); have n2_ := Aside0.mk (below_step (tb_ HB.out) hb); clear HB; have HO359 := n0_; have HO363 := n1_; have HB := n2_; clear n0_ n1_ n2_; (try clear hb); (try clear hb2); (try clear hk); (try clear hi); (try clear ho0); (try clear ho1)) | ((with_reducible refine gate_dst (N := 3) rfl ?_); (try (refine gate_guard (by rfl) ?_; dsimp only)); refine box_event ?hg (N := 3) ?hd (cs := #[.slice none 0 0, .int .i64 0, .slice none 0 0]) (t := 27) ?hr ?_; (case hd => rfl); (case hg => rfl); (case hr => first | (go_simp; done) | (go_simp; rfl)); intro gb364 hg w8 hbox hb; have n0_ := Aside0.mk (Kd.R_below (rR_ HO359.out) hb); have n1_ := Aside0.mk (Kd.R_below (rR_ HO363.out) hb); have n2_ := Aside0.mk (below_step (tb_ HB.out) hb); have n3_ := Aside0.mk (hbox); have n4_ := Aside0.mk ((by rw [hg]; exact (below_size (tb_ HB.out)) : w.heap.size ≤ gb364)); have n5_ := Aside0.mk ((by rw [hg]; exact (below_size (tb_ HB.out)) : w.heap.size ≤ gb364)); clear HO359 HO363 HB; have HO359 := n0_; have HO363 := n1_; have HB := n2_; have BK364 := n3_; have GW364 := n4_; have GE364 := n5_; clear n0_ n1_ n2_ n3_ n4_ n5_ hb hbox hg; obtain ⟨Ao9, co9, eo9⟩ := Kd.R_slice HO359.out; subst eo9; have hcz10_0 : w8.cell? ⟨gb364, 0, none⟩ = some (.slice none 0 0) := (blk_cell BK364.out 0).trans rfl; have hcz10_1 : w8.cell? ⟨gb364, 1, none⟩ = some (.int .i64 0) := (blk_cell BK364.out 1).trans rfl; have hcz10_2 : w8.cell? ⟨gb364, 2, none⟩ = some (.slice none 0 0) := (blk_cell BK364.out 2).trans rfl; have hfz10_0 := blk_frozen BK364.out 0; have hfz10_1 := blk_frozen BK364.out 1; have hfz10_2 := blk_frozen BK364.out 2; obtain ⟨Ao11, co11, eo11⟩ := Kd.R_slice HO363.out; subst eo11) | ((with_reducible refine gate_callee (f := 17) rfl ?_); refine goesL_ (some 15) rfl rfl Try.func17 (by kernel_rfl) rfl #[.agg #[.slice Ao9 t357.length co9, .int .i64 t360, .slice Ao11 t361.length co11]] rfl tz_ ?_; (with_reducible refine (impl_DeskNew.calls k _ _ t357 t360 _ _ t361 t365 t368 t369 t372 t375 _ ?side1 ?side2 ?side3 ?side4 A4.out).mono ?_); (case side1 => refine (Kd.R_reads' (e := 3) (base := w.heap.size) (ok := fun k_ => some k_ ≠ (.slice Ao11 t361.length co11 : Value).ownBlock) (n := t357.length) (c := co9) ?_).2.2; exact (by refine qR_ ?_; exact (Kd.R_mono (Kd.R_far (p := ⟨gb364, 2, none⟩) (Kd.R_far (p := ⟨gb364, 1, none⟩) (Kd.R_far (p := ⟨gb364, 0, none⟩) (Kd.R_types HO359.out BK364.out (by decide)) (fun _ hk => hk.2) (.slice Ao9 t357.length co9)) (fun _ hk => hk.2) (.int .i64 t360)) (fun _ hk => hk.2) (.slice Ao11 t361.length co11)) (fun _ h_ => h_.1)))); (case side2 => exact (Kd.R_reads' HO359.out).2.1); (case side3 => refine (Kd.R_reads' (e := 3) (base := w.heap.size) (ok := fun k_ => some k_ ≠ (.slice Ao9 t357.length co9 : Value).ownBlock) (n := t361.length) (c := co11) ?_).2.2; exact (by refine qR_ ?_; exact (Kd.R_mono (Kd.R_far (p := ⟨gb364, 2, none⟩) (Kd.R_far (p := ⟨gb364, 1, none⟩) (Kd.R_far (p := ⟨gb364, 0, none⟩) (Kd.R_types HO363.out BK364.out (by decide)) (fun _ hk => hk.2) (.slice Ao9 t357.length co9)) (fun _ hk => hk.2) (.int .i64 t360)) (fun _ hk => hk.2) (.slice Ao11 t361.length co11)) (fun _ h_ => h_.1)))); (case side4 => exact (Kd.R_reads' HO363.out).2.1); rintro e w12 ⟨v366, v370, v373, rfl, ho0, ho1, ho2, hb⟩; refine ⟨_, rfl, ?_⟩; have n0_ := Aside0.mk (Kd.R_mono (Kd.R_told (Kd.R_told (Kd.R_old (by refine qR_ ?_; exact (Kd.R_mono (Kd.R_far (p := ⟨gb364, 2, none⟩) (Kd.R_far (p := ⟨gb364, 1, none⟩) (Kd.R_far (p := ⟨gb364, 0, none⟩) (Kd.R_types HO359.out BK364.out (by decide)) (fun _ hk => hk.2) (.slice Ao9 t357.length co9)) (fun _ hk => hk.2) (.int .i64 t360)) (fun _ hk => hk.2) (.slice Ao11 t361.length co11)) (fun _ h_ => h_.1))) hb) (Kd.R_base ho0)) (Kd.R_base ho1)) (fun _ h_ => h_.1)); have n1_ := Aside0.mk (Kd.R_mono (Kd.R_told (Kd.R_told (Kd.R_old (by refine qR_ ?_; exact (Kd.R_mono (Kd.R_far (p := ⟨gb364, 2, none⟩) (Kd.R_far (p := ⟨gb364, 1, none⟩) (Kd.R_far (p := ⟨gb364, 0, none⟩) (Kd.R_types HO363.out BK364.out (by decide)) (fun _ hk => hk.2) (.slice Ao9 t357.length co9)) (fun _ hk => hk.2) (.int .i64 t360)) (fun _ hk => hk.2) (.slice Ao11 t361.length co11)) (fun _ h_ => h_.1))) hb) (Kd.R_base ho0)) (Kd.R_base ho1)) (fun _ h_ => h_.1)); have n2_ := Aside0.mk (Kd.R_lower (Kd.R_new' (Kd.R_new' ho0 (Kd.R_lt (by refine qR_ ?_; exact (Kd.R_mono (Kd.R_far (p := ⟨gb364, 2, none⟩) (Kd.R_far (p := ⟨gb364, 1, none⟩) (Kd.R_far (p := ⟨gb364, 0, none⟩) (Kd.R_types HO359.out BK364.out (by decide)) (fun _ hk => hk.2) (.slice Ao9 t357.length co9)) (fun _ hk => hk.2) (.int .i64 t360)) (fun _ hk => hk.2) (.slice Ao11 t361.length co11)) (fun _ h_ => h_.1))))) (Kd.R_lt (by refine qR_ ?_; exact (Kd.R_mono (Kd.R_far (p := ⟨gb364, 2, none⟩) (Kd.R_far (p := ⟨gb364, 1, none⟩) (Kd.R_far (p := ⟨gb364, 0, none⟩) (Kd.R_types HO363.out BK364.out (by decide)) (fun _ hk => hk.2) (.slice Ao9 t357.length co9)) (fun _ hk => hk.2) (.int .i64 t360)) (fun _ hk => hk.2) (.slice Ao11 t361.length co11)) (fun _ h_ => h_.1))))) (below_size (tb_ HB.out))); have n3_ := Aside0.mk (Kd.R_lower (Kd.R_new' (Kd.R_new' ho1 (Kd.R_lt (by refine qR_ ?_; exact (Kd.R_mono (Kd.R_far (p := ⟨gb364, 2, none⟩) (Kd.R_far (p := ⟨gb364, 1, none⟩) (Kd.R_far (p := ⟨gb364, 0, none⟩) (Kd.R_types HO359.out BK364.out (by decide)) (fun _ hk => hk.2) (.slice Ao9 t357.length co9)) (fun _ hk => hk.2) (.int .i64 t360)) (fun _ hk => hk.2) (.slice Ao11 t361.length co11)) (fun _ h_ => h_.1))))) (Kd.R_lt (by refine qR_ ?_; exact (Kd.R_mono (Kd.R_far (p := ⟨gb364, 2, none⟩) (Kd.R_far (p := ⟨gb364, 1, none⟩) (Kd.R_far (p := ⟨gb364, 0, none⟩) (Kd.R_types HO363.out BK364.out (by decide)) (fun _ hk => hk.2) (.slice Ao9 t357.length co9)) (fun _ hk => hk.2) (.int .i64 t360)) (fun _ hk => hk.2) (.slice Ao11 t361.length co11)) (fun _ h_ => h_.1))))) (below_size (tb_ HB.out))); have n4_ := Aside0.mk (Kd.S_lower (Kd.S_newB (Kd.S_new' (Kd.S_new' ho2 (Kd.R_lt (by refine qR_ ?_; exact (Kd.R_mono (Kd.R_far (p := ⟨gb364, 2, none⟩) (Kd.R_far (p := ⟨gb364, 1, none⟩) (Kd.R_far (p := ⟨gb364, 0, none⟩) (Kd.R_types HO359.out BK364.out (by decide)) (fun _ hk => hk.2) (.slice Ao9 t357.length co9)) (fun _ hk => hk.2) (.int .i64 t360)) (fun _ hk => hk.2) (.slice Ao11 t361.length co11)) (fun _ h_ => h_.1))))) (Kd.R_lt (by refine qR_ ?_; exact (Kd.R_mono (Kd.R_far (p := ⟨gb364, 2, none⟩) (Kd.R_far (p := ⟨gb364, 1, none⟩) (Kd.R_far (p := ⟨gb364, 0, none⟩) (Kd.R_types HO363.out BK364.out (by decide)) (fun _ hk => hk.2) (.slice Ao9 t357.length co9)) (fun _ hk => hk.2) (.int .i64 t360)) (fun _ hk => hk.2) (.slice Ao11 t361.length co11)) (fun _ h_ => h_.1))))) (g := gb364) (o := .cells #[.slice Ao9 t357.length co9, .int .i64 t360, .slice Ao11 t361.length co11] 27 (0, 0)) (by refine bq_ ?_; refine blk_put (cs := #[.slice Ao9 t357.length co9, .int .i64 t360, .slice none 0 0]) ?_ 2 _ rfl; refine bq_ ?_; refine blk_put (cs := #[.slice Ao9 t357.length co9, .int .i64 0, .slice none 0 0]) ?_ 1 _ rfl; refine bq_ ?_; refine blk_put (cs := #[.slice none 0 0, .int .i64 0, .slice none 0 0]) ?_ 0 _ rfl; exact tk_ BK364.out)) (below_size (tb_ HB.out))); have n5_ := Aside0.mk (blk_below (g := gb364) (o := .cells #[.slice Ao9 t357.length co9, .int .i64 t360, .slice Ao11 t361.length co11] 27 (0, 0)) (by refine bq_ ?_; refine blk_put (cs := #[.slice Ao9 t357.length co9, .int .i64 t360, .slice none 0 0]) ?_ 2 _ rfl; refine bq_ ?_; refine blk_put (cs := #[.slice Ao9 t357.length co9, .int .i64 0, .slice none 0 0]) ?_ 1 _ rfl; refine bq_ ?_; refine blk_put (cs := #[.slice none 0 0, .int .i64 0, .slice none 0 0]) ?_ 0 _ rfl; exact tk_ BK364.out) hb); have n6_ := Aside0.mk (below_step (tb_ HB.out) hb); clear HO359 HO363 BK364 HB; have HO359 := n0_; have HO363 := n1_; have HO367 := n2_; have HO371 := n3_; have HO374 := n4_; have BK364 := n5_; have HB := n6_; clear n0_ n1_ n2_ n3_ n4_ n5_ n6_; (try clear hb); (try clear hb2); (try clear hk); (try clear hi); (try clear ho0); (try clear ho1); (try clear ho2)) | ((with_reducible refine gate_dst (N := 4) rfl ?_); (try (refine gate_guard (by rfl) ?_; dsimp only)); refine box_event ?hg (N := 4) ?hd (cs := #[.slice none 0 0, .int .i64 0, .slice none 0 0, .slice none 0 0]) (t := 37) ?hr ?_; (case hd => rfl); (case hg => rfl); (case hr => first | (go_simp; done) | (go_simp; rfl)); intro gb376 hg w13 hbox hb; have n0_ := Aside0.mk (Kd.R_below (rR_ HO359.out) hb); have n1_ := Aside0.mk (Kd.R_below (rR_ HO363.out) hb); have n2_ := Aside0.mk (Kd.R_below (rR_ HO367.out) hb); have n3_ := Aside0.mk (Kd.R_below (rR_ HO371.out) hb); have n4_ := Aside0.mk (Kd.S_below (rS_ HO374.out) hb); have n5_ := Aside0.mk (blk_below (g := gb364) (o := .cells #[.slice Ao9 t357.length co9, .int .i64 t360, .slice Ao11 t361.length co11] 27 (0, 0)) (tk_ BK364.out) hb); have n6_ := Aside0.mk (below_step (tb_ HB.out) hb); have n7_ := Aside0.mk (hbox); have n8_ := Aside0.mk ((by rw [hg]; exact (below_size (tb_ HB.out)) : w.heap.size ≤ gb376)); have n9_ := Aside0.mk ((by rw [hg]; exact (below_size (tb_ HB.out)) : w.heap.size ≤ gb376)); have n10_ := Aside0.mk ((by rw [hg]; exact Nat.ne_of_lt (blk_lt (g := gb364) (o := .cells #[.slice Ao9 t357.length co9, .int .i64 t360, .slice Ao11 t361.length co11] 27 (0, 0)) (tk_ BK364.out)) : gb364 ≠ gb376)); have n11_ := Aside0.mk ((by rw [hg]; exact Nat.ne_of_gt (blk_lt (g := gb364) (o := .cells #[.slice Ao9 t357.length co9, .int .i64 t360, .slice Ao11 t361.length co11] 27 (0, 0)) (tk_ BK364.out)) : gb376 ≠ gb364)); clear HO359 HO363 HO367 HO371 HO374 BK364 HB; have HO359 := n0_; have HO363 := n1_; have HO367 := n2_; have HO371 := n3_; have HO374 := n4_; have BK364 := n5_; have HB := n6_; have BK376 := n7_; have GW376 := n8_; have GE376 := n9_; have NB364_376 := n10_; have NB376_364 := n11_; clear n0_ n1_ n2_ n3_ n4_ n5_ n6_ n7_ n8_ n9_ n10_ n11_ hb hbox hg; obtain ⟨Ao14, co14, eo14⟩ := Kd.R_slice HO367.out; subst eo14; have hnb15 := NB376_364.out; have hnc15 := NB364_376.out; have hcz16_0 : w13.cell? ⟨gb376, 0, none⟩ = some (.slice none 0 0) := (blk_cell BK376.out 0).trans rfl; have hcz16_1 : w13.cell? ⟨gb376, 1, none⟩ = some (.int .i64 0) := (blk_cell BK376.out 1).trans rfl; have hcz16_2 : w13.cell? ⟨gb376, 2, none⟩ = some (.slice none 0 0) := (blk_cell BK376.out 2).trans rfl; have hcz16_3 : w13.cell? ⟨gb376, 3, none⟩ = some (.slice none 0 0) := (blk_cell BK376.out 3).trans rfl; have hfz16_0 := blk_frozen BK376.out 0; have hfz16_1 := blk_frozen BK376.out 1; have hfz16_2 := blk_frozen BK376.out 2; have hfz16_3 := blk_frozen BK376.out 3; obtain ⟨Ao17, co17, eo17⟩ := Kd.R_slice HO371.out; subst eo17; obtain ⟨Ao18, co18, eo18⟩ := Kd.S_slice HO374.out; subst eo18; have hcz19_0 : w13.cell? ⟨gb364, 0, none⟩ = some (.slice Ao9 t357.length co9) := (blk_cell BK364.out 0).trans rfl; have hcz19_1 : w13.cell? ⟨gb364, 1, none⟩ = some (.int .i64 t360) := (blk_cell BK364.out 1).trans rfl; have hcz19_2 : w13.cell? ⟨gb364, 2, none⟩ = some (.slice Ao11 t361.length co11) := (blk_cell BK364.out 2).trans rfl; have hfz19_0 := blk_frozen BK364.out 0; have hfz19_1 := blk_frozen BK364.out 1; have hfz19_2 := blk_frozen BK364.out 2) | ((with_reducible refine gate_callee (f := 18) rfl ?_); refine goesL_ (some 20) rfl rfl Try.func18 (by kernel_rfl) rfl #[.agg #[.slice Ao9 t357.length co9, .int .i64 t360, .slice Ao11 t361.length co11]] rfl tz_ ?_; (with_reducible refine (spec_DeskNew.calls k _ _ t357 t360 _ _ t361 t377 t380 t381 t384 t387 _ ?side1 ?side2 ?side3 ?side4 A5.out).mono ?_); (case side1 => refine (Kd.R_reads' (e := 3) (base := w.heap.size) (ok := fun k_ => ((some k_ ≠ (.slice Ao11 t361.length co11 : Value).ownBlock ∧ some k_ ≠ (.slice Ao14 t365.length co14 : Value).ownBlock) ∧ some k_ ≠ (.slice Ao17 t369.length co17 : Value).ownBlock)) (n := t357.length) (c := co9) ?_).2.2; exact (by refine qR_ ?_; exact (Kd.R_mono (Kd.R_far (p := ⟨gb376, 3, none⟩) (Kd.R_far (p := ⟨gb376, 2, none⟩) (Kd.R_far (p := ⟨gb376, 1, none⟩) (Kd.R_far (p := ⟨gb376, 0, none⟩) (Kd.R_types HO359.out BK376.out (by decide)) (fun _ hk => hk.2) (.slice Ao14 t365.length co14)) (fun _ hk => hk.2) (.int .i64 t368)) (fun _ hk => hk.2) (.slice Ao17 t369.length co17)) (fun _ hk => hk.2) (.slice Ao18 t372.length co18)) (fun _ h_ => h_.1)))); (case side2 => exact (Kd.R_reads' HO359.out).2.1); (case side3 => refine (Kd.R_reads' (e := 3) (base := w.heap.size) (ok := fun k_ => ((some k_ ≠ (.slice Ao9 t357.length co9 : Value).ownBlock ∧ some k_ ≠ (.slice Ao14 t365.length co14 : Value).ownBlock) ∧ some k_ ≠ (.slice Ao17 t369.length co17 : Value).ownBlock)) (n := t361.length) (c := co11) ?_).2.2; exact (by refine qR_ ?_; exact (Kd.R_mono (Kd.R_far (p := ⟨gb376, 3, none⟩) (Kd.R_far (p := ⟨gb376, 2, none⟩) (Kd.R_far (p := ⟨gb376, 1, none⟩) (Kd.R_far (p := ⟨gb376, 0, none⟩) (Kd.R_types HO363.out BK376.out (by decide)) (fun _ hk => hk.2) (.slice Ao14 t365.length co14)) (fun _ hk => hk.2) (.int .i64 t368)) (fun _ hk => hk.2) (.slice Ao17 t369.length co17)) (fun _ hk => hk.2) (.slice Ao18 t372.length co18)) (fun _ h_ => h_.1)))); (case side4 => exact (Kd.R_reads' HO363.out).2.1); rintro e w20 ⟨v378, v382, v385, rfl, ho0, ho1, ho2, hb⟩; refine ⟨_, rfl, ?_⟩; have n0_ := Aside0.mk (Kd.R_mono (Kd.R_told (Kd.R_told (Kd.R_old (by refine qR_ ?_; exact (Kd.R_mono (Kd.R_far (p := ⟨gb376, 3, none⟩) (Kd.R_far (p := ⟨gb376, 2, none⟩) (Kd.R_far (p := ⟨gb376, 1, none⟩) (Kd.R_far (p := ⟨gb376, 0, none⟩) (Kd.R_types HO359.out BK376.out (by decide)) (fun _ hk => hk.2) (.slice Ao14 t365.length co14)) (fun _ hk => hk.2) (.int .i64 t368)) (fun _ hk => hk.2) (.slice Ao17 t369.length co17)) (fun _ hk => hk.2) (.slice Ao18 t372.length co18)) (fun _ h_ => h_.1))) hb) (Kd.R_base ho0)) (Kd.R_base ho1)) (fun _ h_ => h_.1)); have n1_ := Aside0.mk (Kd.R_mono (Kd.R_told (Kd.R_told (Kd.R_old (by refine qR_ ?_; exact (Kd.R_mono (Kd.R_far (p := ⟨gb376, 3, none⟩) (Kd.R_far (p := ⟨gb376, 2, none⟩) (Kd.R_far (p := ⟨gb376, 1, none⟩) (Kd.R_far (p := ⟨gb376, 0, none⟩) (Kd.R_types HO363.out BK376.out (by decide)) (fun _ hk => hk.2) (.slice Ao14 t365.length co14)) (fun _ hk => hk.2) (.int .i64 t368)) (fun _ hk => hk.2) (.slice Ao17 t369.length co17)) (fun _ hk => hk.2) (.slice Ao18 t372.length co18)) (fun _ h_ => h_.1))) hb) (Kd.R_base ho0)) (Kd.R_base ho1)) (fun _ h_ => h_.1)); have n2_ := Aside0.mk (Kd.R_mono (Kd.R_told (Kd.R_told (Kd.R_old (by refine qR_ ?_; exact (Kd.R_mono (Kd.R_far (p := ⟨gb376, 3, none⟩) (Kd.R_far (p := ⟨gb376, 2, none⟩) (Kd.R_far (p := ⟨gb376, 1, none⟩) (Kd.R_far (p := ⟨gb376, 0, none⟩) (Kd.R_types HO367.out BK376.out (by decide)) (fun _ hk => hk.2) (.slice Ao14 t365.length co14)) (fun _ hk => hk.2) (.int .i64 t368)) (fun _ hk => hk.2) (.slice Ao17 t369.length co17)) (fun _ hk => hk.2) (.slice Ao18 t372.length co18)) (fun _ h_ => h_.1))) hb) (Kd.R_base ho0)) (Kd.R_base ho1)) (fun _ h_ => h_.1)); have n3_ := Aside0.mk (Kd.R_mono (Kd.R_told (Kd.R_told (Kd.R_old (by refine qR_ ?_; exact (Kd.R_mono (Kd.R_far (p := ⟨gb376, 3, none⟩) (Kd.R_far (p := ⟨gb376, 2, none⟩) (Kd.R_far (p := ⟨gb376, 1, none⟩) (Kd.R_far (p := ⟨gb376, 0, none⟩) (Kd.R_types HO371.out BK376.out (by decide)) (fun _ hk => hk.2) (.slice Ao14 t365.length co14)) (fun _ hk => hk.2) (.int .i64 t368)) (fun _ hk => hk.2) (.slice Ao17 t369.length co17)) (fun _ hk => hk.2) (.slice Ao18 t372.length co18)) (fun _ h_ => h_.1))) hb) (Kd.R_base ho0)) (Kd.R_base ho1)) (fun _ h_ => h_.1)); have n4_ := Aside0.mk (Kd.S_mono (Kd.S_told (Kd.S_told (Kd.S_told (Kd.S_old (by refine qS_ ?_; exact (Kd.S_mono (Kd.S_far (p := ⟨gb376, 3, none⟩) (Kd.S_far (p := ⟨gb376, 2, none⟩) (Kd.S_far (p := ⟨gb376, 1, none⟩) (Kd.S_far (p := ⟨gb376, 0, none⟩) (Kd.S_types HO374.out BK376.out (by decide)) (fun _ hk => hk.2) (.slice Ao14 t365.length co14)) (fun _ hk => hk.2) (.int .i64 t368)) (fun _ hk => hk.2) (.slice Ao17 t369.length co17)) (fun _ hk => hk.2) (.slice Ao18 t372.length co18)) (fun _ h_ => h_.1))) hb) (Kd.R_base ho0)) (Kd.R_base ho1)) (Kd.S_base ho2)) (fun _ h_ => h_.1)); have n5_ := Aside0.mk (Kd.R_lower (Kd.R_new' (Kd.R_new' (Kd.R_new' (Kd.R_new' ho0 (Kd.R_lt (by refine qR_ ?_; exact (Kd.R_mono (Kd.R_far (p := ⟨gb376, 3, none⟩) (Kd.R_far (p := ⟨gb376, 2, none⟩) (Kd.R_far (p := ⟨gb376, 1, none⟩) (Kd.R_far (p := ⟨gb376, 0, none⟩) (Kd.R_types HO359.out BK376.out (by decide)) (fun _ hk => hk.2) (.slice Ao14 t365.length co14)) (fun _ hk => hk.2) (.int .i64 t368)) (fun _ hk => hk.2) (.slice Ao17 t369.length co17)) (fun _ hk => hk.2) (.slice Ao18 t372.length co18)) (fun _ h_ => h_.1))))) (Kd.R_lt (by refine qR_ ?_; exact (Kd.R_mono (Kd.R_far (p := ⟨gb376, 3, none⟩) (Kd.R_far (p := ⟨gb376, 2, none⟩) (Kd.R_far (p := ⟨gb376, 1, none⟩) (Kd.R_far (p := ⟨gb376, 0, none⟩) (Kd.R_types HO363.out BK376.out (by decide)) (fun _ hk => hk.2) (.slice Ao14 t365.length co14)) (fun _ hk => hk.2) (.int .i64 t368)) (fun _ hk => hk.2) (.slice Ao17 t369.length co17)) (fun _ hk => hk.2) (.slice Ao18 t372.length co18)) (fun _ h_ => h_.1))))) (Kd.R_lt (by refine qR_ ?_; exact (Kd.R_mono (Kd.R_far (p := ⟨gb376, 3, none⟩) (Kd.R_far (p := ⟨gb376, 2, none⟩) (Kd.R_far (p := ⟨gb376, 1, none⟩) (Kd.R_far (p := ⟨gb376, 0, none⟩) (Kd.R_types HO367.out BK376.out (by decide)) (fun _ hk => hk.2) (.slice Ao14 t365.length co14)) (fun _ hk => hk.2) (.int .i64 t368)) (fun _ hk => hk.2) (.slice Ao17 t369.length co17)) (fun _ hk => hk.2) (.slice Ao18 t372.length co18)) (fun _ h_ => h_.1))))) (Kd.R_lt (by refine qR_ ?_; exact (Kd.R_mono (Kd.R_far (p := ⟨gb376, 3, none⟩) (Kd.R_far (p := ⟨gb376, 2, none⟩) (Kd.R_far (p := ⟨gb376, 1, none⟩) (Kd.R_far (p := ⟨gb376, 0, none⟩) (Kd.R_types HO371.out BK376.out (by decide)) (fun _ hk => hk.2) (.slice Ao14 t365.length co14)) (fun _ hk => hk.2) (.int .i64 t368)) (fun _ hk => hk.2) (.slice Ao17 t369.length co17)) (fun _ hk => hk.2) (.slice Ao18 t372.length co18)) (fun _ h_ => h_.1))))) (below_size (tb_ HB.out))); have n6_ := Aside0.mk (Kd.R_lower (Kd.R_new' (Kd.R_new' (Kd.R_new' (Kd.R_new' ho1 (Kd.R_lt (by refine qR_ ?_; exact (Kd.R_mono (Kd.R_far (p := ⟨gb376, 3, none⟩) (Kd.R_far (p := ⟨gb376, 2, none⟩) (Kd.R_far (p := ⟨gb376, 1, none⟩) (Kd.R_far (p := ⟨gb376, 0, none⟩) (Kd.R_types HO359.out BK376.out (by decide)) (fun _ hk => hk.2) (.slice Ao14 t365.length co14)) (fun _ hk => hk.2) (.int .i64 t368)) (fun _ hk => hk.2) (.slice Ao17 t369.length co17)) (fun _ hk => hk.2) (.slice Ao18 t372.length co18)) (fun _ h_ => h_.1))))) (Kd.R_lt (by refine qR_ ?_; exact (Kd.R_mono (Kd.R_far (p := ⟨gb376, 3, none⟩) (Kd.R_far (p := ⟨gb376, 2, none⟩) (Kd.R_far (p := ⟨gb376, 1, none⟩) (Kd.R_far (p := ⟨gb376, 0, none⟩) (Kd.R_types HO363.out BK376.out (by decide)) (fun _ hk => hk.2) (.slice Ao14 t365.length co14)) (fun _ hk => hk.2) (.int .i64 t368)) (fun _ hk => hk.2) (.slice Ao17 t369.length co17)) (fun _ hk => hk.2) (.slice Ao18 t372.length co18)) (fun _ h_ => h_.1))))) (Kd.R_lt (by refine qR_ ?_; exact (Kd.R_mono (Kd.R_far (p := ⟨gb376, 3, none⟩) (Kd.R_far (p := ⟨gb376, 2, none⟩) (Kd.R_far (p := ⟨gb376, 1, none⟩) (Kd.R_far (p := ⟨gb376, 0, none⟩) (Kd.R_types HO367.out BK376.out (by decide)) (fun _ hk => hk.2) (.slice Ao14 t365.length co14)) (fun _ hk => hk.2) (.int .i64 t368)) (fun _ hk => hk.2) (.slice Ao17 t369.length co17)) (fun _ hk => hk.2) (.slice Ao18 t372.length co18)) (fun _ h_ => h_.1))))) (Kd.R_lt (by refine qR_ ?_; exact (Kd.R_mono (Kd.R_far (p := ⟨gb376, 3, none⟩) (Kd.R_far (p := ⟨gb376, 2, none⟩) (Kd.R_far (p := ⟨gb376, 1, none⟩) (Kd.R_far (p := ⟨gb376, 0, none⟩) (Kd.R_types HO371.out BK376.out (by decide)) (fun _ hk => hk.2) (.slice Ao14 t365.length co14)) (fun _ hk => hk.2) (.int .i64 t368)) (fun _ hk => hk.2) (.slice Ao17 t369.length co17)) (fun _ hk => hk.2) (.slice Ao18 t372.length co18)) (fun _ h_ => h_.1))))) (below_size (tb_ HB.out))); have n7_ := Aside0.mk (Kd.S_lower (Kd.S_newB (Kd.S_new' (Kd.S_new' (Kd.S_new' (Kd.S_new' (Kd.S_new' ho2 (Kd.R_lt (by refine qR_ ?_; exact (Kd.R_mono (Kd.R_far (p := ⟨gb376, 3, none⟩) (Kd.R_far (p := ⟨gb376, 2, none⟩) (Kd.R_far (p := ⟨gb376, 1, none⟩) (Kd.R_far (p := ⟨gb376, 0, none⟩) (Kd.R_types HO359.out BK376.out (by decide)) (fun _ hk => hk.2) (.slice Ao14 t365.length co14)) (fun _ hk => hk.2) (.int .i64 t368)) (fun _ hk => hk.2) (.slice Ao17 t369.length co17)) (fun _ hk => hk.2) (.slice Ao18 t372.length co18)) (fun _ h_ => h_.1))))) (Kd.R_lt (by refine qR_ ?_; exact (Kd.R_mono (Kd.R_far (p := ⟨gb376, 3, none⟩) (Kd.R_far (p := ⟨gb376, 2, none⟩) (Kd.R_far (p := ⟨gb376, 1, none⟩) (Kd.R_far (p := ⟨gb376, 0, none⟩) (Kd.R_types HO363.out BK376.out (by decide)) (fun _ hk => hk.2) (.slice Ao14 t365.length co14)) (fun _ hk => hk.2) (.int .i64 t368)) (fun _ hk => hk.2) (.slice Ao17 t369.length co17)) (fun _ hk => hk.2) (.slice Ao18 t372.length co18)) (fun _ h_ => h_.1))))) (Kd.R_lt (by refine qR_ ?_; exact (Kd.R_mono (Kd.R_far (p := ⟨gb376, 3, none⟩) (Kd.R_far (p := ⟨gb376, 2, none⟩) (Kd.R_far (p := ⟨gb376, 1, none⟩) (Kd.R_far (p := ⟨gb376, 0, none⟩) (Kd.R_types HO367.out BK376.out (by decide)) (fun _ hk => hk.2) (.slice Ao14 t365.length co14)) (fun _ hk => hk.2) (.int .i64 t368)) (fun _ hk => hk.2) (.slice Ao17 t369.length co17)) (fun _ hk => hk.2) (.slice Ao18 t372.length co18)) (fun _ h_ => h_.1))))) (Kd.R_lt (by refine qR_ ?_; exact (Kd.R_mono (Kd.R_far (p := ⟨gb376, 3, none⟩) (Kd.R_far (p := ⟨gb376, 2, none⟩) (Kd.R_far (p := ⟨gb376, 1, none⟩) (Kd.R_far (p := ⟨gb376, 0, none⟩) (Kd.R_types HO371.out BK376.out (by decide)) (fun _ hk => hk.2) (.slice Ao14 t365.length co14)) (fun _ hk => hk.2) (.int .i64 t368)) (fun _ hk => hk.2) (.slice Ao17 t369.length co17)) (fun _ hk => hk.2) (.slice Ao18 t372.length co18)) (fun _ h_ => h_.1))))) (Kd.S_lt (by refine qS_ ?_; exact (Kd.S_mono (Kd.S_far (p := ⟨gb376, 3, none⟩) (Kd.S_far (p := ⟨gb376, 2, none⟩) (Kd.S_far (p := ⟨gb376, 1, none⟩) (Kd.S_far (p := ⟨gb376, 0, none⟩) (Kd.S_types HO374.out BK376.out (by decide)) (fun _ hk => hk.2) (.slice Ao14 t365.length co14)) (fun _ hk => hk.2) (.int .i64 t368)) (fun _ hk => hk.2) (.slice Ao17 t369.length co17)) (fun _ hk => hk.2) (.slice Ao18 t372.length co18)) (fun _ h_ => h_.1))))) (g := gb364) (o := .cells #[.slice Ao9 t357.length co9, .int .i64 t360, .slice Ao11 t361.length co11] 27 (0, 0)) (tk_ BK364.out)) (below_size (tb_ HB.out))); have n8_ := Aside0.mk (blk_below (g := gb364) (o := .cells #[.slice Ao9 t357.length co9, .int .i64 t360, .slice Ao11 t361.length co11] 27 (0, 0)) (tk_ BK364.out) hb); have n9_ := Aside0.mk (blk_below (g := gb376) (o := .cells #[.slice Ao14 t365.length co14, .int .i64 t368, .slice Ao17 t369.length co17, .slice Ao18 t372.length co18] 37 (0, 0)) (by refine bq_ ?_; refine blk_put (cs := #[.slice Ao14 t365.length co14, .int .i64 t368, .slice Ao17 t369.length co17, .slice none 0 0]) ?_ 3 _ rfl; refine bq_ ?_; refine blk_put (cs := #[.slice Ao14 t365.length co14, .int .i64 t368, .slice none 0 0, .slice none 0 0]) ?_ 2 _ rfl; refine bq_ ?_; refine blk_put (cs := #[.slice Ao14 t365.length co14, .int .i64 0, .slice none 0 0, .slice none 0 0]) ?_ 1 _ rfl; refine bq_ ?_; refine blk_put (cs := #[.slice none 0 0, .int .i64 0, .slice none 0 0, .slice none 0 0]) ?_ 0 _ rfl; exact tk_ BK376.out) hb); have n10_ := Aside0.mk (below_step (tb_ HB.out) hb); clear HO359 HO363 HO367 HO371 HO374 BK364 BK376 HB; have HO359 := n0_; have HO363 := n1_; have HO367 := n2_; have HO371 := n3_; have HO374 := n4_; have HO379 := n5_; have HO383 := n6_; have HO386 := n7_; have BK364 := n8_; have BK376 := n9_; have HB := n10_; clear n0_ n1_ n2_ n3_ n4_ n5_ n6_ n7_ n8_ n9_ n10_; (try clear hb); (try clear hb2); (try clear hk); (try clear hi); (try clear ho0); (try clear ho1); (try clear ho2)) | ((with_reducible refine gate_dst (N := 6) rfl ?_); (try (refine gate_guard (by rfl) ?_; dsimp only)); refine box_event ?hg (N := 6) ?hd (cs := #[.slice none 0 0, .int .i64 0, .slice none 0 0, .slice none 0 0]) (t := 37) ?hr ?_; (case hd => rfl); (case hg => rfl); (case hr => first | (go_simp; done) | (go_simp; rfl)); intro gb388 hg w21 hbox hb; have n0_ := Aside0.mk (Kd.R_below (rR_ HO359.out) hb); have n1_ := Aside0.mk (Kd.R_below (rR_ HO363.out) hb); have n2_ := Aside0.mk (Kd.R_below (rR_ HO367.out) hb); have n3_ := Aside0.mk (Kd.R_below (rR_ HO371.out) hb); have n4_ := Aside0.mk (Kd.S_below (rS_ HO374.out) hb); have n5_ := Aside0.mk (Kd.R_below (rR_ HO379.out) hb); have n6_ := Aside0.mk (Kd.R_below (rR_ HO383.out) hb); have n7_ := Aside0.mk (Kd.S_below (rS_ HO386.out) hb); have n8_ := Aside0.mk (blk_below (g := gb364) (o := .cells #[.slice Ao9 t357.length co9, .int .i64 t360, .slice Ao11 t361.length co11] 27 (0, 0)) (tk_ BK364.out) hb); have n9_ := Aside0.mk (blk_below (g := gb376) (o := .cells #[.slice Ao14 t365.length co14, .int .i64 t368, .slice Ao17 t369.length co17, .slice Ao18 t372.length co18] 37 (0, 0)) (tk_ BK376.out) hb); have n10_ := Aside0.mk (below_step (tb_ HB.out) hb); have n11_ := Aside0.mk (hbox); have n12_ := Aside0.mk ((by rw [hg]; exact (below_size (tb_ HB.out)) : w.heap.size ≤ gb388)); have n13_ := Aside0.mk ((by rw [hg]; exact (below_size (tb_ HB.out)) : w.heap.size ≤ gb388)); have n14_ := Aside0.mk ((by rw [hg]; exact Nat.ne_of_lt (blk_lt (g := gb364) (o := .cells #[.slice Ao9 t357.length co9, .int .i64 t360, .slice Ao11 t361.length co11] 27 (0, 0)) (tk_ BK364.out)) : gb364 ≠ gb388)); have n15_ := Aside0.mk ((by rw [hg]; exact Nat.ne_of_gt (blk_lt (g := gb364) (o := .cells #[.slice Ao9 t357.length co9, .int .i64 t360, .slice Ao11 t361.length co11] 27 (0, 0)) (tk_ BK364.out)) : gb388 ≠ gb364)); have n16_ := Aside0.mk ((by rw [hg]; exact Nat.ne_of_lt (blk_lt (g := gb376) (o := .cells #[.slice Ao14 t365.length co14, .int .i64 t368, .slice Ao17 t369.length co17, .slice Ao18 t372.length co18] 37 (0, 0)) (tk_ BK376.out)) : gb376 ≠ gb388)); have n17_ := Aside0.mk ((by rw [hg]; exact Nat.ne_of_gt (blk_lt (g := gb376) (o := .cells #[.slice Ao14 t365.length co14, .int .i64 t368, .slice Ao17 t369.length co17, .slice Ao18 t372.length co18] 37 (0, 0)) (tk_ BK376.out)) : gb388 ≠ gb376)); clear HO359 HO363 HO367 HO371 HO374 HO379 HO383 HO386 BK364 BK376 HB; have HO359 := n0_; have HO363 := n1_; have HO367 := n2_; have HO371 := n3_; have HO374 := n4_; have HO379 := n5_; have HO383 := n6_; have HO386 := n7_; have BK364 := n8_; have BK376 := n9_; have HB := n10_; have BK388 := n11_; have GW388 := n12_; have GE388 := n13_; have NB364_388 := n14_; have NB388_364 := n15_; have NB376_388 := n16_; have NB388_376 := n17_; clear n0_ n1_ n2_ n3_ n4_ n5_ n6_ n7_ n8_ n9_ n10_ n11_ n12_ n13_ n14_ n15_ n16_ n17_ hb hbox hg; obtain ⟨Ao22, co22, eo22⟩ := Kd.R_slice HO379.out; subst eo22; have hnb23 := NB388_364.out; have hnc23 := NB364_388.out; have hnb24 := NB388_376.out; have hnc24 := NB376_388.out; have hcz25_0 : w21.cell? ⟨gb388, 0, none⟩ = some (.slice none 0 0) := (blk_cell BK388.out 0).trans rfl; have hcz25_1 : w21.cell? ⟨gb388, 1, none⟩ = some (.int .i64 0) := (blk_cell BK388.out 1).trans rfl; have hcz25_2 : w21.cell? ⟨gb388, 2, none⟩ = some (.slice none 0 0) := (blk_cell BK388.out 2).trans rfl; have hcz25_3 : w21.cell? ⟨gb388, 3, none⟩ = some (.slice none 0 0) := (blk_cell BK388.out 3).trans rfl; have hfz25_0 := blk_frozen BK388.out 0; have hfz25_1 := blk_frozen BK388.out 1; have hfz25_2 := blk_frozen BK388.out 2; have hfz25_3 := blk_frozen BK388.out 3; obtain ⟨Ao26, co26, eo26⟩ := Kd.R_slice HO383.out; subst eo26; obtain ⟨Ao27, co27, eo27⟩ := Kd.S_slice HO386.out; subst eo27))
  (try simp only [Act.put, sa_, sb_, sc_])
  go_cut [31] (fun v31 wc => ∃ (kq : Nat) (x31_5 : Bool), v31 = .bool x31_5 ∧ Aside0 (laws_FnDeskNew.j0 kq t375 x31_5 t357 t360 t361 t365 t368 t369 t372 = some r) ∧ Aside0 (kq ≤ k) ∧ Aside0 (Kd.R (Kd.int .i64) 3 wc w.heap.size (fun k_ => some k_ ≠ ((.slice Ao11 t361.length co11) : Value).ownBlock ∧ some k_ ≠ ((.slice Ao14 t365.length co14) : Value).ownBlock ∧ some k_ ≠ ((.slice Ao17 t369.length co17) : Value).ownBlock ∧ some k_ ≠ ((.slice Ao22 t377.length co22) : Value).ownBlock ∧ some k_ ≠ ((.slice Ao26 t381.length co26) : Value).ownBlock) (.slice Ao9 t357.length co9) t357) ∧ Aside0 (Kd.R (Kd.int .i64) 3 wc w.heap.size (fun k_ => some k_ ≠ ((.slice Ao9 t357.length co9) : Value).ownBlock ∧ some k_ ≠ ((.slice Ao14 t365.length co14) : Value).ownBlock ∧ some k_ ≠ ((.slice Ao17 t369.length co17) : Value).ownBlock ∧ some k_ ≠ ((.slice Ao22 t377.length co22) : Value).ownBlock ∧ some k_ ≠ ((.slice Ao26 t381.length co26) : Value).ownBlock) (.slice Ao11 t361.length co11) t361) ∧ Aside0 (Kd.R (Kd.int .i64) 3 wc w.heap.size (fun k_ => some k_ ≠ ((.slice Ao9 t357.length co9) : Value).ownBlock ∧ some k_ ≠ ((.slice Ao11 t361.length co11) : Value).ownBlock ∧ some k_ ≠ ((.slice Ao17 t369.length co17) : Value).ownBlock ∧ some k_ ≠ ((.slice Ao22 t377.length co22) : Value).ownBlock ∧ some k_ ≠ ((.slice Ao26 t381.length co26) : Value).ownBlock) (.slice Ao14 t365.length co14) t365) ∧ Aside0 (Kd.R (Kd.int .i64) 3 wc w.heap.size (fun k_ => some k_ ≠ ((.slice Ao9 t357.length co9) : Value).ownBlock ∧ some k_ ≠ ((.slice Ao11 t361.length co11) : Value).ownBlock ∧ some k_ ≠ ((.slice Ao14 t365.length co14) : Value).ownBlock ∧ some k_ ≠ ((.slice Ao22 t377.length co22) : Value).ownBlock ∧ some k_ ≠ ((.slice Ao26 t381.length co26) : Value).ownBlock) (.slice Ao17 t369.length co17) t369) ∧ Aside0 (Kd.S k27 27 wc w.heap.size (fun k_ => some k_ ≠ ((.slice Ao9 t357.length co9) : Value).ownBlock ∧ some k_ ≠ ((.slice Ao11 t361.length co11) : Value).ownBlock ∧ some k_ ≠ ((.slice Ao14 t365.length co14) : Value).ownBlock ∧ some k_ ≠ ((.slice Ao17 t369.length co17) : Value).ownBlock ∧ some k_ ≠ ((.slice Ao22 t377.length co22) : Value).ownBlock ∧ some k_ ≠ ((.slice Ao26 t381.length co26) : Value).ownBlock ∧ some k_ ≠ ((.slice Ao27 t384.length co27) : Value).ownBlock ∧ k_ ≠ gb364) (.slice Ao18 t372.length co18) t372) ∧ Aside0 (Kd.R (Kd.int .i64) 3 wc w.heap.size (fun k_ => some k_ ≠ ((.slice Ao9 t357.length co9) : Value).ownBlock ∧ some k_ ≠ ((.slice Ao11 t361.length co11) : Value).ownBlock ∧ some k_ ≠ ((.slice Ao14 t365.length co14) : Value).ownBlock ∧ some k_ ≠ ((.slice Ao17 t369.length co17) : Value).ownBlock ∧ some k_ ≠ ((.slice Ao26 t381.length co26) : Value).ownBlock) (.slice Ao22 t377.length co22) t377) ∧ Aside0 (Kd.R (Kd.int .i64) 3 wc w.heap.size (fun k_ => some k_ ≠ ((.slice Ao9 t357.length co9) : Value).ownBlock ∧ some k_ ≠ ((.slice Ao11 t361.length co11) : Value).ownBlock ∧ some k_ ≠ ((.slice Ao14 t365.length co14) : Value).ownBlock ∧ some k_ ≠ ((.slice Ao17 t369.length co17) : Value).ownBlock ∧ some k_ ≠ ((.slice Ao22 t377.length co22) : Value).ownBlock) (.slice Ao26 t381.length co26) t381) ∧ Aside0 (Kd.S k27 27 wc w.heap.size (fun k_ => some k_ ≠ ((.slice Ao9 t357.length co9) : Value).ownBlock ∧ some k_ ≠ ((.slice Ao11 t361.length co11) : Value).ownBlock ∧ some k_ ≠ ((.slice Ao14 t365.length co14) : Value).ownBlock ∧ some k_ ≠ ((.slice Ao17 t369.length co17) : Value).ownBlock ∧ some k_ ≠ ((.slice Ao18 t372.length co18) : Value).ownBlock ∧ some k_ ≠ ((.slice Ao22 t377.length co22) : Value).ownBlock ∧ some k_ ≠ ((.slice Ao26 t381.length co26) : Value).ownBlock ∧ k_ ≠ gb364) (.slice Ao27 t384.length co27) t384) ∧ Aside0 (wc.heap[gb364]? = some (.cells #[(.slice Ao9 t357.length co9), .int .i64 t360, (.slice Ao11 t361.length co11)] 27 (0, 0))) ∧ Aside0 (wc.heap[gb376]? = some (.cells #[(.slice Ao14 t365.length co14), .int .i64 t368, (.slice Ao17 t369.length co17), (.slice Ao18 t372.length co18)] 37 (0, 0))) ∧ Aside0 (wc.heap[gb388]? = some (.cells #[(.slice Ao22 t377.length co22), .int .i64 t380, (.slice Ao26 t381.length co26), (.slice Ao27 t384.length co27)] 37 (0, 0))) ∧ Aside0 (Below w.heap.size w wc))
  case first =>
   have H := HC6.out
   clear HC6
   replace H := Option.bind_eq_some_iff.mp H
   obtain ⟨t389, A280, H⟩ := H
   replace H : (if t389 = true then (laws_FnDeskNew.j0 k t375 (t375 != t387) t357 t360 t361 t365 t368 t369 t372) else (laws_FnDeskNew.j0 k t375 true t357 t360 t361 t365 t368 t369 t372)) = some r := H
   have A28 := Aside0.mk A280
   clear A280
   by_cases c29 : t389 = true
   ·
    subst c29
    have H1 : (laws_FnDeskNew.j0 k t375 (t375 != t387) t357 t360 t361 t365 t368 t369 t372) = some r := by rw [if_pos rfl] at H; exact H
    clear H
    have H := H1
    clear H1
    have H' := Aside0.mk H
    clear H
    have hnb30 := NB376_364.out
    have hnc30 := NB364_376.out
    have hnb31 := NB376_388.out
    have hnc31 := NB388_376.out
    have hcz32_0 : w21.cell? ⟨gb376, 0, none⟩ = some (.slice Ao14 t365.length co14) := (blk_cell BK376.out 0).trans rfl
    have hcz32_1 : w21.cell? ⟨gb376, 1, none⟩ = some (.int .i64 t368) := (blk_cell BK376.out 1).trans rfl
    have hcz32_2 : w21.cell? ⟨gb376, 2, none⟩ = some (.slice Ao17 t369.length co17) := (blk_cell BK376.out 2).trans rfl
    have hcz32_3 : w21.cell? ⟨gb376, 3, none⟩ = some (.slice Ao18 t372.length co18) := (blk_cell BK376.out 3).trans rfl
    have hfz32_0 := blk_frozen BK376.out 0
    have hfz32_1 := blk_frozen BK376.out 1
    have hfz32_2 := blk_frozen BK376.out 2
    have hfz32_3 := blk_frozen BK376.out 3
    have hnb33 := NB388_364.out
    have hnc33 := NB364_388.out
    have hcz34_0 : w21.cell? ⟨gb388, 0, none⟩ = some (.slice none 0 0) := (blk_cell BK388.out 0).trans rfl
    have hcz34_1 : w21.cell? ⟨gb388, 1, none⟩ = some (.int .i64 0) := (blk_cell BK388.out 1).trans rfl
    have hcz34_2 : w21.cell? ⟨gb388, 2, none⟩ = some (.slice none 0 0) := (blk_cell BK388.out 2).trans rfl
    have hcz34_3 : w21.cell? ⟨gb388, 3, none⟩ = some (.slice none 0 0) := (blk_cell BK388.out 3).trans rfl
    have hfz34_0 := blk_frozen BK388.out 0
    have hfz34_1 := blk_frozen BK388.out 1
    have hfz34_2 := blk_frozen BK388.out 2
    have hfz34_3 := blk_frozen BK388.out 3
    go_wp2_with (first | ((with_reducible refine gate_callee (f := 19) rfl ?_); refine goesL_ (some 25) rfl rfl Try.func19 (by kernel_rfl) rfl #[.agg #[.slice Ao14 t365.length co14, .int .i64 t368, .slice Ao17 t369.length co17, .slice Ao18 t372.length co18], .agg #[.slice Ao22 t377.length co22, .int .i64 t380, .slice Ao26 t381.length co26, .slice Ao27 t384.length co27]] rfl tz_ ?_; (with_reducible refine (laws_sameDesk.calls k _ _ t365 t368 _ _ t369 _ _ t372 _ _ t377 t380 _ _ t381 _ _ t384 true _ ?side1 ?side2 ?side3 ?side4 ?side5 ?side6 ?side7 ?side8 ?side9 ?side10 ?side11 ?side12 A28.out).mono ?_); (case side1 => refine (Kd.R_reads' (e := 3) (base := w.heap.size) (ok := fun k_ => ((((some k_ ≠ (.slice Ao17 t369.length co17 : Value).ownBlock ∧ some k_ ≠ (.slice Ao9 t357.length co9 : Value).ownBlock) ∧ some k_ ≠ (.slice Ao11 t361.length co11 : Value).ownBlock) ∧ some k_ ≠ (.slice Ao22 t377.length co22 : Value).ownBlock) ∧ some k_ ≠ (.slice Ao26 t381.length co26 : Value).ownBlock)) (n := t365.length) (c := co14) ?_).2.2; exact (by refine qR_ ?_; exact (Kd.R_mono (Kd.R_far (p := ⟨gb388, 3, none⟩) (Kd.R_far (p := ⟨gb388, 2, none⟩) (Kd.R_far (p := ⟨gb388, 1, none⟩) (Kd.R_far (p := ⟨gb388, 0, none⟩) (Kd.R_types HO367.out BK388.out (by decide)) (fun _ hk => hk.2) (.slice Ao22 t377.length co22)) (fun _ hk => hk.2) (.int .i64 t380)) (fun _ hk => hk.2) (.slice Ao26 t381.length co26)) (fun _ hk => hk.2) (.slice Ao27 t384.length co27)) (fun _ h_ => h_.1)))); (case side2 => exact (Kd.R_reads' HO367.out).2.1); (case side3 => refine (Kd.R_reads' (e := 3) (base := w.heap.size) (ok := fun k_ => ((((some k_ ≠ (.slice Ao14 t365.length co14 : Value).ownBlock ∧ some k_ ≠ (.slice Ao9 t357.length co9 : Value).ownBlock) ∧ some k_ ≠ (.slice Ao11 t361.length co11 : Value).ownBlock) ∧ some k_ ≠ (.slice Ao22 t377.length co22 : Value).ownBlock) ∧ some k_ ≠ (.slice Ao26 t381.length co26 : Value).ownBlock)) (n := t369.length) (c := co17) ?_).2.2; exact (by refine qR_ ?_; exact (Kd.R_mono (Kd.R_far (p := ⟨gb388, 3, none⟩) (Kd.R_far (p := ⟨gb388, 2, none⟩) (Kd.R_far (p := ⟨gb388, 1, none⟩) (Kd.R_far (p := ⟨gb388, 0, none⟩) (Kd.R_types HO371.out BK388.out (by decide)) (fun _ hk => hk.2) (.slice Ao22 t377.length co22)) (fun _ hk => hk.2) (.int .i64 t380)) (fun _ hk => hk.2) (.slice Ao26 t381.length co26)) (fun _ hk => hk.2) (.slice Ao27 t384.length co27)) (fun _ h_ => h_.1)))); (case side4 => exact (Kd.R_reads' HO371.out).2.1); (case side5 => refine (Kd.S_reads' (e := 27) (base := w.heap.size) (ok := fun k_ => (((((((some k_ ≠ (.slice Ao14 t365.length co14 : Value).ownBlock ∧ some k_ ≠ (.slice Ao17 t369.length co17 : Value).ownBlock) ∧ some k_ ≠ (.slice Ao9 t357.length co9 : Value).ownBlock) ∧ some k_ ≠ (.slice Ao11 t361.length co11 : Value).ownBlock) ∧ k_ ≠ gb364) ∧ some k_ ≠ (.slice Ao22 t377.length co22 : Value).ownBlock) ∧ some k_ ≠ (.slice Ao26 t381.length co26 : Value).ownBlock) ∧ some k_ ≠ (.slice Ao27 t384.length co27 : Value).ownBlock)) (n := t372.length) (c := co18) ?_).2.2; exact (by refine qS_ ?_; exact (Kd.S_mono (Kd.S_far (p := ⟨gb388, 3, none⟩) (Kd.S_far (p := ⟨gb388, 2, none⟩) (Kd.S_far (p := ⟨gb388, 1, none⟩) (Kd.S_far (p := ⟨gb388, 0, none⟩) (Kd.S_types HO374.out BK388.out (by decide)) (fun _ hk => hk.2) (.slice Ao22 t377.length co22)) (fun _ hk => hk.2) (.int .i64 t380)) (fun _ hk => hk.2) (.slice Ao26 t381.length co26)) (fun _ hk => hk.2) (.slice Ao27 t384.length co27)) (fun _ h_ => h_.1)))); (case side6 => exact (Kd.S_reads' HO374.out).2.1); (case side7 => refine (Kd.R_reads' (e := 3) (base := w.heap.size) (ok := fun k_ => ((((some k_ ≠ (.slice Ao26 t381.length co26 : Value).ownBlock ∧ some k_ ≠ (.slice Ao9 t357.length co9 : Value).ownBlock) ∧ some k_ ≠ (.slice Ao11 t361.length co11 : Value).ownBlock) ∧ some k_ ≠ (.slice Ao14 t365.length co14 : Value).ownBlock) ∧ some k_ ≠ (.slice Ao17 t369.length co17 : Value).ownBlock)) (n := t377.length) (c := co22) ?_).2.2; exact (by refine qR_ ?_; exact (Kd.R_mono (Kd.R_far (p := ⟨gb388, 3, none⟩) (Kd.R_far (p := ⟨gb388, 2, none⟩) (Kd.R_far (p := ⟨gb388, 1, none⟩) (Kd.R_far (p := ⟨gb388, 0, none⟩) (Kd.R_types HO379.out BK388.out (by decide)) (fun _ hk => hk.2) (.slice Ao22 t377.length co22)) (fun _ hk => hk.2) (.int .i64 t380)) (fun _ hk => hk.2) (.slice Ao26 t381.length co26)) (fun _ hk => hk.2) (.slice Ao27 t384.length co27)) (fun _ h_ => h_.1)))); (case side8 => exact (Kd.R_reads' HO379.out).2.1); (case side9 => refine (Kd.R_reads' (e := 3) (base := w.heap.size) (ok := fun k_ => ((((some k_ ≠ (.slice Ao22 t377.length co22 : Value).ownBlock ∧ some k_ ≠ (.slice Ao9 t357.length co9 : Value).ownBlock) ∧ some k_ ≠ (.slice Ao11 t361.length co11 : Value).ownBlock) ∧ some k_ ≠ (.slice Ao14 t365.length co14 : Value).ownBlock) ∧ some k_ ≠ (.slice Ao17 t369.length co17 : Value).ownBlock)) (n := t381.length) (c := co26) ?_).2.2; exact (by refine qR_ ?_; exact (Kd.R_mono (Kd.R_far (p := ⟨gb388, 3, none⟩) (Kd.R_far (p := ⟨gb388, 2, none⟩) (Kd.R_far (p := ⟨gb388, 1, none⟩) (Kd.R_far (p := ⟨gb388, 0, none⟩) (Kd.R_types HO383.out BK388.out (by decide)) (fun _ hk => hk.2) (.slice Ao22 t377.length co22)) (fun _ hk => hk.2) (.int .i64 t380)) (fun _ hk => hk.2) (.slice Ao26 t381.length co26)) (fun _ hk => hk.2) (.slice Ao27 t384.length co27)) (fun _ h_ => h_.1)))); (case side10 => exact (Kd.R_reads' HO383.out).2.1); (case side11 => refine (Kd.S_reads' (e := 27) (base := w.heap.size) (ok := fun k_ => (((((((some k_ ≠ (.slice Ao22 t377.length co22 : Value).ownBlock ∧ some k_ ≠ (.slice Ao26 t381.length co26 : Value).ownBlock) ∧ some k_ ≠ (.slice Ao9 t357.length co9 : Value).ownBlock) ∧ some k_ ≠ (.slice Ao11 t361.length co11 : Value).ownBlock) ∧ some k_ ≠ (.slice Ao14 t365.length co14 : Value).ownBlock) ∧ some k_ ≠ (.slice Ao17 t369.length co17 : Value).ownBlock) ∧ some k_ ≠ (.slice Ao18 t372.length co18 : Value).ownBlock) ∧ k_ ≠ gb364)) (n := t384.length) (c := co27) ?_).2.2; exact (by refine qS_ ?_; exact (Kd.S_mono (Kd.S_far (p := ⟨gb388, 3, none⟩) (Kd.S_far (p := ⟨gb388, 2, none⟩) (Kd.S_far (p := ⟨gb388, 1, none⟩) (Kd.S_far (p := ⟨gb388, 0, none⟩) (Kd.S_types HO386.out BK388.out (by decide)) (fun _ hk => hk.2) (.slice Ao22 t377.length co22)) (fun _ hk => hk.2) (.int .i64 t380)) (fun _ hk => hk.2) (.slice Ao26 t381.length co26)) (fun _ hk => hk.2) (.slice Ao27 t384.length co27)) (fun _ h_ => h_.1)))); (case side12 => exact (Kd.S_reads' HO386.out).2.1); rintro e w35 ⟨rfl, hb⟩; refine ⟨_, rfl, ?_⟩; have n0_ := Aside0.mk (Kd.R_below (by refine qR_ ?_; exact (Kd.R_mono (Kd.R_far (p := ⟨gb388, 3, none⟩) (Kd.R_far (p := ⟨gb388, 2, none⟩) (Kd.R_far (p := ⟨gb388, 1, none⟩) (Kd.R_far (p := ⟨gb388, 0, none⟩) (Kd.R_types HO359.out BK388.out (by decide)) (fun _ hk => hk.2) (.slice Ao22 t377.length co22)) (fun _ hk => hk.2) (.int .i64 t380)) (fun _ hk => hk.2) (.slice Ao26 t381.length co26)) (fun _ hk => hk.2) (.slice Ao27 t384.length co27)) (fun _ h_ => h_.1))) hb); have n1_ := Aside0.mk (Kd.R_below (by refine qR_ ?_; exact (Kd.R_mono (Kd.R_far (p := ⟨gb388, 3, none⟩) (Kd.R_far (p := ⟨gb388, 2, none⟩) (Kd.R_far (p := ⟨gb388, 1, none⟩) (Kd.R_far (p := ⟨gb388, 0, none⟩) (Kd.R_types HO363.out BK388.out (by decide)) (fun _ hk => hk.2) (.slice Ao22 t377.length co22)) (fun _ hk => hk.2) (.int .i64 t380)) (fun _ hk => hk.2) (.slice Ao26 t381.length co26)) (fun _ hk => hk.2) (.slice Ao27 t384.length co27)) (fun _ h_ => h_.1))) hb); have n2_ := Aside0.mk (Kd.R_below (by refine qR_ ?_; exact (Kd.R_mono (Kd.R_far (p := ⟨gb388, 3, none⟩) (Kd.R_far (p := ⟨gb388, 2, none⟩) (Kd.R_far (p := ⟨gb388, 1, none⟩) (Kd.R_far (p := ⟨gb388, 0, none⟩) (Kd.R_types HO367.out BK388.out (by decide)) (fun _ hk => hk.2) (.slice Ao22 t377.length co22)) (fun _ hk => hk.2) (.int .i64 t380)) (fun _ hk => hk.2) (.slice Ao26 t381.length co26)) (fun _ hk => hk.2) (.slice Ao27 t384.length co27)) (fun _ h_ => h_.1))) hb); have n3_ := Aside0.mk (Kd.R_below (by refine qR_ ?_; exact (Kd.R_mono (Kd.R_far (p := ⟨gb388, 3, none⟩) (Kd.R_far (p := ⟨gb388, 2, none⟩) (Kd.R_far (p := ⟨gb388, 1, none⟩) (Kd.R_far (p := ⟨gb388, 0, none⟩) (Kd.R_types HO371.out BK388.out (by decide)) (fun _ hk => hk.2) (.slice Ao22 t377.length co22)) (fun _ hk => hk.2) (.int .i64 t380)) (fun _ hk => hk.2) (.slice Ao26 t381.length co26)) (fun _ hk => hk.2) (.slice Ao27 t384.length co27)) (fun _ h_ => h_.1))) hb); have n4_ := Aside0.mk (Kd.S_below (by refine qS_ ?_; exact (Kd.S_mono (Kd.S_far (p := ⟨gb388, 3, none⟩) (Kd.S_far (p := ⟨gb388, 2, none⟩) (Kd.S_far (p := ⟨gb388, 1, none⟩) (Kd.S_far (p := ⟨gb388, 0, none⟩) (Kd.S_types HO374.out BK388.out (by decide)) (fun _ hk => hk.2) (.slice Ao22 t377.length co22)) (fun _ hk => hk.2) (.int .i64 t380)) (fun _ hk => hk.2) (.slice Ao26 t381.length co26)) (fun _ hk => hk.2) (.slice Ao27 t384.length co27)) (fun _ h_ => h_.1))) hb); have n5_ := Aside0.mk (Kd.R_below (by refine qR_ ?_; exact (Kd.R_mono (Kd.R_far (p := ⟨gb388, 3, none⟩) (Kd.R_far (p := ⟨gb388, 2, none⟩) (Kd.R_far (p := ⟨gb388, 1, none⟩) (Kd.R_far (p := ⟨gb388, 0, none⟩) (Kd.R_types HO379.out BK388.out (by decide)) (fun _ hk => hk.2) (.slice Ao22 t377.length co22)) (fun _ hk => hk.2) (.int .i64 t380)) (fun _ hk => hk.2) (.slice Ao26 t381.length co26)) (fun _ hk => hk.2) (.slice Ao27 t384.length co27)) (fun _ h_ => h_.1))) hb); have n6_ := Aside0.mk (Kd.R_below (by refine qR_ ?_; exact (Kd.R_mono (Kd.R_far (p := ⟨gb388, 3, none⟩) (Kd.R_far (p := ⟨gb388, 2, none⟩) (Kd.R_far (p := ⟨gb388, 1, none⟩) (Kd.R_far (p := ⟨gb388, 0, none⟩) (Kd.R_types HO383.out BK388.out (by decide)) (fun _ hk => hk.2) (.slice Ao22 t377.length co22)) (fun _ hk => hk.2) (.int .i64 t380)) (fun _ hk => hk.2) (.slice Ao26 t381.length co26)) (fun _ hk => hk.2) (.slice Ao27 t384.length co27)) (fun _ h_ => h_.1))) hb); have n7_ := Aside0.mk (Kd.S_below (by refine qS_ ?_; exact (Kd.S_mono (Kd.S_far (p := ⟨gb388, 3, none⟩) (Kd.S_far (p := ⟨gb388, 2, none⟩) (Kd.S_far (p := ⟨gb388, 1, none⟩) (Kd.S_far (p := ⟨gb388, 0, none⟩) (Kd.S_types HO386.out BK388.out (by decide)) (fun _ hk => hk.2) (.slice Ao22 t377.length co22)) (fun _ hk => hk.2) (.int .i64 t380)) (fun _ hk => hk.2) (.slice Ao26 t381.length co26)) (fun _ hk => hk.2) (.slice Ao27 t384.length co27)) (fun _ h_ => h_.1))) hb); have n8_ := Aside0.mk (blk_below (g := gb364) (o := .cells #[.slice Ao9 t357.length co9, .int .i64 t360, .slice Ao11 t361.length co11] 27 (0, 0)) (tk_ BK364.out) hb); have n9_ := Aside0.mk (blk_below (g := gb376) (o := .cells #[.slice Ao14 t365.length co14, .int .i64 t368, .slice Ao17 t369.length co17, .slice Ao18 t372.length co18] 37 (0, 0)) (tk_ BK376.out) hb); have n10_ := Aside0.mk (blk_below (g := gb388) (o := .cells #[.slice Ao22 t377.length co22, .int .i64 t380, .slice Ao26 t381.length co26, .slice Ao27 t384.length co27] 37 (0, 0)) (by refine bq_ ?_; refine blk_put (cs := #[.slice Ao22 t377.length co22, .int .i64 t380, .slice Ao26 t381.length co26, .slice none 0 0]) ?_ 3 _ rfl; refine bq_ ?_; refine blk_put (cs := #[.slice Ao22 t377.length co22, .int .i64 t380, .slice none 0 0, .slice none 0 0]) ?_ 2 _ rfl; refine bq_ ?_; refine blk_put (cs := #[.slice Ao22 t377.length co22, .int .i64 0, .slice none 0 0, .slice none 0 0]) ?_ 1 _ rfl; refine bq_ ?_; refine blk_put (cs := #[.slice none 0 0, .int .i64 0, .slice none 0 0, .slice none 0 0]) ?_ 0 _ rfl; exact tk_ BK388.out) hb); have n11_ := Aside0.mk (below_step (tb_ HB.out) hb); clear HO359 HO363 HO367 HO371 HO374 HO379 HO383 HO386 BK364 BK376 BK388 HB; have HO359 := n0_; have HO363 := n1_; have HO367 := n2_; have HO371 := n3_; have HO374 := n4_; have HO379 := n5_; have HO383 := n6_; have HO386 := n7_; have BK364 := n8_; have BK376 := n9_; have BK388 := n10_; have HB := n11_; clear n0_ n1_ n2_ n3_ n4_ n5_ n6_ n7_ n8_ n9_ n10_ n11_; (try clear hb); (try clear hb2); (try clear hk); (try clear hi)))
    go_meet
    case rel => exact ⟨_, ((t375 != t387)), tx_, H', ⟨by first | omega | exact Nat.le_refl _⟩, ⟨by refine qR_ ?_; exact Kd.R_mono HO359.out (fun _ hk => ⟨hk.1.1.1.1, ⟨hk.1.1.1.2, ⟨hk.1.1.2, ⟨hk.1.2, hk.2⟩⟩⟩⟩)⟩, ⟨by refine qR_ ?_; exact Kd.R_mono HO363.out (fun _ hk => ⟨hk.1.1.1.1, ⟨hk.1.1.1.2, ⟨hk.1.1.2, ⟨hk.1.2, hk.2⟩⟩⟩⟩)⟩, ⟨by refine qR_ ?_; exact Kd.R_mono HO367.out (fun _ hk => ⟨hk.1.1.1.2, ⟨hk.1.1.2, ⟨hk.1.1.1.1, ⟨hk.1.2, hk.2⟩⟩⟩⟩)⟩, ⟨by refine qR_ ?_; exact Kd.R_mono HO371.out (fun _ hk => ⟨hk.1.1.1.2, ⟨hk.1.1.2, ⟨hk.1.1.1.1, ⟨hk.1.2, hk.2⟩⟩⟩⟩)⟩, ⟨by refine qS_ ?_; exact Kd.S_mono HO374.out (fun _ hk => ⟨hk.1.1.1.1.1.2, ⟨hk.1.1.1.1.2, ⟨hk.1.1.1.1.1.1.1, ⟨hk.1.1.1.1.1.1.2, ⟨hk.1.1.2, ⟨hk.1.2, ⟨hk.2, hk.1.1.1.2⟩⟩⟩⟩⟩⟩⟩)⟩, ⟨by refine qR_ ?_; exact Kd.R_mono HO379.out (fun _ hk => ⟨hk.1.1.1.2, ⟨hk.1.1.2, ⟨hk.1.2, ⟨hk.2, hk.1.1.1.1⟩⟩⟩⟩)⟩, ⟨by refine qR_ ?_; exact Kd.R_mono HO383.out (fun _ hk => ⟨hk.1.1.1.2, ⟨hk.1.1.2, ⟨hk.1.2, ⟨hk.2, hk.1.1.1.1⟩⟩⟩⟩)⟩, ⟨by refine qS_ ?_; exact Kd.S_mono HO386.out (fun _ hk => ⟨hk.1.1.1.1.1.2, ⟨hk.1.1.1.1.2, ⟨hk.1.1.1.2, ⟨hk.1.1.2, ⟨hk.1.2, ⟨hk.1.1.1.1.1.1.1, ⟨hk.1.1.1.1.1.1.2, hk.2⟩⟩⟩⟩⟩⟩⟩)⟩, ⟨tk_ BK364.out⟩, ⟨tk_ BK376.out⟩, ⟨tk_ BK388.out⟩, ⟨(tb_ HB.out)⟩⟩
   ·
    replace c29 := Bool.eq_false_iff.mpr c29
    subst c29
    have H1 : (laws_FnDeskNew.j0 k t375 true t357 t360 t361 t365 t368 t369 t372) = some r := by rw [if_neg (show ¬ (false = true) by decide)] at H; exact H
    clear H
    have H := H1
    clear H1
    have H' := Aside0.mk H
    clear H
    have hnb36 := NB376_364.out
    have hnc36 := NB364_376.out
    have hnb37 := NB376_388.out
    have hnc37 := NB388_376.out
    have hcz38_0 : w21.cell? ⟨gb376, 0, none⟩ = some (.slice Ao14 t365.length co14) := (blk_cell BK376.out 0).trans rfl
    have hcz38_1 : w21.cell? ⟨gb376, 1, none⟩ = some (.int .i64 t368) := (blk_cell BK376.out 1).trans rfl
    have hcz38_2 : w21.cell? ⟨gb376, 2, none⟩ = some (.slice Ao17 t369.length co17) := (blk_cell BK376.out 2).trans rfl
    have hcz38_3 : w21.cell? ⟨gb376, 3, none⟩ = some (.slice Ao18 t372.length co18) := (blk_cell BK376.out 3).trans rfl
    have hfz38_0 := blk_frozen BK376.out 0
    have hfz38_1 := blk_frozen BK376.out 1
    have hfz38_2 := blk_frozen BK376.out 2
    have hfz38_3 := blk_frozen BK376.out 3
    have hnb39 := NB388_364.out
    have hnc39 := NB364_388.out
    have hcz40_0 : w21.cell? ⟨gb388, 0, none⟩ = some (.slice none 0 0) := (blk_cell BK388.out 0).trans rfl
    have hcz40_1 : w21.cell? ⟨gb388, 1, none⟩ = some (.int .i64 0) := (blk_cell BK388.out 1).trans rfl
    have hcz40_2 : w21.cell? ⟨gb388, 2, none⟩ = some (.slice none 0 0) := (blk_cell BK388.out 2).trans rfl
    have hcz40_3 : w21.cell? ⟨gb388, 3, none⟩ = some (.slice none 0 0) := (blk_cell BK388.out 3).trans rfl
    have hfz40_0 := blk_frozen BK388.out 0
    have hfz40_1 := blk_frozen BK388.out 1
    have hfz40_2 := blk_frozen BK388.out 2
    have hfz40_3 := blk_frozen BK388.out 3
    go_wp2_with (first | ((with_reducible refine gate_callee (f := 19) rfl ?_); refine goesL_ (some 25) rfl rfl Try.func19 (by kernel_rfl) rfl #[.agg #[.slice Ao14 t365.length co14, .int .i64 t368, .slice Ao17 t369.length co17, .slice Ao18 t372.length co18], .agg #[.slice Ao22 t377.length co22, .int .i64 t380, .slice Ao26 t381.length co26, .slice Ao27 t384.length co27]] rfl tz_ ?_; (with_reducible refine (laws_sameDesk.calls k _ _ t365 t368 _ _ t369 _ _ t372 _ _ t377 t380 _ _ t381 _ _ t384 false _ ?side1 ?side2 ?side3 ?side4 ?side5 ?side6 ?side7 ?side8 ?side9 ?side10 ?side11 ?side12 A28.out).mono ?_); (case side1 => refine (Kd.R_reads' (e := 3) (base := w.heap.size) (ok := fun k_ => ((((some k_ ≠ (.slice Ao17 t369.length co17 : Value).ownBlock ∧ some k_ ≠ (.slice Ao9 t357.length co9 : Value).ownBlock) ∧ some k_ ≠ (.slice Ao11 t361.length co11 : Value).ownBlock) ∧ some k_ ≠ (.slice Ao22 t377.length co22 : Value).ownBlock) ∧ some k_ ≠ (.slice Ao26 t381.length co26 : Value).ownBlock)) (n := t365.length) (c := co14) ?_).2.2; exact (by refine qR_ ?_; exact (Kd.R_mono (Kd.R_far (p := ⟨gb388, 3, none⟩) (Kd.R_far (p := ⟨gb388, 2, none⟩) (Kd.R_far (p := ⟨gb388, 1, none⟩) (Kd.R_far (p := ⟨gb388, 0, none⟩) (Kd.R_types HO367.out BK388.out (by decide)) (fun _ hk => hk.2) (.slice Ao22 t377.length co22)) (fun _ hk => hk.2) (.int .i64 t380)) (fun _ hk => hk.2) (.slice Ao26 t381.length co26)) (fun _ hk => hk.2) (.slice Ao27 t384.length co27)) (fun _ h_ => h_.1)))); (case side2 => exact (Kd.R_reads' HO367.out).2.1); (case side3 => refine (Kd.R_reads' (e := 3) (base := w.heap.size) (ok := fun k_ => ((((some k_ ≠ (.slice Ao14 t365.length co14 : Value).ownBlock ∧ some k_ ≠ (.slice Ao9 t357.length co9 : Value).ownBlock) ∧ some k_ ≠ (.slice Ao11 t361.length co11 : Value).ownBlock) ∧ some k_ ≠ (.slice Ao22 t377.length co22 : Value).ownBlock) ∧ some k_ ≠ (.slice Ao26 t381.length co26 : Value).ownBlock)) (n := t369.length) (c := co17) ?_).2.2; exact (by refine qR_ ?_; exact (Kd.R_mono (Kd.R_far (p := ⟨gb388, 3, none⟩) (Kd.R_far (p := ⟨gb388, 2, none⟩) (Kd.R_far (p := ⟨gb388, 1, none⟩) (Kd.R_far (p := ⟨gb388, 0, none⟩) (Kd.R_types HO371.out BK388.out (by decide)) (fun _ hk => hk.2) (.slice Ao22 t377.length co22)) (fun _ hk => hk.2) (.int .i64 t380)) (fun _ hk => hk.2) (.slice Ao26 t381.length co26)) (fun _ hk => hk.2) (.slice Ao27 t384.length co27)) (fun _ h_ => h_.1)))); (case side4 => exact (Kd.R_reads' HO371.out).2.1); (case side5 => refine (Kd.S_reads' (e := 27) (base := w.heap.size) (ok := fun k_ => (((((((some k_ ≠ (.slice Ao14 t365.length co14 : Value).ownBlock ∧ some k_ ≠ (.slice Ao17 t369.length co17 : Value).ownBlock) ∧ some k_ ≠ (.slice Ao9 t357.length co9 : Value).ownBlock) ∧ some k_ ≠ (.slice Ao11 t361.length co11 : Value).ownBlock) ∧ k_ ≠ gb364) ∧ some k_ ≠ (.slice Ao22 t377.length co22 : Value).ownBlock) ∧ some k_ ≠ (.slice Ao26 t381.length co26 : Value).ownBlock) ∧ some k_ ≠ (.slice Ao27 t384.length co27 : Value).ownBlock)) (n := t372.length) (c := co18) ?_).2.2; exact (by refine qS_ ?_; exact (Kd.S_mono (Kd.S_far (p := ⟨gb388, 3, none⟩) (Kd.S_far (p := ⟨gb388, 2, none⟩) (Kd.S_far (p := ⟨gb388, 1, none⟩) (Kd.S_far (p := ⟨gb388, 0, none⟩) (Kd.S_types HO374.out BK388.out (by decide)) (fun _ hk => hk.2) (.slice Ao22 t377.length co22)) (fun _ hk => hk.2) (.int .i64 t380)) (fun _ hk => hk.2) (.slice Ao26 t381.length co26)) (fun _ hk => hk.2) (.slice Ao27 t384.length co27)) (fun _ h_ => h_.1)))); (case side6 => exact (Kd.S_reads' HO374.out).2.1); (case side7 => refine (Kd.R_reads' (e := 3) (base := w.heap.size) (ok := fun k_ => ((((some k_ ≠ (.slice Ao26 t381.length co26 : Value).ownBlock ∧ some k_ ≠ (.slice Ao9 t357.length co9 : Value).ownBlock) ∧ some k_ ≠ (.slice Ao11 t361.length co11 : Value).ownBlock) ∧ some k_ ≠ (.slice Ao14 t365.length co14 : Value).ownBlock) ∧ some k_ ≠ (.slice Ao17 t369.length co17 : Value).ownBlock)) (n := t377.length) (c := co22) ?_).2.2; exact (by refine qR_ ?_; exact (Kd.R_mono (Kd.R_far (p := ⟨gb388, 3, none⟩) (Kd.R_far (p := ⟨gb388, 2, none⟩) (Kd.R_far (p := ⟨gb388, 1, none⟩) (Kd.R_far (p := ⟨gb388, 0, none⟩) (Kd.R_types HO379.out BK388.out (by decide)) (fun _ hk => hk.2) (.slice Ao22 t377.length co22)) (fun _ hk => hk.2) (.int .i64 t380)) (fun _ hk => hk.2) (.slice Ao26 t381.length co26)) (fun _ hk => hk.2) (.slice Ao27 t384.length co27)) (fun _ h_ => h_.1)))); (case side8 => exact (Kd.R_reads' HO379.out).2.1); (case side9 => refine (Kd.R_reads' (e := 3) (base := w.heap.size) (ok := fun k_ => ((((some k_ ≠ (.slice Ao22 t377.length co22 : Value).ownBlock ∧ some k_ ≠ (.slice Ao9 t357.length co9 : Value).ownBlock) ∧ some k_ ≠ (.slice Ao11 t361.length co11 : Value).ownBlock) ∧ some k_ ≠ (.slice Ao14 t365.length co14 : Value).ownBlock) ∧ some k_ ≠ (.slice Ao17 t369.length co17 : Value).ownBlock)) (n := t381.length) (c := co26) ?_).2.2; exact (by refine qR_ ?_; exact (Kd.R_mono (Kd.R_far (p := ⟨gb388, 3, none⟩) (Kd.R_far (p := ⟨gb388, 2, none⟩) (Kd.R_far (p := ⟨gb388, 1, none⟩) (Kd.R_far (p := ⟨gb388, 0, none⟩) (Kd.R_types HO383.out BK388.out (by decide)) (fun _ hk => hk.2) (.slice Ao22 t377.length co22)) (fun _ hk => hk.2) (.int .i64 t380)) (fun _ hk => hk.2) (.slice Ao26 t381.length co26)) (fun _ hk => hk.2) (.slice Ao27 t384.length co27)) (fun _ h_ => h_.1)))); (case side10 => exact (Kd.R_reads' HO383.out).2.1); (case side11 => refine (Kd.S_reads' (e := 27) (base := w.heap.size) (ok := fun k_ => (((((((some k_ ≠ (.slice Ao22 t377.length co22 : Value).ownBlock ∧ some k_ ≠ (.slice Ao26 t381.length co26 : Value).ownBlock) ∧ some k_ ≠ (.slice Ao9 t357.length co9 : Value).ownBlock) ∧ some k_ ≠ (.slice Ao11 t361.length co11 : Value).ownBlock) ∧ some k_ ≠ (.slice Ao14 t365.length co14 : Value).ownBlock) ∧ some k_ ≠ (.slice Ao17 t369.length co17 : Value).ownBlock) ∧ some k_ ≠ (.slice Ao18 t372.length co18 : Value).ownBlock) ∧ k_ ≠ gb364)) (n := t384.length) (c := co27) ?_).2.2; exact (by refine qS_ ?_; exact (Kd.S_mono (Kd.S_far (p := ⟨gb388, 3, none⟩) (Kd.S_far (p := ⟨gb388, 2, none⟩) (Kd.S_far (p := ⟨gb388, 1, none⟩) (Kd.S_far (p := ⟨gb388, 0, none⟩) (Kd.S_types HO386.out BK388.out (by decide)) (fun _ hk => hk.2) (.slice Ao22 t377.length co22)) (fun _ hk => hk.2) (.int .i64 t380)) (fun _ hk => hk.2) (.slice Ao26 t381.length co26)) (fun _ hk => hk.2) (.slice Ao27 t384.length co27)) (fun _ h_ => h_.1)))); (case side12 => exact (Kd.S_reads' HO386.out).2.1); rintro e w41 ⟨rfl, hb⟩; refine ⟨_, rfl, ?_⟩; have n0_ := Aside0.mk (Kd.R_below (by refine qR_ ?_; exact (Kd.R_mono (Kd.R_far (p := ⟨gb388, 3, none⟩) (Kd.R_far (p := ⟨gb388, 2, none⟩) (Kd.R_far (p := ⟨gb388, 1, none⟩) (Kd.R_far (p := ⟨gb388, 0, none⟩) (Kd.R_types HO359.out BK388.out (by decide)) (fun _ hk => hk.2) (.slice Ao22 t377.length co22)) (fun _ hk => hk.2) (.int .i64 t380)) (fun _ hk => hk.2) (.slice Ao26 t381.length co26)) (fun _ hk => hk.2) (.slice Ao27 t384.length co27)) (fun _ h_ => h_.1))) hb); have n1_ := Aside0.mk (Kd.R_below (by refine qR_ ?_; exact (Kd.R_mono (Kd.R_far (p := ⟨gb388, 3, none⟩) (Kd.R_far (p := ⟨gb388, 2, none⟩) (Kd.R_far (p := ⟨gb388, 1, none⟩) (Kd.R_far (p := ⟨gb388, 0, none⟩) (Kd.R_types HO363.out BK388.out (by decide)) (fun _ hk => hk.2) (.slice Ao22 t377.length co22)) (fun _ hk => hk.2) (.int .i64 t380)) (fun _ hk => hk.2) (.slice Ao26 t381.length co26)) (fun _ hk => hk.2) (.slice Ao27 t384.length co27)) (fun _ h_ => h_.1))) hb); have n2_ := Aside0.mk (Kd.R_below (by refine qR_ ?_; exact (Kd.R_mono (Kd.R_far (p := ⟨gb388, 3, none⟩) (Kd.R_far (p := ⟨gb388, 2, none⟩) (Kd.R_far (p := ⟨gb388, 1, none⟩) (Kd.R_far (p := ⟨gb388, 0, none⟩) (Kd.R_types HO367.out BK388.out (by decide)) (fun _ hk => hk.2) (.slice Ao22 t377.length co22)) (fun _ hk => hk.2) (.int .i64 t380)) (fun _ hk => hk.2) (.slice Ao26 t381.length co26)) (fun _ hk => hk.2) (.slice Ao27 t384.length co27)) (fun _ h_ => h_.1))) hb); have n3_ := Aside0.mk (Kd.R_below (by refine qR_ ?_; exact (Kd.R_mono (Kd.R_far (p := ⟨gb388, 3, none⟩) (Kd.R_far (p := ⟨gb388, 2, none⟩) (Kd.R_far (p := ⟨gb388, 1, none⟩) (Kd.R_far (p := ⟨gb388, 0, none⟩) (Kd.R_types HO371.out BK388.out (by decide)) (fun _ hk => hk.2) (.slice Ao22 t377.length co22)) (fun _ hk => hk.2) (.int .i64 t380)) (fun _ hk => hk.2) (.slice Ao26 t381.length co26)) (fun _ hk => hk.2) (.slice Ao27 t384.length co27)) (fun _ h_ => h_.1))) hb); have n4_ := Aside0.mk (Kd.S_below (by refine qS_ ?_; exact (Kd.S_mono (Kd.S_far (p := ⟨gb388, 3, none⟩) (Kd.S_far (p := ⟨gb388, 2, none⟩) (Kd.S_far (p := ⟨gb388, 1, none⟩) (Kd.S_far (p := ⟨gb388, 0, none⟩) (Kd.S_types HO374.out BK388.out (by decide)) (fun _ hk => hk.2) (.slice Ao22 t377.length co22)) (fun _ hk => hk.2) (.int .i64 t380)) (fun _ hk => hk.2) (.slice Ao26 t381.length co26)) (fun _ hk => hk.2) (.slice Ao27 t384.length co27)) (fun _ h_ => h_.1))) hb); have n5_ := Aside0.mk (Kd.R_below (by refine qR_ ?_; exact (Kd.R_mono (Kd.R_far (p := ⟨gb388, 3, none⟩) (Kd.R_far (p := ⟨gb388, 2, none⟩) (Kd.R_far (p := ⟨gb388, 1, none⟩) (Kd.R_far (p := ⟨gb388, 0, none⟩) (Kd.R_types HO379.out BK388.out (by decide)) (fun _ hk => hk.2) (.slice Ao22 t377.length co22)) (fun _ hk => hk.2) (.int .i64 t380)) (fun _ hk => hk.2) (.slice Ao26 t381.length co26)) (fun _ hk => hk.2) (.slice Ao27 t384.length co27)) (fun _ h_ => h_.1))) hb); have n6_ := Aside0.mk (Kd.R_below (by refine qR_ ?_; exact (Kd.R_mono (Kd.R_far (p := ⟨gb388, 3, none⟩) (Kd.R_far (p := ⟨gb388, 2, none⟩) (Kd.R_far (p := ⟨gb388, 1, none⟩) (Kd.R_far (p := ⟨gb388, 0, none⟩) (Kd.R_types HO383.out BK388.out (by decide)) (fun _ hk => hk.2) (.slice Ao22 t377.length co22)) (fun _ hk => hk.2) (.int .i64 t380)) (fun _ hk => hk.2) (.slice Ao26 t381.length co26)) (fun _ hk => hk.2) (.slice Ao27 t384.length co27)) (fun _ h_ => h_.1))) hb); have n7_ := Aside0.mk (Kd.S_below (by refine qS_ ?_; exact (Kd.S_mono (Kd.S_far (p := ⟨gb388, 3, none⟩) (Kd.S_far (p := ⟨gb388, 2, none⟩) (Kd.S_far (p := ⟨gb388, 1, none⟩) (Kd.S_far (p := ⟨gb388, 0, none⟩) (Kd.S_types HO386.out BK388.out (by decide)) (fun _ hk => hk.2) (.slice Ao22 t377.length co22)) (fun _ hk => hk.2) (.int .i64 t380)) (fun _ hk => hk.2) (.slice Ao26 t381.length co26)) (fun _ hk => hk.2) (.slice Ao27 t384.length co27)) (fun _ h_ => h_.1))) hb); have n8_ := Aside0.mk (blk_below (g := gb364) (o := .cells #[.slice Ao9 t357.length co9, .int .i64 t360, .slice Ao11 t361.length co11] 27 (0, 0)) (tk_ BK364.out) hb); have n9_ := Aside0.mk (blk_below (g := gb376) (o := .cells #[.slice Ao14 t365.length co14, .int .i64 t368, .slice Ao17 t369.length co17, .slice Ao18 t372.length co18] 37 (0, 0)) (tk_ BK376.out) hb); have n10_ := Aside0.mk (blk_below (g := gb388) (o := .cells #[.slice Ao22 t377.length co22, .int .i64 t380, .slice Ao26 t381.length co26, .slice Ao27 t384.length co27] 37 (0, 0)) (by refine bq_ ?_; refine blk_put (cs := #[.slice Ao22 t377.length co22, .int .i64 t380, .slice Ao26 t381.length co26, .slice none 0 0]) ?_ 3 _ rfl; refine bq_ ?_; refine blk_put (cs := #[.slice Ao22 t377.length co22, .int .i64 t380, .slice none 0 0, .slice none 0 0]) ?_ 2 _ rfl; refine bq_ ?_; refine blk_put (cs := #[.slice Ao22 t377.length co22, .int .i64 0, .slice none 0 0, .slice none 0 0]) ?_ 1 _ rfl; refine bq_ ?_; refine blk_put (cs := #[.slice none 0 0, .int .i64 0, .slice none 0 0, .slice none 0 0]) ?_ 0 _ rfl; exact tk_ BK388.out) hb); have n11_ := Aside0.mk (below_step (tb_ HB.out) hb); clear HO359 HO363 HO367 HO371 HO374 HO379 HO383 HO386 BK364 BK376 BK388 HB; have HO359 := n0_; have HO363 := n1_; have HO367 := n2_; have HO371 := n3_; have HO374 := n4_; have HO379 := n5_; have HO383 := n6_; have HO386 := n7_; have BK364 := n8_; have BK376 := n9_; have BK388 := n10_; have HB := n11_; clear n0_ n1_ n2_ n3_ n4_ n5_ n6_ n7_ n8_ n9_ n10_ n11_; (try clear hb); (try clear hb2); (try clear hk); (try clear hi)))
    go_meet
    case rel => exact ⟨_, (true), tx_, H', ⟨by first | omega | exact Nat.le_refl _⟩, ⟨by refine qR_ ?_; exact Kd.R_mono HO359.out (fun _ hk => ⟨hk.1.1.1.1, ⟨hk.1.1.1.2, ⟨hk.1.1.2, ⟨hk.1.2, hk.2⟩⟩⟩⟩)⟩, ⟨by refine qR_ ?_; exact Kd.R_mono HO363.out (fun _ hk => ⟨hk.1.1.1.1, ⟨hk.1.1.1.2, ⟨hk.1.1.2, ⟨hk.1.2, hk.2⟩⟩⟩⟩)⟩, ⟨by refine qR_ ?_; exact Kd.R_mono HO367.out (fun _ hk => ⟨hk.1.1.1.2, ⟨hk.1.1.2, ⟨hk.1.1.1.1, ⟨hk.1.2, hk.2⟩⟩⟩⟩)⟩, ⟨by refine qR_ ?_; exact Kd.R_mono HO371.out (fun _ hk => ⟨hk.1.1.1.2, ⟨hk.1.1.2, ⟨hk.1.1.1.1, ⟨hk.1.2, hk.2⟩⟩⟩⟩)⟩, ⟨by refine qS_ ?_; exact Kd.S_mono HO374.out (fun _ hk => ⟨hk.1.1.1.1.1.2, ⟨hk.1.1.1.1.2, ⟨hk.1.1.1.1.1.1.1, ⟨hk.1.1.1.1.1.1.2, ⟨hk.1.1.2, ⟨hk.1.2, ⟨hk.2, hk.1.1.1.2⟩⟩⟩⟩⟩⟩⟩)⟩, ⟨by refine qR_ ?_; exact Kd.R_mono HO379.out (fun _ hk => ⟨hk.1.1.1.2, ⟨hk.1.1.2, ⟨hk.1.2, ⟨hk.2, hk.1.1.1.1⟩⟩⟩⟩)⟩, ⟨by refine qR_ ?_; exact Kd.R_mono HO383.out (fun _ hk => ⟨hk.1.1.1.2, ⟨hk.1.1.2, ⟨hk.1.2, ⟨hk.2, hk.1.1.1.1⟩⟩⟩⟩)⟩, ⟨by refine qS_ ?_; exact Kd.S_mono HO386.out (fun _ hk => ⟨hk.1.1.1.1.1.2, ⟨hk.1.1.1.1.2, ⟨hk.1.1.1.2, ⟨hk.1.1.2, ⟨hk.1.2, ⟨hk.1.1.1.1.1.1.1, ⟨hk.1.1.1.1.1.1.2, hk.2⟩⟩⟩⟩⟩⟩⟩)⟩, ⟨tk_ BK364.out⟩, ⟨tk_ BK376.out⟩, ⟨tk_ BK388.out⟩, ⟨(tb_ HB.out)⟩⟩
  case rest =>
   clear HC6
   try clear c1
   try clear c2
   try clear c2b0
   try clear c2b1
   try clear p2
   try clear c3
   try clear c5
   try clear c15
   try clear c16
   try clear c17
   try clear c18
   try clear c19
   try clear c23
   try clear c24
   try clear c29
   try clear c30
   try clear c31
   try clear c33
   try clear c36
   try clear c37
   try clear c39
   try clear hcz10_0
   try clear hcz10_1
   try clear hcz10_2
   try clear hcz16_0
   try clear hcz16_1
   try clear hcz16_2
   try clear hcz16_3
   try clear hcz19_0
   try clear hcz19_1
   try clear hcz19_2
   try clear hcz25_0
   try clear hcz25_1
   try clear hcz25_2
   try clear hcz25_3
   try clear hcz32_0
   try clear hcz32_1
   try clear hcz32_2
   try clear hcz32_3
   try clear hcz34_0
   try clear hcz34_1
   try clear hcz34_2
   try clear hcz34_3
   try clear hcz38_0
   try clear hcz38_1
   try clear hcz38_2
   try clear hcz38_3
   try clear hcz40_0
   try clear hcz40_1
   try clear hcz40_2
   try clear hcz40_3
   try clear hfz10_0
   try clear hfz10_1
   try clear hfz10_2
   try clear hfz16_0
   try clear hfz16_1
   try clear hfz16_2
   try clear hfz16_3
   try clear hfz19_0
   try clear hfz19_1
   try clear hfz19_2
   try clear hfz25_0
   try clear hfz25_1
   try clear hfz25_2
   try clear hfz25_3
   try clear hfz32_0
   try clear hfz32_1
   try clear hfz32_2
   try clear hfz32_3
   try clear hfz34_0
   try clear hfz34_1
   try clear hfz34_2
   try clear hfz34_3
   try clear hfz38_0
   try clear hfz38_1
   try clear hfz38_2
   try clear hfz38_3
   try clear hfz40_0
   try clear hfz40_1
   try clear hfz40_2
   try clear hfz40_3
   obtain ⟨kq, x31_5, rfl, HA, HJ5, HO_365000, HO_365002, HO_377000, HO_377002, HO_377003, HO_389000, HO_389002, HO_389003, BK364, BK376, BK388, HB⟩ := hcut
   cases kq with
   | zero => exact absurd HA.out (by simp [laws_FnDeskNew.j0])
   | succ kj5 =>
    have H := HA.out
    clear HA
    simp only [laws_FnDeskNew.j0] at H
    by_cases c42 : x31_5 = true
    ·
     subst c42
     have H1 : (some false) = some r := by rw [if_pos rfl] at H; exact H
     clear H
     have H := H1
     clear H1
     obtain rfl := Option.some.inj H
     go_wp2
     go_ret
     exact ⟨by first | rfl | (simp [errW_none, errW_some] <;> rfl) | (simp [*, errW_none, errW_some] <;> rfl), (tb_ HB.out)⟩
    ·
     replace c42 := Bool.eq_false_iff.mpr c42
     subst c42
     have H1 : (if t375 = true then ((impl_DeskOk.f kj5 t365 t368 t369 t372).bind fun t390 => (if t390 = true then ((laws_samePlace.f kj5 t365 t368 t369 t357 t360 t361).bind fun t391 => (if t391 = true then (some ((t372.length : Int) == 0)) else (some false))) else (some false))) else ((laws_noDesk.f kj5 t365 t368 t369 t372).bind fun t392 => (if t392 = true then ((impl_PlaceOk.f kj5 t357 t360 t361).bind fun t393 => (if t393 = true then (some false) else ((laws_alive.f kj5).bind fun t394 => (some t394)))) else (some false)))) = some r := by rw [if_neg (show ¬ (false = true) by decide)] at H; exact H
     clear H
     have H := H1
     clear H1
     by_cases c43 : t375 = true
     ·
      subst c43
      have H1 : ((impl_DeskOk.f kj5 t365 t368 t369 t372).bind fun t390 => (if t390 = true then ((laws_samePlace.f kj5 t365 t368 t369 t357 t360 t361).bind fun t391 => (if t391 = true then (some ((t372.length : Int) == 0)) else (some false))) else (some false))) = some r := by rw [if_pos rfl] at H; exact H
      clear H
      have H := H1
      clear H1
      replace H := Option.bind_eq_some_iff.mp H
      obtain ⟨t390, A440, H⟩ := H
      replace H : (if t390 = true then ((laws_samePlace.f kj5 t365 t368 t369 t357 t360 t361).bind fun t391 => (if t391 = true then (some ((t372.length : Int) == 0)) else (some false))) else (some false)) = some r := H
      have A44 := Aside0.mk A440
      clear A440
      by_cases c45 : t390 = true
      ·
       subst c45
       have H1 : ((laws_samePlace.f kj5 t365 t368 t369 t357 t360 t361).bind fun t391 => (if t391 = true then (some ((t372.length : Int) == 0)) else (some false))) = some r := by rw [if_pos rfl] at H; exact H
       clear H
       have H := H1
       clear H1
       replace H := Option.bind_eq_some_iff.mp H
       obtain ⟨t391, A460, H⟩ := H
       replace H : (if t391 = true then (some ((t372.length : Int) == 0)) else (some false)) = some r := H
       have A46 := Aside0.mk A460
       clear A460
       by_cases c47 : t391 = true
       ·
        subst c47
        have H1 : (some ((t372.length : Int) == 0)) = some r := by rw [if_pos rfl] at H; exact H
        clear H
        have H := H1
        clear H1
        obtain rfl := Option.some.inj H
        have hnb48 := NB376_364.out
        have hnc48 := NB364_376.out
        have hnb49 := NB376_388.out
        have hnc49 := NB388_376.out
        have hcz50_0 : wc.cell? ⟨gb376, 0, none⟩ = some (.slice Ao14 t365.length co14) := (blk_cell BK376.out 0).trans rfl
        have hcz50_1 : wc.cell? ⟨gb376, 1, none⟩ = some (.int .i64 t368) := (blk_cell BK376.out 1).trans rfl
        have hcz50_2 : wc.cell? ⟨gb376, 2, none⟩ = some (.slice Ao17 t369.length co17) := (blk_cell BK376.out 2).trans rfl
        have hcz50_3 : wc.cell? ⟨gb376, 3, none⟩ = some (.slice Ao18 t372.length co18) := (blk_cell BK376.out 3).trans rfl
        have hfz50_0 := blk_frozen BK376.out 0
        have hfz50_1 := blk_frozen BK376.out 1
        have hfz50_2 := blk_frozen BK376.out 2
        have hfz50_3 := blk_frozen BK376.out 3
        go_wp2_with (first | ((with_reducible refine gate_callee (f := 21) rfl ?_); refine goesL_ (some 45) rfl rfl Try.func21 (by kernel_rfl) rfl #[.agg #[.slice Ao14 t365.length co14, .int .i64 t368, .slice Ao17 t369.length co17, .slice Ao18 t372.length co18]] rfl tz_ ?_; (with_reducible refine (impl_DeskOk.calls kj5 _ _ t365 t368 _ _ t369 _ _ t372 true _ ?side1 ?side2 ?side3 ?side4 ?side5 ?side6 A44.out).mono ?_); (case side1 => repeat (first | exact (Kd.R_reads' HO_377000.out).2.2 | (with_reducible refine Kd.C_alloc ?_ _) | (with_reducible refine Kd.C_drewN ?_ _) | (with_reducible refine Kd.C_drew ?_))); (case side2 => exact (Kd.R_reads' HO_377000.out).2.1); (case side3 => repeat (first | exact (Kd.R_reads' HO_377002.out).2.2 | (with_reducible refine Kd.C_alloc ?_ _) | (with_reducible refine Kd.C_drewN ?_ _) | (with_reducible refine Kd.C_drew ?_))); (case side4 => exact (Kd.R_reads' HO_377002.out).2.1); (case side5 => repeat (first | exact (Kd.S_reads' HO_377003.out).2.2 | (with_reducible refine Kd.C_alloc ?_ _) | (with_reducible refine Kd.C_drewN ?_ _) | (with_reducible refine Kd.C_drew ?_))); (case side6 => exact (Kd.S_reads' HO_377003.out).2.1); rintro e w51 ⟨rfl, hb⟩; refine ⟨_, rfl, ?_⟩; have n0_ := Aside0.mk (Kd.R_below (rR_ HO_365000.out) hb); have n1_ := Aside0.mk (Kd.R_below (rR_ HO_365002.out) hb); have n2_ := Aside0.mk (Kd.R_below (rR_ HO_377000.out) hb); have n3_ := Aside0.mk (Kd.R_below (rR_ HO_377002.out) hb); have n4_ := Aside0.mk (Kd.S_below (rS_ HO_377003.out) hb); have n5_ := Aside0.mk (Kd.R_below (rR_ HO_389000.out) hb); have n6_ := Aside0.mk (Kd.R_below (rR_ HO_389002.out) hb); have n7_ := Aside0.mk (Kd.S_below (rS_ HO_389003.out) hb); have n8_ := Aside0.mk (blk_below (g := gb364) (o := .cells #[.slice Ao9 t357.length co9, .int .i64 t360, .slice Ao11 t361.length co11] 27 (0, 0)) (tk_ BK364.out) hb); have n9_ := Aside0.mk (blk_below (g := gb376) (o := .cells #[.slice Ao14 t365.length co14, .int .i64 t368, .slice Ao17 t369.length co17, .slice Ao18 t372.length co18] 37 (0, 0)) (tk_ BK376.out) hb); have n10_ := Aside0.mk (blk_below (g := gb388) (o := .cells #[.slice Ao22 t377.length co22, .int .i64 t380, .slice Ao26 t381.length co26, .slice Ao27 t384.length co27] 37 (0, 0)) (tk_ BK388.out) hb); have n11_ := Aside0.mk (below_step (tb_ HB.out) hb); clear HO_365000 HO_365002 HO_377000 HO_377002 HO_377003 HO_389000 HO_389002 HO_389003 BK364 BK376 BK388 HB; have HO_365000 := n0_; have HO_365002 := n1_; have HO_377000 := n2_; have HO_377002 := n3_; have HO_377003 := n4_; have HO_389000 := n5_; have HO_389002 := n6_; have HO_389003 := n7_; have BK364 := n8_; have BK376 := n9_; have BK388 := n10_; have HB := n11_; clear n0_ n1_ n2_ n3_ n4_ n5_ n6_ n7_ n8_ n9_ n10_ n11_; (try clear hb); (try clear hb2); (try clear hk); (try clear hi); have hcz52_0 : w51.cell? ⟨gb376, 0, none⟩ = some (.slice Ao14 t365.length co14) := (blk_cell BK376.out 0).trans rfl; have hcz52_1 : w51.cell? ⟨gb376, 1, none⟩ = some (.int .i64 t368) := (blk_cell BK376.out 1).trans rfl; have hcz52_2 : w51.cell? ⟨gb376, 2, none⟩ = some (.slice Ao17 t369.length co17) := (blk_cell BK376.out 2).trans rfl; have hcz52_3 : w51.cell? ⟨gb376, 3, none⟩ = some (.slice Ao18 t372.length co18) := (blk_cell BK376.out 3).trans rfl; have hfz52_0 := blk_frozen BK376.out 0; have hfz52_1 := blk_frozen BK376.out 1; have hfz52_2 := blk_frozen BK376.out 2; have hfz52_3 := blk_frozen BK376.out 3; have hnb53 := NB364_388.out; have hnc53 := NB388_364.out; have hcz54_0 : w51.cell? ⟨gb364, 0, none⟩ = some (.slice Ao9 t357.length co9) := (blk_cell BK364.out 0).trans rfl; have hcz54_1 : w51.cell? ⟨gb364, 1, none⟩ = some (.int .i64 t360) := (blk_cell BK364.out 1).trans rfl; have hcz54_2 : w51.cell? ⟨gb364, 2, none⟩ = some (.slice Ao11 t361.length co11) := (blk_cell BK364.out 2).trans rfl; have hfz54_0 := blk_frozen BK364.out 0; have hfz54_1 := blk_frozen BK364.out 1; have hfz54_2 := blk_frozen BK364.out 2) | (go_at_call 22; (with_reducible refine (laws_samePlace.calls kj5 _ _ t365 t368 _ _ t369 _ _ t357 t360 _ _ t361 true _ ?side1 ?side2 ?side3 ?side4 ?side5 ?side6 ?side7 ?side8 A46.out).mono ?_); (case side1 => repeat (first | exact (Kd.R_reads' HO_377000.out).2.2 | (with_reducible refine Kd.C_alloc ?_ _) | (with_reducible refine Kd.C_drewN ?_ _) | (with_reducible refine Kd.C_drew ?_))); (case side2 => exact (Kd.R_reads' HO_377000.out).2.1); (case side3 => repeat (first | exact (Kd.R_reads' HO_377002.out).2.2 | (with_reducible refine Kd.C_alloc ?_ _) | (with_reducible refine Kd.C_drewN ?_ _) | (with_reducible refine Kd.C_drew ?_))); (case side4 => exact (Kd.R_reads' HO_377002.out).2.1); (case side5 => repeat (first | exact (Kd.R_reads' HO_365000.out).2.2 | (with_reducible refine Kd.C_alloc ?_ _) | (with_reducible refine Kd.C_drewN ?_ _) | (with_reducible refine Kd.C_drew ?_))); (case side6 => exact (Kd.R_reads' HO_365000.out).2.1); (case side7 => repeat (first | exact (Kd.R_reads' HO_365002.out).2.2 | (with_reducible refine Kd.C_alloc ?_ _) | (with_reducible refine Kd.C_drewN ?_ _) | (with_reducible refine Kd.C_drew ?_))); (case side8 => exact (Kd.R_reads' HO_365002.out).2.1); rintro e w55 ⟨rfl, hb⟩; have n0_ := Aside0.mk (Kd.R_below (rR_ HO_365000.out) hb); have n1_ := Aside0.mk (Kd.R_below (rR_ HO_365002.out) hb); have n2_ := Aside0.mk (Kd.R_below (rR_ HO_377000.out) hb); have n3_ := Aside0.mk (Kd.R_below (rR_ HO_377002.out) hb); have n4_ := Aside0.mk (Kd.S_below (rS_ HO_377003.out) hb); have n5_ := Aside0.mk (Kd.R_below (rR_ HO_389000.out) hb); have n6_ := Aside0.mk (Kd.R_below (rR_ HO_389002.out) hb); have n7_ := Aside0.mk (Kd.S_below (rS_ HO_389003.out) hb); have n8_ := Aside0.mk (blk_below (g := gb364) (o := .cells #[.slice Ao9 t357.length co9, .int .i64 t360, .slice Ao11 t361.length co11] 27 (0, 0)) (tk_ BK364.out) hb); have n9_ := Aside0.mk (blk_below (g := gb376) (o := .cells #[.slice Ao14 t365.length co14, .int .i64 t368, .slice Ao17 t369.length co17, .slice Ao18 t372.length co18] 37 (0, 0)) (tk_ BK376.out) hb); have n10_ := Aside0.mk (blk_below (g := gb388) (o := .cells #[.slice Ao22 t377.length co22, .int .i64 t380, .slice Ao26 t381.length co26, .slice Ao27 t384.length co27] 37 (0, 0)) (tk_ BK388.out) hb); have n11_ := Aside0.mk (below_step (tb_ HB.out) hb); clear HO_365000 HO_365002 HO_377000 HO_377002 HO_377003 HO_389000 HO_389002 HO_389003 BK364 BK376 BK388 HB; have HO_365000 := n0_; have HO_365002 := n1_; have HO_377000 := n2_; have HO_377002 := n3_; have HO_377003 := n4_; have HO_389000 := n5_; have HO_389002 := n6_; have HO_389003 := n7_; have BK364 := n8_; have BK376 := n9_; have BK388 := n10_; have HB := n11_; clear n0_ n1_ n2_ n3_ n4_ n5_ n6_ n7_ n8_ n9_ n10_ n11_; (try clear hb); (try clear hb2); (try clear hk); (try clear hi); have hcz56_0 : w55.cell? ⟨gb376, 0, none⟩ = some (.slice Ao14 t365.length co14) := (blk_cell BK376.out 0).trans rfl; have hcz56_1 : w55.cell? ⟨gb376, 1, none⟩ = some (.int .i64 t368) := (blk_cell BK376.out 1).trans rfl; have hcz56_2 : w55.cell? ⟨gb376, 2, none⟩ = some (.slice Ao17 t369.length co17) := (blk_cell BK376.out 2).trans rfl; have hcz56_3 : w55.cell? ⟨gb376, 3, none⟩ = some (.slice Ao18 t372.length co18) := (blk_cell BK376.out 3).trans rfl; have hfz56_0 := blk_frozen BK376.out 0; have hfz56_1 := blk_frozen BK376.out 1; have hfz56_2 := blk_frozen BK376.out 2; have hfz56_3 := blk_frozen BK376.out 3))
        go_ret
        exact ⟨by first | rfl | (simp [errW_none, errW_some] <;> rfl) | (simp [*, errW_none, errW_some] <;> rfl), (tb_ HB.out)⟩
       ·
        replace c47 := Bool.eq_false_iff.mpr c47
        subst c47
        have H1 : (some false) = some r := by rw [if_neg (show ¬ (false = true) by decide)] at H; exact H
        clear H
        have H := H1
        clear H1
        obtain rfl := Option.some.inj H
        have hnb57 := NB376_364.out
        have hnc57 := NB364_376.out
        have hnb58 := NB376_388.out
        have hnc58 := NB388_376.out
        have hcz59_0 : wc.cell? ⟨gb376, 0, none⟩ = some (.slice Ao14 t365.length co14) := (blk_cell BK376.out 0).trans rfl
        have hcz59_1 : wc.cell? ⟨gb376, 1, none⟩ = some (.int .i64 t368) := (blk_cell BK376.out 1).trans rfl
        have hcz59_2 : wc.cell? ⟨gb376, 2, none⟩ = some (.slice Ao17 t369.length co17) := (blk_cell BK376.out 2).trans rfl
        have hcz59_3 : wc.cell? ⟨gb376, 3, none⟩ = some (.slice Ao18 t372.length co18) := (blk_cell BK376.out 3).trans rfl
        have hfz59_0 := blk_frozen BK376.out 0
        have hfz59_1 := blk_frozen BK376.out 1
        have hfz59_2 := blk_frozen BK376.out 2
        have hfz59_3 := blk_frozen BK376.out 3
        go_wp2_with (first | ((with_reducible refine gate_callee (f := 21) rfl ?_); refine goesL_ (some 45) rfl rfl Try.func21 (by kernel_rfl) rfl #[.agg #[.slice Ao14 t365.length co14, .int .i64 t368, .slice Ao17 t369.length co17, .slice Ao18 t372.length co18]] rfl tz_ ?_; (with_reducible refine (impl_DeskOk.calls kj5 _ _ t365 t368 _ _ t369 _ _ t372 true _ ?side1 ?side2 ?side3 ?side4 ?side5 ?side6 A44.out).mono ?_); (case side1 => repeat (first | exact (Kd.R_reads' HO_377000.out).2.2 | (with_reducible refine Kd.C_alloc ?_ _) | (with_reducible refine Kd.C_drewN ?_ _) | (with_reducible refine Kd.C_drew ?_))); (case side2 => exact (Kd.R_reads' HO_377000.out).2.1); (case side3 => repeat (first | exact (Kd.R_reads' HO_377002.out).2.2 | (with_reducible refine Kd.C_alloc ?_ _) | (with_reducible refine Kd.C_drewN ?_ _) | (with_reducible refine Kd.C_drew ?_))); (case side4 => exact (Kd.R_reads' HO_377002.out).2.1); (case side5 => repeat (first | exact (Kd.S_reads' HO_377003.out).2.2 | (with_reducible refine Kd.C_alloc ?_ _) | (with_reducible refine Kd.C_drewN ?_ _) | (with_reducible refine Kd.C_drew ?_))); (case side6 => exact (Kd.S_reads' HO_377003.out).2.1); rintro e w60 ⟨rfl, hb⟩; refine ⟨_, rfl, ?_⟩; have n0_ := Aside0.mk (Kd.R_below (rR_ HO_365000.out) hb); have n1_ := Aside0.mk (Kd.R_below (rR_ HO_365002.out) hb); have n2_ := Aside0.mk (Kd.R_below (rR_ HO_377000.out) hb); have n3_ := Aside0.mk (Kd.R_below (rR_ HO_377002.out) hb); have n4_ := Aside0.mk (Kd.S_below (rS_ HO_377003.out) hb); have n5_ := Aside0.mk (Kd.R_below (rR_ HO_389000.out) hb); have n6_ := Aside0.mk (Kd.R_below (rR_ HO_389002.out) hb); have n7_ := Aside0.mk (Kd.S_below (rS_ HO_389003.out) hb); have n8_ := Aside0.mk (blk_below (g := gb364) (o := .cells #[.slice Ao9 t357.length co9, .int .i64 t360, .slice Ao11 t361.length co11] 27 (0, 0)) (tk_ BK364.out) hb); have n9_ := Aside0.mk (blk_below (g := gb376) (o := .cells #[.slice Ao14 t365.length co14, .int .i64 t368, .slice Ao17 t369.length co17, .slice Ao18 t372.length co18] 37 (0, 0)) (tk_ BK376.out) hb); have n10_ := Aside0.mk (blk_below (g := gb388) (o := .cells #[.slice Ao22 t377.length co22, .int .i64 t380, .slice Ao26 t381.length co26, .slice Ao27 t384.length co27] 37 (0, 0)) (tk_ BK388.out) hb); have n11_ := Aside0.mk (below_step (tb_ HB.out) hb); clear HO_365000 HO_365002 HO_377000 HO_377002 HO_377003 HO_389000 HO_389002 HO_389003 BK364 BK376 BK388 HB; have HO_365000 := n0_; have HO_365002 := n1_; have HO_377000 := n2_; have HO_377002 := n3_; have HO_377003 := n4_; have HO_389000 := n5_; have HO_389002 := n6_; have HO_389003 := n7_; have BK364 := n8_; have BK376 := n9_; have BK388 := n10_; have HB := n11_; clear n0_ n1_ n2_ n3_ n4_ n5_ n6_ n7_ n8_ n9_ n10_ n11_; (try clear hb); (try clear hb2); (try clear hk); (try clear hi); have hcz61_0 : w60.cell? ⟨gb376, 0, none⟩ = some (.slice Ao14 t365.length co14) := (blk_cell BK376.out 0).trans rfl; have hcz61_1 : w60.cell? ⟨gb376, 1, none⟩ = some (.int .i64 t368) := (blk_cell BK376.out 1).trans rfl; have hcz61_2 : w60.cell? ⟨gb376, 2, none⟩ = some (.slice Ao17 t369.length co17) := (blk_cell BK376.out 2).trans rfl; have hcz61_3 : w60.cell? ⟨gb376, 3, none⟩ = some (.slice Ao18 t372.length co18) := (blk_cell BK376.out 3).trans rfl; have hfz61_0 := blk_frozen BK376.out 0; have hfz61_1 := blk_frozen BK376.out 1; have hfz61_2 := blk_frozen BK376.out 2; have hfz61_3 := blk_frozen BK376.out 3; have hnb62 := NB364_388.out; have hnc62 := NB388_364.out; have hcz63_0 : w60.cell? ⟨gb364, 0, none⟩ = some (.slice Ao9 t357.length co9) := (blk_cell BK364.out 0).trans rfl; have hcz63_1 : w60.cell? ⟨gb364, 1, none⟩ = some (.int .i64 t360) := (blk_cell BK364.out 1).trans rfl; have hcz63_2 : w60.cell? ⟨gb364, 2, none⟩ = some (.slice Ao11 t361.length co11) := (blk_cell BK364.out 2).trans rfl; have hfz63_0 := blk_frozen BK364.out 0; have hfz63_1 := blk_frozen BK364.out 1; have hfz63_2 := blk_frozen BK364.out 2) | (go_at_call 22; (with_reducible refine (laws_samePlace.calls kj5 _ _ t365 t368 _ _ t369 _ _ t357 t360 _ _ t361 false _ ?side1 ?side2 ?side3 ?side4 ?side5 ?side6 ?side7 ?side8 A46.out).mono ?_); (case side1 => repeat (first | exact (Kd.R_reads' HO_377000.out).2.2 | (with_reducible refine Kd.C_alloc ?_ _) | (with_reducible refine Kd.C_drewN ?_ _) | (with_reducible refine Kd.C_drew ?_))); (case side2 => exact (Kd.R_reads' HO_377000.out).2.1); (case side3 => repeat (first | exact (Kd.R_reads' HO_377002.out).2.2 | (with_reducible refine Kd.C_alloc ?_ _) | (with_reducible refine Kd.C_drewN ?_ _) | (with_reducible refine Kd.C_drew ?_))); (case side4 => exact (Kd.R_reads' HO_377002.out).2.1); (case side5 => repeat (first | exact (Kd.R_reads' HO_365000.out).2.2 | (with_reducible refine Kd.C_alloc ?_ _) | (with_reducible refine Kd.C_drewN ?_ _) | (with_reducible refine Kd.C_drew ?_))); (case side6 => exact (Kd.R_reads' HO_365000.out).2.1); (case side7 => repeat (first | exact (Kd.R_reads' HO_365002.out).2.2 | (with_reducible refine Kd.C_alloc ?_ _) | (with_reducible refine Kd.C_drewN ?_ _) | (with_reducible refine Kd.C_drew ?_))); (case side8 => exact (Kd.R_reads' HO_365002.out).2.1); rintro e w64 ⟨rfl, hb⟩; have n0_ := Aside0.mk (Kd.R_below (rR_ HO_365000.out) hb); have n1_ := Aside0.mk (Kd.R_below (rR_ HO_365002.out) hb); have n2_ := Aside0.mk (Kd.R_below (rR_ HO_377000.out) hb); have n3_ := Aside0.mk (Kd.R_below (rR_ HO_377002.out) hb); have n4_ := Aside0.mk (Kd.S_below (rS_ HO_377003.out) hb); have n5_ := Aside0.mk (Kd.R_below (rR_ HO_389000.out) hb); have n6_ := Aside0.mk (Kd.R_below (rR_ HO_389002.out) hb); have n7_ := Aside0.mk (Kd.S_below (rS_ HO_389003.out) hb); have n8_ := Aside0.mk (blk_below (g := gb364) (o := .cells #[.slice Ao9 t357.length co9, .int .i64 t360, .slice Ao11 t361.length co11] 27 (0, 0)) (tk_ BK364.out) hb); have n9_ := Aside0.mk (blk_below (g := gb376) (o := .cells #[.slice Ao14 t365.length co14, .int .i64 t368, .slice Ao17 t369.length co17, .slice Ao18 t372.length co18] 37 (0, 0)) (tk_ BK376.out) hb); have n10_ := Aside0.mk (blk_below (g := gb388) (o := .cells #[.slice Ao22 t377.length co22, .int .i64 t380, .slice Ao26 t381.length co26, .slice Ao27 t384.length co27] 37 (0, 0)) (tk_ BK388.out) hb); have n11_ := Aside0.mk (below_step (tb_ HB.out) hb); clear HO_365000 HO_365002 HO_377000 HO_377002 HO_377003 HO_389000 HO_389002 HO_389003 BK364 BK376 BK388 HB; have HO_365000 := n0_; have HO_365002 := n1_; have HO_377000 := n2_; have HO_377002 := n3_; have HO_377003 := n4_; have HO_389000 := n5_; have HO_389002 := n6_; have HO_389003 := n7_; have BK364 := n8_; have BK376 := n9_; have BK388 := n10_; have HB := n11_; clear n0_ n1_ n2_ n3_ n4_ n5_ n6_ n7_ n8_ n9_ n10_ n11_; (try clear hb); (try clear hb2); (try clear hk); (try clear hi)))
        go_ret
        exact ⟨by first | rfl | (simp [errW_none, errW_some] <;> rfl) | (simp [*, errW_none, errW_some] <;> rfl), (tb_ HB.out)⟩
      ·
       replace c45 := Bool.eq_false_iff.mpr c45
       subst c45
       have H1 : (some false) = some r := by rw [if_neg (show ¬ (false = true) by decide)] at H; exact H
       clear H
       have H := H1
       clear H1
       obtain rfl := Option.some.inj H
       have hnb65 := NB376_364.out
       have hnc65 := NB364_376.out
       have hnb66 := NB376_388.out
       have hnc66 := NB388_376.out
       have hcz67_0 : wc.cell? ⟨gb376, 0, none⟩ = some (.slice Ao14 t365.length co14) := (blk_cell BK376.out 0).trans rfl
       have hcz67_1 : wc.cell? ⟨gb376, 1, none⟩ = some (.int .i64 t368) := (blk_cell BK376.out 1).trans rfl
       have hcz67_2 : wc.cell? ⟨gb376, 2, none⟩ = some (.slice Ao17 t369.length co17) := (blk_cell BK376.out 2).trans rfl
       have hcz67_3 : wc.cell? ⟨gb376, 3, none⟩ = some (.slice Ao18 t372.length co18) := (blk_cell BK376.out 3).trans rfl
       have hfz67_0 := blk_frozen BK376.out 0
       have hfz67_1 := blk_frozen BK376.out 1
       have hfz67_2 := blk_frozen BK376.out 2
       have hfz67_3 := blk_frozen BK376.out 3
       go_wp2_with (first | ((with_reducible refine gate_callee (f := 21) rfl ?_); refine goesL_ (some 45) rfl rfl Try.func21 (by kernel_rfl) rfl #[.agg #[.slice Ao14 t365.length co14, .int .i64 t368, .slice Ao17 t369.length co17, .slice Ao18 t372.length co18]] rfl tz_ ?_; (with_reducible refine (impl_DeskOk.calls kj5 _ _ t365 t368 _ _ t369 _ _ t372 false _ ?side1 ?side2 ?side3 ?side4 ?side5 ?side6 A44.out).mono ?_); (case side1 => repeat (first | exact (Kd.R_reads' HO_377000.out).2.2 | (with_reducible refine Kd.C_alloc ?_ _) | (with_reducible refine Kd.C_drewN ?_ _) | (with_reducible refine Kd.C_drew ?_))); (case side2 => exact (Kd.R_reads' HO_377000.out).2.1); (case side3 => repeat (first | exact (Kd.R_reads' HO_377002.out).2.2 | (with_reducible refine Kd.C_alloc ?_ _) | (with_reducible refine Kd.C_drewN ?_ _) | (with_reducible refine Kd.C_drew ?_))); (case side4 => exact (Kd.R_reads' HO_377002.out).2.1); (case side5 => repeat (first | exact (Kd.S_reads' HO_377003.out).2.2 | (with_reducible refine Kd.C_alloc ?_ _) | (with_reducible refine Kd.C_drewN ?_ _) | (with_reducible refine Kd.C_drew ?_))); (case side6 => exact (Kd.S_reads' HO_377003.out).2.1); rintro e w68 ⟨rfl, hb⟩; refine ⟨_, rfl, ?_⟩; have n0_ := Aside0.mk (Kd.R_below (rR_ HO_365000.out) hb); have n1_ := Aside0.mk (Kd.R_below (rR_ HO_365002.out) hb); have n2_ := Aside0.mk (Kd.R_below (rR_ HO_377000.out) hb); have n3_ := Aside0.mk (Kd.R_below (rR_ HO_377002.out) hb); have n4_ := Aside0.mk (Kd.S_below (rS_ HO_377003.out) hb); have n5_ := Aside0.mk (Kd.R_below (rR_ HO_389000.out) hb); have n6_ := Aside0.mk (Kd.R_below (rR_ HO_389002.out) hb); have n7_ := Aside0.mk (Kd.S_below (rS_ HO_389003.out) hb); have n8_ := Aside0.mk (blk_below (g := gb364) (o := .cells #[.slice Ao9 t357.length co9, .int .i64 t360, .slice Ao11 t361.length co11] 27 (0, 0)) (tk_ BK364.out) hb); have n9_ := Aside0.mk (blk_below (g := gb376) (o := .cells #[.slice Ao14 t365.length co14, .int .i64 t368, .slice Ao17 t369.length co17, .slice Ao18 t372.length co18] 37 (0, 0)) (tk_ BK376.out) hb); have n10_ := Aside0.mk (blk_below (g := gb388) (o := .cells #[.slice Ao22 t377.length co22, .int .i64 t380, .slice Ao26 t381.length co26, .slice Ao27 t384.length co27] 37 (0, 0)) (tk_ BK388.out) hb); have n11_ := Aside0.mk (below_step (tb_ HB.out) hb); clear HO_365000 HO_365002 HO_377000 HO_377002 HO_377003 HO_389000 HO_389002 HO_389003 BK364 BK376 BK388 HB; have HO_365000 := n0_; have HO_365002 := n1_; have HO_377000 := n2_; have HO_377002 := n3_; have HO_377003 := n4_; have HO_389000 := n5_; have HO_389002 := n6_; have HO_389003 := n7_; have BK364 := n8_; have BK376 := n9_; have BK388 := n10_; have HB := n11_; clear n0_ n1_ n2_ n3_ n4_ n5_ n6_ n7_ n8_ n9_ n10_ n11_; (try clear hb); (try clear hb2); (try clear hk); (try clear hi)))
       go_ret
       exact ⟨by first | rfl | (simp [errW_none, errW_some] <;> rfl) | (simp [*, errW_none, errW_some] <;> rfl), (tb_ HB.out)⟩
     ·
      replace c43 := Bool.eq_false_iff.mpr c43
      subst c43
      have H1 : ((laws_noDesk.f kj5 t365 t368 t369 t372).bind fun t392 => (if t392 = true then ((impl_PlaceOk.f kj5 t357 t360 t361).bind fun t393 => (if t393 = true then (some false) else ((laws_alive.f kj5).bind fun t394 => (some t394)))) else (some false))) = some r := by rw [if_neg (show ¬ (false = true) by decide)] at H; exact H
      clear H
      have H := H1
      clear H1
      replace H := Option.bind_eq_some_iff.mp H
      obtain ⟨t392, A690, H⟩ := H
      replace H : (if t392 = true then ((impl_PlaceOk.f kj5 t357 t360 t361).bind fun t393 => (if t393 = true then (some false) else ((laws_alive.f kj5).bind fun t394 => (some t394)))) else (some false)) = some r := H
      have A69 := Aside0.mk A690
      clear A690
      by_cases c70 : t392 = true
      ·
       subst c70
       have H1 : ((impl_PlaceOk.f kj5 t357 t360 t361).bind fun t393 => (if t393 = true then (some false) else ((laws_alive.f kj5).bind fun t394 => (some t394)))) = some r := by rw [if_pos rfl] at H; exact H
       clear H
       have H := H1
       clear H1
       replace H := Option.bind_eq_some_iff.mp H
       obtain ⟨t393, A710, H⟩ := H
       replace H : (if t393 = true then (some false) else ((laws_alive.f kj5).bind fun t394 => (some t394))) = some r := H
       have A71 := Aside0.mk A710
       clear A710
       by_cases c72 : t393 = true
       ·
        subst c72
        have H1 : (some false) = some r := by rw [if_pos rfl] at H; exact H
        clear H
        have H := H1
        clear H1
        obtain rfl := Option.some.inj H
        have hnb73 := NB376_364.out
        have hnc73 := NB364_376.out
        have hnb74 := NB376_388.out
        have hnc74 := NB388_376.out
        have hcz75_0 : wc.cell? ⟨gb376, 0, none⟩ = some (.slice Ao14 t365.length co14) := (blk_cell BK376.out 0).trans rfl
        have hcz75_1 : wc.cell? ⟨gb376, 1, none⟩ = some (.int .i64 t368) := (blk_cell BK376.out 1).trans rfl
        have hcz75_2 : wc.cell? ⟨gb376, 2, none⟩ = some (.slice Ao17 t369.length co17) := (blk_cell BK376.out 2).trans rfl
        have hcz75_3 : wc.cell? ⟨gb376, 3, none⟩ = some (.slice Ao18 t372.length co18) := (blk_cell BK376.out 3).trans rfl
        have hfz75_0 := blk_frozen BK376.out 0
        have hfz75_1 := blk_frozen BK376.out 1
        have hfz75_2 := blk_frozen BK376.out 2
        have hfz75_3 := blk_frozen BK376.out 3
        go_wp2_with (first | ((with_reducible refine gate_callee (f := 20) rfl ?_); refine goesL_ (some 35) rfl rfl Try.func20 (by kernel_rfl) rfl #[.agg #[.slice Ao14 t365.length co14, .int .i64 t368, .slice Ao17 t369.length co17, .slice Ao18 t372.length co18]] rfl tz_ ?_; (with_reducible refine (laws_noDesk.calls kj5 _ _ t365 t368 _ _ t369 _ _ t372 true _ ?side1 ?side2 ?side3 ?side4 ?side5 ?side6 A69.out).mono ?_); (case side1 => repeat (first | exact (Kd.R_reads' HO_377000.out).2.2 | (with_reducible refine Kd.C_alloc ?_ _) | (with_reducible refine Kd.C_drewN ?_ _) | (with_reducible refine Kd.C_drew ?_))); (case side2 => exact (Kd.R_reads' HO_377000.out).2.1); (case side3 => repeat (first | exact (Kd.R_reads' HO_377002.out).2.2 | (with_reducible refine Kd.C_alloc ?_ _) | (with_reducible refine Kd.C_drewN ?_ _) | (with_reducible refine Kd.C_drew ?_))); (case side4 => exact (Kd.R_reads' HO_377002.out).2.1); (case side5 => repeat (first | exact (Kd.S_reads' HO_377003.out).2.2 | (with_reducible refine Kd.C_alloc ?_ _) | (with_reducible refine Kd.C_drewN ?_ _) | (with_reducible refine Kd.C_drew ?_))); (case side6 => exact (Kd.S_reads' HO_377003.out).2.1); rintro e w76 ⟨rfl, hb⟩; refine ⟨_, rfl, ?_⟩; have n0_ := Aside0.mk (Kd.R_below (rR_ HO_365000.out) hb); have n1_ := Aside0.mk (Kd.R_below (rR_ HO_365002.out) hb); have n2_ := Aside0.mk (Kd.R_below (rR_ HO_377000.out) hb); have n3_ := Aside0.mk (Kd.R_below (rR_ HO_377002.out) hb); have n4_ := Aside0.mk (Kd.S_below (rS_ HO_377003.out) hb); have n5_ := Aside0.mk (Kd.R_below (rR_ HO_389000.out) hb); have n6_ := Aside0.mk (Kd.R_below (rR_ HO_389002.out) hb); have n7_ := Aside0.mk (Kd.S_below (rS_ HO_389003.out) hb); have n8_ := Aside0.mk (blk_below (g := gb364) (o := .cells #[.slice Ao9 t357.length co9, .int .i64 t360, .slice Ao11 t361.length co11] 27 (0, 0)) (tk_ BK364.out) hb); have n9_ := Aside0.mk (blk_below (g := gb376) (o := .cells #[.slice Ao14 t365.length co14, .int .i64 t368, .slice Ao17 t369.length co17, .slice Ao18 t372.length co18] 37 (0, 0)) (tk_ BK376.out) hb); have n10_ := Aside0.mk (blk_below (g := gb388) (o := .cells #[.slice Ao22 t377.length co22, .int .i64 t380, .slice Ao26 t381.length co26, .slice Ao27 t384.length co27] 37 (0, 0)) (tk_ BK388.out) hb); have n11_ := Aside0.mk (below_step (tb_ HB.out) hb); clear HO_365000 HO_365002 HO_377000 HO_377002 HO_377003 HO_389000 HO_389002 HO_389003 BK364 BK376 BK388 HB; have HO_365000 := n0_; have HO_365002 := n1_; have HO_377000 := n2_; have HO_377002 := n3_; have HO_377003 := n4_; have HO_389000 := n5_; have HO_389002 := n6_; have HO_389003 := n7_; have BK364 := n8_; have BK376 := n9_; have BK388 := n10_; have HB := n11_; clear n0_ n1_ n2_ n3_ n4_ n5_ n6_ n7_ n8_ n9_ n10_ n11_; (try clear hb); (try clear hb2); (try clear hk); (try clear hi); have hnb77 := NB364_388.out; have hnc77 := NB388_364.out; have hcz78_0 : w76.cell? ⟨gb364, 0, none⟩ = some (.slice Ao9 t357.length co9) := (blk_cell BK364.out 0).trans rfl; have hcz78_1 : w76.cell? ⟨gb364, 1, none⟩ = some (.int .i64 t360) := (blk_cell BK364.out 1).trans rfl; have hcz78_2 : w76.cell? ⟨gb364, 2, none⟩ = some (.slice Ao11 t361.length co11) := (blk_cell BK364.out 2).trans rfl; have hfz78_0 := blk_frozen BK364.out 0; have hfz78_1 := blk_frozen BK364.out 1; have hfz78_2 := blk_frozen BK364.out 2) | (go_at_call 12; (with_reducible refine (impl_PlaceOk.calls kj5 _ _ t357 t360 _ _ t361 true _ ?side1 ?side2 ?side3 ?side4 A71.out).mono ?_); (case side1 => repeat (first | exact (Kd.R_reads' HO_365000.out).2.2 | (with_reducible refine Kd.C_alloc ?_ _) | (with_reducible refine Kd.C_drewN ?_ _) | (with_reducible refine Kd.C_drew ?_))); (case side2 => exact (Kd.R_reads' HO_365000.out).2.1); (case side3 => repeat (first | exact (Kd.R_reads' HO_365002.out).2.2 | (with_reducible refine Kd.C_alloc ?_ _) | (with_reducible refine Kd.C_drewN ?_ _) | (with_reducible refine Kd.C_drew ?_))); (case side4 => exact (Kd.R_reads' HO_365002.out).2.1); rintro e w79 ⟨rfl, hb⟩; have n0_ := Aside0.mk (Kd.R_below (rR_ HO_365000.out) hb); have n1_ := Aside0.mk (Kd.R_below (rR_ HO_365002.out) hb); have n2_ := Aside0.mk (Kd.R_below (rR_ HO_377000.out) hb); have n3_ := Aside0.mk (Kd.R_below (rR_ HO_377002.out) hb); have n4_ := Aside0.mk (Kd.S_below (rS_ HO_377003.out) hb); have n5_ := Aside0.mk (Kd.R_below (rR_ HO_389000.out) hb); have n6_ := Aside0.mk (Kd.R_below (rR_ HO_389002.out) hb); have n7_ := Aside0.mk (Kd.S_below (rS_ HO_389003.out) hb); have n8_ := Aside0.mk (blk_below (g := gb364) (o := .cells #[.slice Ao9 t357.length co9, .int .i64 t360, .slice Ao11 t361.length co11] 27 (0, 0)) (tk_ BK364.out) hb); have n9_ := Aside0.mk (blk_below (g := gb376) (o := .cells #[.slice Ao14 t365.length co14, .int .i64 t368, .slice Ao17 t369.length co17, .slice Ao18 t372.length co18] 37 (0, 0)) (tk_ BK376.out) hb); have n10_ := Aside0.mk (blk_below (g := gb388) (o := .cells #[.slice Ao22 t377.length co22, .int .i64 t380, .slice Ao26 t381.length co26, .slice Ao27 t384.length co27] 37 (0, 0)) (tk_ BK388.out) hb); have n11_ := Aside0.mk (below_step (tb_ HB.out) hb); clear HO_365000 HO_365002 HO_377000 HO_377002 HO_377003 HO_389000 HO_389002 HO_389003 BK364 BK376 BK388 HB; have HO_365000 := n0_; have HO_365002 := n1_; have HO_377000 := n2_; have HO_377002 := n3_; have HO_377003 := n4_; have HO_389000 := n5_; have HO_389002 := n6_; have HO_389003 := n7_; have BK364 := n8_; have BK376 := n9_; have BK388 := n10_; have HB := n11_; clear n0_ n1_ n2_ n3_ n4_ n5_ n6_ n7_ n8_ n9_ n10_ n11_; (try clear hb); (try clear hb2); (try clear hk); (try clear hi)))
        go_ret
        exact ⟨by first | rfl | (simp [errW_none, errW_some] <;> rfl) | (simp [*, errW_none, errW_some] <;> rfl), (tb_ HB.out)⟩
       ·
        replace c72 := Bool.eq_false_iff.mpr c72
        subst c72
        have H1 : ((laws_alive.f kj5).bind fun t394 => (some t394)) = some r := by rw [if_neg (show ¬ (false = true) by decide)] at H; exact H
        clear H
        have H := H1
        clear H1
        replace H := Option.bind_eq_some_iff.mp H
        obtain ⟨t394, A800, H⟩ := H
        replace H : (some t394) = some r := H
        have A80 := Aside0.mk A800
        clear A800
        obtain rfl := Option.some.inj H
        have hnb81 := NB376_364.out
        have hnc81 := NB364_376.out
        have hnb82 := NB376_388.out
        have hnc82 := NB388_376.out
        have hcz83_0 : wc.cell? ⟨gb376, 0, none⟩ = some (.slice Ao14 t365.length co14) := (blk_cell BK376.out 0).trans rfl
        have hcz83_1 : wc.cell? ⟨gb376, 1, none⟩ = some (.int .i64 t368) := (blk_cell BK376.out 1).trans rfl
        have hcz83_2 : wc.cell? ⟨gb376, 2, none⟩ = some (.slice Ao17 t369.length co17) := (blk_cell BK376.out 2).trans rfl
        have hcz83_3 : wc.cell? ⟨gb376, 3, none⟩ = some (.slice Ao18 t372.length co18) := (blk_cell BK376.out 3).trans rfl
        have hfz83_0 := blk_frozen BK376.out 0
        have hfz83_1 := blk_frozen BK376.out 1
        have hfz83_2 := blk_frozen BK376.out 2
        have hfz83_3 := blk_frozen BK376.out 3
        go_wp2_with (first | ((with_reducible refine gate_callee (f := 20) rfl ?_); refine goesL_ (some 35) rfl rfl Try.func20 (by kernel_rfl) rfl #[.agg #[.slice Ao14 t365.length co14, .int .i64 t368, .slice Ao17 t369.length co17, .slice Ao18 t372.length co18]] rfl tz_ ?_; (with_reducible refine (laws_noDesk.calls kj5 _ _ t365 t368 _ _ t369 _ _ t372 true _ ?side1 ?side2 ?side3 ?side4 ?side5 ?side6 A69.out).mono ?_); (case side1 => repeat (first | exact (Kd.R_reads' HO_377000.out).2.2 | (with_reducible refine Kd.C_alloc ?_ _) | (with_reducible refine Kd.C_drewN ?_ _) | (with_reducible refine Kd.C_drew ?_))); (case side2 => exact (Kd.R_reads' HO_377000.out).2.1); (case side3 => repeat (first | exact (Kd.R_reads' HO_377002.out).2.2 | (with_reducible refine Kd.C_alloc ?_ _) | (with_reducible refine Kd.C_drewN ?_ _) | (with_reducible refine Kd.C_drew ?_))); (case side4 => exact (Kd.R_reads' HO_377002.out).2.1); (case side5 => repeat (first | exact (Kd.S_reads' HO_377003.out).2.2 | (with_reducible refine Kd.C_alloc ?_ _) | (with_reducible refine Kd.C_drewN ?_ _) | (with_reducible refine Kd.C_drew ?_))); (case side6 => exact (Kd.S_reads' HO_377003.out).2.1); rintro e w84 ⟨rfl, hb⟩; refine ⟨_, rfl, ?_⟩; have n0_ := Aside0.mk (Kd.R_below (rR_ HO_365000.out) hb); have n1_ := Aside0.mk (Kd.R_below (rR_ HO_365002.out) hb); have n2_ := Aside0.mk (Kd.R_below (rR_ HO_377000.out) hb); have n3_ := Aside0.mk (Kd.R_below (rR_ HO_377002.out) hb); have n4_ := Aside0.mk (Kd.S_below (rS_ HO_377003.out) hb); have n5_ := Aside0.mk (Kd.R_below (rR_ HO_389000.out) hb); have n6_ := Aside0.mk (Kd.R_below (rR_ HO_389002.out) hb); have n7_ := Aside0.mk (Kd.S_below (rS_ HO_389003.out) hb); have n8_ := Aside0.mk (blk_below (g := gb364) (o := .cells #[.slice Ao9 t357.length co9, .int .i64 t360, .slice Ao11 t361.length co11] 27 (0, 0)) (tk_ BK364.out) hb); have n9_ := Aside0.mk (blk_below (g := gb376) (o := .cells #[.slice Ao14 t365.length co14, .int .i64 t368, .slice Ao17 t369.length co17, .slice Ao18 t372.length co18] 37 (0, 0)) (tk_ BK376.out) hb); have n10_ := Aside0.mk (blk_below (g := gb388) (o := .cells #[.slice Ao22 t377.length co22, .int .i64 t380, .slice Ao26 t381.length co26, .slice Ao27 t384.length co27] 37 (0, 0)) (tk_ BK388.out) hb); have n11_ := Aside0.mk (below_step (tb_ HB.out) hb); clear HO_365000 HO_365002 HO_377000 HO_377002 HO_377003 HO_389000 HO_389002 HO_389003 BK364 BK376 BK388 HB; have HO_365000 := n0_; have HO_365002 := n1_; have HO_377000 := n2_; have HO_377002 := n3_; have HO_377003 := n4_; have HO_389000 := n5_; have HO_389002 := n6_; have HO_389003 := n7_; have BK364 := n8_; have BK376 := n9_; have BK388 := n10_; have HB := n11_; clear n0_ n1_ n2_ n3_ n4_ n5_ n6_ n7_ n8_ n9_ n10_ n11_; (try clear hb); (try clear hb2); (try clear hk); (try clear hi); have hnb85 := NB364_388.out; have hnc85 := NB388_364.out; have hcz86_0 : w84.cell? ⟨gb364, 0, none⟩ = some (.slice Ao9 t357.length co9) := (blk_cell BK364.out 0).trans rfl; have hcz86_1 : w84.cell? ⟨gb364, 1, none⟩ = some (.int .i64 t360) := (blk_cell BK364.out 1).trans rfl; have hcz86_2 : w84.cell? ⟨gb364, 2, none⟩ = some (.slice Ao11 t361.length co11) := (blk_cell BK364.out 2).trans rfl; have hfz86_0 := blk_frozen BK364.out 0; have hfz86_1 := blk_frozen BK364.out 1; have hfz86_2 := blk_frozen BK364.out 2) | (go_at_call 12; (with_reducible refine (impl_PlaceOk.calls kj5 _ _ t357 t360 _ _ t361 false _ ?side1 ?side2 ?side3 ?side4 A71.out).mono ?_); (case side1 => repeat (first | exact (Kd.R_reads' HO_365000.out).2.2 | (with_reducible refine Kd.C_alloc ?_ _) | (with_reducible refine Kd.C_drewN ?_ _) | (with_reducible refine Kd.C_drew ?_))); (case side2 => exact (Kd.R_reads' HO_365000.out).2.1); (case side3 => repeat (first | exact (Kd.R_reads' HO_365002.out).2.2 | (with_reducible refine Kd.C_alloc ?_ _) | (with_reducible refine Kd.C_drewN ?_ _) | (with_reducible refine Kd.C_drew ?_))); (case side4 => exact (Kd.R_reads' HO_365002.out).2.1); rintro e w87 ⟨rfl, hb⟩; have n0_ := Aside0.mk (Kd.R_below (rR_ HO_365000.out) hb); have n1_ := Aside0.mk (Kd.R_below (rR_ HO_365002.out) hb); have n2_ := Aside0.mk (Kd.R_below (rR_ HO_377000.out) hb); have n3_ := Aside0.mk (Kd.R_below (rR_ HO_377002.out) hb); have n4_ := Aside0.mk (Kd.S_below (rS_ HO_377003.out) hb); have n5_ := Aside0.mk (Kd.R_below (rR_ HO_389000.out) hb); have n6_ := Aside0.mk (Kd.R_below (rR_ HO_389002.out) hb); have n7_ := Aside0.mk (Kd.S_below (rS_ HO_389003.out) hb); have n8_ := Aside0.mk (blk_below (g := gb364) (o := .cells #[.slice Ao9 t357.length co9, .int .i64 t360, .slice Ao11 t361.length co11] 27 (0, 0)) (tk_ BK364.out) hb); have n9_ := Aside0.mk (blk_below (g := gb376) (o := .cells #[.slice Ao14 t365.length co14, .int .i64 t368, .slice Ao17 t369.length co17, .slice Ao18 t372.length co18] 37 (0, 0)) (tk_ BK376.out) hb); have n10_ := Aside0.mk (blk_below (g := gb388) (o := .cells #[.slice Ao22 t377.length co22, .int .i64 t380, .slice Ao26 t381.length co26, .slice Ao27 t384.length co27] 37 (0, 0)) (tk_ BK388.out) hb); have n11_ := Aside0.mk (below_step (tb_ HB.out) hb); clear HO_365000 HO_365002 HO_377000 HO_377002 HO_377003 HO_389000 HO_389002 HO_389003 BK364 BK376 BK388 HB; have HO_365000 := n0_; have HO_365002 := n1_; have HO_377000 := n2_; have HO_377002 := n3_; have HO_377003 := n4_; have HO_389000 := n5_; have HO_389002 := n6_; have HO_389003 := n7_; have BK364 := n8_; have BK376 := n9_; have BK388 := n10_; have HB := n11_; clear n0_ n1_ n2_ n3_ n4_ n5_ n6_ n7_ n8_ n9_ n10_ n11_; (try clear hb); (try clear hb2); (try clear hk); (try clear hi)) | (go_at_call 15; (with_reducible refine (laws_alive.calls kj5  t394 _ A80.out).mono ?_); rintro e w88 ⟨rfl, hb⟩; have n0_ := Aside0.mk (Kd.R_below (rR_ HO_365000.out) hb); have n1_ := Aside0.mk (Kd.R_below (rR_ HO_365002.out) hb); have n2_ := Aside0.mk (Kd.R_below (rR_ HO_377000.out) hb); have n3_ := Aside0.mk (Kd.R_below (rR_ HO_377002.out) hb); have n4_ := Aside0.mk (Kd.S_below (rS_ HO_377003.out) hb); have n5_ := Aside0.mk (Kd.R_below (rR_ HO_389000.out) hb); have n6_ := Aside0.mk (Kd.R_below (rR_ HO_389002.out) hb); have n7_ := Aside0.mk (Kd.S_below (rS_ HO_389003.out) hb); have n8_ := Aside0.mk (blk_below (g := gb364) (o := .cells #[.slice Ao9 t357.length co9, .int .i64 t360, .slice Ao11 t361.length co11] 27 (0, 0)) (tk_ BK364.out) hb); have n9_ := Aside0.mk (blk_below (g := gb376) (o := .cells #[.slice Ao14 t365.length co14, .int .i64 t368, .slice Ao17 t369.length co17, .slice Ao18 t372.length co18] 37 (0, 0)) (tk_ BK376.out) hb); have n10_ := Aside0.mk (blk_below (g := gb388) (o := .cells #[.slice Ao22 t377.length co22, .int .i64 t380, .slice Ao26 t381.length co26, .slice Ao27 t384.length co27] 37 (0, 0)) (tk_ BK388.out) hb); have n11_ := Aside0.mk (below_step (tb_ HB.out) hb); clear HO_365000 HO_365002 HO_377000 HO_377002 HO_377003 HO_389000 HO_389002 HO_389003 BK364 BK376 BK388 HB; have HO_365000 := n0_; have HO_365002 := n1_; have HO_377000 := n2_; have HO_377002 := n3_; have HO_377003 := n4_; have HO_389000 := n5_; have HO_389002 := n6_; have HO_389003 := n7_; have BK364 := n8_; have BK376 := n9_; have BK388 := n10_; have HB := n11_; clear n0_ n1_ n2_ n3_ n4_ n5_ n6_ n7_ n8_ n9_ n10_ n11_; (try clear hb); (try clear hb2); (try clear hk); (try clear hi)))
        go_ret
        exact ⟨by first | rfl | (simp [errW_none, errW_some] <;> rfl) | (simp [*, errW_none, errW_some] <;> rfl), (tb_ HB.out)⟩
      ·
       replace c70 := Bool.eq_false_iff.mpr c70
       subst c70
       have H1 : (some false) = some r := by rw [if_neg (show ¬ (false = true) by decide)] at H; exact H
       clear H
       have H := H1
       clear H1
       obtain rfl := Option.some.inj H
       have hnb89 := NB376_364.out
       have hnc89 := NB364_376.out
       have hnb90 := NB376_388.out
       have hnc90 := NB388_376.out
       have hcz91_0 : wc.cell? ⟨gb376, 0, none⟩ = some (.slice Ao14 t365.length co14) := (blk_cell BK376.out 0).trans rfl
       have hcz91_1 : wc.cell? ⟨gb376, 1, none⟩ = some (.int .i64 t368) := (blk_cell BK376.out 1).trans rfl
       have hcz91_2 : wc.cell? ⟨gb376, 2, none⟩ = some (.slice Ao17 t369.length co17) := (blk_cell BK376.out 2).trans rfl
       have hcz91_3 : wc.cell? ⟨gb376, 3, none⟩ = some (.slice Ao18 t372.length co18) := (blk_cell BK376.out 3).trans rfl
       have hfz91_0 := blk_frozen BK376.out 0
       have hfz91_1 := blk_frozen BK376.out 1
       have hfz91_2 := blk_frozen BK376.out 2
       have hfz91_3 := blk_frozen BK376.out 3
       go_wp2_with (first | ((with_reducible refine gate_callee (f := 20) rfl ?_); refine goesL_ (some 35) rfl rfl Try.func20 (by kernel_rfl) rfl #[.agg #[.slice Ao14 t365.length co14, .int .i64 t368, .slice Ao17 t369.length co17, .slice Ao18 t372.length co18]] rfl tz_ ?_; (with_reducible refine (laws_noDesk.calls kj5 _ _ t365 t368 _ _ t369 _ _ t372 false _ ?side1 ?side2 ?side3 ?side4 ?side5 ?side6 A69.out).mono ?_); (case side1 => repeat (first | exact (Kd.R_reads' HO_377000.out).2.2 | (with_reducible refine Kd.C_alloc ?_ _) | (with_reducible refine Kd.C_drewN ?_ _) | (with_reducible refine Kd.C_drew ?_))); (case side2 => exact (Kd.R_reads' HO_377000.out).2.1); (case side3 => repeat (first | exact (Kd.R_reads' HO_377002.out).2.2 | (with_reducible refine Kd.C_alloc ?_ _) | (with_reducible refine Kd.C_drewN ?_ _) | (with_reducible refine Kd.C_drew ?_))); (case side4 => exact (Kd.R_reads' HO_377002.out).2.1); (case side5 => repeat (first | exact (Kd.S_reads' HO_377003.out).2.2 | (with_reducible refine Kd.C_alloc ?_ _) | (with_reducible refine Kd.C_drewN ?_ _) | (with_reducible refine Kd.C_drew ?_))); (case side6 => exact (Kd.S_reads' HO_377003.out).2.1); rintro e w92 ⟨rfl, hb⟩; refine ⟨_, rfl, ?_⟩; have n0_ := Aside0.mk (Kd.R_below (rR_ HO_365000.out) hb); have n1_ := Aside0.mk (Kd.R_below (rR_ HO_365002.out) hb); have n2_ := Aside0.mk (Kd.R_below (rR_ HO_377000.out) hb); have n3_ := Aside0.mk (Kd.R_below (rR_ HO_377002.out) hb); have n4_ := Aside0.mk (Kd.S_below (rS_ HO_377003.out) hb); have n5_ := Aside0.mk (Kd.R_below (rR_ HO_389000.out) hb); have n6_ := Aside0.mk (Kd.R_below (rR_ HO_389002.out) hb); have n7_ := Aside0.mk (Kd.S_below (rS_ HO_389003.out) hb); have n8_ := Aside0.mk (blk_below (g := gb364) (o := .cells #[.slice Ao9 t357.length co9, .int .i64 t360, .slice Ao11 t361.length co11] 27 (0, 0)) (tk_ BK364.out) hb); have n9_ := Aside0.mk (blk_below (g := gb376) (o := .cells #[.slice Ao14 t365.length co14, .int .i64 t368, .slice Ao17 t369.length co17, .slice Ao18 t372.length co18] 37 (0, 0)) (tk_ BK376.out) hb); have n10_ := Aside0.mk (blk_below (g := gb388) (o := .cells #[.slice Ao22 t377.length co22, .int .i64 t380, .slice Ao26 t381.length co26, .slice Ao27 t384.length co27] 37 (0, 0)) (tk_ BK388.out) hb); have n11_ := Aside0.mk (below_step (tb_ HB.out) hb); clear HO_365000 HO_365002 HO_377000 HO_377002 HO_377003 HO_389000 HO_389002 HO_389003 BK364 BK376 BK388 HB; have HO_365000 := n0_; have HO_365002 := n1_; have HO_377000 := n2_; have HO_377002 := n3_; have HO_377003 := n4_; have HO_389000 := n5_; have HO_389002 := n6_; have HO_389003 := n7_; have BK364 := n8_; have BK376 := n9_; have BK388 := n10_; have HB := n11_; clear n0_ n1_ n2_ n3_ n4_ n5_ n6_ n7_ n8_ n9_ n10_ n11_; (try clear hb); (try clear hb2); (try clear hk); (try clear hi)))
       go_ret
       exact ⟨by first | rfl | (simp [errW_none, errW_some] <;> rfl) | (simp [*, errW_none, errW_some] <;> rfl), (tb_ HB.out)⟩

/-- THE ONE PURE STATEMENT of laws_FnDeskNew: yours. -/
def laws_FnDeskNew.Pure : Prop := ∀ (l0 : List Int), l0.length ≤ maxLen → l0.length * 1 ≤ 140737488351232 → (∀ x ∈ l0, (Lit.int .u8 x).wf = true) → ∃ k, laws_FnDeskNew.f k l0 = some true
theorem laws_FnDeskNew.walk (P : laws_FnDeskNew.Pure) (a0 : Option Addr) (len0 cap0 : Nat) (z0 : List Int) (w : World) (w0 : (a0 = none ∧ len0 = 0 ∧ cap0 = 0 ∧ z0 = []) ∨ ∃ x, a0 = some x ∧ len0 ≤ cap0 ∧ cap0 ≤ maxLen ∧ z0.length = cap0 ∧ (∀ i, i < z0.length → w.cell? (x.add i) = some (.int .u8 (z0.getD i 0))) ∧ ∀ n ∈ z0, (Lit.int .u8 n).wf = true) (y0 : len0 * 1 ≤ 140737488351232) :
  Calls Try.prog 5 #[.slice a0 len0 cap0] w fun e w' => e = .returned (.bool true) ∧ Below w.heap.size w w' := by
 obtain ⟨l0, rfl, hr0, hm0, hw0, hc0⟩ := ReadsInt.ofRowC w0
 obtain ⟨k, h⟩ := P l0 hm0 y0 hw0
 refine (laws_FnDeskNew.calls k _ _ l0 true w (Kd.C_of_reads (d := (0 : Int)) (h1 := fun _ => rfl) hr0) hc0 h).mono ?_
 rintro e w' ⟨rfl, hd⟩
 exact ⟨rfl, hd⟩

end Go.Proofs.Ytlnbobpmjbcejaa.MFnDeskNew
