/- For the law FnReadPlace: walks of the functions that it reaches: each call returns what the plain function beside it tells. The conditions stand in each statement. -/
import Derived.Test.YtlhiienanbpdlaaDoorV
import Derived.Test.YtlhiienanbpdlaaDoorMFnReadPlacex0
import Derived.Test.YtlhiienanbpdlaaDoorMFnReadPlacex1
import Derived.Test.YtlhiienanbpdlaaDoorMFnReadPlacex8
namespace Go.Proofs.YtlhiienanbpdlaaDoor.MFnReadPlace
open Go.RowKit Go.Proofs.YtlhiienanbpdlaaDoorW.PrintWords Go.Proofs.YtlhiienanbpdlaaDoorW.PrintLast Go.Proofs.YtlhiienanbpdlaaDoorW.PrintMore
attribute [local go_sem] max2_int min2_int max_two min_two max_three min_three max_four min_four   -- for this text's walks alone
set_option linter.unusedVariables false
set_option linter.unusedSimpArgs false

/-! ### impl_StartOk: function 111 -/
def impl_StartOk.l0 : Nat → List Int → List Int → Int → Int → Option (Bool)
 | 0, _, _, _, _ => none
 | k + 1, x0, x5, x6, x7 => if x7 < x6 then (if 0 ≤ x7 then (if x7 < (x5.length : Int) then (if (rd x5 x7) > 10 then (some false) else (impl_StartOk.l0 k x0 x5 x6 (wrap64 (x7 + 1)))) else (none)) else (none)) else ((impl_UrnOk.f k x0).bind fun t270 => (some t270))
def impl_StartOk.f (k : Nat) (l0 : List Int) : Option (Bool) := impl_StartOk.l0 k l0 l0 (l0.length : Int) 0
theorem impl_StartOk.mono_l : ∀ k, (∀ y0 y1 y2 y3, LeO (impl_StartOk.l0 k y0 y1 y2 y3) (impl_StartOk.l0 (k + 1) y0 y1 y2 y3))
 | 0 => fun _ _ _ _ r h => by simp [impl_StartOk.l0] at h
 | k + 1 => by
  have ih0 := impl_StartOk.mono_l k
  ·
   intro y0 y1 y2 y3
   unfold impl_StartOk.l0
   repeat' first
   | (with_reducible exact ih0 _ _ _ _)
   | (with_reducible exact impl_UrnOk.mono _ _)
   | (with_reducible exact LeO.refl _)
   | (with_reducible exact LeO.none _)
   | (with_reducible refine LeO.ite ?_ ?_)
   | (with_reducible refine LeO.bind ?_ (fun _ => ?_))
   | exact ih0 _ _ _ _
   | exact impl_UrnOk.mono _ _
   | exact LeO.none _
   | refine LeO.ite ?_ ?_
   | refine LeO.bind ?_ (fun _ => ?_)
theorem impl_StartOk.mono : ∀ a0 k, LeO (impl_StartOk.f k a0) (impl_StartOk.f (k + 1) a0) := by
 intro a0 k
 have ih0 := impl_StartOk.mono_l k
 unfold impl_StartOk.f
 repeat' first
   | (with_reducible exact ih0 _ _ _ _)
   | (with_reducible exact impl_UrnOk.mono _ _)
   | (with_reducible exact LeO.refl _)
   | (with_reducible exact LeO.none _)
   | (with_reducible refine LeO.ite ?_ ?_)
   | (with_reducible refine LeO.bind ?_ (fun _ => ?_))
   | exact ih0 _ _ _ _
   | exact impl_UrnOk.mono _ _
   | exact LeO.none _
   | refine LeO.ite ?_ ?_
   | refine LeO.bind ?_ (fun _ => ?_)
set_option maxHeartbeats 8000000 in
set_option maxRecDepth 100000 in
theorem impl_StartOk.calls (k : Nat) (A0 : Option Addr) (c0 : Nat) (l0 : List Int) (r : Bool) (w : World) (hr0 : Kd.C (Kd.int .i64) w A0 l0.length l0) (hc0 : l0.length ≤ c0) (h : impl_StartOk.f k l0 = some r) :
  Calls Tryd.prog 111 #[.slice A0 l0.length c0] w fun e w' => e = .returned (.bool r) ∧ Drawn0 w w' := by
 have HR0 := Aside0.mk hr0
 have HC0 := Aside0.mk hc0
 clear hr0 hc0
 have H : (impl_StartOk.l0 k l0 l0 (l0.length : Int) 0) = some r := h
 clear h
 have H' := Aside0.mk H
 clear H
 go_enter Tryd.func111, Tryd.ntmps111
 go_wp2
 go_loopg [7] k (fun kq v7 w' => ∃ (x7_1 : Int), v7 = .int .i64 x7_1 ∧ Aside0 (impl_StartOk.l0 kq l0 l0 (l0.length : Int) x7_1 = some r) ∧ Aside0 (kq ≤ k) ∧ Drawn0 w w')
 case atStart => exact ⟨(0), tx_, H', ⟨Nat.le_refl _⟩, by repeat (first | exact Drawn0.refl _ | apply Drawn0.step)⟩
 case round =>
  clear H'
  try clear c1
  obtain ⟨x7_1, rfl, HA, HK1, ⟨m1, rfl⟩⟩ := hrel
  cases gk with
  | zero => exact absurd HA.out (by simp [impl_StartOk.l0])
  | succ k1 =>
   have H := HA.out
   clear HA
   simp only [impl_StartOk.l0] at H
   by_cases c2 : x7_1 < (l0.length : Int)
   ·
    rw [if_pos c2] at H
    have c2b0 : decide (x7_1 < (l0.length : Int)) = true := decide_eq_true c2
    clear c2
    by_cases c3 : 0 ≤ x7_1
    ·
     rw [if_pos c3] at H
     have c3b0 : decide (0 ≤ x7_1) = true := decide_eq_true c3
     clear c3
     by_cases c4 : x7_1 < (l0.length : Int)
     ·
      rw [if_pos c4] at H
      have c4b0 : decide (x7_1 < (l0.length : Int)) = true := decide_eq_true c4
      clear c4
      by_cases c5 : (rd l0 x7_1) > 10
      ·
       rw [if_pos c5] at H
       have c5b0 : decide (10 < (rd l0 x7_1)) = true := decide_eq_true c5
       clear c5
       obtain rfl := Option.some.inj H
       have p269 : 0 ≤ (x7_1 : Int) := od_
       have q269 : x7_1 < (l0.length : Int) := od_
       obtain ⟨ad269, e269, hx269_0⟩ := Kd.at_int HR0.out x7_1 p269 q269
       cases e269
       replace p269 := eq_true p269
       replace q269 := eq_true q269
       go_wp2
       go_ret
       exact ⟨tx_, by repeat (first | exact Drawn0.refl _ | apply Drawn0.step)⟩
      ·
       rw [if_neg c5] at H
       have c5b0 : decide (10 < (rd l0 x7_1)) = false := decide_eq_false c5
       clear c5
       have H' := Aside0.mk H
       clear H
       have p269 : 0 ≤ (x7_1 : Int) := od_
       have q269 : x7_1 < (l0.length : Int) := od_
       obtain ⟨ad269, e269, hx269_0⟩ := Kd.at_int HR0.out x7_1 p269 q269
       cases e269
       replace p269 := eq_true p269
       replace q269 := eq_true q269
       go_wp2
       go_roundg k1
       case measure => have := HK1.out; omega
       case rel => exact ⟨(wrap64 (x7_1 + 1)), tx_, H', ⟨by have := HK1.out; omega⟩, by repeat (first | exact Drawn0.refl _ | apply Drawn0.step)⟩
     ·
      rw [if_neg c4] at H
      exact absurd H (by simp)
    ·
     rw [if_neg c3] at H
     exact absurd H (by simp)
   ·
    rw [if_neg c2] at H
    have c2b0 : decide (x7_1 < (l0.length : Int)) = false := decide_eq_false c2
    clear c2
    replace H := Option.bind_eq_some_iff.mp H
    obtain ⟨t270, A60, H⟩ := H
    replace H : (some t270) = some r := H
    have A6 := Aside0.mk A60
    clear A60
    obtain rfl := Option.some.inj H
    go_wp2_with (first | ((with_reducible refine gate_callee (f := 74) rfl ?_); refine goesL_ (some 15) rfl rfl Tryd.func74 (by kernel_rfl) rfl #[.slice A0 l0.length c0] rfl tz_ ?_; (with_reducible refine (impl_UrnOk.calls k1 _ _ l0 t270 _ ?side1 ?side2 A6.out).mono ?_); (case side1 => exact td_); (case side2 => exact HC0.out); rintro e w' ⟨rfl, ⟨nd, rfl⟩⟩; refine ⟨_, rfl, ?_⟩))
    go_ret
    exact ⟨tx_, by repeat (first | exact Drawn0.refl _ | apply Drawn0.step)⟩

/-! ### impl_PlaceOk: function 63 -/
def impl_PlaceOk.j0 : Nat → Bool → List Int → Int → List Int → Option (Bool)
 | 0, _, _, _, _ => none
 | k + 1, x25, x272000, x272001, x272002 => if x25 = true then (some false) else ((impl_SameRule.f k (x272000.length : Int) x272001).bind fun t274 => ((impl_ruleWays.f k x272000 t274 x272002).bind fun t277 => (some (decide (t277 > 0)))))
def impl_PlaceOk.f (k : Nat) (l0_0 : List Int) (a0_1 : Int) (l0_2 : List Int) : Option (Bool) := (impl_StartOk.f k l0_0).bind fun t272 => (if t272 = true then (if a0_1 < (-1) then (impl_PlaceOk.j0 k true l0_0 a0_1 l0_2) else (if a0_1 > 3 then (impl_PlaceOk.j0 k true l0_0 a0_1 l0_2) else ((impl_WordOk.f k (l0_0.length : Int) l0_2).bind fun t273 => (impl_PlaceOk.j0 k (!t273) l0_0 a0_1 l0_2)))) else (impl_PlaceOk.j0 k true l0_0 a0_1 l0_2))
theorem impl_PlaceOk.mono_l : ∀ k, (∀ y0 y1 y2 y3, LeO (impl_PlaceOk.j0 k y0 y1 y2 y3) (impl_PlaceOk.j0 (k + 1) y0 y1 y2 y3))
 | 0 => fun _ _ _ _ r h => by simp [impl_PlaceOk.j0] at h
 | k + 1 => by
  have ih0 := impl_PlaceOk.mono_l k
  ·
   intro y0 y1 y2 y3
   unfold impl_PlaceOk.j0
   repeat' first
   | (with_reducible exact ih0 _ _ _ _)
   | (with_reducible exact impl_SameRule.mono _ _ _)
   | (with_reducible exact impl_StartOk.mono _ _)
   | (with_reducible exact impl_WordOk.mono _ _ _)
   | (with_reducible exact impl_ruleWays.mono _ _ _ _)
   | (with_reducible exact LeO.refl _)
   | (with_reducible exact LeO.none _)
   | (with_reducible refine LeO.ite ?_ ?_)
   | (with_reducible refine LeO.bind ?_ (fun _ => ?_))
   | exact ih0 _ _ _ _
   | exact impl_SameRule.mono _ _ _
   | exact impl_StartOk.mono _ _
   | exact impl_WordOk.mono _ _ _
   | exact impl_ruleWays.mono _ _ _ _
   | exact LeO.none _
   | refine LeO.ite ?_ ?_
   | refine LeO.bind ?_ (fun _ => ?_)
theorem impl_PlaceOk.mono : ∀ a0 a1 a2 k, LeO (impl_PlaceOk.f k a0 a1 a2) (impl_PlaceOk.f (k + 1) a0 a1 a2) := by
 intro a0 a1 a2 k
 have ih0 := impl_PlaceOk.mono_l k
 unfold impl_PlaceOk.f
 repeat' first
   | (with_reducible exact ih0 _ _ _ _)
   | (with_reducible exact impl_SameRule.mono _ _ _)
   | (with_reducible exact impl_StartOk.mono _ _)
   | (with_reducible exact impl_WordOk.mono _ _ _)
   | (with_reducible exact impl_ruleWays.mono _ _ _ _)
   | (with_reducible exact LeO.refl _)
   | (with_reducible exact LeO.none _)
   | (with_reducible refine LeO.ite ?_ ?_)
   | (with_reducible refine LeO.bind ?_ (fun _ => ?_))
   | exact ih0 _ _ _ _
   | exact impl_SameRule.mono _ _ _
   | exact impl_StartOk.mono _ _
   | exact impl_WordOk.mono _ _ _
   | exact impl_ruleWays.mono _ _ _ _
   | exact LeO.none _
   | refine LeO.ite ?_ ?_
   | refine LeO.bind ?_ (fun _ => ?_)
def impl_PlaceOk.T3 : Bool × List (List Nat × List Nat) := (true, [([], []), ([0], [0]), ([], []), ([2], [2]), ([3], [3]), ([], []), ([5], [5]), ([4, 6], [4, 6]), ([], []), ([8], [8]), ([1, 7, 9, 7], [1, 7, 9]), ([10], [10]), ([11, 10, 0, 1, 2, 3, 4, 5, 6, 7, 8, 9, 10, 11], [11])])
def impl_PlaceOk.B3 : List Nat := [0, 1, 0, 4, 12, 0, 32, 124, 0, 256, 1023, 2047, 4095]
theorem impl_PlaceOk.tab3 : rtab .any (opsOf Tryd.f63 3) = impl_PlaceOk.T3 := by kernel_rfl
theorem impl_PlaceOk.bits3 : waitsOk impl_PlaceOk.T3.2 impl_PlaceOk.B3 = true := by kernel_rfl
set_option maxHeartbeats 8000000 in
set_option maxRecDepth 100000 in
theorem impl_PlaceOk.calls (k : Nat) (A0_0 : Option Addr) (c0_0 : Nat) (l0_0 : List Int) (a0_1 : Int) (A0_2 : Option Addr) (c0_2 : Nat) (l0_2 : List Int) (r : Bool) (w : World) (hr0_0 : Kd.C (Kd.int .i64) w A0_0 l0_0.length l0_0) (hc0_0 : l0_0.length ≤ c0_0) (hr0_2 : Kd.C (Kd.int .i64) w A0_2 l0_2.length l0_2) (hc0_2 : l0_2.length ≤ c0_2) (h : impl_PlaceOk.f k l0_0 a0_1 l0_2 = some r) :
  Calls Tryd.prog 63 #[.agg #[.slice A0_0 l0_0.length c0_0, .int .i64 a0_1, .slice A0_2 l0_2.length c0_2]] w fun e w' => e = .returned (.bool r) ∧ Below w.heap.size w w' := by
 have hu25 := Tryd.underlying25
 have HR0_0 := Aside0.mk hr0_0
 have HC0_0 := Aside0.mk hc0_0
 clear hr0_0 hc0_0
 have HR0_2 := Aside0.mk hr0_2
 have HC0_2 := Aside0.mk hc0_2
 clear hr0_2 hc0_2
 have HB := Aside0.mk (Below.refl w.heap.size w)
 have H : ((impl_StartOk.f k l0_0).bind fun t272 => (if t272 = true then (if a0_1 < (-1) then (impl_PlaceOk.j0 k true l0_0 a0_1 l0_2) else (if a0_1 > 3 then (impl_PlaceOk.j0 k true l0_0 a0_1 l0_2) else ((impl_WordOk.f k (l0_0.length : Int) l0_2).bind fun t273 => (impl_PlaceOk.j0 k (!t273) l0_0 a0_1 l0_2)))) else (impl_PlaceOk.j0 k true l0_0 a0_1 l0_2))) = some r := h
 clear h
 have HC2 := Aside0.mk H
 clear H
 go_enter Tryd.func63, Tryd.ntmps63
 go_upto_region 1 with (first | ((with_reducible refine gate_dst (N := 1) rfl ?_); (try (refine gate_guard (by rfl) ?_; dsimp only)); refine box_event ?hg (N := 1) ?hd (cs := #[.slice A0_0 l0_0.length c0_0, .int .i64 a0_1, .slice A0_2 l0_2.length c0_2]) (t := 25) ?hr ?_; (case hd => rfl); (case hg => rfl); (case hr => first | (go_simp; done) | (go_simp; rfl)); intro gb271 hg w3 hbox hb; have n0_ := Aside0.mk (below_step (tb_ HB.out) hb); have n1_ := Aside0.mk (hbox); have n2_ := Aside0.mk ((by rw [hg]; exact (below_size (tb_ HB.out)) : w.heap.size ≤ gb271)); have n3_ := Aside0.mk ((by rw [hg]; exact (below_size (tb_ HB.out)) : w.heap.size ≤ gb271)); clear HB; have HB := n0_; have BK271 := n1_; have GW271 := n2_; have GE271 := n3_; clear n0_ n1_ n2_ n3_ hb hbox hg))
 (try simp only [Act.put, sa_, sb_, sc_])
 go_cut [25] (fun v25 wc => ∃ (kq : Nat) (x25_1 : Bool), v25 = .bool x25_1 ∧ Aside0 (impl_PlaceOk.j0 kq x25_1 l0_0 a0_1 l0_2 = some r) ∧ Aside0 (kq ≤ k) ∧ Aside0 (wc.heap[gb271]? = some (.cells #[(.slice A0_0 l0_0.length c0_0), .int .i64 a0_1, (.slice A0_2 l0_2.length c0_2)] 25 (0, 0))) ∧ Aside0 (Below w.heap.size w wc))
 case first =>
  have H := HC2.out
  clear HC2
  replace H := Option.bind_eq_some_iff.mp H
  obtain ⟨t272, A40, H⟩ := H
  replace H : (if t272 = true then (if a0_1 < (-1) then (impl_PlaceOk.j0 k true l0_0 a0_1 l0_2) else (if a0_1 > 3 then (impl_PlaceOk.j0 k true l0_0 a0_1 l0_2) else ((impl_WordOk.f k (l0_0.length : Int) l0_2).bind fun t273 => (impl_PlaceOk.j0 k (!t273) l0_0 a0_1 l0_2)))) else (impl_PlaceOk.j0 k true l0_0 a0_1 l0_2)) = some r := H
  have A4 := Aside0.mk A40
  clear A40
  by_cases c5 : t272 = true
  ·
   subst c5
   have H1 : (if a0_1 < (-1) then (impl_PlaceOk.j0 k true l0_0 a0_1 l0_2) else (if a0_1 > 3 then (impl_PlaceOk.j0 k true l0_0 a0_1 l0_2) else ((impl_WordOk.f k (l0_0.length : Int) l0_2).bind fun t273 => (impl_PlaceOk.j0 k (!t273) l0_0 a0_1 l0_2)))) = some r := by rw [if_pos rfl] at H; exact H
   clear H
   have H := H1
   clear H1
   by_cases c6 : a0_1 < (-1)
   ·
    rw [if_pos c6] at H
    have c6b0 : decide (a0_1 < (-1)) = true := decide_eq_true c6
    clear c6
    (first | rw [c6b0] | (simp only [i64_w, i32_w]; rw [c6b0]) | skip)
    have H' := Aside0.mk H
    clear H
    have hcz7_0 : w3.cell? ⟨gb271, 0, none⟩ = some (.slice A0_0 l0_0.length c0_0) := (blk_cell BK271.out 0).trans rfl
    have hcz7_1 : w3.cell? ⟨gb271, 1, none⟩ = some (.int .i64 a0_1) := (blk_cell BK271.out 1).trans rfl
    have hcz7_2 : w3.cell? ⟨gb271, 2, none⟩ = some (.slice A0_2 l0_2.length c0_2) := (blk_cell BK271.out 2).trans rfl
    have hfz7_0 := blk_frozen BK271.out 0
    have hfz7_1 := blk_frozen BK271.out 1
    have hfz7_2 := blk_frozen BK271.out 2
    go_wp2_with (first | ((with_reducible refine gate_callee (f := 111) rfl ?_); refine goesL_ (some 5) rfl rfl Tryd.func111 (by kernel_rfl) rfl #[.slice A0_0 l0_0.length c0_0] rfl tz_ ?_; (with_reducible refine (impl_StartOk.calls k _ _ l0_0 true _ ?side1 ?side2 A4.out).mono ?_); (case side1 => exact tD_); (case side2 => exact HC0_0.out); rintro e w' ⟨rfl, ⟨nd, rfl⟩⟩; refine ⟨_, rfl, ?_⟩))
    go_meet
    case rel => exact ⟨_, (true), tx_, H', ⟨by first | omega | exact Nat.le_refl _⟩, ⟨tk_ BK271.out⟩, ⟨(tb_ HB.out)⟩⟩
   ·
    rw [if_neg c6] at H
    have c6b0 : decide (a0_1 < (-1)) = false := decide_eq_false c6
    clear c6
    (first | rw [c6b0] | (simp only [i64_w, i32_w]; rw [c6b0]) | skip)
    by_cases c8 : a0_1 > 3
    ·
     rw [if_pos c8] at H
     have c8b0 : decide (3 < a0_1) = true := decide_eq_true c8
     clear c8
     have H' := Aside0.mk H
     clear H
     have hcz9_0 : w3.cell? ⟨gb271, 0, none⟩ = some (.slice A0_0 l0_0.length c0_0) := (blk_cell BK271.out 0).trans rfl
     have hcz9_1 : w3.cell? ⟨gb271, 1, none⟩ = some (.int .i64 a0_1) := (blk_cell BK271.out 1).trans rfl
     have hcz9_2 : w3.cell? ⟨gb271, 2, none⟩ = some (.slice A0_2 l0_2.length c0_2) := (blk_cell BK271.out 2).trans rfl
     have hfz9_0 := blk_frozen BK271.out 0
     have hfz9_1 := blk_frozen BK271.out 1
     have hfz9_2 := blk_frozen BK271.out 2
     go_wp2_with (first | ((with_reducible refine gate_callee (f := 111) rfl ?_); refine goesL_ (some 5) rfl rfl Tryd.func111 (by kernel_rfl) rfl #[.slice A0_0 l0_0.length c0_0] rfl tz_ ?_; (with_reducible refine (impl_StartOk.calls k _ _ l0_0 true _ ?side1 ?side2 A4.out).mono ?_); (case side1 => exact tD_); (case side2 => exact HC0_0.out); rintro e w' ⟨rfl, ⟨nd, rfl⟩⟩; refine ⟨_, rfl, ?_⟩))
     go_meet
     case rel => exact ⟨_, (true), tx_, H', ⟨by first | omega | exact Nat.le_refl _⟩, ⟨tk_ BK271.out⟩, ⟨(tb_ HB.out)⟩⟩
    ·
     rw [if_neg c8] at H
     have c8b0 : decide (3 < a0_1) = false := decide_eq_false c8
     clear c8
     replace H := Option.bind_eq_some_iff.mp H
     obtain ⟨t273, A100, H⟩ := H
     replace H : (impl_PlaceOk.j0 k (!t273) l0_0 a0_1 l0_2) = some r := H
     have A10 := Aside0.mk A100
     clear A100
     have H' := Aside0.mk H
     clear H
     have hcz11_0 : w3.cell? ⟨gb271, 0, none⟩ = some (.slice A0_0 l0_0.length c0_0) := (blk_cell BK271.out 0).trans rfl
     have hcz11_1 : w3.cell? ⟨gb271, 1, none⟩ = some (.int .i64 a0_1) := (blk_cell BK271.out 1).trans rfl
     have hcz11_2 : w3.cell? ⟨gb271, 2, none⟩ = some (.slice A0_2 l0_2.length c0_2) := (blk_cell BK271.out 2).trans rfl
     have hfz11_0 := blk_frozen BK271.out 0
     have hfz11_1 := blk_frozen BK271.out 1
     have hfz11_2 := blk_frozen BK271.out 2
     go_wp2_with (first | ((with_reducible refine gate_callee (f := 111) rfl ?_); refine goesL_ (some 5) rfl rfl Tryd.func111 (by kernel_rfl) rfl #[.slice A0_0 l0_0.length c0_0] rfl tz_ ?_; (with_reducible refine (impl_StartOk.calls k _ _ l0_0 true _ ?side1 ?side2 A4.out).mono ?_); (case side1 => exact tD_); (case side2 => exact HC0_0.out); rintro e w' ⟨rfl, ⟨nd, rfl⟩⟩; refine ⟨_, rfl, ?_⟩) | (go_at_call 77; (with_reducible refine (impl_WordOk.calls k (l0_0.length : Int) _ _ l0_2 t273 _ ?side1 ?side2 A10.out).mono ?_); (case side1 => repeat (first | exact (Kd.C_below HR0_2.out (tb_ HB.out)) | (with_reducible refine Kd.C_alloc ?_ _) | (with_reducible refine Kd.C_drewN ?_ _) | (with_reducible refine Kd.C_drew ?_))); (case side2 => exact HC0_2.out); rintro e w' ⟨rfl, ⟨nd, rfl⟩⟩))
     go_meet
     case rel => exact ⟨_, (!t273), tx_, H', ⟨by first | omega | exact Nat.le_refl _⟩, ⟨tk_ BK271.out⟩, ⟨(tb_ HB.out)⟩⟩
  ·
   replace c5 := Bool.eq_false_iff.mpr c5
   subst c5
   have H1 : (impl_PlaceOk.j0 k true l0_0 a0_1 l0_2) = some r := by rw [if_neg (show ¬ (false = true) by decide)] at H; exact H
   clear H
   have H := H1
   clear H1
   have H' := Aside0.mk H
   clear H
   have hcz12_0 : w3.cell? ⟨gb271, 0, none⟩ = some (.slice A0_0 l0_0.length c0_0) := (blk_cell BK271.out 0).trans rfl
   have hcz12_1 : w3.cell? ⟨gb271, 1, none⟩ = some (.int .i64 a0_1) := (blk_cell BK271.out 1).trans rfl
   have hcz12_2 : w3.cell? ⟨gb271, 2, none⟩ = some (.slice A0_2 l0_2.length c0_2) := (blk_cell BK271.out 2).trans rfl
   have hfz12_0 := blk_frozen BK271.out 0
   have hfz12_1 := blk_frozen BK271.out 1
   have hfz12_2 := blk_frozen BK271.out 2
   go_wp2_with (first | ((with_reducible refine gate_callee (f := 111) rfl ?_); refine goesL_ (some 5) rfl rfl Tryd.func111 (by kernel_rfl) rfl #[.slice A0_0 l0_0.length c0_0] rfl tz_ ?_; (with_reducible refine (impl_StartOk.calls k _ _ l0_0 false _ ?side1 ?side2 A4.out).mono ?_); (case side1 => exact tD_); (case side2 => exact HC0_0.out); rintro e w' ⟨rfl, ⟨nd, rfl⟩⟩; refine ⟨_, rfl, ?_⟩))
   go_meet
   case rel => exact ⟨_, (true), tx_, H', ⟨by first | omega | exact Nat.le_refl _⟩, ⟨tk_ BK271.out⟩, ⟨(tb_ HB.out)⟩⟩
 case rest =>
  clear HC2
  try clear c1
  try clear p2
  try clear c5
  try clear c6
  try clear c6b0
  try clear c8
  try clear c8b0
  try clear c11
  try clear hcz11_0
  try clear hcz11_1
  try clear hcz11_2
  try clear hcz12_0
  try clear hcz12_1
  try clear hcz12_2
  try clear hcz7_0
  try clear hcz7_1
  try clear hcz7_2
  try clear hcz9_0
  try clear hcz9_1
  try clear hcz9_2
  try clear hfz11_0
  try clear hfz11_1
  try clear hfz11_2
  try clear hfz12_0
  try clear hfz12_1
  try clear hfz12_2
  try clear hfz7_0
  try clear hfz7_1
  try clear hfz7_2
  try clear hfz9_0
  try clear hfz9_1
  try clear hfz9_2
  obtain ⟨kq, x25_1, rfl, HA, HJ1, BK271, HB⟩ := hcut
  cases kq with
  | zero => exact absurd HA.out (by simp [impl_PlaceOk.j0])
  | succ kj1 =>
   have H := HA.out
   clear HA
   simp only [impl_PlaceOk.j0] at H
   by_cases c13 : x25_1 = true
   ·
    subst c13
    have H1 : (some false) = some r := by rw [if_pos rfl] at H; exact H
    clear H
    have H := H1
    clear H1
    obtain rfl := Option.some.inj H
    go_wp2
    go_ret
    exact ⟨by first | rfl | (simp [errW_none, errW_some, Option.map_none, Option.map_some] <;> rfl) | (simp [*, errW_none, errW_some] <;> rfl), (tb_ HB.out)⟩
   ·
    replace c13 := Bool.eq_false_iff.mpr c13
    subst c13
    have H1 : ((impl_SameRule.f kj1 (l0_0.length : Int) a0_1).bind fun t274 => ((impl_ruleWays.f kj1 l0_0 t274 l0_2).bind fun t277 => (some (decide (t277 > 0))))) = some r := by rw [if_neg (show ¬ (false = true) by decide)] at H; exact H
    clear H
    have H := H1
    clear H1
    replace H := Option.bind_eq_some_iff.mp H
    obtain ⟨t274, A140, H⟩ := H
    replace H : ((impl_ruleWays.f kj1 l0_0 t274 l0_2).bind fun t277 => (some (decide (t277 > 0)))) = some r := H
    have A14 := Aside0.mk A140
    clear A140
    replace H := Option.bind_eq_some_iff.mp H
    obtain ⟨t277, A150, H⟩ := H
    replace H : (some (decide (t277 > 0))) = some r := H
    have A15 := Aside0.mk A150
    clear A150
    obtain rfl := Option.some.inj H
    try go_wp2
    have n0_ := Aside0.mk (blk_drew BK271.out)
    have n1_ := Aside0.mk (ld_ HB.out)
    clear BK271
    clear HB
    have BK271 := n0_
    have HB := n1_
    clear n0_ n1_
    refine start_ (n := 13) (S := fun w' => w'.cell? ⟨gb271, 0, none⟩ = some (.slice A0_0 l0_0.length c0_0) ∧ w'.cell? ⟨gb271, 1, none⟩ = some (.int .i64 a0_1) ∧ w'.cell? ⟨gb271, 2, none⟩ = some (.slice A0_2 l0_2.length c0_2)) (ds := []) #[false, false, false, false, false, false, false, false, false, false, false, false, false] (by kernel_rfl) rfl rfl ⟨(blk_cell BK271.out 0).trans rfl, (blk_cell BK271.out 1).trans rfl, (blk_cell BK271.out 2).trans rfl⟩ (fun hHeld => ?_); refine with_tabW impl_PlaceOk.tab3 impl_PlaceOk.bits3 (fun HT_ HW_ => ?_)
    generalize wc.drew = w16 at BK271 HB hHeld ⊢
    refine pure_ (i := 0) (N := some 26) (v := ?_) (a' := ?_) #[true, false, false, false, false, false, false, false, false, false, false, false, false] rfl rfl (any_of HT_.out (by kernel_rfl)) (fun _ _ _ h => h) (Or.inl ⟨by rfl, ?_⟩) ?_ ?_
    rotate_left
    ·
     intro w'
     go_simp
     first | with_reducible rfl | (rw [if_neg (by omega)]; done)
    rotate_left
    ·
     simp only [Act.put, sa_, sb_, sc_, i64_w, i32_w]
     rfl
    refine pure_ (i := 2) (N := some 28) (v := ?_) (a' := ?_) #[true, false, true, false, false, false, false, false, false, false, false, false, false] rfl rfl (any_of HT_.out (by kernel_rfl)) (fun _ _ _ h => h) (Or.inl ⟨by rfl, ?_⟩) ?_ ?_
    rotate_left
    ·
     intro w'
     go_simp
     first | with_reducible rfl | (rw [if_neg (by omega)]; done)
    rotate_left
    ·
     simp only [Act.put, sa_, sb_, sc_, i64_w, i32_w]
     rfl
    refine pure_ (i := 5) (N := some 31) (v := ?_) (a' := ?_) #[true, false, true, false, false, true, false, false, false, false, false, false, false] rfl rfl (any_of HT_.out (by kernel_rfl)) (fun _ _ _ h => h) (Or.inl ⟨by rfl, ?_⟩) ?_ ?_
    rotate_left
    ·
     intro w'
     go_simp
     first | with_reducible rfl | (rw [if_neg (by omega)]; done)
    rotate_left
    ·
     simp only [Act.put, sa_, sb_, sc_, i64_w, i32_w]
     rfl
    refine pure_ (i := 8) (N := some 34) (v := ?_) (a' := ?_) #[true, false, true, false, false, true, false, false, true, false, false, false, false] rfl rfl (any_of HT_.out (by kernel_rfl)) (fun _ _ _ h => h) (Or.inl ⟨by rfl, ?_⟩) ?_ ?_
    rotate_left
    ·
     intro w'
     go_simp
     first | with_reducible rfl | (rw [if_neg (by omega)]; done)
    rotate_left
    ·
     simp only [Act.put, sa_, sb_, sc_, i64_w, i32_w]
     rfl
    refine take_ (i := 1) (N := some 27) (v := ?_) (a' := ?_) #[true, true, true, false, false, true, false, false, true, false, false, false, false] rfl rfl (take_ofW HT_.out HW_.out (by kernel_rfl)) (fun _ _ _ h => h) (Or.inl ⟨by rfl, ?_⟩) hHeld ?_ ?_
    rotate_left
    ·
     rintro w' ⟨s0, s1, s2⟩
     go_simp
     first | with_reducible rfl | (rw [if_neg (by omega)]; done)
    rotate_left
    ·
     simp only [Act.put, sa_, sb_, sc_, i64_w, i32_w]
     rfl
    refine take_ (i := 3) (N := some 29) (v := ?_) (a' := ?_) #[true, true, true, true, false, true, false, false, true, false, false, false, false] rfl rfl (take_ofW HT_.out HW_.out (by kernel_rfl)) (fun _ _ _ h => h) (Or.inl ⟨by rfl, ?_⟩) hHeld ?_ ?_
    rotate_left
    ·
     rintro w' ⟨s0, s1, s2⟩
     go_simp
     first | with_reducible rfl | (rw [if_neg (by omega)]; done)
    rotate_left
    ·
     simp only [Act.put, sa_, sb_, sc_, i64_w, i32_w]
     rfl
    refine pure_ (i := 4) (N := some 30) (v := ?_) (a' := ?_) #[true, true, true, true, true, true, false, false, true, false, false, false, false] rfl rfl (any_of HT_.out (by kernel_rfl)) (fun _ _ _ h => h) (Or.inl ⟨by rfl, ?_⟩) ?_ ?_
    rotate_left
    ·
     intro w'
     go_simp
     first | with_reducible rfl | (rw [if_neg (by omega)]; done)
    rotate_left
    ·
     simp only [Act.put, sa_, sb_, sc_, i64_w, i32_w]
     rfl
    refine take_ (i := 6) (N := some 32) (v := ?_) (a' := ?_) #[true, true, true, true, true, true, true, false, true, false, false, false, false] rfl rfl (take_ofW HT_.out HW_.out (by kernel_rfl)) (fun _ _ _ h => h) (Or.inl ⟨by rfl, ?_⟩) hHeld ?_ ?_
    rotate_left
    ·
     rintro w' ⟨s0, s1, s2⟩
     go_simp
     first | with_reducible rfl | (rw [if_neg (by omega)]; done)
    rotate_left
    ·
     simp only [Act.put, sa_, sb_, sc_, i64_w, i32_w]
     rfl
    refine take_ (i := 9) (N := some 35) (v := ?_) (a' := ?_) #[true, true, true, true, true, true, true, false, true, true, false, false, false] rfl rfl (take_ofW HT_.out HW_.out (by kernel_rfl)) (fun _ _ _ h => h) (Or.inl ⟨by rfl, ?_⟩) hHeld ?_ ?_
    rotate_left
    ·
     rintro w' ⟨s0, s1, s2⟩
     go_simp
     first | with_reducible rfl | (rw [if_neg (by omega)]; done)
    rotate_left
    ·
     simp only [Act.put, sa_, sb_, sc_, i64_w, i32_w]
     rfl
    refine one_ (i := 7) (N := some 33) #[true, true, true, true, true, true, true, true, true, true, false, false, false] rfl rfl (one_of HT_.out (by kernel_rfl)) (by decide) (fun K hK => ?_)
    refine goes_ Tryd.func21 (by kernel_rfl) rfl #[.int .i64 (l0_0.length : Int), .int .i64 a0_1] (by rfl) rfl rfl tz_ ?_
    with_reducible refine (impl_SameRule.calls kj1 (l0_0.length : Int) a0_1 t274 _ A14.out).mono ?_
    rintro e w17 ⟨v275, rfl, ho0, hb⟩
    refine ⟨_, rfl, ?_⟩
    have n0_ := Aside0.mk (Kd.S_lower ho0 (below_size (tb_ HB.out)))
    have n1_ := Aside0.mk (blk_below (g := gb271) (o := .cells #[.slice A0_0 l0_0.length c0_0, .int .i64 a0_1, .slice A0_2 l0_2.length c0_2] 25 (0, 0)) (tk_ BK271.out) hb)
    have n2_ := Aside0.mk (below_step (tb_ HB.out) hb)
    clear BK271
    clear HB
    have HO276 := n0_
    have BK271 := n1_
    have HB := n2_
    clear n0_ n1_ n2_
    (try clear hb)
    (try clear hb2)
    (try clear hk)
    (try clear hi)
    (try clear ho0)
    obtain ⟨Ao18, co18, eo18⟩ := Kd.S_slice HO276.out
    (first | subst eo18 | (injection eo18 with f1_ f2_ f3_; have f4_ := f1_.symm; have f5_ := f3_.symm; clear f1_ f2_ f3_; subst f4_; subst f5_))
    refine hK.out _ _ ⟨(blk_cell BK271.out 0).trans rfl, (blk_cell BK271.out 1).trans rfl, (blk_cell BK271.out 2).trans rfl⟩ (fun hHeld => ?_)
    clear hK K
    refine norm_ (a' := ?_) ?_ ?_
    rotate_left
    ·
     show Act.put _ (some 33) _ = _
     simp only [Act.put, sa_, sb_, sc_, i64_w, i32_w]
     rfl
    refine one_ (i := 10) (N := some 36) #[true, true, true, true, true, true, true, true, true, true, true, false, false] rfl rfl (one_of HT_.out (by kernel_rfl)) (by decide) (fun K hK => ?_)
    refine goes_ Tryd.func78 (by kernel_rfl) rfl #[.slice A0_0 l0_0.length c0_0, .slice Ao18 t274.length co18, .slice A0_2 l0_2.length c0_2] (by rfl) rfl rfl tz_ ?_
    with_reducible refine (impl_ruleWays.calls kj1 _ _ l0_0 _ _ t274 _ _ l0_2 t277 _ ?side1 ?side2 ?side3 ?side4 ?side5 ?side6 A15.out).mono ?_
    (case side1 => exact tD_)
    (case side2 => exact HC0_0.out)
    (case side3 => repeat (first | exact (Kd.S_reads' HO276.out).2.2 | (with_reducible refine Kd.C_alloc ?_ _) | (with_reducible refine Kd.C_drewN ?_ _) | (with_reducible refine Kd.C_drew ?_)))
    (case side4 => exact (Kd.S_reads' HO276.out).2.1)
    (case side5 => exact tD_)
    (case side6 => exact HC0_2.out)
    rintro e w19 ⟨rfl, hb⟩
    refine ⟨_, rfl, ?_⟩
    have n0_ := Aside0.mk (Kd.S_below (rS_ HO276.out) hb)
    have n1_ := Aside0.mk (blk_below (g := gb271) (o := .cells #[.slice A0_0 l0_0.length c0_0, .int .i64 a0_1, .slice A0_2 l0_2.length c0_2] 25 (0, 0)) (tk_ BK271.out) hb)
    have n2_ := Aside0.mk (below_step (tb_ HB.out) hb)
    clear HO276
    clear BK271
    clear HB
    have HO276 := n0_
    have BK271 := n1_
    have HB := n2_
    clear n0_ n1_ n2_
    (try clear hb)
    (try clear hb2)
    (try clear hk)
    (try clear hi)
    refine hK.out _ _ ⟨(blk_cell BK271.out 0).trans rfl, (blk_cell BK271.out 1).trans rfl, (blk_cell BK271.out 2).trans rfl⟩ (fun hHeld => ?_)
    clear hK K
    refine norm_ (a' := ?_) ?_ ?_
    rotate_left
    ·
     show Act.put _ (some 36) _ = _
     simp only [Act.put, sa_, sb_, sc_, i64_w, i32_w]
     rfl
    refine pure_ (i := 11) (N := some 37) (v := ?_) (a' := ?_) #[true, true, true, true, true, true, true, true, true, true, true, true, false] rfl rfl (any_of HT_.out (by kernel_rfl)) (fun _ _ _ h => h) (Or.inl ⟨by rfl, ?_⟩) ?_ ?_
    rotate_left
    ·
     intro w'
     go_simp
     first | with_reducible rfl | (rw [if_neg (by omega)]; done)
    rotate_left
    ·
     simp only [Act.put, sa_, sb_, sc_, i64_w, i32_w]
     rfl
    refine pure_ (i := 12) (N := some 2) (v := ?_) (a' := ?_) #[true, true, true, true, true, true, true, true, true, true, true, true, true] rfl rfl (any_of HT_.out (by kernel_rfl)) (fun _ _ _ h => h) (Or.inl ⟨by rfl, ?_⟩) ?_ ?_
    rotate_left
    ·
     intro w'
     go_simp
     first | with_reducible rfl | (rw [if_neg (by omega)]; done)
    rotate_left
    ·
     simp only [Act.put, sa_, sb_, sc_, i64_w, i32_w]
     rfl
    refine done_ (done_of HT_.out (by kernel_rfl)) ?_
    try go_wp2
    go_ret
    exact ⟨by first | rfl | (simp [errW_none, errW_some, Option.map_none, Option.map_some] <;> rfl) | (simp [*, errW_none, errW_some] <;> rfl), (tb_ HB.out)⟩

/-! ### strconv_Itoa: function 98 -/
def strconv_Itoa.f (a0 : Int) : Option (ByteArray) := if -9223372036854775808 ≤ a0 ∧ a0 ≤ 9223372036854775807 then some ⟨(Lib.itoa a0).toArray⟩ else none
theorem strconv_Itoa.calls (a0 : Int) (r : ByteArray) (w : World) (hG : GWb w) (h : strconv_Itoa.f a0 = some r) :
  Calls Tryd.prog 98 #[.int .i64 a0] w fun e w' => e = .returned (.string r) ∧ Below w.heap.size w w' := by
 unfold strconv_Itoa.f at h
 split at h
 ·
  rename_i hb
  obtain rfl := Option.some.inj h
  refine (Sh.Tryd.strconv_Itoa a0 hb.1 hb.2 w hG.tab).mono fun e w' ⟨he, k, os, hw⟩ => ⟨he, hw ▸ Lib.below_grow _ w (Nat.le_refl _) k os⟩
 ·
  cases h

/-! ### strings_Join: function 130 -/
def strings_Join.f (l0 : List ByteArray) (a1 : ByteArray) : Option (ByteArray) := if l0.length ≤ 140737488355328 ∧ (Lib.join (l0.map (·.data.toList)) a1.data.toList).length ≤ 140737488355328 then some ⟨(Lib.join (l0.map (·.data.toList)) a1.data.toList).toArray⟩ else none
theorem strings_Join.calls (A0 : Option Addr) (c0 : Nat) (l0 : List ByteArray) (a1 : ByteArray) (r : ByteArray) (w : World) (hr0 : Kd.C Kd.string w A0 l0.length l0) (hc0 : l0.length ≤ c0) (h : strings_Join.f l0 a1 = some r) :
  Calls Tryd.prog 130 #[.slice A0 l0.length c0, .string a1] w fun e w' => e = .returned (.string r) ∧ Below w.heap.size w w' := by
 unfold strings_Join.f at h
 split at h
 ·
  rename_i hb
  obtain rfl := Option.some.inj h
  rcases Nat.eq_zero_or_pos l0.length with h0 | h0
  ·
   obtain rfl : l0 = [] := List.eq_nil_of_length_eq_zero h0
   exact (Sh.Tryd.strings_Join_none A0 c0 a1 w).mono fun e w' ⟨he, hw⟩ => ⟨he, hw ▸ Below.refl _ _⟩
  ·
   obtain ⟨ad, rfl, hc⟩ := hr0.2.2 h0
   have hcell : ∀ (j : Nat) x, l0[j]? = some x → w.cell? (ad.add j) = some (.string x) := by
    intro j x hj
    obtain ⟨c, hc1, hc2, hc3⟩ := hc j _ hj
    have e1 : c = [.string x] := hc2
    have := hc3 0 _ (by rw [e1]; rfl)
    simpa [Kd.string, Kd.scalar] using this
   have hs := hcell 0 _ (List.getElem?_eq_getElem h0)
   have hsp : ad.spot = none := by
    cases hq : ad.spot with
    | none => rfl
    | some q => simp [World.cell?, Addr.add, hq] at hs; split at hs <;> simp at hs
   have hlt := World.block_lt_of_cell? _ _ hs
   obtain ⟨b, o, sp⟩ := ad
   simp only at hsp
   subst hsp
   exact Sh.Tryd.strings_Join b o c0 l0 a1 w (fun j x hj => by have := hcell j x hj; unfold Addr.add at this; split at this <;> simp_all) (by simpa [Addr.add] using hlt) hb.1 hc0 hb.2
 ·
  cases h

/-! ### impl_rowText: function 109 -/
def impl_rowText.l0 : Nat → List ByteArray → List Int → Int → Int → Option (ByteArray)
 | 0, _, _, _, _ => none
 | k + 1, x3, x7, x8, x9 => if x9 < x8 then (if 0 ≤ x9 then (if x9 < (x7.length : Int) then ((strconv_Itoa.f (rd x7 x9)).bind fun t282 => (if x3.length < 8796093022208 then (impl_rowText.l0 k (x3 ++ [t282]) x7 x8 (wrap64 (x9 + 1))) else (none))) else (none)) else (none)) else ((strings_Join.f x3 (⟨#[44]⟩ : ByteArray)).bind fun t286 => (some t286))
def impl_rowText.f (k : Nat) (l0 : List Int) : Option (ByteArray) := impl_rowText.l0 k (([] : List ByteArray)) l0 (l0.length : Int) 0
theorem impl_rowText.mono_l : ∀ k, (∀ y0 y1 y2 y3, LeO (impl_rowText.l0 k y0 y1 y2 y3) (impl_rowText.l0 (k + 1) y0 y1 y2 y3))
 | 0 => fun _ _ _ _ r h => by simp [impl_rowText.l0] at h
 | k + 1 => by
  have ih0 := impl_rowText.mono_l k
  ·
   intro y0 y1 y2 y3
   unfold impl_rowText.l0
   repeat' first
   | (with_reducible exact ih0 _ _ _ _)
   | (with_reducible exact LeO.refl _)
   | (with_reducible exact LeO.none _)
   | (with_reducible refine LeO.ite ?_ ?_)
   | (with_reducible refine LeO.bind ?_ (fun _ => ?_))
   | exact ih0 _ _ _ _
   | exact LeO.none _
   | refine LeO.ite ?_ ?_
   | refine LeO.bind ?_ (fun _ => ?_)
theorem impl_rowText.mono : ∀ a0 k, LeO (impl_rowText.f k a0) (impl_rowText.f (k + 1) a0) := by
 intro a0 k
 have ih0 := impl_rowText.mono_l k
 unfold impl_rowText.f
 repeat' first
   | (with_reducible exact ih0 _ _ _ _)
   | (with_reducible exact LeO.refl _)
   | (with_reducible exact LeO.none _)
   | (with_reducible refine LeO.ite ?_ ?_)
   | (with_reducible refine LeO.bind ?_ (fun _ => ?_))
   | exact ih0 _ _ _ _
   | exact LeO.none _
   | refine LeO.ite ?_ ?_
   | refine LeO.bind ?_ (fun _ => ?_)
set_option maxHeartbeats 8000000 in
set_option maxRecDepth 100000 in
theorem impl_rowText.calls (k : Nat) (A0 : Option Addr) (c0 : Nat) (l0 : List Int) (r : ByteArray) (w : World) (hr0 : Kd.C (Kd.int .i64) w A0 l0.length l0) (hc0 : l0.length ≤ c0) (hG : GWb w) (h : impl_rowText.f k l0 = some r) :
  Calls Tryd.prog 109 #[.slice A0 l0.length c0] w fun e w' => e = .returned (.string r) ∧ Below w.heap.size w w' := by
 have HG := Aside0.mk hG
 clear hG
 have HR0 := Aside0.mk hr0
 have HC0 := Aside0.mk hc0
 clear hr0 hc0
 have HB := Aside0.mk (Below.refl w.heap.size w)
 have H : (impl_rowText.l0 k (([] : List ByteArray)) l0 (l0.length : Int) 0) = some r := h
 clear h
 obtain ⟨y278, hy278⟩ : ∃ y_ : List ByteArray, y_ = (([] : List ByteArray)) := ⟨_, rfl⟩
 replace H : (impl_rowText.l0 k y278 l0 (l0.length : Int) 0) = some r := by first | (rw [hy278]; with_reducible exact H) | (have H2_ := (Option.bind_some _ _).symm.trans H; rw [hy278]; with_reducible exact H2_) | (have H2_ := (Option.bind_some _ _).symm.trans H; with_reducible exact H2_) | with_reducible exact H | (rw [hy278]; exact H) | exact H
 have Ny278 := Aside0.mk hy278
 clear hy278
 have H' := Aside0.mk H
 clear H
 go_enter Tryd.func109, Tryd.ntmps109
 go_wp2_with (first | ((with_reducible refine gate_dst (N := 6) rfl ?_); refine Kd.R_lit Kd.string _ 9 ?hg (N := 6) ?hd (xs := ([] : List ByteArray)) (inner := []) (ok := fun _ => True) (okp := fun _ => True) ?hr ?hp (fun _ hk => hk) trivial (Below.refl _ _) (Nat.le_refl _) (by simp) ?_; (case hd => rfl); (case hg => rfl); (case hr => first | (go_simp; done) | (go_simp; rfl)); (case hp => exact (Reps.none _ _)); intro v279 w2 ho3 hb hg_ hnew_; clear hg_ hnew_; (first | rw [← Ny278.out] at ho3 | (simp only [Int.reduceToNat] at ho3; rw [← Ny278.out] at ho3)); have n0_ := Aside0.mk (Kd.R_lower ho3 (below_size (tb_ HB.out))); have n1_ := Aside0.mk (below_step (tb_ HB.out) hb); clear HB; have HO280 := n0_; have HB := n1_; clear n0_ n1_ hb ho3))
 go_loopg [3, 9] k (fun kq v3 v9 w' => ∃ (x3_1 : List ByteArray) (x9_1 : Int), v9 = .int .i64 x9_1 ∧ Aside0 (impl_rowText.l0 kq x3_1 l0 (l0.length : Int) x9_1 = some r) ∧ Aside0 (kq ≤ k) ∧ Aside0 (Kd.R Kd.string 9 w' w.heap.size (fun _ => True) v3 x3_1) ∧ Aside0 (Below w.heap.size w w'))
 case atStart => exact ⟨(y278), (0), tx_, H', ⟨Nat.le_refl _⟩, ⟨rR_ HO280.out⟩, ⟨(tb_ HB.out)⟩⟩
 case round =>
  clear H'
  try clear c1
  try clear p2
  obtain ⟨x3_1, x9_1, rfl, HA, HK1, HO_3, HB⟩ := hrel
  cases gk with
  | zero => exact absurd HA.out (by simp [impl_rowText.l0])
  | succ k1 =>
   have H := HA.out
   clear HA
   simp only [impl_rowText.l0] at H
   by_cases c4 : x9_1 < (l0.length : Int)
   ·
    rw [if_pos c4] at H
    have c4b0 : decide (x9_1 < (l0.length : Int)) = true := decide_eq_true c4
    clear c4
    by_cases c5 : 0 ≤ x9_1
    ·
     rw [if_pos c5] at H
     have c5b0 : decide (0 ≤ x9_1) = true := decide_eq_true c5
     clear c5
     by_cases c6 : x9_1 < (l0.length : Int)
     ·
      rw [if_pos c6] at H
      have c6b0 : decide (x9_1 < (l0.length : Int)) = true := decide_eq_true c6
      clear c6
      replace H := Option.bind_eq_some_iff.mp H
      obtain ⟨t282, A70, H⟩ := H
      replace H : (if x3_1.length < 8796093022208 then (impl_rowText.l0 k1 (x3_1 ++ [t282]) l0 (l0.length : Int) (wrap64 (x9_1 + 1))) else (none)) = some r := H
      have A7 := Aside0.mk A70
      clear A70
      by_cases c8 : x3_1.length < 8796093022208
      ·
       rw [if_pos c8] at H
       have LMc8 := Aside0.mk c8
       clear c8
       obtain ⟨y283, hy283⟩ : ∃ y_ : List ByteArray, y_ = (x3_1 ++ [t282]) := ⟨_, rfl⟩
       replace H : (impl_rowText.l0 k1 y283 l0 (l0.length : Int) (wrap64 (x9_1 + 1))) = some r := by first | (rw [hy283]; with_reducible exact H) | (have H2_ := (Option.bind_some _ _).symm.trans H; rw [hy283]; with_reducible exact H2_) | (have H2_ := (Option.bind_some _ _).symm.trans H; with_reducible exact H2_) | with_reducible exact H | (rw [hy283]; exact H) | exact H
       have Ny283 := Aside0.mk hy283
       clear hy283
       have H' := Aside0.mk H
       clear H
       have p281 : 0 ≤ (x9_1 : Int) := od_
       have q281 : x9_1 < (l0.length : Int) := od_
       obtain ⟨ad281, e281, hx281_0⟩ := Kd.at_int HR0.out x9_1 p281 q281
       cases e281
       replace hx281_0 := (HB.out.cell (World.block_lt_of_cell? w _ hx281_0)).trans hx281_0
       replace p281 := eq_true p281
       replace q281 := eq_true q281
       go_wp2_with (first | ((with_reducible refine gate_callee (f := 98) rfl ?_); refine goesL_ (some 15) rfl rfl Tryd.func98 (by kernel_rfl) rfl #[.int .i64 (rd l0 x9_1)] rfl tz_ ?_; (with_reducible refine (strconv_Itoa.calls (rd l0 x9_1) t282 _ ?side1 A7.out).mono ?_); (case side1 => exact GWb.below HG.out (tb_ HB.out)); rintro e w9 ⟨rfl, hb⟩; refine ⟨_, rfl, ?_⟩; have n0_ := Aside0.mk (Kd.R_below (rR_ HO_3.out) hb); have n1_ := Aside0.mk (below_step (tb_ HB.out) hb); clear HO_3 HB; have HO_3 := n0_; have HB := n1_; clear n0_ n1_; (try clear hb); (try clear hb2); (try clear hk); (try clear hi)) | ((with_reducible refine gate_builtin (b := .append) (xs := #[.tmp 13, .tmp 16]) rfl ?_); at_builtin; refine Kd.R_append Kd.string (w0 := w) w.heap.size rfl (.tmp 13) (.tmp 16) 105 9 (.string ⟨#[]⟩) 16 rfl Tryd.underlying105 info9 rfl (by decide) (by omega) u3 x3_1 t282 [.string t282] (fun _ => True) (fun _ => False) rfl rfl ?aP (fun _ hk => hk.elim) ?aF ?aO ?aB ?aS ?aL ?_; (case aP => exact rfl); (case aB => exact (tb_ HB.out)); (case aF => exact (fun _ _ => trivial)); (case aO => exact (rR_ HO_3.out)); (case aS => exact (below_size (tb_ HB.out))); (case aL => have := LMc8.out; omega); intro v284 w10 ho hb hg hat; rw [← Ny283.out] at ho; have n0_ := Aside0.mk (hb); have n1_ := Aside0.mk (ho); clear HB HO_3; have HB := n0_; have HO285 := n1_; clear n0_ n1_ ho hb hg hat))
       go_roundg k1
       case measure => have := HK1.out; omega
       case rel => exact ⟨(y283), (wrap64 (x9_1 + 1)), tx_, H', ⟨by have := HK1.out; omega⟩, ⟨rR_ HO285.out⟩, ⟨(tb_ HB.out)⟩⟩
      ·
       rw [if_neg c8] at H
       exact absurd H (by simp)
     ·
      rw [if_neg c6] at H
      exact absurd H (by simp)
    ·
     rw [if_neg c5] at H
     exact absurd H (by simp)
   ·
    rw [if_neg c4] at H
    have c4b0 : decide (x9_1 < (l0.length : Int)) = false := decide_eq_false c4
    clear c4
    replace H := Option.bind_eq_some_iff.mp H
    obtain ⟨t286, A110, H⟩ := H
    replace H : (some t286) = some r := H
    have A11 := Aside0.mk A110
    clear A110
    obtain rfl := Option.some.inj H
    obtain ⟨Ao12, co12, eo12⟩ := Kd.R_slice HO_3.out
    subst eo12
    go_wp2_with (first | ((with_reducible refine gate_callee (f := 130) rfl ?_); refine goesL_ (some 20) rfl rfl Tryd.func130 (by kernel_rfl) rfl #[.slice Ao12 x3_1.length co12, .string (⟨#[44]⟩ : ByteArray)] rfl tz_ ?_; (with_reducible refine (strings_Join.calls _ _ x3_1 (⟨#[44]⟩ : ByteArray) t286 _ ?side1 ?side2 A11.out).mono ?_); (case side1 => repeat (first | exact (Kd.R_reads' HO_3.out).2.2 | (with_reducible refine Kd.C_alloc ?_ _) | (with_reducible refine Kd.C_drewN ?_ _) | (with_reducible refine Kd.C_drew ?_))); (case side2 => exact (Kd.R_reads' HO_3.out).2.1); rintro e w13 ⟨rfl, hb⟩; refine ⟨_, rfl, ?_⟩; have n0_ := Aside0.mk (Kd.R_below (rR_ HO_3.out) hb); have n1_ := Aside0.mk (below_step (tb_ HB.out) hb); clear HO_3 HB; have HO_3 := n0_; have HB := n1_; clear n0_ n1_; (try clear hb); (try clear hb2); (try clear hk); (try clear hi)))
    go_ret
    exact ⟨by first | rfl | (simp [errW_none, errW_some, Option.map_none, Option.map_some] <;> rfl) | (simp [*, errW_none, errW_some] <;> rfl), (tb_ HB.out)⟩

end Go.Proofs.YtlhiienanbpdlaaDoor.MFnReadPlace
