/- For the law FnDeedText: walks of the functions that it reaches: each call returns what the plain function beside it tells. The conditions stand in each statement. -/
import Derived.Test.YtlhiienanbpdlaaDoorMFnDeedTextx0
import Derived.Test.YtlhiienanbpdlaaDoorMFnDeedTextx1
import Derived.Test.YtlhiienanbpdlaaDoorMFnDeedTextx2
import Derived.Test.YtlhiienanbpdlaaDoorMFnDeedTextx3
import Derived.Test.YtlhiienanbpdlaaDoorMFnDeedTextx8
import Derived.Test.YtlhiienanbpdlaaDoorMFnDeedTextx9
namespace Go.Proofs.YtlhiienanbpdlaaDoor.MFnDeedText
open Go.RowKit Go.Proofs.YtlhiienanbpdlaaDoorW.PrintWords Go.Proofs.YtlhiienanbpdlaaDoorW.PrintLast Go.Proofs.YtlhiienanbpdlaaDoorW.PrintMore
attribute [local go_sem] max2_int min2_int max_two min_two max_three min_three max_four min_four   -- for this text's walks alone
set_option linter.unusedVariables false
set_option linter.unusedSimpArgs false

attribute [local go_sem high] eqA30
/-! ### laws_FnDeedText: function 9 -/
def laws_FnDeedText.f (k : Nat) (l0 : List Int) : Option (Bool) := if (l0.length : Int) > 1048576 then (some true) else ((spec_DrawDeedText.f k l0).bind fun bt329 => ((impl_DeedText.f k bt329.1 bt329.2.1 bt329.2.2).bind fun t333 => ((spec_DeedText.f k bt329.1 bt329.2.1 bt329.2.2).bind fun t334 => (if t333.toList = t334.toList then (if t333.toList = ([] : List UInt8) then ((laws_alive.f k).bind fun t335 => (some t335)) else ((impl_ReadDeed.f k t333).bind fun bt336 => (if bt336.2.2.2 = true then (some (bt336.1 == bt329.1 && (bt336.2.1 == bt329.2.1 && (bt336.2.2.1 == bt329.2.2)))) else (some false)))) else (some false)))))
theorem laws_FnDeedText.mono : ∀ a0 k, LeO (laws_FnDeedText.f k a0) (laws_FnDeedText.f (k + 1) a0) := by
 intro a0 k
 unfold laws_FnDeedText.f
 repeat' first
   | (with_reducible exact impl_DeedText.mono _ _ _ _)
   | (with_reducible exact impl_ReadDeed.mono _ _)
   | (with_reducible exact laws_alive.mono _)
   | (with_reducible exact spec_DeedText.mono _ _ _ _)
   | (with_reducible exact spec_DrawDeedText.mono _ _)
   | (with_reducible exact LeO.refl _)
   | (with_reducible exact LeO.none _)
   | (with_reducible refine LeO.ite ?_ ?_)
   | (with_reducible refine LeO.bind ?_ (fun _ => ?_))
   | exact impl_DeedText.mono _ _ _ _
   | exact impl_ReadDeed.mono _ _
   | exact laws_alive.mono _
   | exact spec_DeedText.mono _ _ _ _
   | exact spec_DrawDeedText.mono _ _
   | exact LeO.none _
   | refine LeO.ite ?_ ?_
   | refine LeO.bind ?_ (fun _ => ?_)
set_option maxHeartbeats 8000000 in
set_option maxRecDepth 100000 in
theorem laws_FnDeedText.calls (k : Nat) (A0 : Option Addr) (c0 : Nat) (l0 : List Int) (r : Bool) (w : World) (hr0 : Kd.C (Kd.int .u8) w A0 l0.length l0) (hc0 : l0.length ≤ c0) (hG : GWb w) (h : laws_FnDeedText.f k l0 = some r) :
  Calls Tryd.prog 9 #[.slice A0 l0.length c0] w fun e w' => e = .returned (.bool r) ∧ Below w.heap.size w w' := by
 have HG := Aside0.mk hG
 clear hG
 have hu30 := Tryd.underlying30
 have HR0 := Aside0.mk hr0
 have HC0 := Aside0.mk hc0
 clear hr0 hc0
 have HB := Aside0.mk (Below.refl w.heap.size w)
 have H : (if (l0.length : Int) > 1048576 then (some true) else ((spec_DrawDeedText.f k l0).bind fun bt329 => ((impl_DeedText.f k bt329.1 bt329.2.1 bt329.2.2).bind fun t333 => ((spec_DeedText.f k bt329.1 bt329.2.1 bt329.2.2).bind fun t334 => (if t333.toList = t334.toList then (if t333.toList = ([] : List UInt8) then ((laws_alive.f k).bind fun t335 => (some t335)) else ((impl_ReadDeed.f k t333).bind fun bt336 => (if bt336.2.2.2 = true then (some (bt336.1 == bt329.1 && (bt336.2.1 == bt329.2.1 && (bt336.2.2.1 == bt329.2.2)))) else (some false)))) else (some false)))))) = some r := h
 clear h
 by_cases c2 : (l0.length : Int) > 1048576
 ·
  rw [if_pos c2] at H
  have c2b0 : decide (1048576 < (l0.length : Int)) = true := decide_eq_true c2
  have c2b1 : decide (1048576 < l0.length) = true := decide_eq_true (by omega)
  clear c2
  obtain rfl := Option.some.inj H
  go_enter Tryd.func9, Tryd.ntmps9
  go_wp2
  go_ret
  exact ⟨by first | rfl | (simp [errW_none, errW_some, Option.map_none, Option.map_some] <;> rfl) | (simp [*, errW_none, errW_some] <;> rfl), (tb_ HB.out)⟩
 ·
  rw [if_neg c2] at H
  have c2b0 : decide (1048576 < (l0.length : Int)) = false := decide_eq_false c2
  have c2b1 : decide (1048576 < l0.length) = false := decide_eq_false (by omega)
  clear c2
  replace H := Option.bind_eq_some_iff.mp H
  obtain ⟨⟨t329, t330, t331⟩, A30, H⟩ := H
  replace H : ((impl_DeedText.f k t329 t330 t331).bind fun t333 => ((spec_DeedText.f k t329 t330 t331).bind fun t334 => (if t333.toList = t334.toList then (if t333.toList = ([] : List UInt8) then ((laws_alive.f k).bind fun t335 => (some t335)) else ((impl_ReadDeed.f k t333).bind fun bt336 => (if bt336.2.2.2 = true then (some (bt336.1 == t329 && (bt336.2.1 == t330 && (bt336.2.2.1 == t331)))) else (some false)))) else (some false)))) = some r := H
  have A3 := Aside0.mk A30
  clear A30
  replace H := Option.bind_eq_some_iff.mp H
  obtain ⟨t333, A40, H⟩ := H
  replace H : ((spec_DeedText.f k t329 t330 t331).bind fun t334 => (if t333.toList = t334.toList then (if t333.toList = ([] : List UInt8) then ((laws_alive.f k).bind fun t335 => (some t335)) else ((impl_ReadDeed.f k t333).bind fun bt336 => (if bt336.2.2.2 = true then (some (bt336.1 == t329 && (bt336.2.1 == t330 && (bt336.2.2.1 == t331)))) else (some false)))) else (some false))) = some r := H
  have A4 := Aside0.mk A40
  clear A40
  replace H := Option.bind_eq_some_iff.mp H
  obtain ⟨t334, A50, H⟩ := H
  replace H : (if t333.toList = t334.toList then (if t333.toList = ([] : List UInt8) then ((laws_alive.f k).bind fun t335 => (some t335)) else ((impl_ReadDeed.f k t333).bind fun bt336 => (if bt336.2.2.2 = true then (some (bt336.1 == t329 && (bt336.2.1 == t330 && (bt336.2.2.1 == t331)))) else (some false)))) else (some false)) = some r := H
  have A5 := Aside0.mk A50
  clear A50
  by_cases c6 : t333.toList = t334.toList
  ·
   rw [if_pos c6] at H
   have c6b0 : (t333.toList == t334.toList) = true := beq_iff_eq.mpr c6
   have c6b1 : (t333.toList != t334.toList) = false := bne_eq_false_iff_eq.mpr c6
   clear c6
   by_cases c7 : t333.toList = ([] : List UInt8)
   ·
    rw [if_pos c7] at H
    have c7b0 : (t333.toList == ([] : List UInt8)) = true := beq_iff_eq.mpr c7
    have c7b1 : (t333.toList != ([] : List UInt8)) = false := bne_eq_false_iff_eq.mpr c7
    clear c7
    replace H := Option.bind_eq_some_iff.mp H
    obtain ⟨t335, A80, H⟩ := H
    replace H : (some t335) = some r := H
    have A8 := Aside0.mk A80
    clear A80
    obtain rfl := Option.some.inj H
    go_enter Tryd.func9, Tryd.ntmps9
    go_wp2_with (first | ((with_reducible refine gate_callee (f := 45) rfl ?_); refine goesL_ (some 11) rfl rfl Tryd.func45 (by kernel_rfl) rfl #[.slice A0 l0.length c0] rfl tz_ ?_; (with_reducible refine (spec_DrawDeedText.calls k _ _ l0 t329 t330 t331 _ ?side1 ?side2 A3.out).mono ?_); (case side1 => exact td_); (case side2 => exact HC0.out); rintro e w9 ⟨rfl, hb⟩; refine ⟨_, rfl, ?_⟩; have n0_ := Aside0.mk (below_step (tb_ HB.out) hb); clear HB; have HB := n0_; clear n0_; (try clear hb); (try clear hb2); (try clear hk); (try clear hi)) | ((with_reducible refine gate_dst (N := 3) rfl ?_); refine box_event ?hg (N := 3) ?hd (cs := #[.int .i64 0, .int .i64 0, .int .i64 0]) (t := 30) ?hr ?_; (case hd => rfl); (case hg => rfl); (case hr => first | (go_simp; done) | (go_simp; rfl)); intro gb332 hg w10 hbox hb; have n0_ := Aside0.mk (below_step (tb_ HB.out) hb); have n1_ := Aside0.mk (hbox); have n2_ := Aside0.mk ((by rw [hg]; exact (below_size (tb_ HB.out)) : w.heap.size ≤ gb332)); have n3_ := Aside0.mk ((by rw [hg]; exact (below_size (tb_ HB.out)) : w.heap.size ≤ gb332)); clear HB; have HB := n0_; have BK332 := n1_; have GW332 := n2_; have GE332 := n3_; clear n0_ n1_ n2_ n3_ hb hbox hg; have hcz11_0 : w10.cell? ⟨gb332, 0, none⟩ = some (.int .i64 0) := (blk_cell BK332.out 0).trans rfl; have hcz11_1 : w10.cell? ⟨gb332, 1, none⟩ = some (.int .i64 0) := (blk_cell BK332.out 1).trans rfl; have hcz11_2 : w10.cell? ⟨gb332, 2, none⟩ = some (.int .i64 0) := (blk_cell BK332.out 2).trans rfl; have hfz11_0 := blk_frozen BK332.out 0; have hfz11_1 := blk_frozen BK332.out 1; have hfz11_2 := blk_frozen BK332.out 2) | ((with_reducible refine gate_callee (f := 46) rfl ?_); refine goesL_ (some 13) rfl rfl Tryd.func46 (by kernel_rfl) rfl #[.agg #[.int .i64 t329, .int .i64 t330, .int .i64 t331]] rfl tz_ ?_; (with_reducible refine (impl_DeedText.calls k t329 t330 t331 t333 _ ?side1 A4.out).mono ?_); (case side1 => exact GWb.below HG.out (tb_ HB.out)); rintro e w12 ⟨rfl, hb⟩; refine ⟨_, rfl, ?_⟩; have n0_ := Aside0.mk (blk_below (g := gb332) (o := .cells #[.int .i64 t329, .int .i64 t330, .int .i64 t331] 30 (0, 0)) (by refine bq_ ?_; refine blk_put (cs := #[.int .i64 t329, .int .i64 t330, .int .i64 0]) ?_ 2 _ rfl; refine bq_ ?_; refine blk_put (cs := #[.int .i64 t329, .int .i64 0, .int .i64 0]) ?_ 1 _ rfl; refine bq_ ?_; refine blk_put (cs := #[.int .i64 0, .int .i64 0, .int .i64 0]) ?_ 0 _ rfl; exact tk_ BK332.out) hb); have n1_ := Aside0.mk (below_step (tb_ HB.out) hb); clear BK332 HB; have BK332 := n0_; have HB := n1_; clear n0_ n1_; (try clear hb); (try clear hb2); (try clear hk); (try clear hi); have hcz13_0 : w12.cell? ⟨gb332, 0, none⟩ = some (.int .i64 t329) := (blk_cell BK332.out 0).trans rfl; have hcz13_1 : w12.cell? ⟨gb332, 1, none⟩ = some (.int .i64 t330) := (blk_cell BK332.out 1).trans rfl; have hcz13_2 : w12.cell? ⟨gb332, 2, none⟩ = some (.int .i64 t331) := (blk_cell BK332.out 2).trans rfl; have hfz13_0 := blk_frozen BK332.out 0; have hfz13_1 := blk_frozen BK332.out 1; have hfz13_2 := blk_frozen BK332.out 2) | ((with_reducible refine gate_callee (f := 47) rfl ?_); refine goesL_ (some 16) rfl rfl Tryd.func47 (by kernel_rfl) rfl #[.agg #[.int .i64 t329, .int .i64 t330, .int .i64 t331]] rfl tz_ ?_; (with_reducible refine (spec_DeedText.calls k t329 t330 t331 t334 _ A5.out).mono ?_); rintro e w14 ⟨rfl, hb⟩; refine ⟨_, rfl, ?_⟩; have n0_ := Aside0.mk (blk_below (g := gb332) (o := .cells #[.int .i64 t329, .int .i64 t330, .int .i64 t331] 30 (0, 0)) (tk_ BK332.out) hb); have n1_ := Aside0.mk (below_step (tb_ HB.out) hb); clear BK332 HB; have BK332 := n0_; have HB := n1_; clear n0_ n1_; (try clear hb); (try clear hb2); (try clear hk); (try clear hi)) | ((with_reducible refine gate_callee (f := 20) rfl ?_); refine goesL_ (some 20) rfl rfl Tryd.func20 (by kernel_rfl) rfl #[] rfl tz_ ?_; (with_reducible refine (laws_alive.calls k  t335 _ A8.out).mono ?_); rintro e w15 ⟨rfl, hb⟩; refine ⟨_, rfl, ?_⟩; have n0_ := Aside0.mk (blk_below (g := gb332) (o := .cells #[.int .i64 t329, .int .i64 t330, .int .i64 t331] 30 (0, 0)) (tk_ BK332.out) hb); have n1_ := Aside0.mk (below_step (tb_ HB.out) hb); clear BK332 HB; have BK332 := n0_; have HB := n1_; clear n0_ n1_; (try clear hb); (try clear hb2); (try clear hk); (try clear hi)))
    go_ret
    exact ⟨by first | rfl | (simp [errW_none, errW_some, Option.map_none, Option.map_some] <;> rfl) | (simp [*, errW_none, errW_some] <;> rfl), (tb_ HB.out)⟩
   ·
    rw [if_neg c7] at H
    have c7b0 : (t333.toList == ([] : List UInt8)) = false := beq_eq_false_iff_ne.mpr c7
    have c7b1 : (t333.toList != ([] : List UInt8)) = true := bne_iff_ne.mpr c7
    replace H := Option.bind_eq_some_iff.mp H
    obtain ⟨⟨t336, t337, t338, t339⟩, A160, H⟩ := H
    replace H : (if t339 = true then (some (t336 == t329 && (t337 == t330 && (t338 == t331)))) else (some false)) = some r := H
    have A16 := Aside0.mk A160
    clear A160
    by_cases c17 : t339 = true
    ·
     subst c17
     have H1 : (some (t336 == t329 && (t337 == t330 && (t338 == t331)))) = some r := by rw [if_pos rfl] at H; exact H
     clear H
     have H := H1
     clear H1
     obtain rfl := Option.some.inj H
     go_enter Tryd.func9, Tryd.ntmps9
     go_wp2_with (first | ((with_reducible refine gate_callee (f := 45) rfl ?_); refine goesL_ (some 11) rfl rfl Tryd.func45 (by kernel_rfl) rfl #[.slice A0 l0.length c0] rfl tz_ ?_; (with_reducible refine (spec_DrawDeedText.calls k _ _ l0 t329 t330 t331 _ ?side1 ?side2 A3.out).mono ?_); (case side1 => exact td_); (case side2 => exact HC0.out); rintro e w18 ⟨rfl, hb⟩; refine ⟨_, rfl, ?_⟩; have n0_ := Aside0.mk (below_step (tb_ HB.out) hb); clear HB; have HB := n0_; clear n0_; (try clear hb); (try clear hb2); (try clear hk); (try clear hi)) | ((with_reducible refine gate_dst (N := 3) rfl ?_); refine box_event ?hg (N := 3) ?hd (cs := #[.int .i64 0, .int .i64 0, .int .i64 0]) (t := 30) ?hr ?_; (case hd => rfl); (case hg => rfl); (case hr => first | (go_simp; done) | (go_simp; rfl)); intro gb332 hg w19 hbox hb; have n0_ := Aside0.mk (below_step (tb_ HB.out) hb); have n1_ := Aside0.mk (hbox); have n2_ := Aside0.mk ((by rw [hg]; exact (below_size (tb_ HB.out)) : w.heap.size ≤ gb332)); have n3_ := Aside0.mk ((by rw [hg]; exact (below_size (tb_ HB.out)) : w.heap.size ≤ gb332)); clear HB; have HB := n0_; have BK332 := n1_; have GW332 := n2_; have GE332 := n3_; clear n0_ n1_ n2_ n3_ hb hbox hg; have hcz20_0 : w19.cell? ⟨gb332, 0, none⟩ = some (.int .i64 0) := (blk_cell BK332.out 0).trans rfl; have hcz20_1 : w19.cell? ⟨gb332, 1, none⟩ = some (.int .i64 0) := (blk_cell BK332.out 1).trans rfl; have hcz20_2 : w19.cell? ⟨gb332, 2, none⟩ = some (.int .i64 0) := (blk_cell BK332.out 2).trans rfl; have hfz20_0 := blk_frozen BK332.out 0; have hfz20_1 := blk_frozen BK332.out 1; have hfz20_2 := blk_frozen BK332.out 2) | ((with_reducible refine gate_callee (f := 46) rfl ?_); refine goesL_ (some 13) rfl rfl Tryd.func46 (by kernel_rfl) rfl #[.agg #[.int .i64 t329, .int .i64 t330, .int .i64 t331]] rfl tz_ ?_; (with_reducible refine (impl_DeedText.calls k t329 t330 t331 t333 _ ?side1 A4.out).mono ?_); (case side1 => exact GWb.below HG.out (tb_ HB.out)); rintro e w21 ⟨rfl, hb⟩; refine ⟨_, rfl, ?_⟩; have n0_ := Aside0.mk (blk_below (g := gb332) (o := .cells #[.int .i64 t329, .int .i64 t330, .int .i64 t331] 30 (0, 0)) (by refine bq_ ?_; refine blk_put (cs := #[.int .i64 t329, .int .i64 t330, .int .i64 0]) ?_ 2 _ rfl; refine bq_ ?_; refine blk_put (cs := #[.int .i64 t329, .int .i64 0, .int .i64 0]) ?_ 1 _ rfl; refine bq_ ?_; refine blk_put (cs := #[.int .i64 0, .int .i64 0, .int .i64 0]) ?_ 0 _ rfl; exact tk_ BK332.out) hb); have n1_ := Aside0.mk (below_step (tb_ HB.out) hb); clear BK332 HB; have BK332 := n0_; have HB := n1_; clear n0_ n1_; (try clear hb); (try clear hb2); (try clear hk); (try clear hi); have hcz22_0 : w21.cell? ⟨gb332, 0, none⟩ = some (.int .i64 t329) := (blk_cell BK332.out 0).trans rfl; have hcz22_1 : w21.cell? ⟨gb332, 1, none⟩ = some (.int .i64 t330) := (blk_cell BK332.out 1).trans rfl; have hcz22_2 : w21.cell? ⟨gb332, 2, none⟩ = some (.int .i64 t331) := (blk_cell BK332.out 2).trans rfl; have hfz22_0 := blk_frozen BK332.out 0; have hfz22_1 := blk_frozen BK332.out 1; have hfz22_2 := blk_frozen BK332.out 2) | ((with_reducible refine gate_callee (f := 47) rfl ?_); refine goesL_ (some 16) rfl rfl Tryd.func47 (by kernel_rfl) rfl #[.agg #[.int .i64 t329, .int .i64 t330, .int .i64 t331]] rfl tz_ ?_; (with_reducible refine (spec_DeedText.calls k t329 t330 t331 t334 _ A5.out).mono ?_); rintro e w23 ⟨rfl, hb⟩; refine ⟨_, rfl, ?_⟩; have n0_ := Aside0.mk (blk_below (g := gb332) (o := .cells #[.int .i64 t329, .int .i64 t330, .int .i64 t331] 30 (0, 0)) (tk_ BK332.out) hb); have n1_ := Aside0.mk (below_step (tb_ HB.out) hb); clear BK332 HB; have BK332 := n0_; have HB := n1_; clear n0_ n1_; (try clear hb); (try clear hb2); (try clear hk); (try clear hi)) | ((with_reducible refine gate_callee (f := 40) rfl ?_); refine goesL_ (some 23) rfl rfl Tryd.func40 (by kernel_rfl) rfl #[.string t333] rfl tz_ ?_; (with_reducible refine (impl_ReadDeed.calls k t333 t336 t337 t338 true _ ?side1 A16.out).mono ?_); (case side1 => exact GWb.below HG.out (tb_ HB.out)); rintro e w24 ⟨rfl, hb⟩; refine ⟨_, rfl, ?_⟩; have n0_ := Aside0.mk (blk_below (g := gb332) (o := .cells #[.int .i64 t329, .int .i64 t330, .int .i64 t331] 30 (0, 0)) (tk_ BK332.out) hb); have n1_ := Aside0.mk (below_step (tb_ HB.out) hb); clear BK332 HB; have BK332 := n0_; have HB := n1_; clear n0_ n1_; (try clear hb); (try clear hb2); (try clear hk); (try clear hi)) | ((with_reducible refine gate_dst (N := 5) rfl ?_); refine box_event ?hg (N := 5) ?hd (cs := #[.int .i64 0, .int .i64 0, .int .i64 0]) (t := 30) ?hr ?_; (case hd => rfl); (case hg => rfl); (case hr => first | (go_simp; done) | (go_simp; rfl)); intro gb340 hg w25 hbox hb; have n0_ := Aside0.mk (blk_below (g := gb332) (o := .cells #[.int .i64 t329, .int .i64 t330, .int .i64 t331] 30 (0, 0)) (tk_ BK332.out) hb); have n1_ := Aside0.mk (below_step (tb_ HB.out) hb); have n2_ := Aside0.mk (hbox); have n3_ := Aside0.mk ((by rw [hg]; exact (below_size (tb_ HB.out)) : w.heap.size ≤ gb340)); have n4_ := Aside0.mk ((by rw [hg]; exact (below_size (tb_ HB.out)) : w.heap.size ≤ gb340)); have n5_ := Aside0.mk ((by rw [hg]; exact Nat.ne_of_lt (blk_lt (g := gb332) (o := .cells #[.int .i64 t329, .int .i64 t330, .int .i64 t331] 30 (0, 0)) (tk_ BK332.out)) : gb332 ≠ gb340)); have n6_ := Aside0.mk ((by rw [hg]; exact Nat.ne_of_gt (blk_lt (g := gb332) (o := .cells #[.int .i64 t329, .int .i64 t330, .int .i64 t331] 30 (0, 0)) (tk_ BK332.out)) : gb340 ≠ gb332)); clear BK332 HB; have BK332 := n0_; have HB := n1_; have BK340 := n2_; have GW340 := n3_; have GE340 := n4_; have NB332_340 := n5_; have NB340_332 := n6_; clear n0_ n1_ n2_ n3_ n4_ n5_ n6_ hb hbox hg; have hnb26 := NB340_332.out; have hnc26 := NB332_340.out; have hcz27_0 : w25.cell? ⟨gb340, 0, none⟩ = some (.int .i64 0) := (blk_cell BK340.out 0).trans rfl; have hcz27_1 : w25.cell? ⟨gb340, 1, none⟩ = some (.int .i64 0) := (blk_cell BK340.out 1).trans rfl; have hcz27_2 : w25.cell? ⟨gb340, 2, none⟩ = some (.int .i64 0) := (blk_cell BK340.out 2).trans rfl; have hfz27_0 := blk_frozen BK340.out 0; have hfz27_1 := blk_frozen BK340.out 1; have hfz27_2 := blk_frozen BK340.out 2; have hcz28_0 : w25.cell? ⟨gb332, 0, none⟩ = some (.int .i64 t329) := (blk_cell BK332.out 0).trans rfl; have hcz28_1 : w25.cell? ⟨gb332, 1, none⟩ = some (.int .i64 t330) := (blk_cell BK332.out 1).trans rfl; have hcz28_2 : w25.cell? ⟨gb332, 2, none⟩ = some (.int .i64 t331) := (blk_cell BK332.out 2).trans rfl; have hfz28_0 := blk_frozen BK332.out 0; have hfz28_1 := blk_frozen BK332.out 1; have hfz28_2 := blk_frozen BK332.out 2))
     go_ret
     exact ⟨by first | rfl | (simp [errW_none, errW_some, Option.map_none, Option.map_some] <;> rfl) | (simp [*, errW_none, errW_some] <;> rfl), (tb_ HB.out)⟩
    ·
     replace c17 := Bool.eq_false_iff.mpr c17
     subst c17
     have H1 : (some false) = some r := by rw [if_neg (show ¬ (false = true) by decide)] at H; exact H
     clear H
     have H := H1
     clear H1
     obtain rfl := Option.some.inj H
     go_enter Tryd.func9, Tryd.ntmps9
     go_wp2_with (first | ((with_reducible refine gate_callee (f := 45) rfl ?_); refine goesL_ (some 11) rfl rfl Tryd.func45 (by kernel_rfl) rfl #[.slice A0 l0.length c0] rfl tz_ ?_; (with_reducible refine (spec_DrawDeedText.calls k _ _ l0 t329 t330 t331 _ ?side1 ?side2 A3.out).mono ?_); (case side1 => exact td_); (case side2 => exact HC0.out); rintro e w29 ⟨rfl, hb⟩; refine ⟨_, rfl, ?_⟩; have n0_ := Aside0.mk (below_step (tb_ HB.out) hb); clear HB; have HB := n0_; clear n0_; (try clear hb); (try clear hb2); (try clear hk); (try clear hi)) | ((with_reducible refine gate_dst (N := 3) rfl ?_); refine box_event ?hg (N := 3) ?hd (cs := #[.int .i64 0, .int .i64 0, .int .i64 0]) (t := 30) ?hr ?_; (case hd => rfl); (case hg => rfl); (case hr => first | (go_simp; done) | (go_simp; rfl)); intro gb332 hg w30 hbox hb; have n0_ := Aside0.mk (below_step (tb_ HB.out) hb); have n1_ := Aside0.mk (hbox); have n2_ := Aside0.mk ((by rw [hg]; exact (below_size (tb_ HB.out)) : w.heap.size ≤ gb332)); have n3_ := Aside0.mk ((by rw [hg]; exact (below_size (tb_ HB.out)) : w.heap.size ≤ gb332)); clear HB; have HB := n0_; have BK332 := n1_; have GW332 := n2_; have GE332 := n3_; clear n0_ n1_ n2_ n3_ hb hbox hg; have hcz31_0 : w30.cell? ⟨gb332, 0, none⟩ = some (.int .i64 0) := (blk_cell BK332.out 0).trans rfl; have hcz31_1 : w30.cell? ⟨gb332, 1, none⟩ = some (.int .i64 0) := (blk_cell BK332.out 1).trans rfl; have hcz31_2 : w30.cell? ⟨gb332, 2, none⟩ = some (.int .i64 0) := (blk_cell BK332.out 2).trans rfl; have hfz31_0 := blk_frozen BK332.out 0; have hfz31_1 := blk_frozen BK332.out 1; have hfz31_2 := blk_frozen BK332.out 2) | ((with_reducible refine gate_callee (f := 46) rfl ?_); refine goesL_ (some 13) rfl rfl Tryd.func46 (by kernel_rfl) rfl #[.agg #[.int .i64 t329, .int .i64 t330, .int .i64 t331]] rfl tz_ ?_; (with_reducible refine (impl_DeedText.calls k t329 t330 t331 t333 _ ?side1 A4.out).mono ?_); (case side1 => exact GWb.below HG.out (tb_ HB.out)); rintro e w32 ⟨rfl, hb⟩; refine ⟨_, rfl, ?_⟩; have n0_ := Aside0.mk (blk_below (g := gb332) (o := .cells #[.int .i64 t329, .int .i64 t330, .int .i64 t331] 30 (0, 0)) (by refine bq_ ?_; refine blk_put (cs := #[.int .i64 t329, .int .i64 t330, .int .i64 0]) ?_ 2 _ rfl; refine bq_ ?_; refine blk_put (cs := #[.int .i64 t329, .int .i64 0, .int .i64 0]) ?_ 1 _ rfl; refine bq_ ?_; refine blk_put (cs := #[.int .i64 0, .int .i64 0, .int .i64 0]) ?_ 0 _ rfl; exact tk_ BK332.out) hb); have n1_ := Aside0.mk (below_step (tb_ HB.out) hb); clear BK332 HB; have BK332 := n0_; have HB := n1_; clear n0_ n1_; (try clear hb); (try clear hb2); (try clear hk); (try clear hi); have hcz33_0 : w32.cell? ⟨gb332, 0, none⟩ = some (.int .i64 t329) := (blk_cell BK332.out 0).trans rfl; have hcz33_1 : w32.cell? ⟨gb332, 1, none⟩ = some (.int .i64 t330) := (blk_cell BK332.out 1).trans rfl; have hcz33_2 : w32.cell? ⟨gb332, 2, none⟩ = some (.int .i64 t331) := (blk_cell BK332.out 2).trans rfl; have hfz33_0 := blk_frozen BK332.out 0; have hfz33_1 := blk_frozen BK332.out 1; have hfz33_2 := blk_frozen BK332.out 2) | ((with_reducible refine gate_callee (f := 47) rfl ?_); refine goesL_ (some 16) rfl rfl Tryd.func47 (by kernel_rfl) rfl #[.agg #[.int .i64 t329, .int .i64 t330, .int .i64 t331]] rfl tz_ ?_; (with_reducible refine (spec_DeedText.calls k t329 t330 t331 t334 _ A5.out).mono ?_); rintro e w34 ⟨rfl, hb⟩; refine ⟨_, rfl, ?_⟩; have n0_ := Aside0.mk (blk_below (g := gb332) (o := .cells #[.int .i64 t329, .int .i64 t330, .int .i64 t331] 30 (0, 0)) (tk_ BK332.out) hb); have n1_ := Aside0.mk (below_step (tb_ HB.out) hb); clear BK332 HB; have BK332 := n0_; have HB := n1_; clear n0_ n1_; (try clear hb); (try clear hb2); (try clear hk); (try clear hi)) | ((with_reducible refine gate_callee (f := 40) rfl ?_); refine goesL_ (some 23) rfl rfl Tryd.func40 (by kernel_rfl) rfl #[.string t333] rfl tz_ ?_; (with_reducible refine (impl_ReadDeed.calls k t333 t336 t337 t338 false _ ?side1 A16.out).mono ?_); (case side1 => exact GWb.below HG.out (tb_ HB.out)); rintro e w35 ⟨rfl, hb⟩; refine ⟨_, rfl, ?_⟩; have n0_ := Aside0.mk (blk_below (g := gb332) (o := .cells #[.int .i64 t329, .int .i64 t330, .int .i64 t331] 30 (0, 0)) (tk_ BK332.out) hb); have n1_ := Aside0.mk (below_step (tb_ HB.out) hb); clear BK332 HB; have BK332 := n0_; have HB := n1_; clear n0_ n1_; (try clear hb); (try clear hb2); (try clear hk); (try clear hi)) | ((with_reducible refine gate_dst (N := 5) rfl ?_); refine box_event ?hg (N := 5) ?hd (cs := #[.int .i64 0, .int .i64 0, .int .i64 0]) (t := 30) ?hr ?_; (case hd => rfl); (case hg => rfl); (case hr => first | (go_simp; done) | (go_simp; rfl)); intro gb340 hg w36 hbox hb; have n0_ := Aside0.mk (blk_below (g := gb332) (o := .cells #[.int .i64 t329, .int .i64 t330, .int .i64 t331] 30 (0, 0)) (tk_ BK332.out) hb); have n1_ := Aside0.mk (below_step (tb_ HB.out) hb); have n2_ := Aside0.mk (hbox); have n3_ := Aside0.mk ((by rw [hg]; exact (below_size (tb_ HB.out)) : w.heap.size ≤ gb340)); have n4_ := Aside0.mk ((by rw [hg]; exact (below_size (tb_ HB.out)) : w.heap.size ≤ gb340)); have n5_ := Aside0.mk ((by rw [hg]; exact Nat.ne_of_lt (blk_lt (g := gb332) (o := .cells #[.int .i64 t329, .int .i64 t330, .int .i64 t331] 30 (0, 0)) (tk_ BK332.out)) : gb332 ≠ gb340)); have n6_ := Aside0.mk ((by rw [hg]; exact Nat.ne_of_gt (blk_lt (g := gb332) (o := .cells #[.int .i64 t329, .int .i64 t330, .int .i64 t331] 30 (0, 0)) (tk_ BK332.out)) : gb340 ≠ gb332)); clear BK332 HB; have BK332 := n0_; have HB := n1_; have BK340 := n2_; have GW340 := n3_; have GE340 := n4_; have NB332_340 := n5_; have NB340_332 := n6_; clear n0_ n1_ n2_ n3_ n4_ n5_ n6_ hb hbox hg; have hnb37 := NB340_332.out; have hnc37 := NB332_340.out; have hcz38_0 : w36.cell? ⟨gb340, 0, none⟩ = some (.int .i64 0) := (blk_cell BK340.out 0).trans rfl; have hcz38_1 : w36.cell? ⟨gb340, 1, none⟩ = some (.int .i64 0) := (blk_cell BK340.out 1).trans rfl; have hcz38_2 : w36.cell? ⟨gb340, 2, none⟩ = some (.int .i64 0) := (blk_cell BK340.out 2).trans rfl; have hfz38_0 := blk_frozen BK340.out 0; have hfz38_1 := blk_frozen BK340.out 1; have hfz38_2 := blk_frozen BK340.out 2))
     go_ret
     exact ⟨by first | rfl | (simp [errW_none, errW_some, Option.map_none, Option.map_some] <;> rfl) | (simp [*, errW_none, errW_some] <;> rfl), (tb_ HB.out)⟩
  ·
   rw [if_neg c6] at H
   have c6b0 : (t333.toList == t334.toList) = false := beq_eq_false_iff_ne.mpr c6
   have c6b1 : (t333.toList != t334.toList) = true := bne_iff_ne.mpr c6
   obtain rfl := Option.some.inj H
   go_enter Tryd.func9, Tryd.ntmps9
   go_wp2_with (first | ((with_reducible refine gate_callee (f := 45) rfl ?_); refine goesL_ (some 11) rfl rfl Tryd.func45 (by kernel_rfl) rfl #[.slice A0 l0.length c0] rfl tz_ ?_; (with_reducible refine (spec_DrawDeedText.calls k _ _ l0 t329 t330 t331 _ ?side1 ?side2 A3.out).mono ?_); (case side1 => exact td_); (case side2 => exact HC0.out); rintro e w39 ⟨rfl, hb⟩; refine ⟨_, rfl, ?_⟩; have n0_ := Aside0.mk (below_step (tb_ HB.out) hb); clear HB; have HB := n0_; clear n0_; (try clear hb); (try clear hb2); (try clear hk); (try clear hi)) | ((with_reducible refine gate_dst (N := 3) rfl ?_); refine box_event ?hg (N := 3) ?hd (cs := #[.int .i64 0, .int .i64 0, .int .i64 0]) (t := 30) ?hr ?_; (case hd => rfl); (case hg => rfl); (case hr => first | (go_simp; done) | (go_simp; rfl)); intro gb332 hg w40 hbox hb; have n0_ := Aside0.mk (below_step (tb_ HB.out) hb); have n1_ := Aside0.mk (hbox); have n2_ := Aside0.mk ((by rw [hg]; exact (below_size (tb_ HB.out)) : w.heap.size ≤ gb332)); have n3_ := Aside0.mk ((by rw [hg]; exact (below_size (tb_ HB.out)) : w.heap.size ≤ gb332)); clear HB; have HB := n0_; have BK332 := n1_; have GW332 := n2_; have GE332 := n3_; clear n0_ n1_ n2_ n3_ hb hbox hg; have hcz41_0 : w40.cell? ⟨gb332, 0, none⟩ = some (.int .i64 0) := (blk_cell BK332.out 0).trans rfl; have hcz41_1 : w40.cell? ⟨gb332, 1, none⟩ = some (.int .i64 0) := (blk_cell BK332.out 1).trans rfl; have hcz41_2 : w40.cell? ⟨gb332, 2, none⟩ = some (.int .i64 0) := (blk_cell BK332.out 2).trans rfl; have hfz41_0 := blk_frozen BK332.out 0; have hfz41_1 := blk_frozen BK332.out 1; have hfz41_2 := blk_frozen BK332.out 2) | ((with_reducible refine gate_callee (f := 46) rfl ?_); refine goesL_ (some 13) rfl rfl Tryd.func46 (by kernel_rfl) rfl #[.agg #[.int .i64 t329, .int .i64 t330, .int .i64 t331]] rfl tz_ ?_; (with_reducible refine (impl_DeedText.calls k t329 t330 t331 t333 _ ?side1 A4.out).mono ?_); (case side1 => exact GWb.below HG.out (tb_ HB.out)); rintro e w42 ⟨rfl, hb⟩; refine ⟨_, rfl, ?_⟩; have n0_ := Aside0.mk (blk_below (g := gb332) (o := .cells #[.int .i64 t329, .int .i64 t330, .int .i64 t331] 30 (0, 0)) (by refine bq_ ?_; refine blk_put (cs := #[.int .i64 t329, .int .i64 t330, .int .i64 0]) ?_ 2 _ rfl; refine bq_ ?_; refine blk_put (cs := #[.int .i64 t329, .int .i64 0, .int .i64 0]) ?_ 1 _ rfl; refine bq_ ?_; refine blk_put (cs := #[.int .i64 0, .int .i64 0, .int .i64 0]) ?_ 0 _ rfl; exact tk_ BK332.out) hb); have n1_ := Aside0.mk (below_step (tb_ HB.out) hb); clear BK332 HB; have BK332 := n0_; have HB := n1_; clear n0_ n1_; (try clear hb); (try clear hb2); (try clear hk); (try clear hi); have hcz43_0 : w42.cell? ⟨gb332, 0, none⟩ = some (.int .i64 t329) := (blk_cell BK332.out 0).trans rfl; have hcz43_1 : w42.cell? ⟨gb332, 1, none⟩ = some (.int .i64 t330) := (blk_cell BK332.out 1).trans rfl; have hcz43_2 : w42.cell? ⟨gb332, 2, none⟩ = some (.int .i64 t331) := (blk_cell BK332.out 2).trans rfl; have hfz43_0 := blk_frozen BK332.out 0; have hfz43_1 := blk_frozen BK332.out 1; have hfz43_2 := blk_frozen BK332.out 2) | ((with_reducible refine gate_callee (f := 47) rfl ?_); refine goesL_ (some 16) rfl rfl Tryd.func47 (by kernel_rfl) rfl #[.agg #[.int .i64 t329, .int .i64 t330, .int .i64 t331]] rfl tz_ ?_; (with_reducible refine (spec_DeedText.calls k t329 t330 t331 t334 _ A5.out).mono ?_); rintro e w44 ⟨rfl, hb⟩; refine ⟨_, rfl, ?_⟩; have n0_ := Aside0.mk (blk_below (g := gb332) (o := .cells #[.int .i64 t329, .int .i64 t330, .int .i64 t331] 30 (0, 0)) (tk_ BK332.out) hb); have n1_ := Aside0.mk (below_step (tb_ HB.out) hb); clear BK332 HB; have BK332 := n0_; have HB := n1_; clear n0_ n1_; (try clear hb); (try clear hb2); (try clear hk); (try clear hi)))
   go_ret
   exact ⟨by first | rfl | (simp [errW_none, errW_some, Option.map_none, Option.map_some] <;> rfl) | (simp [*, errW_none, errW_some] <;> rfl), (tb_ HB.out)⟩

/-- THE ONE PURE STATEMENT of laws_FnDeedText: yours. -/
def laws_FnDeedText.Pure : Prop := ∀ (l0 : List Int), l0.length ≤ maxLen → l0.length * 1 ≤ 140737488351232 → (∀ x ∈ l0, (Lit.int .u8 x).wf = true) → ∃ k, laws_FnDeedText.f k l0 = some true
theorem laws_FnDeedText.walk (P : laws_FnDeedText.Pure) (a0 : Option Addr) (len0 cap0 : Nat) (z0 : List Int) (w : World) (hG : GWb w) (w0 : (a0 = none ∧ len0 = 0 ∧ cap0 = 0 ∧ z0 = []) ∨ ∃ x, a0 = some x ∧ len0 ≤ cap0 ∧ cap0 ≤ maxLen ∧ z0.length = cap0 ∧ (∀ i, i < z0.length → w.cell? (x.add i) = some (.int .u8 (z0.getD i 0))) ∧ ∀ n ∈ z0, (Lit.int .u8 n).wf = true) (y0 : len0 * 1 ≤ 140737488351232) :
  Calls Tryd.prog 9 #[.slice a0 len0 cap0] w fun e w' => e = .returned (.bool true) ∧ Below w.heap.size w w' := by
 obtain ⟨l0, rfl, hr0, hm0, hw0, hc0⟩ := ReadsInt.ofRowC w0
 obtain ⟨k, h⟩ := P l0 hm0 y0 hw0
 refine (laws_FnDeedText.calls k _ _ l0 true w (Kd.C_of_reads (d := (0 : Int)) (h1 := fun _ => rfl) hr0) hc0 hG h).mono ?_
 rintro e w' ⟨rfl, hd⟩
 exact ⟨rfl, hd⟩

end Go.Proofs.YtlhiienanbpdlaaDoor.MFnDeedText
