/- For the law FnExactPlaceText: walks of the functions that it reaches: each call returns what the plain function beside it tells. The conditions stand in each statement. -/
import Derived.Test.YtlnbobpmjbcejaaDoorMFnExactPlaceTextx0
import Derived.Test.YtlnbobpmjbcejaaDoorMFnExactPlaceTextx1
import Derived.Test.YtlnbobpmjbcejaaDoorMFnExactPlaceTextx4
import Derived.Test.YtlnbobpmjbcejaaDoorMFnExactPlaceTextx5
import Derived.Test.YtlnbobpmjbcejaaDoorMFnExactPlaceTextx8
namespace Go.Proofs.YtlnbobpmjbcejaaDoor.MFnExactPlaceText
open Go.RowKit Go.Proofs.YtlnbobpmjbcejaaDoorW.PrintWords Go.Proofs.YtlnbobpmjbcejaaDoorW.PrintLast Go.Proofs.YtlnbobpmjbcejaaDoorW.PrintMore
attribute [local go_sem] max2_int min2_int max_two min_two max_three min_three max_four min_four   -- for this text's walks alone
set_option linter.unusedVariables false
set_option linter.unusedSimpArgs false

/-! ### laws_FnExactPlaceText: function 5 -/
def laws_FnExactPlaceText.f (k : Nat) (l0_0 : List Int) (a0_1 : Int) (l0_2 : List Int) : Option (Bool) := (laws_szPlace.f l0_0 a0_1 l0_2 1048576).bind fun t282 => (if t282 < 0 then (some true) else ((laws_toPlace.f k l0_0 a0_1 l0_2).bind fun bt283 => ((spec_PlaceText.f k bt283.1 bt283.2.1 bt283.2.2).bind fun t290 => ((laws_toPlace.f k l0_0 a0_1 l0_2).bind fun bt291 => ((impl_PlaceText.f k bt291.1 bt291.2.1 bt291.2.2).bind fun t299 => (if t299.toList = t290.toList then ((laws_toPlace.f k l0_0 a0_1 l0_2).bind fun bt300 => ((laws_eqPlace.f k bt291.1 bt291.2.1 bt291.2.2 bt300.1 bt300.2.1 bt300.2.2).bind fun t307 => (if t307 = true then (some true) else (some false)))) else (some false)))))))
theorem laws_FnExactPlaceText.mono : ∀ a0 a1 a2 k, LeO (laws_FnExactPlaceText.f k a0 a1 a2) (laws_FnExactPlaceText.f (k + 1) a0 a1 a2) := by
 intro a0 a1 a2 k
 unfold laws_FnExactPlaceText.f
 repeat' first
   | (with_reducible exact impl_PlaceText.mono _ _ _ _)
   | (with_reducible exact laws_eqPlace.mono _ _ _ _ _ _ _)
   | (with_reducible exact laws_toPlace.mono _ _ _ _)
   | (with_reducible exact spec_PlaceText.mono _ _ _ _)
   | (with_reducible exact LeO.refl _)
   | (with_reducible exact LeO.none _)
   | (with_reducible refine LeO.ite ?_ ?_)
   | (with_reducible refine LeO.bind ?_ (fun _ => ?_))
   | exact impl_PlaceText.mono _ _ _ _
   | exact laws_eqPlace.mono _ _ _ _ _ _ _
   | exact laws_toPlace.mono _ _ _ _
   | exact spec_PlaceText.mono _ _ _ _
   | exact LeO.none _
   | refine LeO.ite ?_ ?_
   | refine LeO.bind ?_ (fun _ => ?_)
set_option maxHeartbeats 8000000 in
set_option maxRecDepth 100000 in
theorem laws_FnExactPlaceText.calls (k : Nat) (A0_0 : Option Addr) (c0_0 : Nat) (l0_0 : List Int) (a0_1 : Int) (A0_2 : Option Addr) (c0_2 : Nat) (l0_2 : List Int) (r : Bool) (w : World) (hr0_0 : Kd.C (Kd.int .i64) w A0_0 l0_0.length l0_0) (hc0_0 : l0_0.length ≤ c0_0) (hr0_2 : Kd.C (Kd.int .i64) w A0_2 l0_2.length l0_2) (hc0_2 : l0_2.length ≤ c0_2) (hG : GWa w) (h : laws_FnExactPlaceText.f k l0_0 a0_1 l0_2 = some r) :
  Calls Tryd.prog 5 #[.agg #[.slice A0_0 l0_0.length c0_0, .int .i64 a0_1, .slice A0_2 l0_2.length c0_2]] w fun e w' => e = .returned (.bool r) ∧ Below w.heap.size w w' := by
 have HG := Aside0.mk hG
 clear hG
 have hu37 := Tryd.underlying37
 have hu40 := Tryd.underlying40
 have HR0_0 := Aside0.mk hr0_0
 have HC0_0 := Aside0.mk hc0_0
 clear hr0_0 hc0_0
 have HR0_2 := Aside0.mk hr0_2
 have HC0_2 := Aside0.mk hc0_2
 clear hr0_2 hc0_2
 have HB := Aside0.mk (Below.refl w.heap.size w)
 have H : ((laws_szPlace.f l0_0 a0_1 l0_2 1048576).bind fun t282 => (if t282 < 0 then (some true) else ((laws_toPlace.f k l0_0 a0_1 l0_2).bind fun bt283 => ((spec_PlaceText.f k bt283.1 bt283.2.1 bt283.2.2).bind fun t290 => ((laws_toPlace.f k l0_0 a0_1 l0_2).bind fun bt291 => ((impl_PlaceText.f k bt291.1 bt291.2.1 bt291.2.2).bind fun t299 => (if t299.toList = t290.toList then ((laws_toPlace.f k l0_0 a0_1 l0_2).bind fun bt300 => ((laws_eqPlace.f k bt291.1 bt291.2.1 bt291.2.2 bt300.1 bt300.2.1 bt300.2.2).bind fun t307 => (if t307 = true then (some true) else (some false)))) else (some false)))))))) = some r := h
 clear h
 replace H := Option.bind_eq_some_iff.mp H
 obtain ⟨t282, A20, H⟩ := H
 replace H : (if t282 < 0 then (some true) else ((laws_toPlace.f k l0_0 a0_1 l0_2).bind fun bt283 => ((spec_PlaceText.f k bt283.1 bt283.2.1 bt283.2.2).bind fun t290 => ((laws_toPlace.f k l0_0 a0_1 l0_2).bind fun bt291 => ((impl_PlaceText.f k bt291.1 bt291.2.1 bt291.2.2).bind fun t299 => (if t299.toList = t290.toList then ((laws_toPlace.f k l0_0 a0_1 l0_2).bind fun bt300 => ((laws_eqPlace.f k bt291.1 bt291.2.1 bt291.2.2 bt300.1 bt300.2.1 bt300.2.2).bind fun t307 => (if t307 = true then (some true) else (some false)))) else (some false))))))) = some r := H
 have A2 := Aside0.mk A20
 clear A20
 by_cases c3 : t282 < 0
 ·
  rw [if_pos c3] at H
  have c3b0 : decide (t282 < 0) = true := decide_eq_true c3
  clear c3
  obtain rfl := Option.some.inj H
  go_enter Tryd.func5, Tryd.ntmps5
  go_wp2_with (first | ((with_reducible refine gate_dst (N := 1) rfl ?_); refine box_event ?hg (N := 1) ?hd (cs := #[.slice A0_0 l0_0.length c0_0, .int .i64 a0_1, .slice A0_2 l0_2.length c0_2]) (t := 37) ?hr ?_; (case hd => rfl); (case hg => rfl); (case hr => first | (go_simp; done) | (go_simp; rfl)); intro gb281 hg w4 hbox hb; have n0_ := Aside0.mk (below_step (tb_ HB.out) hb); have n1_ := Aside0.mk (hbox); have n2_ := Aside0.mk ((by rw [hg]; exact (below_size (tb_ HB.out)) : w.heap.size ≤ gb281)); have n3_ := Aside0.mk ((by rw [hg]; exact (below_size (tb_ HB.out)) : w.heap.size ≤ gb281)); clear HB; have HB := n0_; have BK281 := n1_; have GW281 := n2_; have GE281 := n3_; clear n0_ n1_ n2_ n3_ hb hbox hg; have hcz5_0 : w4.cell? ⟨gb281, 0, none⟩ = some (.slice A0_0 l0_0.length c0_0) := (blk_cell BK281.out 0).trans rfl; have hcz5_1 : w4.cell? ⟨gb281, 1, none⟩ = some (.int .i64 a0_1) := (blk_cell BK281.out 1).trans rfl; have hcz5_2 : w4.cell? ⟨gb281, 2, none⟩ = some (.slice A0_2 l0_2.length c0_2) := (blk_cell BK281.out 2).trans rfl; have hfz5_0 := blk_frozen BK281.out 0; have hfz5_1 := blk_frozen BK281.out 1; have hfz5_2 := blk_frozen BK281.out 2) | ((with_reducible refine gate_callee (f := 15) rfl ?_); refine goesL_ (some 9) rfl rfl Tryd.func15 (by kernel_rfl) rfl #[.agg #[.slice A0_0 l0_0.length c0_0, .int .i64 a0_1, .slice A0_2 l0_2.length c0_2], .int .i64 1048576] rfl tz_ ?_; (with_reducible refine (laws_szPlace.calls _ _ l0_0 a0_1 _ _ l0_2 1048576 t282 _ ?side1 ?side2 ?side3 ?side4 A2.out).mono ?_); (case side1 => exact tD_); (case side2 => exact HC0_0.out); (case side3 => exact tD_); (case side4 => exact HC0_2.out); rintro e w6 ⟨rfl, hb⟩; refine ⟨_, rfl, ?_⟩; have n0_ := Aside0.mk (blk_below (g := gb281) (o := .cells #[.slice A0_0 l0_0.length c0_0, .int .i64 a0_1, .slice A0_2 l0_2.length c0_2] 37 (0, 0)) (tk_ BK281.out) hb); have n1_ := Aside0.mk (below_step (tb_ HB.out) hb); clear BK281 HB; have BK281 := n0_; have HB := n1_; clear n0_ n1_; (try clear hb); (try clear hb2); (try clear hk); (try clear hi)))
  go_ret
  exact ⟨by first | rfl | (simp [errW_none, errW_some] <;> rfl) | (simp [*, errW_none, errW_some] <;> rfl), (tb_ HB.out)⟩
 ·
  rw [if_neg c3] at H
  have c3b0 : decide (t282 < 0) = false := decide_eq_false c3
  clear c3
  replace H := Option.bind_eq_some_iff.mp H
  obtain ⟨⟨t283, t286, t287⟩, A70, H⟩ := H
  replace H : ((spec_PlaceText.f k t283 t286 t287).bind fun t290 => ((laws_toPlace.f k l0_0 a0_1 l0_2).bind fun bt291 => ((impl_PlaceText.f k bt291.1 bt291.2.1 bt291.2.2).bind fun t299 => (if t299.toList = t290.toList then ((laws_toPlace.f k l0_0 a0_1 l0_2).bind fun bt300 => ((laws_eqPlace.f k bt291.1 bt291.2.1 bt291.2.2 bt300.1 bt300.2.1 bt300.2.2).bind fun t307 => (if t307 = true then (some true) else (some false)))) else (some false))))) = some r := H
  have A7 := Aside0.mk A70
  clear A70
  replace H := Option.bind_eq_some_iff.mp H
  obtain ⟨t290, A80, H⟩ := H
  replace H : ((laws_toPlace.f k l0_0 a0_1 l0_2).bind fun bt291 => ((impl_PlaceText.f k bt291.1 bt291.2.1 bt291.2.2).bind fun t299 => (if t299.toList = t290.toList then ((laws_toPlace.f k l0_0 a0_1 l0_2).bind fun bt300 => ((laws_eqPlace.f k bt291.1 bt291.2.1 bt291.2.2 bt300.1 bt300.2.1 bt300.2.2).bind fun t307 => (if t307 = true then (some true) else (some false)))) else (some false)))) = some r := H
  have A8 := Aside0.mk A80
  clear A80
  replace H := Option.bind_eq_some_iff.mp H
  obtain ⟨⟨t291, t294, t295⟩, A90, H⟩ := H
  replace H : ((impl_PlaceText.f k t291 t294 t295).bind fun t299 => (if t299.toList = t290.toList then ((laws_toPlace.f k l0_0 a0_1 l0_2).bind fun bt300 => ((laws_eqPlace.f k t291 t294 t295 bt300.1 bt300.2.1 bt300.2.2).bind fun t307 => (if t307 = true then (some true) else (some false)))) else (some false))) = some r := H
  have A9 := Aside0.mk A90
  clear A90
  replace H := Option.bind_eq_some_iff.mp H
  obtain ⟨t299, A100, H⟩ := H
  replace H : (if t299.toList = t290.toList then ((laws_toPlace.f k l0_0 a0_1 l0_2).bind fun bt300 => ((laws_eqPlace.f k t291 t294 t295 bt300.1 bt300.2.1 bt300.2.2).bind fun t307 => (if t307 = true then (some true) else (some false)))) else (some false)) = some r := H
  have A10 := Aside0.mk A100
  clear A100
  by_cases c11 : t299.toList = t290.toList
  ·
   rw [if_pos c11] at H
   have c11b0 : (t299.toList == t290.toList) = true := beq_iff_eq.mpr c11
   have c11b1 : (t299.toList != t290.toList) = false := bne_eq_false_iff_eq.mpr c11
   clear c11
   replace H := Option.bind_eq_some_iff.mp H
   obtain ⟨⟨t300, t303, t304⟩, A120, H⟩ := H
   replace H : ((laws_eqPlace.f k t291 t294 t295 t300 t303 t304).bind fun t307 => (if t307 = true then (some true) else (some false))) = some r := H
   have A12 := Aside0.mk A120
   clear A120
   replace H := Option.bind_eq_some_iff.mp H
   obtain ⟨t307, A130, H⟩ := H
   replace H : (if t307 = true then (some true) else (some false)) = some r := H
   have A13 := Aside0.mk A130
   clear A130
   by_cases c14 : t307 = true
   ·
    subst c14
    have H1 : (some true) = some r := by rw [if_pos rfl] at H; exact H
    clear H
    have H := H1
    clear H1
    obtain rfl := Option.some.inj H
    go_enter Tryd.func5, Tryd.ntmps5
    try go_wp2_with (first | ((with_reducible refine gate_dst (N := 1) rfl ?_); refine box_event ?hg (N := 1) ?hd (cs := #[.slice A0_0 l0_0.length c0_0, .int .i64 a0_1, .slice A0_2 l0_2.length c0_2]) (t := 37) ?hr ?_; (case hd => rfl); (case hg => rfl); (case hr => first | (go_simp; done) | (go_simp; rfl)); intro gb281 hg w15 hbox hb; have n0_ := Aside0.mk (below_step (tb_ HB.out) hb); have n1_ := Aside0.mk (hbox); have n2_ := Aside0.mk ((by rw [hg]; exact (below_size (tb_ HB.out)) : w.heap.size ≤ gb281)); have n3_ := Aside0.mk ((by rw [hg]; exact (below_size (tb_ HB.out)) : w.heap.size ≤ gb281)); clear HB; have HB := n0_; have BK281 := n1_; have GW281 := n2_; have GE281 := n3_; clear n0_ n1_ n2_ n3_ hb hbox hg; have hcz16_0 : w15.cell? ⟨gb281, 0, none⟩ = some (.slice A0_0 l0_0.length c0_0) := (blk_cell BK281.out 0).trans rfl; have hcz16_1 : w15.cell? ⟨gb281, 1, none⟩ = some (.int .i64 a0_1) := (blk_cell BK281.out 1).trans rfl; have hcz16_2 : w15.cell? ⟨gb281, 2, none⟩ = some (.slice A0_2 l0_2.length c0_2) := (blk_cell BK281.out 2).trans rfl; have hfz16_0 := blk_frozen BK281.out 0; have hfz16_1 := blk_frozen BK281.out 1; have hfz16_2 := blk_frozen BK281.out 2) | ((with_reducible refine gate_callee (f := 15) rfl ?_); refine goesL_ (some 9) rfl rfl Tryd.func15 (by kernel_rfl) rfl #[.agg #[.slice A0_0 l0_0.length c0_0, .int .i64 a0_1, .slice A0_2 l0_2.length c0_2], .int .i64 1048576] rfl tz_ ?_; (with_reducible refine (laws_szPlace.calls _ _ l0_0 a0_1 _ _ l0_2 1048576 t282 _ ?side1 ?side2 ?side3 ?side4 A2.out).mono ?_); (case side1 => exact tD_); (case side2 => exact HC0_0.out); (case side3 => exact tD_); (case side4 => exact HC0_2.out); rintro e w17 ⟨rfl, hb⟩; refine ⟨_, rfl, ?_⟩; have n0_ := Aside0.mk (blk_below (g := gb281) (o := .cells #[.slice A0_0 l0_0.length c0_0, .int .i64 a0_1, .slice A0_2 l0_2.length c0_2] 37 (0, 0)) (tk_ BK281.out) hb); have n1_ := Aside0.mk (below_step (tb_ HB.out) hb); clear BK281 HB; have BK281 := n0_; have HB := n1_; clear n0_ n1_; (try clear hb); (try clear hb2); (try clear hk); (try clear hi); have hcz18_0 : w17.cell? ⟨gb281, 0, none⟩ = some (.slice A0_0 l0_0.length c0_0) := (blk_cell BK281.out 0).trans rfl; have hcz18_1 : w17.cell? ⟨gb281, 1, none⟩ = some (.int .i64 a0_1) := (blk_cell BK281.out 1).trans rfl; have hcz18_2 : w17.cell? ⟨gb281, 2, none⟩ = some (.slice A0_2 l0_2.length c0_2) := (blk_cell BK281.out 2).trans rfl; have hfz18_0 := blk_frozen BK281.out 0; have hfz18_1 := blk_frozen BK281.out 1; have hfz18_2 := blk_frozen BK281.out 2) | ((with_reducible refine gate_callee (f := 17) rfl ?_); refine goesL_ (some 13) rfl rfl Tryd.func17 (by kernel_rfl) rfl #[.agg #[.slice A0_0 l0_0.length c0_0, .int .i64 a0_1, .slice A0_2 l0_2.length c0_2]] rfl tz_ ?_; (with_reducible refine (laws_toPlace.calls k _ _ l0_0 a0_1 _ _ l0_2 t283 t286 t287 _ ?side1 ?side2 ?side3 ?side4 A7.out).mono ?_); (case side1 => exact tD_); (case side2 => exact HC0_0.out); (case side3 => exact tD_); (case side4 => exact HC0_2.out); rintro e w19 ⟨v284, v288, rfl, ho0, ho1, hb⟩; refine ⟨_, rfl, ?_⟩; have n0_ := Aside0.mk (Kd.R_lower ho0 (below_size (tb_ HB.out))); have n1_ := Aside0.mk (Kd.R_lower ho1 (below_size (tb_ HB.out))); have n2_ := Aside0.mk (blk_below (g := gb281) (o := .cells #[.slice A0_0 l0_0.length c0_0, .int .i64 a0_1, .slice A0_2 l0_2.length c0_2] 37 (0, 0)) (tk_ BK281.out) hb); have n3_ := Aside0.mk (below_step (tb_ HB.out) hb); clear BK281 HB; have HO285 := n0_; have HO289 := n1_; have BK281 := n2_; have HB := n3_; clear n0_ n1_ n2_ n3_; (try clear hb); (try clear hb2); (try clear hk); (try clear hi); (try clear ho0); (try clear ho1); obtain ⟨Ao20, co20, eo20⟩ := Kd.R_slice HO285.out; subst eo20; obtain ⟨Ao21, co21, eo21⟩ := Kd.R_slice HO289.out; subst eo21) | ((with_reducible refine gate_callee (f := 16) rfl ?_); refine goesL_ (some 14) rfl rfl Tryd.func16 (by kernel_rfl) rfl #[.agg #[.slice Ao20 t283.length co20, .int .i64 t286, .slice Ao21 t287.length co21]] rfl tz_ ?_; (with_reducible refine (spec_PlaceText.calls k _ _ t283 t286 _ _ t287 t290 _ ?side1 ?side2 ?side3 ?side4 A8.out).mono ?_); (case side1 => repeat (first | exact (Kd.R_reads' HO285.out).2.2 | (with_reducible refine Kd.C_alloc ?_ _) | (with_reducible refine Kd.C_drewN ?_ _) | (with_reducible refine Kd.C_drew ?_))); (case side2 => exact (Kd.R_reads' HO285.out).2.1); (case side3 => repeat (first | exact (Kd.R_reads' HO289.out).2.2 | (with_reducible refine Kd.C_alloc ?_ _) | (with_reducible refine Kd.C_drewN ?_ _) | (with_reducible refine Kd.C_drew ?_))); (case side4 => exact (Kd.R_reads' HO289.out).2.1); rintro e w22 ⟨rfl, hb⟩; refine ⟨_, rfl, ?_⟩; have n0_ := Aside0.mk (Kd.R_below (rR_ HO285.out) hb); have n1_ := Aside0.mk (Kd.R_below (rR_ HO289.out) hb); have n2_ := Aside0.mk (blk_below (g := gb281) (o := .cells #[.slice A0_0 l0_0.length c0_0, .int .i64 a0_1, .slice A0_2 l0_2.length c0_2] 37 (0, 0)) (tk_ BK281.out) hb); have n3_ := Aside0.mk (below_step (tb_ HB.out) hb); clear HO285 HO289 BK281 HB; have HO285 := n0_; have HO289 := n1_; have BK281 := n2_; have HB := n3_; clear n0_ n1_ n2_ n3_; (try clear hb); (try clear hb2); (try clear hk); (try clear hi); have hcz23_0 : w22.cell? ⟨gb281, 0, none⟩ = some (.slice A0_0 l0_0.length c0_0) := (blk_cell BK281.out 0).trans rfl; have hcz23_1 : w22.cell? ⟨gb281, 1, none⟩ = some (.int .i64 a0_1) := (blk_cell BK281.out 1).trans rfl; have hcz23_2 : w22.cell? ⟨gb281, 2, none⟩ = some (.slice A0_2 l0_2.length c0_2) := (blk_cell BK281.out 2).trans rfl; have hfz23_0 := blk_frozen BK281.out 0; have hfz23_1 := blk_frozen BK281.out 1; have hfz23_2 := blk_frozen BK281.out 2) | ((with_reducible refine gate_callee (f := 17) rfl ?_); refine goesL_ (some 16) rfl rfl Tryd.func17 (by kernel_rfl) rfl #[.agg #[.slice A0_0 l0_0.length c0_0, .int .i64 a0_1, .slice A0_2 l0_2.length c0_2]] rfl tz_ ?_; (with_reducible refine (laws_toPlace.calls k _ _ l0_0 a0_1 _ _ l0_2 t291 t294 t295 _ ?side1 ?side2 ?side3 ?side4 A9.out).mono ?_); (case side1 => exact tD_); (case side2 => exact HC0_0.out); (case side3 => exact tD_); (case side4 => exact HC0_2.out); rintro e w24 ⟨v292, v296, rfl, ho0, ho1, hb⟩; refine ⟨_, rfl, ?_⟩; have n0_ := Aside0.mk (Kd.R_mono (Kd.R_told (Kd.R_told (Kd.R_old (rR_ HO285.out) hb) (Kd.R_base ho0)) (Kd.R_base ho1)) (fun _ h_ => h_.1)); have n1_ := Aside0.mk (Kd.R_mono (Kd.R_told (Kd.R_told (Kd.R_old (rR_ HO289.out) hb) (Kd.R_base ho0)) (Kd.R_base ho1)) (fun _ h_ => h_.1)); have n2_ := Aside0.mk (Kd.R_lower (Kd.R_new' (Kd.R_new' ho0 (Kd.R_lt (rR_ HO285.out))) (Kd.R_lt (rR_ HO289.out))) (below_size (tb_ HB.out))); have n3_ := Aside0.mk (Kd.R_lower (Kd.R_new' (Kd.R_new' ho1 (Kd.R_lt (rR_ HO285.out))) (Kd.R_lt (rR_ HO289.out))) (below_size (tb_ HB.out))); have n4_ := Aside0.mk (blk_below (g := gb281) (o := .cells #[.slice A0_0 l0_0.length c0_0, .int .i64 a0_1, .slice A0_2 l0_2.length c0_2] 37 (0, 0)) (tk_ BK281.out) hb); have n5_ := Aside0.mk (below_step (tb_ HB.out) hb); clear HO285 HO289 BK281 HB; have HO285 := n0_; have HO289 := n1_; have HO293 := n2_; have HO297 := n3_; have BK281 := n4_; have HB := n5_; clear n0_ n1_ n2_ n3_ n4_ n5_; (try clear hb); (try clear hb2); (try clear hk); (try clear hi); (try clear ho0); (try clear ho1)) | ((with_reducible refine gate_dst (N := 5) rfl ?_); refine box_event ?hg (N := 5) ?hd (cs := #[.slice none 0 0, .int .i64 0, .slice none 0 0]) (t := 40) ?hr ?_; (case hd => rfl); (case hg => rfl); (case hr => first | (go_simp; done) | (go_simp; rfl)); intro gb298 hg w25 hbox hb; have n0_ := Aside0.mk (Kd.R_below (rR_ HO285.out) hb); have n1_ := Aside0.mk (Kd.R_below (rR_ HO289.out) hb); have n2_ := Aside0.mk (Kd.R_below (rR_ HO293.out) hb); have n3_ := Aside0.mk (Kd.R_below (rR_ HO297.out) hb); have n4_ := Aside0.mk (blk_below (g := gb281) (o := .cells #[.slice A0_0 l0_0.length c0_0, .int .i64 a0_1, .slice A0_2 l0_2.length c0_2] 37 (0, 0)) (tk_ BK281.out) hb); have n5_ := Aside0.mk (below_step (tb_ HB.out) hb); have n6_ := Aside0.mk (hbox); have n7_ := Aside0.mk ((by rw [hg]; exact (below_size (tb_ HB.out)) : w.heap.size ≤ gb298)); have n8_ := Aside0.mk ((by rw [hg]; exact (below_size (tb_ HB.out)) : w.heap.size ≤ gb298)); have n9_ := Aside0.mk ((by rw [hg]; exact Nat.ne_of_lt (blk_lt (g := gb281) (o := .cells #[.slice A0_0 l0_0.length c0_0, .int .i64 a0_1, .slice A0_2 l0_2.length c0_2] 37 (0, 0)) (tk_ BK281.out)) : gb281 ≠ gb298)); have n10_ := Aside0.mk ((by rw [hg]; exact Nat.ne_of_gt (blk_lt (g := gb281) (o := .cells #[.slice A0_0 l0_0.length c0_0, .int .i64 a0_1, .slice A0_2 l0_2.length c0_2] 37 (0, 0)) (tk_ BK281.out)) : gb298 ≠ gb281)); clear HO285 HO289 HO293 HO297 BK281 HB; have HO285 := n0_; have HO289 := n1_; have HO293 := n2_; have HO297 := n3_; have BK281 := n4_; have HB := n5_; have BK298 := n6_; have GW298 := n7_; have GE298 := n8_; have NB281_298 := n9_; have NB298_281 := n10_; clear n0_ n1_ n2_ n3_ n4_ n5_ n6_ n7_ n8_ n9_ n10_ hb hbox hg; obtain ⟨Ao26, co26, eo26⟩ := Kd.R_slice HO293.out; subst eo26; have hnb27 := NB298_281.out; have hnc27 := NB281_298.out; have hcz28_0 : w25.cell? ⟨gb298, 0, none⟩ = some (.slice none 0 0) := (blk_cell BK298.out 0).trans rfl; have hcz28_1 : w25.cell? ⟨gb298, 1, none⟩ = some (.int .i64 0) := (blk_cell BK298.out 1).trans rfl; have hcz28_2 : w25.cell? ⟨gb298, 2, none⟩ = some (.slice none 0 0) := (blk_cell BK298.out 2).trans rfl; have hfz28_0 := blk_frozen BK298.out 0; have hfz28_1 := blk_frozen BK298.out 1; have hfz28_2 := blk_frozen BK298.out 2; obtain ⟨Ao29, co29, eo29⟩ := Kd.R_slice HO297.out; subst eo29) | ((with_reducible refine gate_callee (f := 18) rfl ?_); refine goesL_ (some 18) rfl rfl Tryd.func18 (by kernel_rfl) rfl #[.agg #[.slice Ao26 t291.length co26, .int .i64 t294, .slice Ao29 t295.length co29]] rfl tz_ ?_; (with_reducible refine (impl_PlaceText.calls k _ _ t291 t294 _ _ t295 t299 _ ?side1 ?side2 ?side3 ?side4 ?side5 A10.out).mono ?_); (case side1 => refine (Kd.R_reads' (e := 3) (base := w.heap.size) (ok := fun k_ => ((some k_ ≠ (.slice Ao29 t295.length co29 : Value).ownBlock ∧ some k_ ≠ (.slice Ao20 t283.length co20 : Value).ownBlock) ∧ some k_ ≠ (.slice Ao21 t287.length co21 : Value).ownBlock)) (n := t291.length) (c := co26) ?_).2.2; exact (by refine qR_ ?_; exact (Kd.R_mono (Kd.R_far (p := ⟨gb298, 2, none⟩) (Kd.R_far (p := ⟨gb298, 1, none⟩) (Kd.R_far (p := ⟨gb298, 0, none⟩) (Kd.R_types HO293.out BK298.out (by decide)) (fun _ hk => hk.2) (.slice Ao26 t291.length co26)) (fun _ hk => hk.2) (.int .i64 t294)) (fun _ hk => hk.2) (.slice Ao29 t295.length co29)) (fun _ h_ => h_.1)))); (case side2 => exact (Kd.R_reads' HO293.out).2.1); (case side3 => refine (Kd.R_reads' (e := 3) (base := w.heap.size) (ok := fun k_ => ((some k_ ≠ (.slice Ao26 t291.length co26 : Value).ownBlock ∧ some k_ ≠ (.slice Ao20 t283.length co20 : Value).ownBlock) ∧ some k_ ≠ (.slice Ao21 t287.length co21 : Value).ownBlock)) (n := t295.length) (c := co29) ?_).2.2; exact (by refine qR_ ?_; exact (Kd.R_mono (Kd.R_far (p := ⟨gb298, 2, none⟩) (Kd.R_far (p := ⟨gb298, 1, none⟩) (Kd.R_far (p := ⟨gb298, 0, none⟩) (Kd.R_types HO297.out BK298.out (by decide)) (fun _ hk => hk.2) (.slice Ao26 t291.length co26)) (fun _ hk => hk.2) (.int .i64 t294)) (fun _ hk => hk.2) (.slice Ao29 t295.length co29)) (fun _ h_ => h_.1)))); (case side4 => exact (Kd.R_reads' HO297.out).2.1); (case side5 => exact GWa.below HG.out (tb_ HB.out)); rintro e w30 ⟨rfl, hb⟩; refine ⟨_, rfl, ?_⟩; have n0_ := Aside0.mk (Kd.R_below (by refine qR_ ?_; exact (Kd.R_mono (Kd.R_far (p := ⟨gb298, 2, none⟩) (Kd.R_far (p := ⟨gb298, 1, none⟩) (Kd.R_far (p := ⟨gb298, 0, none⟩) (Kd.R_types HO285.out BK298.out (by decide)) (fun _ hk => hk.2) (.slice Ao26 t291.length co26)) (fun _ hk => hk.2) (.int .i64 t294)) (fun _ hk => hk.2) (.slice Ao29 t295.length co29)) (fun _ h_ => h_.1))) hb); have n1_ := Aside0.mk (Kd.R_below (by refine qR_ ?_; exact (Kd.R_mono (Kd.R_far (p := ⟨gb298, 2, none⟩) (Kd.R_far (p := ⟨gb298, 1, none⟩) (Kd.R_far (p := ⟨gb298, 0, none⟩) (Kd.R_types HO289.out BK298.out (by decide)) (fun _ hk => hk.2) (.slice Ao26 t291.length co26)) (fun _ hk => hk.2) (.int .i64 t294)) (fun _ hk => hk.2) (.slice Ao29 t295.length co29)) (fun _ h_ => h_.1))) hb); have n2_ := Aside0.mk (Kd.R_below (by refine qR_ ?_; exact (Kd.R_mono (Kd.R_far (p := ⟨gb298, 2, none⟩) (Kd.R_far (p := ⟨gb298, 1, none⟩) (Kd.R_far (p := ⟨gb298, 0, none⟩) (Kd.R_types HO293.out BK298.out (by decide)) (fun _ hk => hk.2) (.slice Ao26 t291.length co26)) (fun _ hk => hk.2) (.int .i64 t294)) (fun _ hk => hk.2) (.slice Ao29 t295.length co29)) (fun _ h_ => h_.1))) hb); have n3_ := Aside0.mk (Kd.R_below (by refine qR_ ?_; exact (Kd.R_mono (Kd.R_far (p := ⟨gb298, 2, none⟩) (Kd.R_far (p := ⟨gb298, 1, none⟩) (Kd.R_far (p := ⟨gb298, 0, none⟩) (Kd.R_types HO297.out BK298.out (by decide)) (fun _ hk => hk.2) (.slice Ao26 t291.length co26)) (fun _ hk => hk.2) (.int .i64 t294)) (fun _ hk => hk.2) (.slice Ao29 t295.length co29)) (fun _ h_ => h_.1))) hb); have n4_ := Aside0.mk (blk_below (g := gb281) (o := .cells #[.slice A0_0 l0_0.length c0_0, .int .i64 a0_1, .slice A0_2 l0_2.length c0_2] 37 (0, 0)) (tk_ BK281.out) hb); have n5_ := Aside0.mk (blk_below (g := gb298) (o := .cells #[.slice Ao26 t291.length co26, .int .i64 t294, .slice Ao29 t295.length co29] 40 (0, 0)) (by refine bq_ ?_; refine blk_put (cs := #[.slice Ao26 t291.length co26, .int .i64 t294, .slice none 0 0]) ?_ 2 _ rfl; refine bq_ ?_; refine blk_put (cs := #[.slice Ao26 t291.length co26, .int .i64 0, .slice none 0 0]) ?_ 1 _ rfl; refine bq_ ?_; refine blk_put (cs := #[.slice none 0 0, .int .i64 0, .slice none 0 0]) ?_ 0 _ rfl; exact tk_ BK298.out) hb); have n6_ := Aside0.mk (below_step (tb_ HB.out) hb); clear HO285 HO289 HO293 HO297 BK281 BK298 HB; have HO285 := n0_; have HO289 := n1_; have HO293 := n2_; have HO297 := n3_; have BK281 := n4_; have BK298 := n5_; have HB := n6_; clear n0_ n1_ n2_ n3_ n4_ n5_ n6_; (try clear hb); (try clear hb2); (try clear hk); (try clear hi)))
    have n0_ := Aside0.mk (Kd.R_drew HO285.out)
    have n1_ := Aside0.mk (Kd.R_drew HO289.out)
    have n2_ := Aside0.mk (Kd.R_drew HO293.out)
    have n3_ := Aside0.mk (Kd.R_drew HO297.out)
    have n4_ := Aside0.mk (blk_drew BK281.out)
    have n5_ := Aside0.mk (blk_drew BK298.out)
    have n6_ := Aside0.mk (ld_ HB.out)
    clear HO285
    clear HO289
    clear HO293
    clear HO297
    clear BK281
    clear BK298
    clear HB
    have HO285 := n0_
    have HO289 := n1_
    have HO293 := n2_
    have HO297 := n3_
    have BK281 := n4_
    have BK298 := n5_
    have HB := n6_
    clear n0_ n1_ n2_ n3_ n4_ n5_ n6_
    refine start_ (n := 5) (S := fun w' => w'.cell? ⟨gb298, 0, none⟩ = some (.slice Ao26 t291.length co26) ∧ w'.cell? ⟨gb298, 1, none⟩ = some (.int .i64 t294) ∧ w'.cell? ⟨gb298, 2, none⟩ = some (.slice Ao29 t295.length co29) ∧ w'.cell? ⟨gb281, 0, none⟩ = some (.slice A0_0 l0_0.length c0_0) ∧ w'.cell? ⟨gb281, 1, none⟩ = some (.int .i64 a0_1) ∧ w'.cell? ⟨gb281, 2, none⟩ = some (.slice A0_2 l0_2.length c0_2)) (ds := []) #[false, false, false, false, false] (by kernel_rfl) rfl rfl ⟨(blk_cell BK298.out 0).trans rfl, (blk_cell BK298.out 1).trans rfl, (blk_cell BK298.out 2).trans rfl, (blk_cell BK281.out 0).trans rfl, (blk_cell BK281.out 1).trans rfl, (blk_cell BK281.out 2).trans rfl⟩ (fun hHeld => ?_)
    generalize w30.drew = w31 at HO285 HO289 HO293 HO297 BK281 BK298 HB hHeld ⊢
    refine take_ (i := 0) (N := some 22) (v := ?_) (a' := ?_) #[true, false, false, false, false] rfl rfl (by kernel_rfl) (fun _ _ _ h => h) (Or.inl ⟨by rfl, ?_⟩) hHeld ?_ ?_
    rotate_left
    ·
     rintro w' ⟨s0, s1, s2, s3, s4, s5⟩
     go_simp
     first | with_reducible rfl | (rw [if_neg (by omega)]; done)
    rotate_left
    ·
     simp only [Act.put, sa_, sb_, sc_, i64_w, i32_w]
     rfl
    refine take_ (i := 1) (N := some 23) (v := ?_) (a' := ?_) #[true, true, false, false, false] rfl rfl (by kernel_rfl) (fun _ _ _ h => h) (Or.inl ⟨by rfl, ?_⟩) hHeld ?_ ?_
    rotate_left
    ·
     rintro w' ⟨s0, s1, s2, s3, s4, s5⟩
     go_simp
     first | with_reducible rfl | (rw [if_neg (by omega)]; done)
    rotate_left
    ·
     simp only [Act.put, sa_, sb_, sc_, i64_w, i32_w]
     rfl
    refine one_ (i := 2) (N := some 24) #[true, true, true, false, false] rfl rfl (by kernel_rfl) (by decide) (fun K hK => ?_)
    refine goes_ Tryd.func17 (by kernel_rfl) rfl #[.agg #[.slice A0_0 l0_0.length c0_0, .int .i64 a0_1, .slice A0_2 l0_2.length c0_2]] (by rfl) rfl rfl tz_ ?_
    with_reducible refine (laws_toPlace.calls k _ _ l0_0 a0_1 _ _ l0_2 t300 t303 t304 _ ?side1 ?side2 ?side3 ?side4 A12.out).mono ?_
    (case side1 => exact tD_)
    (case side2 => exact HC0_0.out)
    (case side3 => exact tD_)
    (case side4 => exact HC0_2.out)
    rintro e w32 ⟨v301, v305, rfl, ho0, ho1, hb⟩
    refine ⟨_, rfl, ?_⟩
    have n0_ := Aside0.mk (Kd.R_mono (Kd.R_told (Kd.R_told (Kd.R_old (rR_ HO285.out) hb) (Kd.R_base ho0)) (Kd.R_base ho1)) (fun _ h_ => h_.1))
    have n1_ := Aside0.mk (Kd.R_mono (Kd.R_told (Kd.R_told (Kd.R_old (rR_ HO289.out) hb) (Kd.R_base ho0)) (Kd.R_base ho1)) (fun _ h_ => h_.1))
    have n2_ := Aside0.mk (Kd.R_mono (Kd.R_told (Kd.R_told (Kd.R_old (rR_ HO293.out) hb) (Kd.R_base ho0)) (Kd.R_base ho1)) (fun _ h_ => h_.1))
    have n3_ := Aside0.mk (Kd.R_mono (Kd.R_told (Kd.R_told (Kd.R_old (rR_ HO297.out) hb) (Kd.R_base ho0)) (Kd.R_base ho1)) (fun _ h_ => h_.1))
    have n4_ := Aside0.mk (Kd.R_lower (Kd.R_new' (Kd.R_new' (Kd.R_new' (Kd.R_new' ho0 (Kd.R_lt (rR_ HO285.out))) (Kd.R_lt (rR_ HO289.out))) (Kd.R_lt (rR_ HO293.out))) (Kd.R_lt (rR_ HO297.out))) (below_size (tb_ HB.out)))
    have n5_ := Aside0.mk (Kd.R_lower (Kd.R_new' (Kd.R_new' (Kd.R_new' (Kd.R_new' ho1 (Kd.R_lt (rR_ HO285.out))) (Kd.R_lt (rR_ HO289.out))) (Kd.R_lt (rR_ HO293.out))) (Kd.R_lt (rR_ HO297.out))) (below_size (tb_ HB.out)))
    have n6_ := Aside0.mk (blk_below (g := gb281) (o := .cells #[.slice A0_0 l0_0.length c0_0, .int .i64 a0_1, .slice A0_2 l0_2.length c0_2] 37 (0, 0)) (tk_ BK281.out) hb)
    have n7_ := Aside0.mk (blk_below (g := gb298) (o := .cells #[.slice Ao26 t291.length co26, .int .i64 t294, .slice Ao29 t295.length co29] 40 (0, 0)) (tk_ BK298.out) hb)
    have n8_ := Aside0.mk (below_step (tb_ HB.out) hb)
    clear HO285
    clear HO289
    clear HO293
    clear HO297
    clear BK281
    clear BK298
    clear HB
    have HO285 := n0_
    have HO289 := n1_
    have HO293 := n2_
    have HO297 := n3_
    have HO302 := n4_
    have HO306 := n5_
    have BK281 := n6_
    have BK298 := n7_
    have HB := n8_
    clear n0_ n1_ n2_ n3_ n4_ n5_ n6_ n7_ n8_
    (try clear hb)
    (try clear hb2)
    (try clear hk)
    (try clear hi)
    (try clear ho0)
    (try clear ho1)
    obtain ⟨Ao33, co33, eo33⟩ := Kd.R_slice HO302.out
    (first | subst eo33 | (injection eo33 with f1_ f2_ f3_; have f4_ := f1_.symm; have f5_ := f3_.symm; clear f1_ f2_ f3_; subst f4_; subst f5_))
    obtain ⟨Ao34, co34, eo34⟩ := Kd.R_slice HO306.out
    (first | subst eo34 | (injection eo34 with f1_ f2_ f3_; have f4_ := f1_.symm; have f5_ := f3_.symm; clear f1_ f2_ f3_; subst f4_; subst f5_))
    refine hK.out _ _ ⟨(blk_cell BK298.out 0).trans rfl, (blk_cell BK298.out 1).trans rfl, (blk_cell BK298.out 2).trans rfl, (blk_cell BK281.out 0).trans rfl, (blk_cell BK281.out 1).trans rfl, (blk_cell BK281.out 2).trans rfl⟩ (fun hHeld => ?_)
    clear hK K
    refine norm_ (a' := ?_) ?_ ?_
    rotate_left
    ·
     show Act.put _ (some 24) _ = _
     simp only [Act.put, sa_, sb_, sc_, i64_w, i32_w]
     rfl
    refine one_ (i := 3) (N := some 25) #[true, true, true, true, false] rfl rfl (by kernel_rfl) (by decide) (fun K hK => ?_)
    refine goes_ Tryd.func19 (by kernel_rfl) rfl #[.agg #[.slice Ao26 t291.length co26, .int .i64 t294, .slice Ao29 t295.length co29], .agg #[.slice Ao33 t300.length co33, .int .i64 t303, .slice Ao34 t304.length co34]] (by rfl) rfl rfl tz_ ?_
    with_reducible refine (laws_eqPlace.calls k _ _ t291 t294 _ _ t295 _ _ t300 t303 _ _ t304 true _ ?side1 ?side2 ?side3 ?side4 ?side5 ?side6 ?side7 ?side8 A13.out).mono ?_
    (case side1 => repeat (first | exact (Kd.R_reads' HO293.out).2.2 | (with_reducible refine Kd.C_alloc ?_ _) | (with_reducible refine Kd.C_drewN ?_ _) | (with_reducible refine Kd.C_drew ?_)))
    (case side2 => exact (Kd.R_reads' HO293.out).2.1)
    (case side3 => repeat (first | exact (Kd.R_reads' HO297.out).2.2 | (with_reducible refine Kd.C_alloc ?_ _) | (with_reducible refine Kd.C_drewN ?_ _) | (with_reducible refine Kd.C_drew ?_)))
    (case side4 => exact (Kd.R_reads' HO297.out).2.1)
    (case side5 => repeat (first | exact (Kd.R_reads' HO302.out).2.2 | (with_reducible refine Kd.C_alloc ?_ _) | (with_reducible refine Kd.C_drewN ?_ _) | (with_reducible refine Kd.C_drew ?_)))
    (case side6 => exact (Kd.R_reads' HO302.out).2.1)
    (case side7 => repeat (first | exact (Kd.R_reads' HO306.out).2.2 | (with_reducible refine Kd.C_alloc ?_ _) | (with_reducible refine Kd.C_drewN ?_ _) | (with_reducible refine Kd.C_drew ?_)))
    (case side8 => exact (Kd.R_reads' HO306.out).2.1)
    rintro e w35 ⟨rfl, hb⟩
    refine ⟨_, rfl, ?_⟩
    have n0_ := Aside0.mk (Kd.R_below (rR_ HO285.out) hb)
    have n1_ := Aside0.mk (Kd.R_below (rR_ HO289.out) hb)
    have n2_ := Aside0.mk (Kd.R_below (rR_ HO293.out) hb)
    have n3_ := Aside0.mk (Kd.R_below (rR_ HO297.out) hb)
    have n4_ := Aside0.mk (Kd.R_below (rR_ HO302.out) hb)
    have n5_ := Aside0.mk (Kd.R_below (rR_ HO306.out) hb)
    have n6_ := Aside0.mk (blk_below (g := gb281) (o := .cells #[.slice A0_0 l0_0.length c0_0, .int .i64 a0_1, .slice A0_2 l0_2.length c0_2] 37 (0, 0)) (tk_ BK281.out) hb)
    have n7_ := Aside0.mk (blk_below (g := gb298) (o := .cells #[.slice Ao26 t291.length co26, .int .i64 t294, .slice Ao29 t295.length co29] 40 (0, 0)) (tk_ BK298.out) hb)
    have n8_ := Aside0.mk (below_step (tb_ HB.out) hb)
    clear HO285
    clear HO289
    clear HO293
    clear HO297
    clear HO302
    clear HO306
    clear BK281
    clear BK298
    clear HB
    have HO285 := n0_
    have HO289 := n1_
    have HO293 := n2_
    have HO297 := n3_
    have HO302 := n4_
    have HO306 := n5_
    have BK281 := n6_
    have BK298 := n7_
    have HB := n8_
    clear n0_ n1_ n2_ n3_ n4_ n5_ n6_ n7_ n8_
    (try clear hb)
    (try clear hb2)
    (try clear hk)
    (try clear hi)
    refine hK.out _ _ ⟨(blk_cell BK298.out 0).trans rfl, (blk_cell BK298.out 1).trans rfl, (blk_cell BK298.out 2).trans rfl, (blk_cell BK281.out 0).trans rfl, (blk_cell BK281.out 1).trans rfl, (blk_cell BK281.out 2).trans rfl⟩ (fun hHeld => ?_)
    clear hK K
    refine norm_ (a' := ?_) ?_ ?_
    rotate_left
    ·
     show Act.put _ (some 25) _ = _
     simp only [Act.put, sa_, sb_, sc_, i64_w, i32_w]
     rfl
    refine pure_ (i := 4) (N := some 26) (v := ?_) (a' := ?_) #[true, true, true, true, true] rfl rfl (by kernel_rfl) (fun _ _ _ h => h) (Or.inl ⟨by rfl, ?_⟩) ?_ ?_
    rotate_left
    ·
     intro w'
     go_simp
     first | with_reducible rfl | (rw [if_neg (by omega)]; done)
    rotate_left
    ·
     simp only [Act.put, sa_, sb_, sc_, i64_w, i32_w]
     rfl
    refine done_ (by kernel_rfl) ?_
    try go_wp2
    go_ret
    exact ⟨by first | rfl | (simp [errW_none, errW_some] <;> rfl) | (simp [*, errW_none, errW_some] <;> rfl), (tb_ HB.out)⟩
   ·
    replace c14 := Bool.eq_false_iff.mpr c14
    subst c14
    have H1 : (some false) = some r := by rw [if_neg (show ¬ (false = true) by decide)] at H; exact H
    clear H
    have H := H1
    clear H1
    obtain rfl := Option.some.inj H
    go_enter Tryd.func5, Tryd.ntmps5
    try go_wp2_with (first | ((with_reducible refine gate_dst (N := 1) rfl ?_); refine box_event ?hg (N := 1) ?hd (cs := #[.slice A0_0 l0_0.length c0_0, .int .i64 a0_1, .slice A0_2 l0_2.length c0_2]) (t := 37) ?hr ?_; (case hd => rfl); (case hg => rfl); (case hr => first | (go_simp; done) | (go_simp; rfl)); intro gb281 hg w36 hbox hb; have n0_ := Aside0.mk (below_step (tb_ HB.out) hb); have n1_ := Aside0.mk (hbox); have n2_ := Aside0.mk ((by rw [hg]; exact (below_size (tb_ HB.out)) : w.heap.size ≤ gb281)); have n3_ := Aside0.mk ((by rw [hg]; exact (below_size (tb_ HB.out)) : w.heap.size ≤ gb281)); clear HB; have HB := n0_; have BK281 := n1_; have GW281 := n2_; have GE281 := n3_; clear n0_ n1_ n2_ n3_ hb hbox hg; have hcz37_0 : w36.cell? ⟨gb281, 0, none⟩ = some (.slice A0_0 l0_0.length c0_0) := (blk_cell BK281.out 0).trans rfl; have hcz37_1 : w36.cell? ⟨gb281, 1, none⟩ = some (.int .i64 a0_1) := (blk_cell BK281.out 1).trans rfl; have hcz37_2 : w36.cell? ⟨gb281, 2, none⟩ = some (.slice A0_2 l0_2.length c0_2) := (blk_cell BK281.out 2).trans rfl; have hfz37_0 := blk_frozen BK281.out 0; have hfz37_1 := blk_frozen BK281.out 1; have hfz37_2 := blk_frozen BK281.out 2) | ((with_reducible refine gate_callee (f := 15) rfl ?_); refine goesL_ (some 9) rfl rfl Tryd.func15 (by kernel_rfl) rfl #[.agg #[.slice A0_0 l0_0.length c0_0, .int .i64 a0_1, .slice A0_2 l0_2.length c0_2], .int .i64 1048576] rfl tz_ ?_; (with_reducible refine (laws_szPlace.calls _ _ l0_0 a0_1 _ _ l0_2 1048576 t282 _ ?side1 ?side2 ?side3 ?side4 A2.out).mono ?_); (case side1 => exact tD_); (case side2 => exact HC0_0.out); (case side3 => exact tD_); (case side4 => exact HC0_2.out); rintro e w38 ⟨rfl, hb⟩; refine ⟨_, rfl, ?_⟩; have n0_ := Aside0.mk (blk_below (g := gb281) (o := .cells #[.slice A0_0 l0_0.length c0_0, .int .i64 a0_1, .slice A0_2 l0_2.length c0_2] 37 (0, 0)) (tk_ BK281.out) hb); have n1_ := Aside0.mk (below_step (tb_ HB.out) hb); clear BK281 HB; have BK281 := n0_; have HB := n1_; clear n0_ n1_; (try clear hb); (try clear hb2); (try clear hk); (try clear hi); have hcz39_0 : w38.cell? ⟨gb281, 0, none⟩ = some (.slice A0_0 l0_0.length c0_0) := (blk_cell BK281.out 0).trans rfl; have hcz39_1 : w38.cell? ⟨gb281, 1, none⟩ = some (.int .i64 a0_1) := (blk_cell BK281.out 1).trans rfl; have hcz39_2 : w38.cell? ⟨gb281, 2, none⟩ = some (.slice A0_2 l0_2.length c0_2) := (blk_cell BK281.out 2).trans rfl; have hfz39_0 := blk_frozen BK281.out 0; have hfz39_1 := blk_frozen BK281.out 1; have hfz39_2 := blk_frozen BK281.out 2) | ((with_reducible refine gate_callee (f := 17) rfl ?_); refine goesL_ (some 13) rfl rfl Tryd.func17 (by kernel_rfl) rfl #[.agg #[.slice A0_0 l0_0.length c0_0, .int .i64 a0_1, .slice A0_2 l0_2.length c0_2]] rfl tz_ ?_; (with_reducible refine (laws_toPlace.calls k _ _ l0_0 a0_1 _ _ l0_2 t283 t286 t287 _ ?side1 ?side2 ?side3 ?side4 A7.out).mono ?_); (case side1 => exact tD_); (case side2 => exact HC0_0.out); (case side3 => exact tD_); (case side4 => exact HC0_2.out); rintro e w40 ⟨v284, v288, rfl, ho0, ho1, hb⟩; refine ⟨_, rfl, ?_⟩; have n0_ := Aside0.mk (Kd.R_lower ho0 (below_size (tb_ HB.out))); have n1_ := Aside0.mk (Kd.R_lower ho1 (below_size (tb_ HB.out))); have n2_ := Aside0.mk (blk_below (g := gb281) (o := .cells #[.slice A0_0 l0_0.length c0_0, .int .i64 a0_1, .slice A0_2 l0_2.length c0_2] 37 (0, 0)) (tk_ BK281.out) hb); have n3_ := Aside0.mk (below_step (tb_ HB.out) hb); clear BK281 HB; have HO285 := n0_; have HO289 := n1_; have BK281 := n2_; have HB := n3_; clear n0_ n1_ n2_ n3_; (try clear hb); (try clear hb2); (try clear hk); (try clear hi); (try clear ho0); (try clear ho1); obtain ⟨Ao41, co41, eo41⟩ := Kd.R_slice HO285.out; subst eo41; obtain ⟨Ao42, co42, eo42⟩ := Kd.R_slice HO289.out; subst eo42) | ((with_reducible refine gate_callee (f := 16) rfl ?_); refine goesL_ (some 14) rfl rfl Tryd.func16 (by kernel_rfl) rfl #[.agg #[.slice Ao41 t283.length co41, .int .i64 t286, .slice Ao42 t287.length co42]] rfl tz_ ?_; (with_reducible refine (spec_PlaceText.calls k _ _ t283 t286 _ _ t287 t290 _ ?side1 ?side2 ?side3 ?side4 A8.out).mono ?_); (case side1 => repeat (first | exact (Kd.R_reads' HO285.out).2.2 | (with_reducible refine Kd.C_alloc ?_ _) | (with_reducible refine Kd.C_drewN ?_ _) | (with_reducible refine Kd.C_drew ?_))); (case side2 => exact (Kd.R_reads' HO285.out).2.1); (case side3 => repeat (first | exact (Kd.R_reads' HO289.out).2.2 | (with_reducible refine Kd.C_alloc ?_ _) | (with_reducible refine Kd.C_drewN ?_ _) | (with_reducible refine Kd.C_drew ?_))); (case side4 => exact (Kd.R_reads' HO289.out).2.1); rintro e w43 ⟨rfl, hb⟩; refine ⟨_, rfl, ?_⟩; have n0_ := Aside0.mk (Kd.R_below (rR_ HO285.out) hb); have n1_ := Aside0.mk (Kd.R_below (rR_ HO289.out) hb); have n2_ := Aside0.mk (blk_below (g := gb281) (o := .cells #[.slice A0_0 l0_0.length c0_0, .int .i64 a0_1, .slice A0_2 l0_2.length c0_2] 37 (0, 0)) (tk_ BK281.out) hb); have n3_ := Aside0.mk (below_step (tb_ HB.out) hb); clear HO285 HO289 BK281 HB; have HO285 := n0_; have HO289 := n1_; have BK281 := n2_; have HB := n3_; clear n0_ n1_ n2_ n3_; (try clear hb); (try clear hb2); (try clear hk); (try clear hi); have hcz44_0 : w43.cell? ⟨gb281, 0, none⟩ = some (.slice A0_0 l0_0.length c0_0) := (blk_cell BK281.out 0).trans rfl; have hcz44_1 : w43.cell? ⟨gb281, 1, none⟩ = some (.int .i64 a0_1) := (blk_cell BK281.out 1).trans rfl; have hcz44_2 : w43.cell? ⟨gb281, 2, none⟩ = some (.slice A0_2 l0_2.length c0_2) := (blk_cell BK281.out 2).trans rfl; have hfz44_0 := blk_frozen BK281.out 0; have hfz44_1 := blk_frozen BK281.out 1; have hfz44_2 := blk_frozen BK281.out 2) | ((with_reducible refine gate_callee (f := 17) rfl ?_); refine goesL_ (some 16) rfl rfl Tryd.func17 (by kernel_rfl) rfl #[.agg #[.slice A0_0 l0_0.length c0_0, .int .i64 a0_1, .slice A0_2 l0_2.length c0_2]] rfl tz_ ?_; (with_reducible refine (laws_toPlace.calls k _ _ l0_0 a0_1 _ _ l0_2 t291 t294 t295 _ ?side1 ?side2 ?side3 ?side4 A9.out).mono ?_); (case side1 => exact tD_); (case side2 => exact HC0_0.out); (case side3 => exact tD_); (case side4 => exact HC0_2.out); rintro e w45 ⟨v292, v296, rfl, ho0, ho1, hb⟩; refine ⟨_, rfl, ?_⟩; have n0_ := Aside0.mk (Kd.R_mono (Kd.R_told (Kd.R_told (Kd.R_old (rR_ HO285.out) hb) (Kd.R_base ho0)) (Kd.R_base ho1)) (fun _ h_ => h_.1)); have n1_ := Aside0.mk (Kd.R_mono (Kd.R_told (Kd.R_told (Kd.R_old (rR_ HO289.out) hb) (Kd.R_base ho0)) (Kd.R_base ho1)) (fun _ h_ => h_.1)); have n2_ := Aside0.mk (Kd.R_lower (Kd.R_new' (Kd.R_new' ho0 (Kd.R_lt (rR_ HO285.out))) (Kd.R_lt (rR_ HO289.out))) (below_size (tb_ HB.out))); have n3_ := Aside0.mk (Kd.R_lower (Kd.R_new' (Kd.R_new' ho1 (Kd.R_lt (rR_ HO285.out))) (Kd.R_lt (rR_ HO289.out))) (below_size (tb_ HB.out))); have n4_ := Aside0.mk (blk_below (g := gb281) (o := .cells #[.slice A0_0 l0_0.length c0_0, .int .i64 a0_1, .slice A0_2 l0_2.length c0_2] 37 (0, 0)) (tk_ BK281.out) hb); have n5_ := Aside0.mk (below_step (tb_ HB.out) hb); clear HO285 HO289 BK281 HB; have HO285 := n0_; have HO289 := n1_; have HO293 := n2_; have HO297 := n3_; have BK281 := n4_; have HB := n5_; clear n0_ n1_ n2_ n3_ n4_ n5_; (try clear hb); (try clear hb2); (try clear hk); (try clear hi); (try clear ho0); (try clear ho1)) | ((with_reducible refine gate_dst (N := 5) rfl ?_); refine box_event ?hg (N := 5) ?hd (cs := #[.slice none 0 0, .int .i64 0, .slice none 0 0]) (t := 40) ?hr ?_; (case hd => rfl); (case hg => rfl); (case hr => first | (go_simp; done) | (go_simp; rfl)); intro gb298 hg w46 hbox hb; have n0_ := Aside0.mk (Kd.R_below (rR_ HO285.out) hb); have n1_ := Aside0.mk (Kd.R_below (rR_ HO289.out) hb); have n2_ := Aside0.mk (Kd.R_below (rR_ HO293.out) hb); have n3_ := Aside0.mk (Kd.R_below (rR_ HO297.out) hb); have n4_ := Aside0.mk (blk_below (g := gb281) (o := .cells #[.slice A0_0 l0_0.length c0_0, .int .i64 a0_1, .slice A0_2 l0_2.length c0_2] 37 (0, 0)) (tk_ BK281.out) hb); have n5_ := Aside0.mk (below_step (tb_ HB.out) hb); have n6_ := Aside0.mk (hbox); have n7_ := Aside0.mk ((by rw [hg]; exact (below_size (tb_ HB.out)) : w.heap.size ≤ gb298)); have n8_ := Aside0.mk ((by rw [hg]; exact (below_size (tb_ HB.out)) : w.heap.size ≤ gb298)); have n9_ := Aside0.mk ((by rw [hg]; exact Nat.ne_of_lt (blk_lt (g := gb281) (o := .cells #[.slice A0_0 l0_0.length c0_0, .int .i64 a0_1, .slice A0_2 l0_2.length c0_2] 37 (0, 0)) (tk_ BK281.out)) : gb281 ≠ gb298)); have n10_ := Aside0.mk ((by rw [hg]; exact Nat.ne_of_gt (blk_lt (g := gb281) (o := .cells #[.slice A0_0 l0_0.length c0_0, .int .i64 a0_1, .slice A0_2 l0_2.length c0_2] 37 (0, 0)) (tk_ BK281.out)) : gb298 ≠ gb281)); clear HO285 HO289 HO293 HO297 BK281 HB; have HO285 := n0_; have HO289 := n1_; have HO293 := n2_; have HO297 := n3_; have BK281 := n4_; have HB := n5_; have BK298 := n6_; have GW298 := n7_; have GE298 := n8_; have NB281_298 := n9_; have NB298_281 := n10_; clear n0_ n1_ n2_ n3_ n4_ n5_ n6_ n7_ n8_ n9_ n10_ hb hbox hg; obtain ⟨Ao47, co47, eo47⟩ := Kd.R_slice HO293.out; subst eo47; have hnb48 := NB298_281.out; have hnc48 := NB281_298.out; have hcz49_0 : w46.cell? ⟨gb298, 0, none⟩ = some (.slice none 0 0) := (blk_cell BK298.out 0).trans rfl; have hcz49_1 : w46.cell? ⟨gb298, 1, none⟩ = some (.int .i64 0) := (blk_cell BK298.out 1).trans rfl; have hcz49_2 : w46.cell? ⟨gb298, 2, none⟩ = some (.slice none 0 0) := (blk_cell BK298.out 2).trans rfl; have hfz49_0 := blk_frozen BK298.out 0; have hfz49_1 := blk_frozen BK298.out 1; have hfz49_2 := blk_frozen BK298.out 2; obtain ⟨Ao50, co50, eo50⟩ := Kd.R_slice HO297.out; subst eo50) | ((with_reducible refine gate_callee (f := 18) rfl ?_); refine goesL_ (some 18) rfl rfl Tryd.func18 (by kernel_rfl) rfl #[.agg #[.slice Ao47 t291.length co47, .int .i64 t294, .slice Ao50 t295.length co50]] rfl tz_ ?_; (with_reducible refine (impl_PlaceText.calls k _ _ t291 t294 _ _ t295 t299 _ ?side1 ?side2 ?side3 ?side4 ?side5 A10.out).mono ?_); (case side1 => refine (Kd.R_reads' (e := 3) (base := w.heap.size) (ok := fun k_ => ((some k_ ≠ (.slice Ao50 t295.length co50 : Value).ownBlock ∧ some k_ ≠ (.slice Ao41 t283.length co41 : Value).ownBlock) ∧ some k_ ≠ (.slice Ao42 t287.length co42 : Value).ownBlock)) (n := t291.length) (c := co47) ?_).2.2; exact (by refine qR_ ?_; exact (Kd.R_mono (Kd.R_far (p := ⟨gb298, 2, none⟩) (Kd.R_far (p := ⟨gb298, 1, none⟩) (Kd.R_far (p := ⟨gb298, 0, none⟩) (Kd.R_types HO293.out BK298.out (by decide)) (fun _ hk => hk.2) (.slice Ao47 t291.length co47)) (fun _ hk => hk.2) (.int .i64 t294)) (fun _ hk => hk.2) (.slice Ao50 t295.length co50)) (fun _ h_ => h_.1)))); (case side2 => exact (Kd.R_reads' HO293.out).2.1); (case side3 => refine (Kd.R_reads' (e := 3) (base := w.heap.size) (ok := fun k_ => ((some k_ ≠ (.slice Ao47 t291.length co47 : Value).ownBlock ∧ some k_ ≠ (.slice Ao41 t283.length co41 : Value).ownBlock) ∧ some k_ ≠ (.slice Ao42 t287.length co42 : Value).ownBlock)) (n := t295.length) (c := co50) ?_).2.2; exact (by refine qR_ ?_; exact (Kd.R_mono (Kd.R_far (p := ⟨gb298, 2, none⟩) (Kd.R_far (p := ⟨gb298, 1, none⟩) (Kd.R_far (p := ⟨gb298, 0, none⟩) (Kd.R_types HO297.out BK298.out (by decide)) (fun _ hk => hk.2) (.slice Ao47 t291.length co47)) (fun _ hk => hk.2) (.int .i64 t294)) (fun _ hk => hk.2) (.slice Ao50 t295.length co50)) (fun _ h_ => h_.1)))); (case side4 => exact (Kd.R_reads' HO297.out).2.1); (case side5 => exact GWa.below HG.out (tb_ HB.out)); rintro e w51 ⟨rfl, hb⟩; refine ⟨_, rfl, ?_⟩; have n0_ := Aside0.mk (Kd.R_below (by refine qR_ ?_; exact (Kd.R_mono (Kd.R_far (p := ⟨gb298, 2, none⟩) (Kd.R_far (p := ⟨gb298, 1, none⟩) (Kd.R_far (p := ⟨gb298, 0, none⟩) (Kd.R_types HO285.out BK298.out (by decide)) (fun _ hk => hk.2) (.slice Ao47 t291.length co47)) (fun _ hk => hk.2) (.int .i64 t294)) (fun _ hk => hk.2) (.slice Ao50 t295.length co50)) (fun _ h_ => h_.1))) hb); have n1_ := Aside0.mk (Kd.R_below (by refine qR_ ?_; exact (Kd.R_mono (Kd.R_far (p := ⟨gb298, 2, none⟩) (Kd.R_far (p := ⟨gb298, 1, none⟩) (Kd.R_far (p := ⟨gb298, 0, none⟩) (Kd.R_types HO289.out BK298.out (by decide)) (fun _ hk => hk.2) (.slice Ao47 t291.length co47)) (fun _ hk => hk.2) (.int .i64 t294)) (fun _ hk => hk.2) (.slice Ao50 t295.length co50)) (fun _ h_ => h_.1))) hb); have n2_ := Aside0.mk (Kd.R_below (by refine qR_ ?_; exact (Kd.R_mono (Kd.R_far (p := ⟨gb298, 2, none⟩) (Kd.R_far (p := ⟨gb298, 1, none⟩) (Kd.R_far (p := ⟨gb298, 0, none⟩) (Kd.R_types HO293.out BK298.out (by decide)) (fun _ hk => hk.2) (.slice Ao47 t291.length co47)) (fun _ hk => hk.2) (.int .i64 t294)) (fun _ hk => hk.2) (.slice Ao50 t295.length co50)) (fun _ h_ => h_.1))) hb); have n3_ := Aside0.mk (Kd.R_below (by refine qR_ ?_; exact (Kd.R_mono (Kd.R_far (p := ⟨gb298, 2, none⟩) (Kd.R_far (p := ⟨gb298, 1, none⟩) (Kd.R_far (p := ⟨gb298, 0, none⟩) (Kd.R_types HO297.out BK298.out (by decide)) (fun _ hk => hk.2) (.slice Ao47 t291.length co47)) (fun _ hk => hk.2) (.int .i64 t294)) (fun _ hk => hk.2) (.slice Ao50 t295.length co50)) (fun _ h_ => h_.1))) hb); have n4_ := Aside0.mk (blk_below (g := gb281) (o := .cells #[.slice A0_0 l0_0.length c0_0, .int .i64 a0_1, .slice A0_2 l0_2.length c0_2] 37 (0, 0)) (tk_ BK281.out) hb); have n5_ := Aside0.mk (blk_below (g := gb298) (o := .cells #[.slice Ao47 t291.length co47, .int .i64 t294, .slice Ao50 t295.length co50] 40 (0, 0)) (by refine bq_ ?_; refine blk_put (cs := #[.slice Ao47 t291.length co47, .int .i64 t294, .slice none 0 0]) ?_ 2 _ rfl; refine bq_ ?_; refine blk_put (cs := #[.slice Ao47 t291.length co47, .int .i64 0, .slice none 0 0]) ?_ 1 _ rfl; refine bq_ ?_; refine blk_put (cs := #[.slice none 0 0, .int .i64 0, .slice none 0 0]) ?_ 0 _ rfl; exact tk_ BK298.out) hb); have n6_ := Aside0.mk (below_step (tb_ HB.out) hb); clear HO285 HO289 HO293 HO297 BK281 BK298 HB; have HO285 := n0_; have HO289 := n1_; have HO293 := n2_; have HO297 := n3_; have BK281 := n4_; have BK298 := n5_; have HB := n6_; clear n0_ n1_ n2_ n3_ n4_ n5_ n6_; (try clear hb); (try clear hb2); (try clear hk); (try clear hi)))
    have n0_ := Aside0.mk (Kd.R_drew HO285.out)
    have n1_ := Aside0.mk (Kd.R_drew HO289.out)
    have n2_ := Aside0.mk (Kd.R_drew HO293.out)
    have n3_ := Aside0.mk (Kd.R_drew HO297.out)
    have n4_ := Aside0.mk (blk_drew BK281.out)
    have n5_ := Aside0.mk (blk_drew BK298.out)
    have n6_ := Aside0.mk (ld_ HB.out)
    clear HO285
    clear HO289
    clear HO293
    clear HO297
    clear BK281
    clear BK298
    clear HB
    have HO285 := n0_
    have HO289 := n1_
    have HO293 := n2_
    have HO297 := n3_
    have BK281 := n4_
    have BK298 := n5_
    have HB := n6_
    clear n0_ n1_ n2_ n3_ n4_ n5_ n6_
    refine start_ (n := 5) (S := fun w' => w'.cell? ⟨gb298, 0, none⟩ = some (.slice Ao47 t291.length co47) ∧ w'.cell? ⟨gb298, 1, none⟩ = some (.int .i64 t294) ∧ w'.cell? ⟨gb298, 2, none⟩ = some (.slice Ao50 t295.length co50) ∧ w'.cell? ⟨gb281, 0, none⟩ = some (.slice A0_0 l0_0.length c0_0) ∧ w'.cell? ⟨gb281, 1, none⟩ = some (.int .i64 a0_1) ∧ w'.cell? ⟨gb281, 2, none⟩ = some (.slice A0_2 l0_2.length c0_2)) (ds := []) #[false, false, false, false, false] (by kernel_rfl) rfl rfl ⟨(blk_cell BK298.out 0).trans rfl, (blk_cell BK298.out 1).trans rfl, (blk_cell BK298.out 2).trans rfl, (blk_cell BK281.out 0).trans rfl, (blk_cell BK281.out 1).trans rfl, (blk_cell BK281.out 2).trans rfl⟩ (fun hHeld => ?_)
    generalize w51.drew = w52 at HO285 HO289 HO293 HO297 BK281 BK298 HB hHeld ⊢
    refine take_ (i := 0) (N := some 22) (v := ?_) (a' := ?_) #[true, false, false, false, false] rfl rfl (by kernel_rfl) (fun _ _ _ h => h) (Or.inl ⟨by rfl, ?_⟩) hHeld ?_ ?_
    rotate_left
    ·
     rintro w' ⟨s0, s1, s2, s3, s4, s5⟩
     go_simp
     first | with_reducible rfl | (rw [if_neg (by omega)]; done)
    rotate_left
    ·
     simp only [Act.put, sa_, sb_, sc_, i64_w, i32_w]
     rfl
    refine take_ (i := 1) (N := some 23) (v := ?_) (a' := ?_) #[true, true, false, false, false] rfl rfl (by kernel_rfl) (fun _ _ _ h => h) (Or.inl ⟨by rfl, ?_⟩) hHeld ?_ ?_
    rotate_left
    ·
     rintro w' ⟨s0, s1, s2, s3, s4, s5⟩
     go_simp
     first | with_reducible rfl | (rw [if_neg (by omega)]; done)
    rotate_left
    ·
     simp only [Act.put, sa_, sb_, sc_, i64_w, i32_w]
     rfl
    refine one_ (i := 2) (N := some 24) #[true, true, true, false, false] rfl rfl (by kernel_rfl) (by decide) (fun K hK => ?_)
    refine goes_ Tryd.func17 (by kernel_rfl) rfl #[.agg #[.slice A0_0 l0_0.length c0_0, .int .i64 a0_1, .slice A0_2 l0_2.length c0_2]] (by rfl) rfl rfl tz_ ?_
    with_reducible refine (laws_toPlace.calls k _ _ l0_0 a0_1 _ _ l0_2 t300 t303 t304 _ ?side1 ?side2 ?side3 ?side4 A12.out).mono ?_
    (case side1 => exact tD_)
    (case side2 => exact HC0_0.out)
    (case side3 => exact tD_)
    (case side4 => exact HC0_2.out)
    rintro e w53 ⟨v301, v305, rfl, ho0, ho1, hb⟩
    refine ⟨_, rfl, ?_⟩
    have n0_ := Aside0.mk (Kd.R_mono (Kd.R_told (Kd.R_told (Kd.R_old (rR_ HO285.out) hb) (Kd.R_base ho0)) (Kd.R_base ho1)) (fun _ h_ => h_.1))
    have n1_ := Aside0.mk (Kd.R_mono (Kd.R_told (Kd.R_told (Kd.R_old (rR_ HO289.out) hb) (Kd.R_base ho0)) (Kd.R_base ho1)) (fun _ h_ => h_.1))
    have n2_ := Aside0.mk (Kd.R_mono (Kd.R_told (Kd.R_told (Kd.R_old (rR_ HO293.out) hb) (Kd.R_base ho0)) (Kd.R_base ho1)) (fun _ h_ => h_.1))
    have n3_ := Aside0.mk (Kd.R_mono (Kd.R_told (Kd.R_told (Kd.R_old (rR_ HO297.out) hb) (Kd.R_base ho0)) (Kd.R_base ho1)) (fun _ h_ => h_.1))
    have n4_ := Aside0.mk (Kd.R_lower (Kd.R_new' (Kd.R_new' (Kd.R_new' (Kd.R_new' ho0 (Kd.R_lt (rR_ HO285.out))) (Kd.R_lt (rR_ HO289.out))) (Kd.R_lt (rR_ HO293.out))) (Kd.R_lt (rR_ HO297.out))) (below_size (tb_ HB.out)))
    have n5_ := Aside0.mk (Kd.R_lower (Kd.R_new' (Kd.R_new' (Kd.R_new' (Kd.R_new' ho1 (Kd.R_lt (rR_ HO285.out))) (Kd.R_lt (rR_ HO289.out))) (Kd.R_lt (rR_ HO293.out))) (Kd.R_lt (rR_ HO297.out))) (below_size (tb_ HB.out)))
    have n6_ := Aside0.mk (blk_below (g := gb281) (o := .cells #[.slice A0_0 l0_0.length c0_0, .int .i64 a0_1, .slice A0_2 l0_2.length c0_2] 37 (0, 0)) (tk_ BK281.out) hb)
    have n7_ := Aside0.mk (blk_below (g := gb298) (o := .cells #[.slice Ao47 t291.length co47, .int .i64 t294, .slice Ao50 t295.length co50] 40 (0, 0)) (tk_ BK298.out) hb)
    have n8_ := Aside0.mk (below_step (tb_ HB.out) hb)
    clear HO285
    clear HO289
    clear HO293
    clear HO297
    clear BK281
    clear BK298
    clear HB
    have HO285 := n0_
    have HO289 := n1_
    have HO293 := n2_
    have HO297 := n3_
    have HO302 := n4_
    have HO306 := n5_
    have BK281 := n6_
    have BK298 := n7_
    have HB := n8_
    clear n0_ n1_ n2_ n3_ n4_ n5_ n6_ n7_ n8_
    (try clear hb)
    (try clear hb2)
    (try clear hk)
    (try clear hi)
    (try clear ho0)
    (try clear ho1)
    obtain ⟨Ao54, co54, eo54⟩ := Kd.R_slice HO302.out
    (first | subst eo54 | (injection eo54 with f1_ f2_ f3_; have f4_ := f1_.symm; have f5_ := f3_.symm; clear f1_ f2_ f3_; subst f4_; subst f5_))
    obtain ⟨Ao55, co55, eo55⟩ := Kd.R_slice HO306.out
    (first | subst eo55 | (injection eo55 with f1_ f2_ f3_; have f4_ := f1_.symm; have f5_ := f3_.symm; clear f1_ f2_ f3_; subst f4_; subst f5_))
    refine hK.out _ _ ⟨(blk_cell BK298.out 0).trans rfl, (blk_cell BK298.out 1).trans rfl, (blk_cell BK298.out 2).trans rfl, (blk_cell BK281.out 0).trans rfl, (blk_cell BK281.out 1).trans rfl, (blk_cell BK281.out 2).trans rfl⟩ (fun hHeld => ?_)
    clear hK K
    refine norm_ (a' := ?_) ?_ ?_
    rotate_left
    ·
     show Act.put _ (some 24) _ = _
     simp only [Act.put, sa_, sb_, sc_, i64_w, i32_w]
     rfl
    refine one_ (i := 3) (N := some 25) #[true, true, true, true, false] rfl rfl (by kernel_rfl) (by decide) (fun K hK => ?_)
    refine goes_ Tryd.func19 (by kernel_rfl) rfl #[.agg #[.slice Ao47 t291.length co47, .int .i64 t294, .slice Ao50 t295.length co50], .agg #[.slice Ao54 t300.length co54, .int .i64 t303, .slice Ao55 t304.length co55]] (by rfl) rfl rfl tz_ ?_
    with_reducible refine (laws_eqPlace.calls k _ _ t291 t294 _ _ t295 _ _ t300 t303 _ _ t304 false _ ?side1 ?side2 ?side3 ?side4 ?side5 ?side6 ?side7 ?side8 A13.out).mono ?_
    (case side1 => repeat (first | exact (Kd.R_reads' HO293.out).2.2 | (with_reducible refine Kd.C_alloc ?_ _) | (with_reducible refine Kd.C_drewN ?_ _) | (with_reducible refine Kd.C_drew ?_)))
    (case side2 => exact (Kd.R_reads' HO293.out).2.1)
    (case side3 => repeat (first | exact (Kd.R_reads' HO297.out).2.2 | (with_reducible refine Kd.C_alloc ?_ _) | (with_reducible refine Kd.C_drewN ?_ _) | (with_reducible refine Kd.C_drew ?_)))
    (case side4 => exact (Kd.R_reads' HO297.out).2.1)
    (case side5 => repeat (first | exact (Kd.R_reads' HO302.out).2.2 | (with_reducible refine Kd.C_alloc ?_ _) | (with_reducible refine Kd.C_drewN ?_ _) | (with_reducible refine Kd.C_drew ?_)))
    (case side6 => exact (Kd.R_reads' HO302.out).2.1)
    (case side7 => repeat (first | exact (Kd.R_reads' HO306.out).2.2 | (with_reducible refine Kd.C_alloc ?_ _) | (with_reducible refine Kd.C_drewN ?_ _) | (with_reducible refine Kd.C_drew ?_)))
    (case side8 => exact (Kd.R_reads' HO306.out).2.1)
    rintro e w56 ⟨rfl, hb⟩
    refine ⟨_, rfl, ?_⟩
    have n0_ := Aside0.mk (Kd.R_below (rR_ HO285.out) hb)
    have n1_ := Aside0.mk (Kd.R_below (rR_ HO289.out) hb)
    have n2_ := Aside0.mk (Kd.R_below (rR_ HO293.out) hb)
    have n3_ := Aside0.mk (Kd.R_below (rR_ HO297.out) hb)
    have n4_ := Aside0.mk (Kd.R_below (rR_ HO302.out) hb)
    have n5_ := Aside0.mk (Kd.R_below (rR_ HO306.out) hb)
    have n6_ := Aside0.mk (blk_below (g := gb281) (o := .cells #[.slice A0_0 l0_0.length c0_0, .int .i64 a0_1, .slice A0_2 l0_2.length c0_2] 37 (0, 0)) (tk_ BK281.out) hb)
    have n7_ := Aside0.mk (blk_below (g := gb298) (o := .cells #[.slice Ao47 t291.length co47, .int .i64 t294, .slice Ao50 t295.length co50] 40 (0, 0)) (tk_ BK298.out) hb)
    have n8_ := Aside0.mk (below_step (tb_ HB.out) hb)
    clear HO285
    clear HO289
    clear HO293
    clear HO297
    clear HO302
    clear HO306
    clear BK281
    clear BK298
    clear HB
    have HO285 := n0_
    have HO289 := n1_
    have HO293 := n2_
    have HO297 := n3_
    have HO302 := n4_
    have HO306 := n5_
    have BK281 := n6_
    have BK298 := n7_
    have HB := n8_
    clear n0_ n1_ n2_ n3_ n4_ n5_ n6_ n7_ n8_
    (try clear hb)
    (try clear hb2)
    (try clear hk)
    (try clear hi)
    refine hK.out _ _ ⟨(blk_cell BK298.out 0).trans rfl, (blk_cell BK298.out 1).trans rfl, (blk_cell BK298.out 2).trans rfl, (blk_cell BK281.out 0).trans rfl, (blk_cell BK281.out 1).trans rfl, (blk_cell BK281.out 2).trans rfl⟩ (fun hHeld => ?_)
    clear hK K
    refine norm_ (a' := ?_) ?_ ?_
    rotate_left
    ·
     show Act.put _ (some 25) _ = _
     simp only [Act.put, sa_, sb_, sc_, i64_w, i32_w]
     rfl
    refine pure_ (i := 4) (N := some 26) (v := ?_) (a' := ?_) #[true, true, true, true, true] rfl rfl (by kernel_rfl) (fun _ _ _ h => h) (Or.inl ⟨by rfl, ?_⟩) ?_ ?_
    rotate_left
    ·
     intro w'
     go_simp
     first | with_reducible rfl | (rw [if_neg (by omega)]; done)
    rotate_left
    ·
     simp only [Act.put, sa_, sb_, sc_, i64_w, i32_w]
     rfl
    refine done_ (by kernel_rfl) ?_
    try go_wp2
    go_ret
    exact ⟨by first | rfl | (simp [errW_none, errW_some] <;> rfl) | (simp [*, errW_none, errW_some] <;> rfl), (tb_ HB.out)⟩
  ·
   rw [if_neg c11] at H
   have c11b0 : (t299.toList == t290.toList) = false := beq_eq_false_iff_ne.mpr c11
   have c11b1 : (t299.toList != t290.toList) = true := bne_iff_ne.mpr c11
   obtain rfl := Option.some.inj H
   go_enter Tryd.func5, Tryd.ntmps5
   go_wp2_with (first | ((with_reducible refine gate_dst (N := 1) rfl ?_); refine box_event ?hg (N := 1) ?hd (cs := #[.slice A0_0 l0_0.length c0_0, .int .i64 a0_1, .slice A0_2 l0_2.length c0_2]) (t := 37) ?hr ?_; (case hd => rfl); (case hg => rfl); (case hr => first | (go_simp; done) | (go_simp; rfl)); intro gb281 hg w57 hbox hb; have n0_ := Aside0.mk (below_step (tb_ HB.out) hb); have n1_ := Aside0.mk (hbox); have n2_ := Aside0.mk ((by rw [hg]; exact (below_size (tb_ HB.out)) : w.heap.size ≤ gb281)); have n3_ := Aside0.mk ((by rw [hg]; exact (below_size (tb_ HB.out)) : w.heap.size ≤ gb281)); clear HB; have HB := n0_; have BK281 := n1_; have GW281 := n2_; have GE281 := n3_; clear n0_ n1_ n2_ n3_ hb hbox hg; have hcz58_0 : w57.cell? ⟨gb281, 0, none⟩ = some (.slice A0_0 l0_0.length c0_0) := (blk_cell BK281.out 0).trans rfl; have hcz58_1 : w57.cell? ⟨gb281, 1, none⟩ = some (.int .i64 a0_1) := (blk_cell BK281.out 1).trans rfl; have hcz58_2 : w57.cell? ⟨gb281, 2, none⟩ = some (.slice A0_2 l0_2.length c0_2) := (blk_cell BK281.out 2).trans rfl; have hfz58_0 := blk_frozen BK281.out 0; have hfz58_1 := blk_frozen BK281.out 1; have hfz58_2 := blk_frozen BK281.out 2) | ((with_reducible refine gate_callee (f := 15) rfl ?_); refine goesL_ (some 9) rfl rfl Tryd.func15 (by kernel_rfl) rfl #[.agg #[.slice A0_0 l0_0.length c0_0, .int .i64 a0_1, .slice A0_2 l0_2.length c0_2], .int .i64 1048576] rfl tz_ ?_; (with_reducible refine (laws_szPlace.calls _ _ l0_0 a0_1 _ _ l0_2 1048576 t282 _ ?side1 ?side2 ?side3 ?side4 A2.out).mono ?_); (case side1 => exact tD_); (case side2 => exact HC0_0.out); (case side3 => exact tD_); (case side4 => exact HC0_2.out); rintro e w59 ⟨rfl, hb⟩; refine ⟨_, rfl, ?_⟩; have n0_ := Aside0.mk (blk_below (g := gb281) (o := .cells #[.slice A0_0 l0_0.length c0_0, .int .i64 a0_1, .slice A0_2 l0_2.length c0_2] 37 (0, 0)) (tk_ BK281.out) hb); have n1_ := Aside0.mk (below_step (tb_ HB.out) hb); clear BK281 HB; have BK281 := n0_; have HB := n1_; clear n0_ n1_; (try clear hb); (try clear hb2); (try clear hk); (try clear hi); have hcz60_0 : w59.cell? ⟨gb281, 0, none⟩ = some (.slice A0_0 l0_0.length c0_0) := (blk_cell BK281.out 0).trans rfl; have hcz60_1 : w59.cell? ⟨gb281, 1, none⟩ = some (.int .i64 a0_1) := (blk_cell BK281.out 1).trans rfl; have hcz60_2 : w59.cell? ⟨gb281, 2, none⟩ = some (.slice A0_2 l0_2.length c0_2) := (blk_cell BK281.out 2).trans rfl; have hfz60_0 := blk_frozen BK281.out 0; have hfz60_1 := blk_frozen BK281.out 1; have hfz60_2 := blk_frozen BK281.out 2) | ((with_reducible refine gate_callee (f := 17) rfl ?_); refine goesL_ (some 13) rfl rfl Tryd.func17 (by kernel_rfl) rfl #[.agg #[.slice A0_0 l0_0.length c0_0, .int .i64 a0_1, .slice A0_2 l0_2.length c0_2]] rfl tz_ ?_; (with_reducible refine (laws_toPlace.calls k _ _ l0_0 a0_1 _ _ l0_2 t283 t286 t287 _ ?side1 ?side2 ?side3 ?side4 A7.out).mono ?_); (case side1 => exact tD_); (case side2 => exact HC0_0.out); (case side3 => exact tD_); (case side4 => exact HC0_2.out); rintro e w61 ⟨v284, v288, rfl, ho0, ho1, hb⟩; refine ⟨_, rfl, ?_⟩; have n0_ := Aside0.mk (Kd.R_lower ho0 (below_size (tb_ HB.out))); have n1_ := Aside0.mk (Kd.R_lower ho1 (below_size (tb_ HB.out))); have n2_ := Aside0.mk (blk_below (g := gb281) (o := .cells #[.slice A0_0 l0_0.length c0_0, .int .i64 a0_1, .slice A0_2 l0_2.length c0_2] 37 (0, 0)) (tk_ BK281.out) hb); have n3_ := Aside0.mk (below_step (tb_ HB.out) hb); clear BK281 HB; have HO285 := n0_; have HO289 := n1_; have BK281 := n2_; have HB := n3_; clear n0_ n1_ n2_ n3_; (try clear hb); (try clear hb2); (try clear hk); (try clear hi); (try clear ho0); (try clear ho1); obtain ⟨Ao62, co62, eo62⟩ := Kd.R_slice HO285.out; subst eo62; obtain ⟨Ao63, co63, eo63⟩ := Kd.R_slice HO289.out; subst eo63) | ((with_reducible refine gate_callee (f := 16) rfl ?_); refine goesL_ (some 14) rfl rfl Tryd.func16 (by kernel_rfl) rfl #[.agg #[.slice Ao62 t283.length co62, .int .i64 t286, .slice Ao63 t287.length co63]] rfl tz_ ?_; (with_reducible refine (spec_PlaceText.calls k _ _ t283 t286 _ _ t287 t290 _ ?side1 ?side2 ?side3 ?side4 A8.out).mono ?_); (case side1 => repeat (first | exact (Kd.R_reads' HO285.out).2.2 | (with_reducible refine Kd.C_alloc ?_ _) | (with_reducible refine Kd.C_drewN ?_ _) | (with_reducible refine Kd.C_drew ?_))); (case side2 => exact (Kd.R_reads' HO285.out).2.1); (case side3 => repeat (first | exact (Kd.R_reads' HO289.out).2.2 | (with_reducible refine Kd.C_alloc ?_ _) | (with_reducible refine Kd.C_drewN ?_ _) | (with_reducible refine Kd.C_drew ?_))); (case side4 => exact (Kd.R_reads' HO289.out).2.1); rintro e w64 ⟨rfl, hb⟩; refine ⟨_, rfl, ?_⟩; have n0_ := Aside0.mk (Kd.R_below (rR_ HO285.out) hb); have n1_ := Aside0.mk (Kd.R_below (rR_ HO289.out) hb); have n2_ := Aside0.mk (blk_below (g := gb281) (o := .cells #[.slice A0_0 l0_0.length c0_0, .int .i64 a0_1, .slice A0_2 l0_2.length c0_2] 37 (0, 0)) (tk_ BK281.out) hb); have n3_ := Aside0.mk (below_step (tb_ HB.out) hb); clear HO285 HO289 BK281 HB; have HO285 := n0_; have HO289 := n1_; have BK281 := n2_; have HB := n3_; clear n0_ n1_ n2_ n3_; (try clear hb); (try clear hb2); (try clear hk); (try clear hi); have hcz65_0 : w64.cell? ⟨gb281, 0, none⟩ = some (.slice A0_0 l0_0.length c0_0) := (blk_cell BK281.out 0).trans rfl; have hcz65_1 : w64.cell? ⟨gb281, 1, none⟩ = some (.int .i64 a0_1) := (blk_cell BK281.out 1).trans rfl; have hcz65_2 : w64.cell? ⟨gb281, 2, none⟩ = some (.slice A0_2 l0_2.length c0_2) := (blk_cell BK281.out 2).trans rfl; have hfz65_0 := blk_frozen BK281.out 0; have hfz65_1 := blk_frozen BK281.out 1; have hfz65_2 := blk_frozen BK281.out 2) | ((with_reducible refine gate_callee (f := 17) rfl ?_); refine goesL_ (some 16) rfl rfl Tryd.func17 (by kernel_rfl) rfl #[.agg #[.slice A0_0 l0_0.length c0_0, .int .i64 a0_1, .slice A0_2 l0_2.length c0_2]] rfl tz_ ?_; (with_reducible refine (laws_toPlace.calls k _ _ l0_0 a0_1 _ _ l0_2 t291 t294 t295 _ ?side1 ?side2 ?side3 ?side4 A9.out).mono ?_); (case side1 => exact tD_); (case side2 => exact HC0_0.out); (case side3 => exact tD_); (case side4 => exact HC0_2.out); rintro e w66 ⟨v292, v296, rfl, ho0, ho1, hb⟩; refine ⟨_, rfl, ?_⟩; have n0_ := Aside0.mk (Kd.R_mono (Kd.R_told (Kd.R_told (Kd.R_old (rR_ HO285.out) hb) (Kd.R_base ho0)) (Kd.R_base ho1)) (fun _ h_ => h_.1)); have n1_ := Aside0.mk (Kd.R_mono (Kd.R_told (Kd.R_told (Kd.R_old (rR_ HO289.out) hb) (Kd.R_base ho0)) (Kd.R_base ho1)) (fun _ h_ => h_.1)); have n2_ := Aside0.mk (Kd.R_lower (Kd.R_new' (Kd.R_new' ho0 (Kd.R_lt (rR_ HO285.out))) (Kd.R_lt (rR_ HO289.out))) (below_size (tb_ HB.out))); have n3_ := Aside0.mk (Kd.R_lower (Kd.R_new' (Kd.R_new' ho1 (Kd.R_lt (rR_ HO285.out))) (Kd.R_lt (rR_ HO289.out))) (below_size (tb_ HB.out))); have n4_ := Aside0.mk (blk_below (g := gb281) (o := .cells #[.slice A0_0 l0_0.length c0_0, .int .i64 a0_1, .slice A0_2 l0_2.length c0_2] 37 (0, 0)) (tk_ BK281.out) hb); have n5_ := Aside0.mk (below_step (tb_ HB.out) hb); clear HO285 HO289 BK281 HB; have HO285 := n0_; have HO289 := n1_; have HO293 := n2_; have HO297 := n3_; have BK281 := n4_; have HB := n5_; clear n0_ n1_ n2_ n3_ n4_ n5_; (try clear hb); (try clear hb2); (try clear hk); (try clear hi); (try clear ho0); (try clear ho1)) | ((with_reducible refine gate_dst (N := 5) rfl ?_); refine box_event ?hg (N := 5) ?hd (cs := #[.slice none 0 0, .int .i64 0, .slice none 0 0]) (t := 40) ?hr ?_; (case hd => rfl); (case hg => rfl); (case hr => first | (go_simp; done) | (go_simp; rfl)); intro gb298 hg w67 hbox hb; have n0_ := Aside0.mk (Kd.R_below (rR_ HO285.out) hb); have n1_ := Aside0.mk (Kd.R_below (rR_ HO289.out) hb); have n2_ := Aside0.mk (Kd.R_below (rR_ HO293.out) hb); have n3_ := Aside0.mk (Kd.R_below (rR_ HO297.out) hb); have n4_ := Aside0.mk (blk_below (g := gb281) (o := .cells #[.slice A0_0 l0_0.length c0_0, .int .i64 a0_1, .slice A0_2 l0_2.length c0_2] 37 (0, 0)) (tk_ BK281.out) hb); have n5_ := Aside0.mk (below_step (tb_ HB.out) hb); have n6_ := Aside0.mk (hbox); have n7_ := Aside0.mk ((by rw [hg]; exact (below_size (tb_ HB.out)) : w.heap.size ≤ gb298)); have n8_ := Aside0.mk ((by rw [hg]; exact (below_size (tb_ HB.out)) : w.heap.size ≤ gb298)); have n9_ := Aside0.mk ((by rw [hg]; exact Nat.ne_of_lt (blk_lt (g := gb281) (o := .cells #[.slice A0_0 l0_0.length c0_0, .int .i64 a0_1, .slice A0_2 l0_2.length c0_2] 37 (0, 0)) (tk_ BK281.out)) : gb281 ≠ gb298)); have n10_ := Aside0.mk ((by rw [hg]; exact Nat.ne_of_gt (blk_lt (g := gb281) (o := .cells #[.slice A0_0 l0_0.length c0_0, .int .i64 a0_1, .slice A0_2 l0_2.length c0_2] 37 (0, 0)) (tk_ BK281.out)) : gb298 ≠ gb281)); clear HO285 HO289 HO293 HO297 BK281 HB; have HO285 := n0_; have HO289 := n1_; have HO293 := n2_; have HO297 := n3_; have BK281 := n4_; have HB := n5_; have BK298 := n6_; have GW298 := n7_; have GE298 := n8_; have NB281_298 := n9_; have NB298_281 := n10_; clear n0_ n1_ n2_ n3_ n4_ n5_ n6_ n7_ n8_ n9_ n10_ hb hbox hg; obtain ⟨Ao68, co68, eo68⟩ := Kd.R_slice HO293.out; subst eo68; have hnb69 := NB298_281.out; have hnc69 := NB281_298.out; have hcz70_0 : w67.cell? ⟨gb298, 0, none⟩ = some (.slice none 0 0) := (blk_cell BK298.out 0).trans rfl; have hcz70_1 : w67.cell? ⟨gb298, 1, none⟩ = some (.int .i64 0) := (blk_cell BK298.out 1).trans rfl; have hcz70_2 : w67.cell? ⟨gb298, 2, none⟩ = some (.slice none 0 0) := (blk_cell BK298.out 2).trans rfl; have hfz70_0 := blk_frozen BK298.out 0; have hfz70_1 := blk_frozen BK298.out 1; have hfz70_2 := blk_frozen BK298.out 2; obtain ⟨Ao71, co71, eo71⟩ := Kd.R_slice HO297.out; subst eo71) | ((with_reducible refine gate_callee (f := 18) rfl ?_); refine goesL_ (some 18) rfl rfl Tryd.func18 (by kernel_rfl) rfl #[.agg #[.slice Ao68 t291.length co68, .int .i64 t294, .slice Ao71 t295.length co71]] rfl tz_ ?_; (with_reducible refine (impl_PlaceText.calls k _ _ t291 t294 _ _ t295 t299 _ ?side1 ?side2 ?side3 ?side4 ?side5 A10.out).mono ?_); (case side1 => refine (Kd.R_reads' (e := 3) (base := w.heap.size) (ok := fun k_ => ((some k_ ≠ (.slice Ao71 t295.length co71 : Value).ownBlock ∧ some k_ ≠ (.slice Ao62 t283.length co62 : Value).ownBlock) ∧ some k_ ≠ (.slice Ao63 t287.length co63 : Value).ownBlock)) (n := t291.length) (c := co68) ?_).2.2; exact (by refine qR_ ?_; exact (Kd.R_mono (Kd.R_far (p := ⟨gb298, 2, none⟩) (Kd.R_far (p := ⟨gb298, 1, none⟩) (Kd.R_far (p := ⟨gb298, 0, none⟩) (Kd.R_types HO293.out BK298.out (by decide)) (fun _ hk => hk.2) (.slice Ao68 t291.length co68)) (fun _ hk => hk.2) (.int .i64 t294)) (fun _ hk => hk.2) (.slice Ao71 t295.length co71)) (fun _ h_ => h_.1)))); (case side2 => exact (Kd.R_reads' HO293.out).2.1); (case side3 => refine (Kd.R_reads' (e := 3) (base := w.heap.size) (ok := fun k_ => ((some k_ ≠ (.slice Ao68 t291.length co68 : Value).ownBlock ∧ some k_ ≠ (.slice Ao62 t283.length co62 : Value).ownBlock) ∧ some k_ ≠ (.slice Ao63 t287.length co63 : Value).ownBlock)) (n := t295.length) (c := co71) ?_).2.2; exact (by refine qR_ ?_; exact (Kd.R_mono (Kd.R_far (p := ⟨gb298, 2, none⟩) (Kd.R_far (p := ⟨gb298, 1, none⟩) (Kd.R_far (p := ⟨gb298, 0, none⟩) (Kd.R_types HO297.out BK298.out (by decide)) (fun _ hk => hk.2) (.slice Ao68 t291.length co68)) (fun _ hk => hk.2) (.int .i64 t294)) (fun _ hk => hk.2) (.slice Ao71 t295.length co71)) (fun _ h_ => h_.1)))); (case side4 => exact (Kd.R_reads' HO297.out).2.1); (case side5 => exact GWa.below HG.out (tb_ HB.out)); rintro e w72 ⟨rfl, hb⟩; refine ⟨_, rfl, ?_⟩; have n0_ := Aside0.mk (Kd.R_below (by refine qR_ ?_; exact (Kd.R_mono (Kd.R_far (p := ⟨gb298, 2, none⟩) (Kd.R_far (p := ⟨gb298, 1, none⟩) (Kd.R_far (p := ⟨gb298, 0, none⟩) (Kd.R_types HO285.out BK298.out (by decide)) (fun _ hk => hk.2) (.slice Ao68 t291.length co68)) (fun _ hk => hk.2) (.int .i64 t294)) (fun _ hk => hk.2) (.slice Ao71 t295.length co71)) (fun _ h_ => h_.1))) hb); have n1_ := Aside0.mk (Kd.R_below (by refine qR_ ?_; exact (Kd.R_mono (Kd.R_far (p := ⟨gb298, 2, none⟩) (Kd.R_far (p := ⟨gb298, 1, none⟩) (Kd.R_far (p := ⟨gb298, 0, none⟩) (Kd.R_types HO289.out BK298.out (by decide)) (fun _ hk => hk.2) (.slice Ao68 t291.length co68)) (fun _ hk => hk.2) (.int .i64 t294)) (fun _ hk => hk.2) (.slice Ao71 t295.length co71)) (fun _ h_ => h_.1))) hb); have n2_ := Aside0.mk (Kd.R_below (by refine qR_ ?_; exact (Kd.R_mono (Kd.R_far (p := ⟨gb298, 2, none⟩) (Kd.R_far (p := ⟨gb298, 1, none⟩) (Kd.R_far (p := ⟨gb298, 0, none⟩) (Kd.R_types HO293.out BK298.out (by decide)) (fun _ hk => hk.2) (.slice Ao68 t291.length co68)) (fun _ hk => hk.2) (.int .i64 t294)) (fun _ hk => hk.2) (.slice Ao71 t295.length co71)) (fun _ h_ => h_.1))) hb); have n3_ := Aside0.mk (Kd.R_below (by refine qR_ ?_; exact (Kd.R_mono (Kd.R_far (p := ⟨gb298, 2, none⟩) (Kd.R_far (p := ⟨gb298, 1, none⟩) (Kd.R_far (p := ⟨gb298, 0, none⟩) (Kd.R_types HO297.out BK298.out (by decide)) (fun _ hk => hk.2) (.slice Ao68 t291.length co68)) (fun _ hk => hk.2) (.int .i64 t294)) (fun _ hk => hk.2) (.slice Ao71 t295.length co71)) (fun _ h_ => h_.1))) hb); have n4_ := Aside0.mk (blk_below (g := gb281) (o := .cells #[.slice A0_0 l0_0.length c0_0, .int .i64 a0_1, .slice A0_2 l0_2.length c0_2] 37 (0, 0)) (tk_ BK281.out) hb); have n5_ := Aside0.mk (blk_below (g := gb298) (o := .cells #[.slice Ao68 t291.length co68, .int .i64 t294, .slice Ao71 t295.length co71] 40 (0, 0)) (by refine bq_ ?_; refine blk_put (cs := #[.slice Ao68 t291.length co68, .int .i64 t294, .slice none 0 0]) ?_ 2 _ rfl; refine bq_ ?_; refine blk_put (cs := #[.slice Ao68 t291.length co68, .int .i64 0, .slice none 0 0]) ?_ 1 _ rfl; refine bq_ ?_; refine blk_put (cs := #[.slice none 0 0, .int .i64 0, .slice none 0 0]) ?_ 0 _ rfl; exact tk_ BK298.out) hb); have n6_ := Aside0.mk (below_step (tb_ HB.out) hb); clear HO285 HO289 HO293 HO297 BK281 BK298 HB; have HO285 := n0_; have HO289 := n1_; have HO293 := n2_; have HO297 := n3_; have BK281 := n4_; have BK298 := n5_; have HB := n6_; clear n0_ n1_ n2_ n3_ n4_ n5_ n6_; (try clear hb); (try clear hb2); (try clear hk); (try clear hi)))
   go_ret
   exact ⟨by first | rfl | (simp [errW_none, errW_some] <;> rfl) | (simp [*, errW_none, errW_some] <;> rfl), (tb_ HB.out)⟩

end Go.Proofs.YtlnbobpmjbcejaaDoor.MFnExactPlaceText
