/- For the law FnExactDeskOk: walks of the functions that it reaches: each call returns what the plain function beside it tells. The conditions stand in each statement. -/
import Derived.Test.YtlnbobpmjbcejaaMFnExactDeskOkx0
import Derived.Test.YtlnbobpmjbcejaaMFnExactDeskOkx3
import Derived.Test.YtlnbobpmjbcejaaMFnExactDeskOkx6
import Derived.Test.YtlnbobpmjbcejaaMFnExactDeskOkx7
namespace Go.Proofs.Ytlnbobpmjbcejaa.MFnExactDeskOk
open Go.RowKit Go.Proofs.YtlnbobpmjbcejaaW.PrintWords Go.Proofs.YtlnbobpmjbcejaaW.PrintLast Go.Proofs.YtlnbobpmjbcejaaW.PrintMore
attribute [local go_sem] max2_int min2_int max_two min_two max_three min_three max_four min_four   -- for this text's walks alone
set_option linter.unusedVariables false
set_option linter.unusedSimpArgs false

/-! ### laws_FnExactDeskOk: function 6 -/
def laws_FnExactDeskOk.f (k : Nat) (l0_0 : List Int) (a0_1 : Int) (l0_2 : List Int) (l0_3 : List (S24)) : Option (Bool) := (laws_szDesk.f k l0_0 a0_1 l0_2 l0_3 1048576).bind fun t282 => (if t282 < 0 then (some true) else ((laws_toDesk.f k l0_0 a0_1 l0_2 l0_3).bind fun bt283 => ((spec_DeskOk.f k bt283.1 bt283.2.1 bt283.2.2.1 bt283.2.2.2).bind fun t293 => ((laws_toDesk.f k l0_0 a0_1 l0_2 l0_3).bind fun bt294 => ((impl_DeskOk.f k bt294.1 bt294.2.1 bt294.2.2.1 bt294.2.2.2).bind fun t305 => (if (t305 != t293) = true then (some false) else ((laws_toDesk.f k l0_0 a0_1 l0_2 l0_3).bind fun bt306 => ((laws_eqDesk.f k bt294.1 bt294.2.1 bt294.2.2.1 bt294.2.2.2 bt306.1 bt306.2.1 bt306.2.2.1 bt306.2.2.2).bind fun t316 => (if t316 = true then (some true) else (some false))))))))))
theorem laws_FnExactDeskOk.mono : ∀ a0 a1 a2 a3 k, LeO (laws_FnExactDeskOk.f k a0 a1 a2 a3) (laws_FnExactDeskOk.f (k + 1) a0 a1 a2 a3) := by
 intro a0 a1 a2 a3 k
 unfold laws_FnExactDeskOk.f
 repeat' first
   | (with_reducible exact impl_DeskOk.mono _ _ _ _ _)
   | (with_reducible exact laws_eqDesk.mono _ _ _ _ _ _ _ _ _)
   | (with_reducible exact laws_szDesk.mono _ _ _ _ _ _)
   | (with_reducible exact laws_toDesk.mono _ _ _ _ _)
   | (with_reducible exact spec_DeskOk.mono _ _ _ _ _)
   | (with_reducible exact LeO.refl _)
   | (with_reducible exact LeO.none _)
   | (with_reducible refine LeO.ite ?_ ?_)
   | (with_reducible refine LeO.bind ?_ (fun _ => ?_))
   | exact impl_DeskOk.mono _ _ _ _ _
   | exact laws_eqDesk.mono _ _ _ _ _ _ _ _ _
   | exact laws_szDesk.mono _ _ _ _ _ _
   | exact laws_toDesk.mono _ _ _ _ _
   | exact spec_DeskOk.mono _ _ _ _ _
   | exact LeO.none _
   | refine LeO.ite ?_ ?_
   | refine LeO.bind ?_ (fun _ => ?_)
set_option maxHeartbeats 8000000 in
set_option maxRecDepth 100000 in
theorem laws_FnExactDeskOk.calls (k : Nat) (A0_0 : Option Addr) (c0_0 : Nat) (l0_0 : List Int) (a0_1 : Int) (A0_2 : Option Addr) (c0_2 : Nat) (l0_2 : List Int) (A0_3 : Option Addr) (c0_3 : Nat) (l0_3 : List (S24)) (r : Bool) (w : World) (hr0_0 : Kd.C (Kd.int .i64) w A0_0 l0_0.length l0_0) (hc0_0 : l0_0.length ≤ c0_0) (hr0_2 : Kd.C (Kd.int .i64) w A0_2 l0_2.length l0_2) (hc0_2 : l0_2.length ≤ c0_2) (hr0_3 : Kd.C k24 w A0_3 l0_3.length l0_3) (hc0_3 : l0_3.length ≤ c0_3) (h : laws_FnExactDeskOk.f k l0_0 a0_1 l0_2 l0_3 = some r) :
  Calls Try.prog 6 #[.agg #[.slice A0_0 l0_0.length c0_0, .int .i64 a0_1, .slice A0_2 l0_2.length c0_2, .slice A0_3 l0_3.length c0_3]] w fun e w' => e = .returned (.bool r) ∧ Below w.heap.size w w' := by
 have hu44 := Try.underlying44
 have hu37 := Try.underlying37
 have HR0_0 := Aside0.mk hr0_0
 have HC0_0 := Aside0.mk hc0_0
 clear hr0_0 hc0_0
 have HR0_2 := Aside0.mk hr0_2
 have HC0_2 := Aside0.mk hc0_2
 clear hr0_2 hc0_2
 have HR0_3 := Aside0.mk hr0_3
 have HC0_3 := Aside0.mk hc0_3
 clear hr0_3 hc0_3
 have HB := Aside0.mk (Below.refl w.heap.size w)
 have H : ((laws_szDesk.f k l0_0 a0_1 l0_2 l0_3 1048576).bind fun t282 => (if t282 < 0 then (some true) else ((laws_toDesk.f k l0_0 a0_1 l0_2 l0_3).bind fun bt283 => ((spec_DeskOk.f k bt283.1 bt283.2.1 bt283.2.2.1 bt283.2.2.2).bind fun t293 => ((laws_toDesk.f k l0_0 a0_1 l0_2 l0_3).bind fun bt294 => ((impl_DeskOk.f k bt294.1 bt294.2.1 bt294.2.2.1 bt294.2.2.2).bind fun t305 => (if (t305 != t293) = true then (some false) else ((laws_toDesk.f k l0_0 a0_1 l0_2 l0_3).bind fun bt306 => ((laws_eqDesk.f k bt294.1 bt294.2.1 bt294.2.2.1 bt294.2.2.2 bt306.1 bt306.2.1 bt306.2.2.1 bt306.2.2.2).bind fun t316 => (if t316 = true then (some true) else (some false))))))))))) = some r := h
 clear h
 replace H := Option.bind_eq_some_iff.mp H
 obtain ⟨t282, A20, H⟩ := H
 replace H : (if t282 < 0 then (some true) else ((laws_toDesk.f k l0_0 a0_1 l0_2 l0_3).bind fun bt283 => ((spec_DeskOk.f k bt283.1 bt283.2.1 bt283.2.2.1 bt283.2.2.2).bind fun t293 => ((laws_toDesk.f k l0_0 a0_1 l0_2 l0_3).bind fun bt294 => ((impl_DeskOk.f k bt294.1 bt294.2.1 bt294.2.2.1 bt294.2.2.2).bind fun t305 => (if (t305 != t293) = true then (some false) else ((laws_toDesk.f k l0_0 a0_1 l0_2 l0_3).bind fun bt306 => ((laws_eqDesk.f k bt294.1 bt294.2.1 bt294.2.2.1 bt294.2.2.2 bt306.1 bt306.2.1 bt306.2.2.1 bt306.2.2.2).bind fun t316 => (if t316 = true then (some true) else (some false)))))))))) = some r := H
 have A2 := Aside0.mk A20
 clear A20
 by_cases c3 : t282 < 0
 ·
  rw [if_pos c3] at H
  have c3b0 : decide (t282 < 0) = true := decide_eq_true c3
  clear c3
  obtain rfl := Option.some.inj H
  go_enter Try.func6, Try.ntmps6
  go_wp2_with (first | ((with_reducible refine gate_dst (N := 1) rfl ?_); refine box_event ?hg (N := 1) ?hd (cs := #[.slice A0_0 l0_0.length c0_0, .int .i64 a0_1, .slice A0_2 l0_2.length c0_2, .slice A0_3 l0_3.length c0_3]) (t := 44) ?hr ?_; (case hd => rfl); (case hg => rfl); (case hr => first | (go_simp; done) | (go_simp; rfl)); intro gb281 hg w4 hbox hb; have n0_ := Aside0.mk (below_step (tb_ HB.out) hb); have n1_ := Aside0.mk (hbox); have n2_ := Aside0.mk ((by rw [hg]; exact (below_size (tb_ HB.out)) : w.heap.size ≤ gb281)); have n3_ := Aside0.mk ((by rw [hg]; exact (below_size (tb_ HB.out)) : w.heap.size ≤ gb281)); clear HB; have HB := n0_; have BK281 := n1_; have GW281 := n2_; have GE281 := n3_; clear n0_ n1_ n2_ n3_ hb hbox hg; have hcz5_0 : w4.cell? ⟨gb281, 0, none⟩ = some (.slice A0_0 l0_0.length c0_0) := (blk_cell BK281.out 0).trans rfl; have hcz5_1 : w4.cell? ⟨gb281, 1, none⟩ = some (.int .i64 a0_1) := (blk_cell BK281.out 1).trans rfl; have hcz5_2 : w4.cell? ⟨gb281, 2, none⟩ = some (.slice A0_2 l0_2.length c0_2) := (blk_cell BK281.out 2).trans rfl; have hcz5_3 : w4.cell? ⟨gb281, 3, none⟩ = some (.slice A0_3 l0_3.length c0_3) := (blk_cell BK281.out 3).trans rfl; have hfz5_0 := blk_frozen BK281.out 0; have hfz5_1 := blk_frozen BK281.out 1; have hfz5_2 := blk_frozen BK281.out 2; have hfz5_3 := blk_frozen BK281.out 3) | ((with_reducible refine gate_callee (f := 23) rfl ?_); refine goesL_ (some 9) rfl rfl Try.func23 (by kernel_rfl) rfl #[.agg #[.slice A0_0 l0_0.length c0_0, .int .i64 a0_1, .slice A0_2 l0_2.length c0_2, .slice A0_3 l0_3.length c0_3], .int .i64 1048576] rfl tz_ ?_; (with_reducible refine (laws_szDesk.calls k _ _ l0_0 a0_1 _ _ l0_2 _ _ l0_3 1048576 t282 _ ?side1 ?side2 ?side3 ?side4 ?side5 ?side6 A2.out).mono ?_); (case side1 => exact tD_); (case side2 => exact HC0_0.out); (case side3 => exact tD_); (case side4 => exact HC0_2.out); (case side5 => exact tD_); (case side6 => exact HC0_3.out); rintro e w6 ⟨rfl, hb⟩; refine ⟨_, rfl, ?_⟩; have n0_ := Aside0.mk (blk_below (g := gb281) (o := .cells #[.slice A0_0 l0_0.length c0_0, .int .i64 a0_1, .slice A0_2 l0_2.length c0_2, .slice A0_3 l0_3.length c0_3] 44 (0, 0)) (tk_ BK281.out) hb); have n1_ := Aside0.mk (below_step (tb_ HB.out) hb); clear BK281 HB; have BK281 := n0_; have HB := n1_; clear n0_ n1_; (try clear hb); (try clear hb2); (try clear hk); (try clear hi)))
  go_ret
  exact ⟨by first | rfl | (simp [errW_none, errW_some] <;> rfl) | (simp [*, errW_none, errW_some] <;> rfl), (tb_ HB.out)⟩
 ·
  rw [if_neg c3] at H
  have c3b0 : decide (t282 < 0) = false := decide_eq_false c3
  clear c3
  replace H := Option.bind_eq_some_iff.mp H
  obtain ⟨⟨t283, t286, t287, t290⟩, A70, H⟩ := H
  replace H : ((spec_DeskOk.f k t283 t286 t287 t290).bind fun t293 => ((laws_toDesk.f k l0_0 a0_1 l0_2 l0_3).bind fun bt294 => ((impl_DeskOk.f k bt294.1 bt294.2.1 bt294.2.2.1 bt294.2.2.2).bind fun t305 => (if (t305 != t293) = true then (some false) else ((laws_toDesk.f k l0_0 a0_1 l0_2 l0_3).bind fun bt306 => ((laws_eqDesk.f k bt294.1 bt294.2.1 bt294.2.2.1 bt294.2.2.2 bt306.1 bt306.2.1 bt306.2.2.1 bt306.2.2.2).bind fun t316 => (if t316 = true then (some true) else (some false)))))))) = some r := H
  have A7 := Aside0.mk A70
  clear A70
  replace H := Option.bind_eq_some_iff.mp H
  obtain ⟨t293, A80, H⟩ := H
  replace H : ((laws_toDesk.f k l0_0 a0_1 l0_2 l0_3).bind fun bt294 => ((impl_DeskOk.f k bt294.1 bt294.2.1 bt294.2.2.1 bt294.2.2.2).bind fun t305 => (if (t305 != t293) = true then (some false) else ((laws_toDesk.f k l0_0 a0_1 l0_2 l0_3).bind fun bt306 => ((laws_eqDesk.f k bt294.1 bt294.2.1 bt294.2.2.1 bt294.2.2.2 bt306.1 bt306.2.1 bt306.2.2.1 bt306.2.2.2).bind fun t316 => (if t316 = true then (some true) else (some false))))))) = some r := H
  have A8 := Aside0.mk A80
  clear A80
  replace H := Option.bind_eq_some_iff.mp H
  obtain ⟨⟨t294, t297, t298, t301⟩, A90, H⟩ := H
  replace H : ((impl_DeskOk.f k t294 t297 t298 t301).bind fun t305 => (if (t305 != t293) = true then (some false) else ((laws_toDesk.f k l0_0 a0_1 l0_2 l0_3).bind fun bt306 => ((laws_eqDesk.f k t294 t297 t298 t301 bt306.1 bt306.2.1 bt306.2.2.1 bt306.2.2.2).bind fun t316 => (if t316 = true then (some true) else (some false)))))) = some r := H
  have A9 := Aside0.mk A90
  clear A90
  replace H := Option.bind_eq_some_iff.mp H
  obtain ⟨t305, A100, H⟩ := H
  replace H : (if (t305 != t293) = true then (some false) else ((laws_toDesk.f k l0_0 a0_1 l0_2 l0_3).bind fun bt306 => ((laws_eqDesk.f k t294 t297 t298 t301 bt306.1 bt306.2.1 bt306.2.2.1 bt306.2.2.2).bind fun t316 => (if t316 = true then (some true) else (some false))))) = some r := H
  have A10 := Aside0.mk A100
  clear A100
  by_cases c11 : (t305 != t293) = true
  ·
   rw [if_pos c11] at H
   have c11b0 : (t305 != t293) = true := c11
   (try (have c11b1 : decide (t305 = t293) = false := by simpa using c11))
   (try (have c11b2 : (t305 == t293) = false := by simpa using c11))
   (try (have c11b3 : ¬ (t305 = t293) := by simpa using c11))
   clear c11
   obtain rfl := Option.some.inj H
   go_enter Try.func6, Try.ntmps6
   go_wp2_with (first | ((with_reducible refine gate_dst (N := 1) rfl ?_); refine box_event ?hg (N := 1) ?hd (cs := #[.slice A0_0 l0_0.length c0_0, .int .i64 a0_1, .slice A0_2 l0_2.length c0_2, .slice A0_3 l0_3.length c0_3]) (t := 44) ?hr ?_; (case hd => rfl); (case hg => rfl); (case hr => first | (go_simp; done) | (go_simp; rfl)); intro gb281 hg w12 hbox hb; have n0_ := Aside0.mk (below_step (tb_ HB.out) hb); have n1_ := Aside0.mk (hbox); have n2_ := Aside0.mk ((by rw [hg]; exact (below_size (tb_ HB.out)) : w.heap.size ≤ gb281)); have n3_ := Aside0.mk ((by rw [hg]; exact (below_size (tb_ HB.out)) : w.heap.size ≤ gb281)); clear HB; have HB := n0_; have BK281 := n1_; have GW281 := n2_; have GE281 := n3_; clear n0_ n1_ n2_ n3_ hb hbox hg; have hcz13_0 : w12.cell? ⟨gb281, 0, none⟩ = some (.slice A0_0 l0_0.length c0_0) := (blk_cell BK281.out 0).trans rfl; have hcz13_1 : w12.cell? ⟨gb281, 1, none⟩ = some (.int .i64 a0_1) := (blk_cell BK281.out 1).trans rfl; have hcz13_2 : w12.cell? ⟨gb281, 2, none⟩ = some (.slice A0_2 l0_2.length c0_2) := (blk_cell BK281.out 2).trans rfl; have hcz13_3 : w12.cell? ⟨gb281, 3, none⟩ = some (.slice A0_3 l0_3.length c0_3) := (blk_cell BK281.out 3).trans rfl; have hfz13_0 := blk_frozen BK281.out 0; have hfz13_1 := blk_frozen BK281.out 1; have hfz13_2 := blk_frozen BK281.out 2; have hfz13_3 := blk_frozen BK281.out 3) | ((with_reducible refine gate_callee (f := 23) rfl ?_); refine goesL_ (some 9) rfl rfl Try.func23 (by kernel_rfl) rfl #[.agg #[.slice A0_0 l0_0.length c0_0, .int .i64 a0_1, .slice A0_2 l0_2.length c0_2, .slice A0_3 l0_3.length c0_3], .int .i64 1048576] rfl tz_ ?_; (with_reducible refine (laws_szDesk.calls k _ _ l0_0 a0_1 _ _ l0_2 _ _ l0_3 1048576 t282 _ ?side1 ?side2 ?side3 ?side4 ?side5 ?side6 A2.out).mono ?_); (case side1 => exact tD_); (case side2 => exact HC0_0.out); (case side3 => exact tD_); (case side4 => exact HC0_2.out); (case side5 => exact tD_); (case side6 => exact HC0_3.out); rintro e w14 ⟨rfl, hb⟩; refine ⟨_, rfl, ?_⟩; have n0_ := Aside0.mk (blk_below (g := gb281) (o := .cells #[.slice A0_0 l0_0.length c0_0, .int .i64 a0_1, .slice A0_2 l0_2.length c0_2, .slice A0_3 l0_3.length c0_3] 44 (0, 0)) (tk_ BK281.out) hb); have n1_ := Aside0.mk (below_step (tb_ HB.out) hb); clear BK281 HB; have BK281 := n0_; have HB := n1_; clear n0_ n1_; (try clear hb); (try clear hb2); (try clear hk); (try clear hi); have hcz15_0 : w14.cell? ⟨gb281, 0, none⟩ = some (.slice A0_0 l0_0.length c0_0) := (blk_cell BK281.out 0).trans rfl; have hcz15_1 : w14.cell? ⟨gb281, 1, none⟩ = some (.int .i64 a0_1) := (blk_cell BK281.out 1).trans rfl; have hcz15_2 : w14.cell? ⟨gb281, 2, none⟩ = some (.slice A0_2 l0_2.length c0_2) := (blk_cell BK281.out 2).trans rfl; have hcz15_3 : w14.cell? ⟨gb281, 3, none⟩ = some (.slice A0_3 l0_3.length c0_3) := (blk_cell BK281.out 3).trans rfl; have hfz15_0 := blk_frozen BK281.out 0; have hfz15_1 := blk_frozen BK281.out 1; have hfz15_2 := blk_frozen BK281.out 2; have hfz15_3 := blk_frozen BK281.out 3) | ((with_reducible refine gate_callee (f := 25) rfl ?_); refine goesL_ (some 13) rfl rfl Try.func25 (by kernel_rfl) rfl #[.agg #[.slice A0_0 l0_0.length c0_0, .int .i64 a0_1, .slice A0_2 l0_2.length c0_2, .slice A0_3 l0_3.length c0_3]] rfl tz_ ?_; (with_reducible refine (laws_toDesk.calls k _ _ l0_0 a0_1 _ _ l0_2 _ _ l0_3 t283 t286 t287 t290 _ ?side1 ?side2 ?side3 ?side4 ?side5 ?side6 A7.out).mono ?_); (case side1 => exact tD_); (case side2 => exact HC0_0.out); (case side3 => exact tD_); (case side4 => exact HC0_2.out); (case side5 => exact tD_); (case side6 => exact HC0_3.out); rintro e w16 ⟨v284, v288, v291, rfl, ho0, ho1, ho2, hb⟩; refine ⟨_, rfl, ?_⟩; have n0_ := Aside0.mk (Kd.R_lower ho0 (below_size (tb_ HB.out))); have n1_ := Aside0.mk (Kd.R_lower ho1 (below_size (tb_ HB.out))); have n2_ := Aside0.mk (Kd.S_lower ho2 (below_size (tb_ HB.out))); have n3_ := Aside0.mk (blk_below (g := gb281) (o := .cells #[.slice A0_0 l0_0.length c0_0, .int .i64 a0_1, .slice A0_2 l0_2.length c0_2, .slice A0_3 l0_3.length c0_3] 44 (0, 0)) (tk_ BK281.out) hb); have n4_ := Aside0.mk (below_step (tb_ HB.out) hb); clear BK281 HB; have HO285 := n0_; have HO289 := n1_; have HO292 := n2_; have BK281 := n3_; have HB := n4_; clear n0_ n1_ n2_ n3_ n4_; (try clear hb); (try clear hb2); (try clear hk); (try clear hi); (try clear ho0); (try clear ho1); (try clear ho2); obtain ⟨Ao17, co17, eo17⟩ := Kd.R_slice HO285.out; subst eo17; obtain ⟨Ao18, co18, eo18⟩ := Kd.R_slice HO289.out; subst eo18; obtain ⟨Ao19, co19, eo19⟩ := Kd.S_slice HO292.out; subst eo19) | ((with_reducible refine gate_callee (f := 24) rfl ?_); refine goesL_ (some 14) rfl rfl Try.func24 (by kernel_rfl) rfl #[.agg #[.slice Ao17 t283.length co17, .int .i64 t286, .slice Ao18 t287.length co18, .slice Ao19 t290.length co19]] rfl tz_ ?_; (with_reducible refine (spec_DeskOk.calls k _ _ t283 t286 _ _ t287 _ _ t290 t293 _ ?side1 ?side2 ?side3 ?side4 ?side5 ?side6 A8.out).mono ?_); (case side1 => repeat (first | exact (Kd.R_reads' HO285.out).2.2 | (with_reducible refine Kd.C_alloc ?_ _) | (with_reducible refine Kd.C_drewN ?_ _) | (with_reducible refine Kd.C_drew ?_))); (case side2 => exact (Kd.R_reads' HO285.out).2.1); (case side3 => repeat (first | exact (Kd.R_reads' HO289.out).2.2 | (with_reducible refine Kd.C_alloc ?_ _) | (with_reducible refine Kd.C_drewN ?_ _) | (with_reducible refine Kd.C_drew ?_))); (case side4 => exact (Kd.R_reads' HO289.out).2.1); (case side5 => repeat (first | exact (Kd.S_reads' HO292.out).2.2 | (with_reducible refine Kd.C_alloc ?_ _) | (with_reducible refine Kd.C_drewN ?_ _) | (with_reducible refine Kd.C_drew ?_))); (case side6 => exact (Kd.S_reads' HO292.out).2.1); rintro e w20 ⟨rfl, hb⟩; refine ⟨_, rfl, ?_⟩; have n0_ := Aside0.mk (Kd.R_below (rR_ HO285.out) hb); have n1_ := Aside0.mk (Kd.R_below (rR_ HO289.out) hb); have n2_ := Aside0.mk (Kd.S_below (rS_ HO292.out) hb); have n3_ := Aside0.mk (blk_below (g := gb281) (o := .cells #[.slice A0_0 l0_0.length c0_0, .int .i64 a0_1, .slice A0_2 l0_2.length c0_2, .slice A0_3 l0_3.length c0_3] 44 (0, 0)) (tk_ BK281.out) hb); have n4_ := Aside0.mk (below_step (tb_ HB.out) hb); clear HO285 HO289 HO292 BK281 HB; have HO285 := n0_; have HO289 := n1_; have HO292 := n2_; have BK281 := n3_; have HB := n4_; clear n0_ n1_ n2_ n3_ n4_; (try clear hb); (try clear hb2); (try clear hk); (try clear hi); have hcz21_0 : w20.cell? ⟨gb281, 0, none⟩ = some (.slice A0_0 l0_0.length c0_0) := (blk_cell BK281.out 0).trans rfl; have hcz21_1 : w20.cell? ⟨gb281, 1, none⟩ = some (.int .i64 a0_1) := (blk_cell BK281.out 1).trans rfl; have hcz21_2 : w20.cell? ⟨gb281, 2, none⟩ = some (.slice A0_2 l0_2.length c0_2) := (blk_cell BK281.out 2).trans rfl; have hcz21_3 : w20.cell? ⟨gb281, 3, none⟩ = some (.slice A0_3 l0_3.length c0_3) := (blk_cell BK281.out 3).trans rfl; have hfz21_0 := blk_frozen BK281.out 0; have hfz21_1 := blk_frozen BK281.out 1; have hfz21_2 := blk_frozen BK281.out 2; have hfz21_3 := blk_frozen BK281.out 3) | ((with_reducible refine gate_callee (f := 25) rfl ?_); refine goesL_ (some 16) rfl rfl Try.func25 (by kernel_rfl) rfl #[.agg #[.slice A0_0 l0_0.length c0_0, .int .i64 a0_1, .slice A0_2 l0_2.length c0_2, .slice A0_3 l0_3.length c0_3]] rfl tz_ ?_; (with_reducible refine (laws_toDesk.calls k _ _ l0_0 a0_1 _ _ l0_2 _ _ l0_3 t294 t297 t298 t301 _ ?side1 ?side2 ?side3 ?side4 ?side5 ?side6 A9.out).mono ?_); (case side1 => exact tD_); (case side2 => exact HC0_0.out); (case side3 => exact tD_); (case side4 => exact HC0_2.out); (case side5 => exact tD_); (case side6 => exact HC0_3.out); rintro e w22 ⟨v295, v299, v302, rfl, ho0, ho1, ho2, hb⟩; refine ⟨_, rfl, ?_⟩; have n0_ := Aside0.mk (Kd.R_mono (Kd.R_told (Kd.R_told (Kd.R_old (rR_ HO285.out) hb) (Kd.R_base ho0)) (Kd.R_base ho1)) (fun _ h_ => h_.1)); have n1_ := Aside0.mk (Kd.R_mono (Kd.R_told (Kd.R_told (Kd.R_old (rR_ HO289.out) hb) (Kd.R_base ho0)) (Kd.R_base ho1)) (fun _ h_ => h_.1)); have n2_ := Aside0.mk (Kd.S_mono (Kd.S_told (Kd.S_told (Kd.S_told (Kd.S_old (rS_ HO292.out) hb) (Kd.R_base ho0)) (Kd.R_base ho1)) (Kd.S_base ho2)) (fun _ h_ => h_.1)); have n3_ := Aside0.mk (Kd.R_lower (Kd.R_new' (Kd.R_new' ho0 (Kd.R_lt (rR_ HO285.out))) (Kd.R_lt (rR_ HO289.out))) (below_size (tb_ HB.out))); have n4_ := Aside0.mk (Kd.R_lower (Kd.R_new' (Kd.R_new' ho1 (Kd.R_lt (rR_ HO285.out))) (Kd.R_lt (rR_ HO289.out))) (below_size (tb_ HB.out))); have n5_ := Aside0.mk (Kd.S_lower (Kd.S_new' (Kd.S_new' (Kd.S_new' ho2 (Kd.R_lt (rR_ HO285.out))) (Kd.R_lt (rR_ HO289.out))) (Kd.S_lt (rS_ HO292.out))) (below_size (tb_ HB.out))); have n6_ := Aside0.mk (blk_below (g := gb281) (o := .cells #[.slice A0_0 l0_0.length c0_0, .int .i64 a0_1, .slice A0_2 l0_2.length c0_2, .slice A0_3 l0_3.length c0_3] 44 (0, 0)) (tk_ BK281.out) hb); have n7_ := Aside0.mk (below_step (tb_ HB.out) hb); clear HO285 HO289 HO292 BK281 HB; have HO285 := n0_; have HO289 := n1_; have HO292 := n2_; have HO296 := n3_; have HO300 := n4_; have HO303 := n5_; have BK281 := n6_; have HB := n7_; clear n0_ n1_ n2_ n3_ n4_ n5_ n6_ n7_; (try clear hb); (try clear hb2); (try clear hk); (try clear hi); (try clear ho0); (try clear ho1); (try clear ho2)) | ((with_reducible refine gate_dst (N := 5) rfl ?_); refine box_event ?hg (N := 5) ?hd (cs := #[.slice none 0 0, .int .i64 0, .slice none 0 0, .slice none 0 0]) (t := 37) ?hr ?_; (case hd => rfl); (case hg => rfl); (case hr => first | (go_simp; done) | (go_simp; rfl)); intro gb304 hg w23 hbox hb; have n0_ := Aside0.mk (Kd.R_below (rR_ HO285.out) hb); have n1_ := Aside0.mk (Kd.R_below (rR_ HO289.out) hb); have n2_ := Aside0.mk (Kd.S_below (rS_ HO292.out) hb); have n3_ := Aside0.mk (Kd.R_below (rR_ HO296.out) hb); have n4_ := Aside0.mk (Kd.R_below (rR_ HO300.out) hb); have n5_ := Aside0.mk (Kd.S_below (rS_ HO303.out) hb); have n6_ := Aside0.mk (blk_below (g := gb281) (o := .cells #[.slice A0_0 l0_0.length c0_0, .int .i64 a0_1, .slice A0_2 l0_2.length c0_2, .slice A0_3 l0_3.length c0_3] 44 (0, 0)) (tk_ BK281.out) hb); have n7_ := Aside0.mk (below_step (tb_ HB.out) hb); have n8_ := Aside0.mk (hbox); have n9_ := Aside0.mk ((by rw [hg]; exact (below_size (tb_ HB.out)) : w.heap.size ≤ gb304)); have n10_ := Aside0.mk ((by rw [hg]; exact (below_size (tb_ HB.out)) : w.heap.size ≤ gb304)); have n11_ := Aside0.mk ((by rw [hg]; exact Nat.ne_of_lt (blk_lt (g := gb281) (o := .cells #[.slice A0_0 l0_0.length c0_0, .int .i64 a0_1, .slice A0_2 l0_2.length c0_2, .slice A0_3 l0_3.length c0_3] 44 (0, 0)) (tk_ BK281.out)) : gb281 ≠ gb304)); have n12_ := Aside0.mk ((by rw [hg]; exact Nat.ne_of_gt (blk_lt (g := gb281) (o := .cells #[.slice A0_0 l0_0.length c0_0, .int .i64 a0_1, .slice A0_2 l0_2.length c0_2, .slice A0_3 l0_3.length c0_3] 44 (0, 0)) (tk_ BK281.out)) : gb304 ≠ gb281)); clear HO285 HO289 HO292 HO296 HO300 HO303 BK281 HB; have HO285 := n0_; have HO289 := n1_; have HO292 := n2_; have HO296 := n3_; have HO300 := n4_; have HO303 := n5_; have BK281 := n6_; have HB := n7_; have BK304 := n8_; have GW304 := n9_; have GE304 := n10_; have NB281_304 := n11_; have NB304_281 := n12_; clear n0_ n1_ n2_ n3_ n4_ n5_ n6_ n7_ n8_ n9_ n10_ n11_ n12_ hb hbox hg; obtain ⟨Ao24, co24, eo24⟩ := Kd.R_slice HO296.out; subst eo24; have hnb25 := NB304_281.out; have hnc25 := NB281_304.out; have hcz26_0 : w23.cell? ⟨gb304, 0, none⟩ = some (.slice none 0 0) := (blk_cell BK304.out 0).trans rfl; have hcz26_1 : w23.cell? ⟨gb304, 1, none⟩ = some (.int .i64 0) := (blk_cell BK304.out 1).trans rfl; have hcz26_2 : w23.cell? ⟨gb304, 2, none⟩ = some (.slice none 0 0) := (blk_cell BK304.out 2).trans rfl; have hcz26_3 : w23.cell? ⟨gb304, 3, none⟩ = some (.slice none 0 0) := (blk_cell BK304.out 3).trans rfl; have hfz26_0 := blk_frozen BK304.out 0; have hfz26_1 := blk_frozen BK304.out 1; have hfz26_2 := blk_frozen BK304.out 2; have hfz26_3 := blk_frozen BK304.out 3; obtain ⟨Ao27, co27, eo27⟩ := Kd.R_slice HO300.out; subst eo27; obtain ⟨Ao28, co28, eo28⟩ := Kd.S_slice HO303.out; subst eo28) | ((with_reducible refine gate_callee (f := 21) rfl ?_); refine goesL_ (some 18) rfl rfl Try.func21 (by kernel_rfl) rfl #[.agg #[.slice Ao24 t294.length co24, .int .i64 t297, .slice Ao27 t298.length co27, .slice Ao28 t301.length co28]] rfl tz_ ?_; (with_reducible refine (impl_DeskOk.calls k _ _ t294 t297 _ _ t298 _ _ t301 t305 _ ?side1 ?side2 ?side3 ?side4 ?side5 ?side6 A10.out).mono ?_); (case side1 => refine (Kd.R_reads' (e := 3) (base := w.heap.size) (ok := fun k_ => ((some k_ ≠ (.slice Ao27 t298.length co27 : Value).ownBlock ∧ some k_ ≠ (.slice Ao17 t283.length co17 : Value).ownBlock) ∧ some k_ ≠ (.slice Ao18 t287.length co18 : Value).ownBlock)) (n := t294.length) (c := co24) ?_).2.2; exact (by refine qR_ ?_; exact (Kd.R_mono (Kd.R_far (p := ⟨gb304, 3, none⟩) (Kd.R_far (p := ⟨gb304, 2, none⟩) (Kd.R_far (p := ⟨gb304, 1, none⟩) (Kd.R_far (p := ⟨gb304, 0, none⟩) (Kd.R_types HO296.out BK304.out (by decide)) (fun _ hk => hk.2) (.slice Ao24 t294.length co24)) (fun _ hk => hk.2) (.int .i64 t297)) (fun _ hk => hk.2) (.slice Ao27 t298.length co27)) (fun _ hk => hk.2) (.slice Ao28 t301.length co28)) (fun _ h_ => h_.1)))); (case side2 => exact (Kd.R_reads' HO296.out).2.1); (case side3 => refine (Kd.R_reads' (e := 3) (base := w.heap.size) (ok := fun k_ => ((some k_ ≠ (.slice Ao24 t294.length co24 : Value).ownBlock ∧ some k_ ≠ (.slice Ao17 t283.length co17 : Value).ownBlock) ∧ some k_ ≠ (.slice Ao18 t287.length co18 : Value).ownBlock)) (n := t298.length) (c := co27) ?_).2.2; exact (by refine qR_ ?_; exact (Kd.R_mono (Kd.R_far (p := ⟨gb304, 3, none⟩) (Kd.R_far (p := ⟨gb304, 2, none⟩) (Kd.R_far (p := ⟨gb304, 1, none⟩) (Kd.R_far (p := ⟨gb304, 0, none⟩) (Kd.R_types HO300.out BK304.out (by decide)) (fun _ hk => hk.2) (.slice Ao24 t294.length co24)) (fun _ hk => hk.2) (.int .i64 t297)) (fun _ hk => hk.2) (.slice Ao27 t298.length co27)) (fun _ hk => hk.2) (.slice Ao28 t301.length co28)) (fun _ h_ => h_.1)))); (case side4 => exact (Kd.R_reads' HO300.out).2.1); (case side5 => refine (Kd.S_reads' (e := 27) (base := w.heap.size) (ok := fun k_ => ((((some k_ ≠ (.slice Ao24 t294.length co24 : Value).ownBlock ∧ some k_ ≠ (.slice Ao27 t298.length co27 : Value).ownBlock) ∧ some k_ ≠ (.slice Ao17 t283.length co17 : Value).ownBlock) ∧ some k_ ≠ (.slice Ao18 t287.length co18 : Value).ownBlock) ∧ some k_ ≠ (.slice Ao19 t290.length co19 : Value).ownBlock)) (n := t301.length) (c := co28) ?_).2.2; exact (by refine qS_ ?_; exact (Kd.S_mono (Kd.S_far (p := ⟨gb304, 3, none⟩) (Kd.S_far (p := ⟨gb304, 2, none⟩) (Kd.S_far (p := ⟨gb304, 1, none⟩) (Kd.S_far (p := ⟨gb304, 0, none⟩) (Kd.S_types HO303.out BK304.out (by decide)) (fun _ hk => hk.2) (.slice Ao24 t294.length co24)) (fun _ hk => hk.2) (.int .i64 t297)) (fun _ hk => hk.2) (.slice Ao27 t298.length co27)) (fun _ hk => hk.2) (.slice Ao28 t301.length co28)) (fun _ h_ => h_.1)))); (case side6 => exact (Kd.S_reads' HO303.out).2.1); rintro e w29 ⟨rfl, hb⟩; refine ⟨_, rfl, ?_⟩; have n0_ := Aside0.mk (Kd.R_below (by refine qR_ ?_; exact (Kd.R_mono (Kd.R_far (p := ⟨gb304, 3, none⟩) (Kd.R_far (p := ⟨gb304, 2, none⟩) (Kd.R_far (p := ⟨gb304, 1, none⟩) (Kd.R_far (p := ⟨gb304, 0, none⟩) (Kd.R_types HO285.out BK304.out (by decide)) (fun _ hk => hk.2) (.slice Ao24 t294.length co24)) (fun _ hk => hk.2) (.int .i64 t297)) (fun _ hk => hk.2) (.slice Ao27 t298.length co27)) (fun _ hk => hk.2) (.slice Ao28 t301.length co28)) (fun _ h_ => h_.1))) hb); have n1_ := Aside0.mk (Kd.R_below (by refine qR_ ?_; exact (Kd.R_mono (Kd.R_far (p := ⟨gb304, 3, none⟩) (Kd.R_far (p := ⟨gb304, 2, none⟩) (Kd.R_far (p := ⟨gb304, 1, none⟩) (Kd.R_far (p := ⟨gb304, 0, none⟩) (Kd.R_types HO289.out BK304.out (by decide)) (fun _ hk => hk.2) (.slice Ao24 t294.length co24)) (fun _ hk => hk.2) (.int .i64 t297)) (fun _ hk => hk.2) (.slice Ao27 t298.length co27)) (fun _ hk => hk.2) (.slice Ao28 t301.length co28)) (fun _ h_ => h_.1))) hb); have n2_ := Aside0.mk (Kd.S_below (by refine qS_ ?_; exact (Kd.S_mono (Kd.S_far (p := ⟨gb304, 3, none⟩) (Kd.S_far (p := ⟨gb304, 2, none⟩) (Kd.S_far (p := ⟨gb304, 1, none⟩) (Kd.S_far (p := ⟨gb304, 0, none⟩) (Kd.S_types HO292.out BK304.out (by decide)) (fun _ hk => hk.2) (.slice Ao24 t294.length co24)) (fun _ hk => hk.2) (.int .i64 t297)) (fun _ hk => hk.2) (.slice Ao27 t298.length co27)) (fun _ hk => hk.2) (.slice Ao28 t301.length co28)) (fun _ h_ => h_.1))) hb); have n3_ := Aside0.mk (Kd.R_below (by refine qR_ ?_; exact (Kd.R_mono (Kd.R_far (p := ⟨gb304, 3, none⟩) (Kd.R_far (p := ⟨gb304, 2, none⟩) (Kd.R_far (p := ⟨gb304, 1, none⟩) (Kd.R_far (p := ⟨gb304, 0, none⟩) (Kd.R_types HO296.out BK304.out (by decide)) (fun _ hk => hk.2) (.slice Ao24 t294.length co24)) (fun _ hk => hk.2) (.int .i64 t297)) (fun _ hk => hk.2) (.slice Ao27 t298.length co27)) (fun _ hk => hk.2) (.slice Ao28 t301.length co28)) (fun _ h_ => h_.1))) hb); have n4_ := Aside0.mk (Kd.R_below (by refine qR_ ?_; exact (Kd.R_mono (Kd.R_far (p := ⟨gb304, 3, none⟩) (Kd.R_far (p := ⟨gb304, 2, none⟩) (Kd.R_far (p := ⟨gb304, 1, none⟩) (Kd.R_far (p := ⟨gb304, 0, none⟩) (Kd.R_types HO300.out BK304.out (by decide)) (fun _ hk => hk.2) (.slice Ao24 t294.length co24)) (fun _ hk => hk.2) (.int .i64 t297)) (fun _ hk => hk.2) (.slice Ao27 t298.length co27)) (fun _ hk => hk.2) (.slice Ao28 t301.length co28)) (fun _ h_ => h_.1))) hb); have n5_ := Aside0.mk (Kd.S_below (by refine qS_ ?_; exact (Kd.S_mono (Kd.S_far (p := ⟨gb304, 3, none⟩) (Kd.S_far (p := ⟨gb304, 2, none⟩) (Kd.S_far (p := ⟨gb304, 1, none⟩) (Kd.S_far (p := ⟨gb304, 0, none⟩) (Kd.S_types HO303.out BK304.out (by decide)) (fun _ hk => hk.2) (.slice Ao24 t294.length co24)) (fun _ hk => hk.2) (.int .i64 t297)) (fun _ hk => hk.2) (.slice Ao27 t298.length co27)) (fun _ hk => hk.2) (.slice Ao28 t301.length co28)) (fun _ h_ => h_.1))) hb); have n6_ := Aside0.mk (blk_below (g := gb281) (o := .cells #[.slice A0_0 l0_0.length c0_0, .int .i64 a0_1, .slice A0_2 l0_2.length c0_2, .slice A0_3 l0_3.length c0_3] 44 (0, 0)) (tk_ BK281.out) hb); have n7_ := Aside0.mk (blk_below (g := gb304) (o := .cells #[.slice Ao24 t294.length co24, .int .i64 t297, .slice Ao27 t298.length co27, .slice Ao28 t301.length co28] 37 (0, 0)) (by refine bq_ ?_; refine blk_put (cs := #[.slice Ao24 t294.length co24, .int .i64 t297, .slice Ao27 t298.length co27, .slice none 0 0]) ?_ 3 _ rfl; refine bq_ ?_; refine blk_put (cs := #[.slice Ao24 t294.length co24, .int .i64 t297, .slice none 0 0, .slice none 0 0]) ?_ 2 _ rfl; refine bq_ ?_; refine blk_put (cs := #[.slice Ao24 t294.length co24, .int .i64 0, .slice none 0 0, .slice none 0 0]) ?_ 1 _ rfl; refine bq_ ?_; refine blk_put (cs := #[.slice none 0 0, .int .i64 0, .slice none 0 0, .slice none 0 0]) ?_ 0 _ rfl; exact tk_ BK304.out) hb); have n8_ := Aside0.mk (below_step (tb_ HB.out) hb); clear HO285 HO289 HO292 HO296 HO300 HO303 BK281 BK304 HB; have HO285 := n0_; have HO289 := n1_; have HO292 := n2_; have HO296 := n3_; have HO300 := n4_; have HO303 := n5_; have BK281 := n6_; have BK304 := n7_; have HB := n8_; clear n0_ n1_ n2_ n3_ n4_ n5_ n6_ n7_ n8_; (try clear hb); (try clear hb2); (try clear hk); (try clear hi)))
   go_ret
   exact ⟨by first | rfl | (simp [errW_none, errW_some] <;> rfl) | (simp [*, errW_none, errW_some] <;> rfl), (tb_ HB.out)⟩
  ·
   rw [if_neg c11] at H
   have c11b0 : (t305 != t293) = false := by simpa using c11
   (try (have c11b1 : decide (t305 = t293) = true := by simpa using c11))
   (try (have c11b2 : (t305 == t293) = true := by simpa using c11))
   clear c11
   replace H := Option.bind_eq_some_iff.mp H
   obtain ⟨⟨t306, t309, t310, t313⟩, A300, H⟩ := H
   replace H : ((laws_eqDesk.f k t294 t297 t298 t301 t306 t309 t310 t313).bind fun t316 => (if t316 = true then (some true) else (some false))) = some r := H
   have A30 := Aside0.mk A300
   clear A300
   replace H := Option.bind_eq_some_iff.mp H
   obtain ⟨t316, A310, H⟩ := H
   replace H : (if t316 = true then (some true) else (some false)) = some r := H
   have A31 := Aside0.mk A310
   clear A310
   by_cases c32 : t316 = true
   ·
    subst c32
    have H1 : (some true) = some r := by rw [if_pos rfl] at H; exact H
    clear H
    have H := H1
    clear H1
    obtain rfl := Option.some.inj H
    go_enter Try.func6, Try.ntmps6
    try go_wp2_with (first | ((with_reducible refine gate_dst (N := 1) rfl ?_); refine box_event ?hg (N := 1) ?hd (cs := #[.slice A0_0 l0_0.length c0_0, .int .i64 a0_1, .slice A0_2 l0_2.length c0_2, .slice A0_3 l0_3.length c0_3]) (t := 44) ?hr ?_; (case hd => rfl); (case hg => rfl); (case hr => first | (go_simp; done) | (go_simp; rfl)); intro gb281 hg w33 hbox hb; have n0_ := Aside0.mk (below_step (tb_ HB.out) hb); have n1_ := Aside0.mk (hbox); have n2_ := Aside0.mk ((by rw [hg]; exact (below_size (tb_ HB.out)) : w.heap.size ≤ gb281)); have n3_ := Aside0.mk ((by rw [hg]; exact (below_size (tb_ HB.out)) : w.heap.size ≤ gb281)); clear HB; have HB := n0_; have BK281 := n1_; have GW281 := n2_; have GE281 := n3_; clear n0_ n1_ n2_ n3_ hb hbox hg; have hcz34_0 : w33.cell? ⟨gb281, 0, none⟩ = some (.slice A0_0 l0_0.length c0_0) := (blk_cell BK281.out 0).trans rfl; have hcz34_1 : w33.cell? ⟨gb281, 1, none⟩ = some (.int .i64 a0_1) := (blk_cell BK281.out 1).trans rfl; have hcz34_2 : w33.cell? ⟨gb281, 2, none⟩ = some (.slice A0_2 l0_2.length c0_2) := (blk_cell BK281.out 2).trans rfl; have hcz34_3 : w33.cell? ⟨gb281, 3, none⟩ = some (.slice A0_3 l0_3.length c0_3) := (blk_cell BK281.out 3).trans rfl; have hfz34_0 := blk_frozen BK281.out 0; have hfz34_1 := blk_frozen BK281.out 1; have hfz34_2 := blk_frozen BK281.out 2; have hfz34_3 := blk_frozen BK281.out 3) | ((with_reducible refine gate_callee (f := 23) rfl ?_); refine goesL_ (some 9) rfl rfl Try.func23 (by kernel_rfl) rfl #[.agg #[.slice A0_0 l0_0.length c0_0, .int .i64 a0_1, .slice A0_2 l0_2.length c0_2, .slice A0_3 l0_3.length c0_3], .int .i64 1048576] rfl tz_ ?_; (with_reducible refine (laws_szDesk.calls k _ _ l0_0 a0_1 _ _ l0_2 _ _ l0_3 1048576 t282 _ ?side1 ?side2 ?side3 ?side4 ?side5 ?side6 A2.out).mono ?_); (case side1 => exact tD_); (case side2 => exact HC0_0.out); (case side3 => exact tD_); (case side4 => exact HC0_2.out); (case side5 => exact tD_); (case side6 => exact HC0_3.out); rintro e w35 ⟨rfl, hb⟩; refine ⟨_, rfl, ?_⟩; have n0_ := Aside0.mk (blk_below (g := gb281) (o := .cells #[.slice A0_0 l0_0.length c0_0, .int .i64 a0_1, .slice A0_2 l0_2.length c0_2, .slice A0_3 l0_3.length c0_3] 44 (0, 0)) (tk_ BK281.out) hb); have n1_ := Aside0.mk (below_step (tb_ HB.out) hb); clear BK281 HB; have BK281 := n0_; have HB := n1_; clear n0_ n1_; (try clear hb); (try clear hb2); (try clear hk); (try clear hi); have hcz36_0 : w35.cell? ⟨gb281, 0, none⟩ = some (.slice A0_0 l0_0.length c0_0) := (blk_cell BK281.out 0).trans rfl; have hcz36_1 : w35.cell? ⟨gb281, 1, none⟩ = some (.int .i64 a0_1) := (blk_cell BK281.out 1).trans rfl; have hcz36_2 : w35.cell? ⟨gb281, 2, none⟩ = some (.slice A0_2 l0_2.length c0_2) := (blk_cell BK281.out 2).trans rfl; have hcz36_3 : w35.cell? ⟨gb281, 3, none⟩ = some (.slice A0_3 l0_3.length c0_3) := (blk_cell BK281.out 3).trans rfl; have hfz36_0 := blk_frozen BK281.out 0; have hfz36_1 := blk_frozen BK281.out 1; have hfz36_2 := blk_frozen BK281.out 2; have hfz36_3 := blk_frozen BK281.out 3) | ((with_reducible refine gate_callee (f := 25) rfl ?_); refine goesL_ (some 13) rfl rfl Try.func25 (by kernel_rfl) rfl #[.agg #[.slice A0_0 l0_0.length c0_0, .int .i64 a0_1, .slice A0_2 l0_2.length c0_2, .slice A0_3 l0_3.length c0_3]] rfl tz_ ?_; (with_reducible refine (laws_toDesk.calls k _ _ l0_0 a0_1 _ _ l0_2 _ _ l0_3 t283 t286 t287 t290 _ ?side1 ?side2 ?side3 ?side4 ?side5 ?side6 A7.out).mono ?_); (case side1 => exact tD_); (case side2 => exact HC0_0.out); (case side3 => exact tD_); (case side4 => exact HC0_2.out); (case side5 => exact tD_); (case side6 => exact HC0_3.out); rintro e w37 ⟨v284, v288, v291, rfl, ho0, ho1, ho2, hb⟩; refine ⟨_, rfl, ?_⟩; have n0_ := Aside0.mk (Kd.R_lower ho0 (below_size (tb_ HB.out))); have n1_ := Aside0.mk (Kd.R_lower ho1 (below_size (tb_ HB.out))); have n2_ := Aside0.mk (Kd.S_lower ho2 (below_size (tb_ HB.out))); have n3_ := Aside0.mk (blk_below (g := gb281) (o := .cells #[.slice A0_0 l0_0.length c0_0, .int .i64 a0_1, .slice A0_2 l0_2.length c0_2, .slice A0_3 l0_3.length c0_3] 44 (0, 0)) (tk_ BK281.out) hb); have n4_ := Aside0.mk (below_step (tb_ HB.out) hb); clear BK281 HB; have HO285 := n0_; have HO289 := n1_; have HO292 := n2_; have BK281 := n3_; have HB := n4_; clear n0_ n1_ n2_ n3_ n4_; (try clear hb); (try clear hb2); (try clear hk); (try clear hi); (try clear ho0); (try clear ho1); (try clear ho2); obtain ⟨Ao38, co38, eo38⟩ := Kd.R_slice HO285.out; subst eo38; obtain ⟨Ao39, co39, eo39⟩ := Kd.R_slice HO289.out; subst eo39; obtain ⟨Ao40, co40, eo40⟩ := Kd.S_slice HO292.out; subst eo40) | ((with_reducible refine gate_callee (f := 24) rfl ?_); refine goesL_ (some 14) rfl rfl Try.func24 (by kernel_rfl) rfl #[.agg #[.slice Ao38 t283.length co38, .int .i64 t286, .slice Ao39 t287.length co39, .slice Ao40 t290.length co40]] rfl tz_ ?_; (with_reducible refine (spec_DeskOk.calls k _ _ t283 t286 _ _ t287 _ _ t290 t293 _ ?side1 ?side2 ?side3 ?side4 ?side5 ?side6 A8.out).mono ?_); (case side1 => repeat (first | exact (Kd.R_reads' HO285.out).2.2 | (with_reducible refine Kd.C_alloc ?_ _) | (with_reducible refine Kd.C_drewN ?_ _) | (with_reducible refine Kd.C_drew ?_))); (case side2 => exact (Kd.R_reads' HO285.out).2.1); (case side3 => repeat (first | exact (Kd.R_reads' HO289.out).2.2 | (with_reducible refine Kd.C_alloc ?_ _) | (with_reducible refine Kd.C_drewN ?_ _) | (with_reducible refine Kd.C_drew ?_))); (case side4 => exact (Kd.R_reads' HO289.out).2.1); (case side5 => repeat (first | exact (Kd.S_reads' HO292.out).2.2 | (with_reducible refine Kd.C_alloc ?_ _) | (with_reducible refine Kd.C_drewN ?_ _) | (with_reducible refine Kd.C_drew ?_))); (case side6 => exact (Kd.S_reads' HO292.out).2.1); rintro e w41 ⟨rfl, hb⟩; refine ⟨_, rfl, ?_⟩; have n0_ := Aside0.mk (Kd.R_below (rR_ HO285.out) hb); have n1_ := Aside0.mk (Kd.R_below (rR_ HO289.out) hb); have n2_ := Aside0.mk (Kd.S_below (rS_ HO292.out) hb); have n3_ := Aside0.mk (blk_below (g := gb281) (o := .cells #[.slice A0_0 l0_0.length c0_0, .int .i64 a0_1, .slice A0_2 l0_2.length c0_2, .slice A0_3 l0_3.length c0_3] 44 (0, 0)) (tk_ BK281.out) hb); have n4_ := Aside0.mk (below_step (tb_ HB.out) hb); clear HO285 HO289 HO292 BK281 HB; have HO285 := n0_; have HO289 := n1_; have HO292 := n2_; have BK281 := n3_; have HB := n4_; clear n0_ n1_ n2_ n3_ n4_; (try clear hb); (try clear hb2); (try clear hk); (try clear hi); have hcz42_0 : w41.cell? ⟨gb281, 0, none⟩ = some (.slice A0_0 l0_0.length c0_0) := (blk_cell BK281.out 0).trans rfl; have hcz42_1 : w41.cell? ⟨gb281, 1, none⟩ = some (.int .i64 a0_1) := (blk_cell BK281.out 1).trans rfl; have hcz42_2 : w41.cell? ⟨gb281, 2, none⟩ = some (.slice A0_2 l0_2.length c0_2) := (blk_cell BK281.out 2).trans rfl; have hcz42_3 : w41.cell? ⟨gb281, 3, none⟩ = some (.slice A0_3 l0_3.length c0_3) := (blk_cell BK281.out 3).trans rfl; have hfz42_0 := blk_frozen BK281.out 0; have hfz42_1 := blk_frozen BK281.out 1; have hfz42_2 := blk_frozen BK281.out 2; have hfz42_3 := blk_frozen BK281.out 3) | ((with_reducible refine gate_callee (f := 25) rfl ?_); refine goesL_ (some 16) rfl rfl Try.func25 (by kernel_rfl) rfl #[.agg #[.slice A0_0 l0_0.length c0_0, .int .i64 a0_1, .slice A0_2 l0_2.length c0_2, .slice A0_3 l0_3.length c0_3]] rfl tz_ ?_; (with_reducible refine (laws_toDesk.calls k _ _ l0_0 a0_1 _ _ l0_2 _ _ l0_3 t294 t297 t298 t301 _ ?side1 ?side2 ?side3 ?side4 ?side5 ?side6 A9.out).mono ?_); (case side1 => exact tD_); (case side2 => exact HC0_0.out); (case side3 => exact tD_); (case side4 => exact HC0_2.out); (case side5 => exact tD_); (case side6 => exact HC0_3.out); rintro e w43 ⟨v295, v299, v302, rfl, ho0, ho1, ho2, hb⟩; refine ⟨_, rfl, ?_⟩; have n0_ := Aside0.mk (Kd.R_mono (Kd.R_told (Kd.R_told (Kd.R_old (rR_ HO285.out) hb) (Kd.R_base ho0)) (Kd.R_base ho1)) (fun _ h_ => h_.1)); have n1_ := Aside0.mk (Kd.R_mono (Kd.R_told (Kd.R_told (Kd.R_old (rR_ HO289.out) hb) (Kd.R_base ho0)) (Kd.R_base ho1)) (fun _ h_ => h_.1)); have n2_ := Aside0.mk (Kd.S_mono (Kd.S_told (Kd.S_told (Kd.S_told (Kd.S_old (rS_ HO292.out) hb) (Kd.R_base ho0)) (Kd.R_base ho1)) (Kd.S_base ho2)) (fun _ h_ => h_.1)); have n3_ := Aside0.mk (Kd.R_lower (Kd.R_new' (Kd.R_new' ho0 (Kd.R_lt (rR_ HO285.out))) (Kd.R_lt (rR_ HO289.out))) (below_size (tb_ HB.out))); have n4_ := Aside0.mk (Kd.R_lower (Kd.R_new' (Kd.R_new' ho1 (Kd.R_lt (rR_ HO285.out))) (Kd.R_lt (rR_ HO289.out))) (below_size (tb_ HB.out))); have n5_ := Aside0.mk (Kd.S_lower (Kd.S_new' (Kd.S_new' (Kd.S_new' ho2 (Kd.R_lt (rR_ HO285.out))) (Kd.R_lt (rR_ HO289.out))) (Kd.S_lt (rS_ HO292.out))) (below_size (tb_ HB.out))); have n6_ := Aside0.mk (blk_below (g := gb281) (o := .cells #[.slice A0_0 l0_0.length c0_0, .int .i64 a0_1, .slice A0_2 l0_2.length c0_2, .slice A0_3 l0_3.length c0_3] 44 (0, 0)) (tk_ BK281.out) hb); have n7_ := Aside0.mk (below_step (tb_ HB.out) hb); clear HO285 HO289 HO292 BK281 HB; have HO285 := n0_; have HO289 := n1_; have HO292 := n2_; have HO296 := n3_; have HO300 := n4_; have HO303 := n5_; have BK281 := n6_; have HB := n7_; clear n0_ n1_ n2_ n3_ n4_ n5_ n6_ n7_; (try clear hb); (try clear hb2); (try clear hk); (try clear hi); (try clear ho0); (try clear ho1); (try clear ho2)) | ((with_reducible refine gate_dst (N := 5) rfl ?_); refine box_event ?hg (N := 5) ?hd (cs := #[.slice none 0 0, .int .i64 0, .slice none 0 0, .slice none 0 0]) (t := 37) ?hr ?_; (case hd => rfl); (case hg => rfl); (case hr => first | (go_simp; done) | (go_simp; rfl)); intro gb304 hg w44 hbox hb; have n0_ := Aside0.mk (Kd.R_below (rR_ HO285.out) hb); have n1_ := Aside0.mk (Kd.R_below (rR_ HO289.out) hb); have n2_ := Aside0.mk (Kd.S_below (rS_ HO292.out) hb); have n3_ := Aside0.mk (Kd.R_below (rR_ HO296.out) hb); have n4_ := Aside0.mk (Kd.R_below (rR_ HO300.out) hb); have n5_ := Aside0.mk (Kd.S_below (rS_ HO303.out) hb); have n6_ := Aside0.mk (blk_below (g := gb281) (o := .cells #[.slice A0_0 l0_0.length c0_0, .int .i64 a0_1, .slice A0_2 l0_2.length c0_2, .slice A0_3 l0_3.length c0_3] 44 (0, 0)) (tk_ BK281.out) hb); have n7_ := Aside0.mk (below_step (tb_ HB.out) hb); have n8_ := Aside0.mk (hbox); have n9_ := Aside0.mk ((by rw [hg]; exact (below_size (tb_ HB.out)) : w.heap.size ≤ gb304)); have n10_ := Aside0.mk ((by rw [hg]; exact (below_size (tb_ HB.out)) : w.heap.size ≤ gb304)); have n11_ := Aside0.mk ((by rw [hg]; exact Nat.ne_of_lt (blk_lt (g := gb281) (o := .cells #[.slice A0_0 l0_0.length c0_0, .int .i64 a0_1, .slice A0_2 l0_2.length c0_2, .slice A0_3 l0_3.length c0_3] 44 (0, 0)) (tk_ BK281.out)) : gb281 ≠ gb304)); have n12_ := Aside0.mk ((by rw [hg]; exact Nat.ne_of_gt (blk_lt (g := gb281) (o := .cells #[.slice A0_0 l0_0.length c0_0, .int .i64 a0_1, .slice A0_2 l0_2.length c0_2, .slice A0_3 l0_3.length c0_3] 44 (0, 0)) (tk_ BK281.out)) : gb304 ≠ gb281)); clear HO285 HO289 HO292 HO296 HO300 HO303 BK281 HB; have HO285 := n0_; have HO289 := n1_; have HO292 := n2_; have HO296 := n3_; have HO300 := n4_; have HO303 := n5_; have BK281 := n6_; have HB := n7_; have BK304 := n8_; have GW304 := n9_; have GE304 := n10_; have NB281_304 := n11_; have NB304_281 := n12_; clear n0_ n1_ n2_ n3_ n4_ n5_ n6_ n7_ n8_ n9_ n10_ n11_ n12_ hb hbox hg; obtain ⟨Ao45, co45, eo45⟩ := Kd.R_slice HO296.out; subst eo45; have hnb46 := NB304_281.out; have hnc46 := NB281_304.out; have hcz47_0 : w44.cell? ⟨gb304, 0, none⟩ = some (.slice none 0 0) := (blk_cell BK304.out 0).trans rfl; have hcz47_1 : w44.cell? ⟨gb304, 1, none⟩ = some (.int .i64 0) := (blk_cell BK304.out 1).trans rfl; have hcz47_2 : w44.cell? ⟨gb304, 2, none⟩ = some (.slice none 0 0) := (blk_cell BK304.out 2).trans rfl; have hcz47_3 : w44.cell? ⟨gb304, 3, none⟩ = some (.slice none 0 0) := (blk_cell BK304.out 3).trans rfl; have hfz47_0 := blk_frozen BK304.out 0; have hfz47_1 := blk_frozen BK304.out 1; have hfz47_2 := blk_frozen BK304.out 2; have hfz47_3 := blk_frozen BK304.out 3; obtain ⟨Ao48, co48, eo48⟩ := Kd.R_slice HO300.out; subst eo48; obtain ⟨Ao49, co49, eo49⟩ := Kd.S_slice HO303.out; subst eo49) | ((with_reducible refine gate_callee (f := 21) rfl ?_); refine goesL_ (some 18) rfl rfl Try.func21 (by kernel_rfl) rfl #[.agg #[.slice Ao45 t294.length co45, .int .i64 t297, .slice Ao48 t298.length co48, .slice Ao49 t301.length co49]] rfl tz_ ?_; (with_reducible refine (impl_DeskOk.calls k _ _ t294 t297 _ _ t298 _ _ t301 t305 _ ?side1 ?side2 ?side3 ?side4 ?side5 ?side6 A10.out).mono ?_); (case side1 => refine (Kd.R_reads' (e := 3) (base := w.heap.size) (ok := fun k_ => ((some k_ ≠ (.slice Ao48 t298.length co48 : Value).ownBlock ∧ some k_ ≠ (.slice Ao38 t283.length co38 : Value).ownBlock) ∧ some k_ ≠ (.slice Ao39 t287.length co39 : Value).ownBlock)) (n := t294.length) (c := co45) ?_).2.2; exact (by refine qR_ ?_; exact (Kd.R_mono (Kd.R_far (p := ⟨gb304, 3, none⟩) (Kd.R_far (p := ⟨gb304, 2, none⟩) (Kd.R_far (p := ⟨gb304, 1, none⟩) (Kd.R_far (p := ⟨gb304, 0, none⟩) (Kd.R_types HO296.out BK304.out (by decide)) (fun _ hk => hk.2) (.slice Ao45 t294.length co45)) (fun _ hk => hk.2) (.int .i64 t297)) (fun _ hk => hk.2) (.slice Ao48 t298.length co48)) (fun _ hk => hk.2) (.slice Ao49 t301.length co49)) (fun _ h_ => h_.1)))); (case side2 => exact (Kd.R_reads' HO296.out).2.1); (case side3 => refine (Kd.R_reads' (e := 3) (base := w.heap.size) (ok := fun k_ => ((some k_ ≠ (.slice Ao45 t294.length co45 : Value).ownBlock ∧ some k_ ≠ (.slice Ao38 t283.length co38 : Value).ownBlock) ∧ some k_ ≠ (.slice Ao39 t287.length co39 : Value).ownBlock)) (n := t298.length) (c := co48) ?_).2.2; exact (by refine qR_ ?_; exact (Kd.R_mono (Kd.R_far (p := ⟨gb304, 3, none⟩) (Kd.R_far (p := ⟨gb304, 2, none⟩) (Kd.R_far (p := ⟨gb304, 1, none⟩) (Kd.R_far (p := ⟨gb304, 0, none⟩) (Kd.R_types HO300.out BK304.out (by decide)) (fun _ hk => hk.2) (.slice Ao45 t294.length co45)) (fun _ hk => hk.2) (.int .i64 t297)) (fun _ hk => hk.2) (.slice Ao48 t298.length co48)) (fun _ hk => hk.2) (.slice Ao49 t301.length co49)) (fun _ h_ => h_.1)))); (case side4 => exact (Kd.R_reads' HO300.out).2.1); (case side5 => refine (Kd.S_reads' (e := 27) (base := w.heap.size) (ok := fun k_ => ((((some k_ ≠ (.slice Ao45 t294.length co45 : Value).ownBlock ∧ some k_ ≠ (.slice Ao48 t298.length co48 : Value).ownBlock) ∧ some k_ ≠ (.slice Ao38 t283.length co38 : Value).ownBlock) ∧ some k_ ≠ (.slice Ao39 t287.length co39 : Value).ownBlock) ∧ some k_ ≠ (.slice Ao40 t290.length co40 : Value).ownBlock)) (n := t301.length) (c := co49) ?_).2.2; exact (by refine qS_ ?_; exact (Kd.S_mono (Kd.S_far (p := ⟨gb304, 3, none⟩) (Kd.S_far (p := ⟨gb304, 2, none⟩) (Kd.S_far (p := ⟨gb304, 1, none⟩) (Kd.S_far (p := ⟨gb304, 0, none⟩) (Kd.S_types HO303.out BK304.out (by decide)) (fun _ hk => hk.2) (.slice Ao45 t294.length co45)) (fun _ hk => hk.2) (.int .i64 t297)) (fun _ hk => hk.2) (.slice Ao48 t298.length co48)) (fun _ hk => hk.2) (.slice Ao49 t301.length co49)) (fun _ h_ => h_.1)))); (case side6 => exact (Kd.S_reads' HO303.out).2.1); rintro e w50 ⟨rfl, hb⟩; refine ⟨_, rfl, ?_⟩; have n0_ := Aside0.mk (Kd.R_below (by refine qR_ ?_; exact (Kd.R_mono (Kd.R_far (p := ⟨gb304, 3, none⟩) (Kd.R_far (p := ⟨gb304, 2, none⟩) (Kd.R_far (p := ⟨gb304, 1, none⟩) (Kd.R_far (p := ⟨gb304, 0, none⟩) (Kd.R_types HO285.out BK304.out (by decide)) (fun _ hk => hk.2) (.slice Ao45 t294.length co45)) (fun _ hk => hk.2) (.int .i64 t297)) (fun _ hk => hk.2) (.slice Ao48 t298.length co48)) (fun _ hk => hk.2) (.slice Ao49 t301.length co49)) (fun _ h_ => h_.1))) hb); have n1_ := Aside0.mk (Kd.R_below (by refine qR_ ?_; exact (Kd.R_mono (Kd.R_far (p := ⟨gb304, 3, none⟩) (Kd.R_far (p := ⟨gb304, 2, none⟩) (Kd.R_far (p := ⟨gb304, 1, none⟩) (Kd.R_far (p := ⟨gb304, 0, none⟩) (Kd.R_types HO289.out BK304.out (by decide)) (fun _ hk => hk.2) (.slice Ao45 t294.length co45)) (fun _ hk => hk.2) (.int .i64 t297)) (fun _ hk => hk.2) (.slice Ao48 t298.length co48)) (fun _ hk => hk.2) (.slice Ao49 t301.length co49)) (fun _ h_ => h_.1))) hb); have n2_ := Aside0.mk (Kd.S_below (by refine qS_ ?_; exact (Kd.S_mono (Kd.S_far (p := ⟨gb304, 3, none⟩) (Kd.S_far (p := ⟨gb304, 2, none⟩) (Kd.S_far (p := ⟨gb304, 1, none⟩) (Kd.S_far (p := ⟨gb304, 0, none⟩) (Kd.S_types HO292.out BK304.out (by decide)) (fun _ hk => hk.2) (.slice Ao45 t294.length co45)) (fun _ hk => hk.2) (.int .i64 t297)) (fun _ hk => hk.2) (.slice Ao48 t298.length co48)) (fun _ hk => hk.2) (.slice Ao49 t301.length co49)) (fun _ h_ => h_.1))) hb); have n3_ := Aside0.mk (Kd.R_below (by refine qR_ ?_; exact (Kd.R_mono (Kd.R_far (p := ⟨gb304, 3, none⟩) (Kd.R_far (p := ⟨gb304, 2, none⟩) (Kd.R_far (p := ⟨gb304, 1, none⟩) (Kd.R_far (p := ⟨gb304, 0, none⟩) (Kd.R_types HO296.out BK304.out (by decide)) (fun _ hk => hk.2) (.slice Ao45 t294.length co45)) (fun _ hk => hk.2) (.int .i64 t297)) (fun _ hk => hk.2) (.slice Ao48 t298.length co48)) (fun _ hk => hk.2) (.slice Ao49 t301.length co49)) (fun _ h_ => h_.1))) hb); have n4_ := Aside0.mk (Kd.R_below (by refine qR_ ?_; exact (Kd.R_mono (Kd.R_far (p := ⟨gb304, 3, none⟩) (Kd.R_far (p := ⟨gb304, 2, none⟩) (Kd.R_far (p := ⟨gb304, 1, none⟩) (Kd.R_far (p := ⟨gb304, 0, none⟩) (Kd.R_types HO300.out BK304.out (by decide)) (fun _ hk => hk.2) (.slice Ao45 t294.length co45)) (fun _ hk => hk.2) (.int .i64 t297)) (fun _ hk => hk.2) (.slice Ao48 t298.length co48)) (fun _ hk => hk.2) (.slice Ao49 t301.length co49)) (fun _ h_ => h_.1))) hb); have n5_ := Aside0.mk (Kd.S_below (by refine qS_ ?_; exact (Kd.S_mono (Kd.S_far (p := ⟨gb304, 3, none⟩) (Kd.S_far (p := ⟨gb304, 2, none⟩) (Kd.S_far (p := ⟨gb304, 1, none⟩) (Kd.S_far (p := ⟨gb304, 0, none⟩) (Kd.S_types HO303.out BK304.out (by decide)) (fun _ hk => hk.2) (.slice Ao45 t294.length co45)) (fun _ hk => hk.2) (.int .i64 t297)) (fun _ hk => hk.2) (.slice Ao48 t298.length co48)) (fun _ hk => hk.2) (.slice Ao49 t301.length co49)) (fun _ h_ => h_.1))) hb); have n6_ := Aside0.mk (blk_below (g := gb281) (o := .cells #[.slice A0_0 l0_0.length c0_0, .int .i64 a0_1, .slice A0_2 l0_2.length c0_2, .slice A0_3 l0_3.length c0_3] 44 (0, 0)) (tk_ BK281.out) hb); have n7_ := Aside0.mk (blk_below (g := gb304) (o := .cells #[.slice Ao45 t294.length co45, .int .i64 t297, .slice Ao48 t298.length co48, .slice Ao49 t301.length co49] 37 (0, 0)) (by refine bq_ ?_; refine blk_put (cs := #[.slice Ao45 t294.length co45, .int .i64 t297, .slice Ao48 t298.length co48, .slice none 0 0]) ?_ 3 _ rfl; refine bq_ ?_; refine blk_put (cs := #[.slice Ao45 t294.length co45, .int .i64 t297, .slice none 0 0, .slice none 0 0]) ?_ 2 _ rfl; refine bq_ ?_; refine blk_put (cs := #[.slice Ao45 t294.length co45, .int .i64 0, .slice none 0 0, .slice none 0 0]) ?_ 1 _ rfl; refine bq_ ?_; refine blk_put (cs := #[.slice none 0 0, .int .i64 0, .slice none 0 0, .slice none 0 0]) ?_ 0 _ rfl; exact tk_ BK304.out) hb); have n8_ := Aside0.mk (below_step (tb_ HB.out) hb); clear HO285 HO289 HO292 HO296 HO300 HO303 BK281 BK304 HB; have HO285 := n0_; have HO289 := n1_; have HO292 := n2_; have HO296 := n3_; have HO300 := n4_; have HO303 := n5_; have BK281 := n6_; have BK304 := n7_; have HB := n8_; clear n0_ n1_ n2_ n3_ n4_ n5_ n6_ n7_ n8_; (try clear hb); (try clear hb2); (try clear hk); (try clear hi)))
    have n0_ := Aside0.mk (Kd.R_drew HO285.out)
    have n1_ := Aside0.mk (Kd.R_drew HO289.out)
    have n2_ := Aside0.mk (Kd.S_drew HO292.out)
    have n3_ := Aside0.mk (Kd.R_drew HO296.out)
    have n4_ := Aside0.mk (Kd.R_drew HO300.out)
    have n5_ := Aside0.mk (Kd.S_drew HO303.out)
    have n6_ := Aside0.mk (blk_drew BK281.out)
    have n7_ := Aside0.mk (blk_drew BK304.out)
    have n8_ := Aside0.mk (ld_ HB.out)
    clear HO285
    clear HO289
    clear HO292
    clear HO296
    clear HO300
    clear HO303
    clear BK281
    clear BK304
    clear HB
    have HO285 := n0_
    have HO289 := n1_
    have HO292 := n2_
    have HO296 := n3_
    have HO300 := n4_
    have HO303 := n5_
    have BK281 := n6_
    have BK304 := n7_
    have HB := n8_
    clear n0_ n1_ n2_ n3_ n4_ n5_ n6_ n7_ n8_
    refine start_ (n := 5) (S := fun w' => w'.cell? ⟨gb304, 0, none⟩ = some (.slice Ao45 t294.length co45) ∧ w'.cell? ⟨gb304, 1, none⟩ = some (.int .i64 t297) ∧ w'.cell? ⟨gb304, 2, none⟩ = some (.slice Ao48 t298.length co48) ∧ w'.cell? ⟨gb304, 3, none⟩ = some (.slice Ao49 t301.length co49) ∧ w'.cell? ⟨gb281, 0, none⟩ = some (.slice A0_0 l0_0.length c0_0) ∧ w'.cell? ⟨gb281, 1, none⟩ = some (.int .i64 a0_1) ∧ w'.cell? ⟨gb281, 2, none⟩ = some (.slice A0_2 l0_2.length c0_2) ∧ w'.cell? ⟨gb281, 3, none⟩ = some (.slice A0_3 l0_3.length c0_3)) (ds := []) #[false, false, false, false, false] (by kernel_rfl) rfl rfl ⟨(blk_cell BK304.out 0).trans rfl, (blk_cell BK304.out 1).trans rfl, (blk_cell BK304.out 2).trans rfl, (blk_cell BK304.out 3).trans rfl, (blk_cell BK281.out 0).trans rfl, (blk_cell BK281.out 1).trans rfl, (blk_cell BK281.out 2).trans rfl, (blk_cell BK281.out 3).trans rfl⟩ (fun hHeld => ?_)
    generalize w50.drew = w51 at HO285 HO289 HO292 HO296 HO300 HO303 BK281 BK304 HB hHeld ⊢
    refine take_ (i := 0) (N := some 22) (v := ?_) (a' := ?_) #[true, false, false, false, false] rfl rfl (by kernel_rfl) (fun _ _ _ h => h) (Or.inl ⟨by rfl, ?_⟩) hHeld ?_ ?_
    rotate_left
    ·
     rintro w' ⟨s0, s1, s2, s3, s4, s5, s6, s7⟩
     go_simp
     first | with_reducible rfl | (rw [if_neg (by omega)]; done)
    rotate_left
    ·
     simp only [Act.put, sa_, sb_, sc_, i64_w, i32_w]
     rfl
    refine take_ (i := 1) (N := some 23) (v := ?_) (a' := ?_) #[true, true, false, false, false] rfl rfl (by kernel_rfl) (fun _ _ _ h => h) (Or.inl ⟨by rfl, ?_⟩) hHeld ?_ ?_
    rotate_left
    ·
     rintro w' ⟨s0, s1, s2, s3, s4, s5, s6, s7⟩
     go_simp
     first | with_reducible rfl | (rw [if_neg (by omega)]; done)
    rotate_left
    ·
     simp only [Act.put, sa_, sb_, sc_, i64_w, i32_w]
     rfl
    refine one_ (i := 2) (N := some 24) #[true, true, true, false, false] rfl rfl (by kernel_rfl) (by decide) (fun K hK => ?_)
    refine goes_ Try.func25 (by kernel_rfl) rfl #[.agg #[.slice A0_0 l0_0.length c0_0, .int .i64 a0_1, .slice A0_2 l0_2.length c0_2, .slice A0_3 l0_3.length c0_3]] (by rfl) rfl rfl tz_ ?_
    with_reducible refine (laws_toDesk.calls k _ _ l0_0 a0_1 _ _ l0_2 _ _ l0_3 t306 t309 t310 t313 _ ?side1 ?side2 ?side3 ?side4 ?side5 ?side6 A30.out).mono ?_
    (case side1 => exact tD_)
    (case side2 => exact HC0_0.out)
    (case side3 => exact tD_)
    (case side4 => exact HC0_2.out)
    (case side5 => exact tD_)
    (case side6 => exact HC0_3.out)
    rintro e w52 ⟨v307, v311, v314, rfl, ho0, ho1, ho2, hb⟩
    refine ⟨_, rfl, ?_⟩
    have n0_ := Aside0.mk (Kd.R_mono (Kd.R_told (Kd.R_told (Kd.R_old (rR_ HO285.out) hb) (Kd.R_base ho0)) (Kd.R_base ho1)) (fun _ h_ => h_.1))
    have n1_ := Aside0.mk (Kd.R_mono (Kd.R_told (Kd.R_told (Kd.R_old (rR_ HO289.out) hb) (Kd.R_base ho0)) (Kd.R_base ho1)) (fun _ h_ => h_.1))
    have n2_ := Aside0.mk (Kd.S_mono (Kd.S_told (Kd.S_told (Kd.S_told (Kd.S_old (rS_ HO292.out) hb) (Kd.R_base ho0)) (Kd.R_base ho1)) (Kd.S_base ho2)) (fun _ h_ => h_.1))
    have n3_ := Aside0.mk (Kd.R_mono (Kd.R_told (Kd.R_told (Kd.R_old (rR_ HO296.out) hb) (Kd.R_base ho0)) (Kd.R_base ho1)) (fun _ h_ => h_.1))
    have n4_ := Aside0.mk (Kd.R_mono (Kd.R_told (Kd.R_told (Kd.R_old (rR_ HO300.out) hb) (Kd.R_base ho0)) (Kd.R_base ho1)) (fun _ h_ => h_.1))
    have n5_ := Aside0.mk (Kd.S_mono (Kd.S_told (Kd.S_told (Kd.S_told (Kd.S_old (rS_ HO303.out) hb) (Kd.R_base ho0)) (Kd.R_base ho1)) (Kd.S_base ho2)) (fun _ h_ => h_.1))
    have n6_ := Aside0.mk (Kd.R_lower (Kd.R_new' (Kd.R_new' (Kd.R_new' (Kd.R_new' ho0 (Kd.R_lt (rR_ HO285.out))) (Kd.R_lt (rR_ HO289.out))) (Kd.R_lt (rR_ HO296.out))) (Kd.R_lt (rR_ HO300.out))) (below_size (tb_ HB.out)))
    have n7_ := Aside0.mk (Kd.R_lower (Kd.R_new' (Kd.R_new' (Kd.R_new' (Kd.R_new' ho1 (Kd.R_lt (rR_ HO285.out))) (Kd.R_lt (rR_ HO289.out))) (Kd.R_lt (rR_ HO296.out))) (Kd.R_lt (rR_ HO300.out))) (below_size (tb_ HB.out)))
    have n8_ := Aside0.mk (Kd.S_lower (Kd.S_new' (Kd.S_new' (Kd.S_new' (Kd.S_new' (Kd.S_new' (Kd.S_new' ho2 (Kd.R_lt (rR_ HO285.out))) (Kd.R_lt (rR_ HO289.out))) (Kd.S_lt (rS_ HO292.out))) (Kd.R_lt (rR_ HO296.out))) (Kd.R_lt (rR_ HO300.out))) (Kd.S_lt (rS_ HO303.out))) (below_size (tb_ HB.out)))
    have n9_ := Aside0.mk (blk_below (g := gb281) (o := .cells #[.slice A0_0 l0_0.length c0_0, .int .i64 a0_1, .slice A0_2 l0_2.length c0_2, .slice A0_3 l0_3.length c0_3] 44 (0, 0)) (tk_ BK281.out) hb)
    have n10_ := Aside0.mk (blk_below (g := gb304) (o := .cells #[.slice Ao45 t294.length co45, .int .i64 t297, .slice Ao48 t298.length co48, .slice Ao49 t301.length co49] 37 (0, 0)) (tk_ BK304.out) hb)
    have n11_ := Aside0.mk (below_step (tb_ HB.out) hb)
    clear HO285
    clear HO289
    clear HO292
    clear HO296
    clear HO300
    clear HO303
    clear BK281
    clear BK304
    clear HB
    have HO285 := n0_
    have HO289 := n1_
    have HO292 := n2_
    have HO296 := n3_
    have HO300 := n4_
    have HO303 := n5_
    have HO308 := n6_
    have HO312 := n7_
    have HO315 := n8_
    have BK281 := n9_
    have BK304 := n10_
    have HB := n11_
    clear n0_ n1_ n2_ n3_ n4_ n5_ n6_ n7_ n8_ n9_ n10_ n11_
    (try clear hb)
    (try clear hb2)
    (try clear hk)
    (try clear hi)
    (try clear ho0)
    (try clear ho1)
    (try clear ho2)
    obtain ⟨Ao53, co53, eo53⟩ := Kd.R_slice HO308.out
    (first | subst eo53 | (injection eo53 with f1_ f2_ f3_; have f4_ := f1_.symm; have f5_ := f3_.symm; clear f1_ f2_ f3_; subst f4_; subst f5_))
    obtain ⟨Ao54, co54, eo54⟩ := Kd.R_slice HO312.out
    (first | subst eo54 | (injection eo54 with f1_ f2_ f3_; have f4_ := f1_.symm; have f5_ := f3_.symm; clear f1_ f2_ f3_; subst f4_; subst f5_))
    obtain ⟨Ao55, co55, eo55⟩ := Kd.S_slice HO315.out
    (first | subst eo55 | (injection eo55 with f1_ f2_ f3_; have f4_ := f1_.symm; have f5_ := f3_.symm; clear f1_ f2_ f3_; subst f4_; subst f5_))
    refine hK.out _ _ ⟨(blk_cell BK304.out 0).trans rfl, (blk_cell BK304.out 1).trans rfl, (blk_cell BK304.out 2).trans rfl, (blk_cell BK304.out 3).trans rfl, (blk_cell BK281.out 0).trans rfl, (blk_cell BK281.out 1).trans rfl, (blk_cell BK281.out 2).trans rfl, (blk_cell BK281.out 3).trans rfl⟩ (fun hHeld => ?_)
    clear hK K
    refine norm_ (a' := ?_) ?_ ?_
    rotate_left
    ·
     show Act.put _ (some 24) _ = _
     simp only [Act.put, sa_, sb_, sc_, i64_w, i32_w]
     rfl
    refine one_ (i := 3) (N := some 25) #[true, true, true, true, false] rfl rfl (by kernel_rfl) (by decide) (fun K hK => ?_)
    refine goes_ Try.func26 (by kernel_rfl) rfl #[.agg #[.slice Ao45 t294.length co45, .int .i64 t297, .slice Ao48 t298.length co48, .slice Ao49 t301.length co49], .agg #[.slice Ao53 t306.length co53, .int .i64 t309, .slice Ao54 t310.length co54, .slice Ao55 t313.length co55]] (by rfl) rfl rfl tz_ ?_
    with_reducible refine (laws_eqDesk.calls k _ _ t294 t297 _ _ t298 _ _ t301 _ _ t306 t309 _ _ t310 _ _ t313 true _ ?side1 ?side2 ?side3 ?side4 ?side5 ?side6 ?side7 ?side8 ?side9 ?side10 ?side11 ?side12 A31.out).mono ?_
    (case side1 => repeat (first | exact (Kd.R_reads' HO296.out).2.2 | (with_reducible refine Kd.C_alloc ?_ _) | (with_reducible refine Kd.C_drewN ?_ _) | (with_reducible refine Kd.C_drew ?_)))
    (case side2 => exact (Kd.R_reads' HO296.out).2.1)
    (case side3 => repeat (first | exact (Kd.R_reads' HO300.out).2.2 | (with_reducible refine Kd.C_alloc ?_ _) | (with_reducible refine Kd.C_drewN ?_ _) | (with_reducible refine Kd.C_drew ?_)))
    (case side4 => exact (Kd.R_reads' HO300.out).2.1)
    (case side5 => repeat (first | exact (Kd.S_reads' HO303.out).2.2 | (with_reducible refine Kd.C_alloc ?_ _) | (with_reducible refine Kd.C_drewN ?_ _) | (with_reducible refine Kd.C_drew ?_)))
    (case side6 => exact (Kd.S_reads' HO303.out).2.1)
    (case side7 => repeat (first | exact (Kd.R_reads' HO308.out).2.2 | (with_reducible refine Kd.C_alloc ?_ _) | (with_reducible refine Kd.C_drewN ?_ _) | (with_reducible refine Kd.C_drew ?_)))
    (case side8 => exact (Kd.R_reads' HO308.out).2.1)
    (case side9 => repeat (first | exact (Kd.R_reads' HO312.out).2.2 | (with_reducible refine Kd.C_alloc ?_ _) | (with_reducible refine Kd.C_drewN ?_ _) | (with_reducible refine Kd.C_drew ?_)))
    (case side10 => exact (Kd.R_reads' HO312.out).2.1)
    (case side11 => repeat (first | exact (Kd.S_reads' HO315.out).2.2 | (with_reducible refine Kd.C_alloc ?_ _) | (with_reducible refine Kd.C_drewN ?_ _) | (with_reducible refine Kd.C_drew ?_)))
    (case side12 => exact (Kd.S_reads' HO315.out).2.1)
    rintro e w56 ⟨rfl, hb⟩
    refine ⟨_, rfl, ?_⟩
    have n0_ := Aside0.mk (Kd.R_below (rR_ HO285.out) hb)
    have n1_ := Aside0.mk (Kd.R_below (rR_ HO289.out) hb)
    have n2_ := Aside0.mk (Kd.S_below (rS_ HO292.out) hb)
    have n3_ := Aside0.mk (Kd.R_below (rR_ HO296.out) hb)
    have n4_ := Aside0.mk (Kd.R_below (rR_ HO300.out) hb)
    have n5_ := Aside0.mk (Kd.S_below (rS_ HO303.out) hb)
    have n6_ := Aside0.mk (Kd.R_below (rR_ HO308.out) hb)
    have n7_ := Aside0.mk (Kd.R_below (rR_ HO312.out) hb)
    have n8_ := Aside0.mk (Kd.S_below (rS_ HO315.out) hb)
    have n9_ := Aside0.mk (blk_below (g := gb281) (o := .cells #[.slice A0_0 l0_0.length c0_0, .int .i64 a0_1, .slice A0_2 l0_2.length c0_2, .slice A0_3 l0_3.length c0_3] 44 (0, 0)) (tk_ BK281.out) hb)
    have n10_ := Aside0.mk (blk_below (g := gb304) (o := .cells #[.slice Ao45 t294.length co45, .int .i64 t297, .slice Ao48 t298.length co48, .slice Ao49 t301.length co49] 37 (0, 0)) (tk_ BK304.out) hb)
    have n11_ := Aside0.mk (below_step (tb_ HB.out) hb)
    clear HO285
    clear HO289
    clear HO292
    clear HO296
    clear HO300
    clear HO303
    clear HO308
    clear HO312
    clear HO315
    clear BK281
    clear BK304
    clear HB
    have HO285 := n0_
    have HO289 := n1_
    have HO292 := n2_
    have HO296 := n3_
    have HO300 := n4_
    have HO303 := n5_
    have HO308 := n6_
    have HO312 := n7_
    have HO315 := n8_
    have BK281 := n9_
    have BK304 := n10_
    have HB := n11_
    clear n0_ n1_ n2_ n3_ n4_ n5_ n6_ n7_ n8_ n9_ n10_ n11_
    (try clear hb)
    (try clear hb2)
    (try clear hk)
    (try clear hi)
    refine hK.out _ _ ⟨(blk_cell BK304.out 0).trans rfl, (blk_cell BK304.out 1).trans rfl, (blk_cell BK304.out 2).trans rfl, (blk_cell BK304.out 3).trans rfl, (blk_cell BK281.out 0).trans rfl, (blk_cell BK281.out 1).trans rfl, (blk_cell BK281.out 2).trans rfl, (blk_cell BK281.out 3).trans rfl⟩ (fun hHeld => ?_)
    clear hK K
    refine norm_ (a' := ?_) ?_ ?_
    rotate_left
    ·
     show Act.put _ (some 25) _ = _
     simp only [Act.put, sa_, sb_, sc_, i64_w, i32_w]
     rfl
    refine pure_ (i := 4) (N := some 26) (v := ?_) (a' := ?_) #[true, true, true, true, true] rfl rfl (by kernel_rfl) (fun _ _ _ h => h) (Or.inl ⟨by rfl, ?_⟩) ?_ ?_
    rotate_left
    ·
     intro w'
     go_simp
     first | with_reducible rfl | (rw [if_neg (by omega)]; done)
    rotate_left
    ·
     simp only [Act.put, sa_, sb_, sc_, i64_w, i32_w]
     rfl
    refine done_ (by kernel_rfl) ?_
    try go_wp2
    go_ret
    exact ⟨by first | rfl | (simp [errW_none, errW_some] <;> rfl) | (simp [*, errW_none, errW_some] <;> rfl), (tb_ HB.out)⟩
   ·
    replace c32 := Bool.eq_false_iff.mpr c32
    subst c32
    have H1 : (some false) = some r := by rw [if_neg (show ¬ (false = true) by decide)] at H; exact H
    clear H
    have H := H1
    clear H1
    obtain rfl := Option.some.inj H
    go_enter Try.func6, Try.ntmps6
    try go_wp2_with (first | ((with_reducible refine gate_dst (N := 1) rfl ?_); refine box_event ?hg (N := 1) ?hd (cs := #[.slice A0_0 l0_0.length c0_0, .int .i64 a0_1, .slice A0_2 l0_2.length c0_2, .slice A0_3 l0_3.length c0_3]) (t := 44) ?hr ?_; (case hd => rfl); (case hg => rfl); (case hr => first | (go_simp; done) | (go_simp; rfl)); intro gb281 hg w57 hbox hb; have n0_ := Aside0.mk (below_step (tb_ HB.out) hb); have n1_ := Aside0.mk (hbox); have n2_ := Aside0.mk ((by rw [hg]; exact (below_size (tb_ HB.out)) : w.heap.size ≤ gb281)); have n3_ := Aside0.mk ((by rw [hg]; exact (below_size (tb_ HB.out)) : w.heap.size ≤ gb281)); clear HB; have HB := n0_; have BK281 := n1_; have GW281 := n2_; have GE281 := n3_; clear n0_ n1_ n2_ n3_ hb hbox hg; have hcz58_0 : w57.cell? ⟨gb281, 0, none⟩ = some (.slice A0_0 l0_0.length c0_0) := (blk_cell BK281.out 0).trans rfl; have hcz58_1 : w57.cell? ⟨gb281, 1, none⟩ = some (.int .i64 a0_1) := (blk_cell BK281.out 1).trans rfl; have hcz58_2 : w57.cell? ⟨gb281, 2, none⟩ = some (.slice A0_2 l0_2.length c0_2) := (blk_cell BK281.out 2).trans rfl; have hcz58_3 : w57.cell? ⟨gb281, 3, none⟩ = some (.slice A0_3 l0_3.length c0_3) := (blk_cell BK281.out 3).trans rfl; have hfz58_0 := blk_frozen BK281.out 0; have hfz58_1 := blk_frozen BK281.out 1; have hfz58_2 := blk_frozen BK281.out 2; have hfz58_3 := blk_frozen BK281.out 3) | ((with_reducible refine gate_callee (f := 23) rfl ?_); refine goesL_ (some 9) rfl rfl Try.func23 (by kernel_rfl) rfl #[.agg #[.slice A0_0 l0_0.length c0_0, .int .i64 a0_1, .slice A0_2 l0_2.length c0_2, .slice A0_3 l0_3.length c0_3], .int .i64 1048576] rfl tz_ ?_; (with_reducible refine (laws_szDesk.calls k _ _ l0_0 a0_1 _ _ l0_2 _ _ l0_3 1048576 t282 _ ?side1 ?side2 ?side3 ?side4 ?side5 ?side6 A2.out).mono ?_); (case side1 => exact tD_); (case side2 => exact HC0_0.out); (case side3 => exact tD_); (case side4 => exact HC0_2.out); (case side5 => exact tD_); (case side6 => exact HC0_3.out); rintro e w59 ⟨rfl, hb⟩; refine ⟨_, rfl, ?_⟩; have n0_ := Aside0.mk (blk_below (g := gb281) (o := .cells #[.slice A0_0 l0_0.length c0_0, .int .i64 a0_1, .slice A0_2 l0_2.length c0_2, .slice A0_3 l0_3.length c0_3] 44 (0, 0)) (tk_ BK281.out) hb); have n1_ := Aside0.mk (below_step (tb_ HB.out) hb); clear BK281 HB; have BK281 := n0_; have HB := n1_; clear n0_ n1_; (try clear hb); (try clear hb2); (try clear hk); (try clear hi); have hcz60_0 : w59.cell? ⟨gb281, 0, none⟩ = some (.slice A0_0 l0_0.length c0_0) := (blk_cell BK281.out 0).trans rfl; have hcz60_1 : w59.cell? ⟨gb281, 1, none⟩ = some (.int .i64 a0_1) := (blk_cell BK281.out 1).trans rfl; have hcz60_2 : w59.cell? ⟨gb281, 2, none⟩ = some (.slice A0_2 l0_2.length c0_2) := (blk_cell BK281.out 2).trans rfl; have hcz60_3 : w59.cell? ⟨gb281, 3, none⟩ = some (.slice A0_3 l0_3.length c0_3) := (blk_cell BK281.out 3).trans rfl; have hfz60_0 := blk_frozen BK281.out 0; have hfz60_1 := blk_frozen BK281.out 1; have hfz60_2 := blk_frozen BK281.out 2; have hfz60_3 := blk_frozen BK281.out 3) | ((with_reducible refine gate_callee (f := 25) rfl ?_); refine goesL_ (some 13) rfl rfl Try.func25 (by kernel_rfl) rfl #[.agg #[.slice A0_0 l0_0.length c0_0, .int .i64 a0_1, .slice A0_2 l0_2.length c0_2, .slice A0_3 l0_3.length c0_3]] rfl tz_ ?_; (with_reducible refine (laws_toDesk.calls k _ _ l0_0 a0_1 _ _ l0_2 _ _ l0_3 t283 t286 t287 t290 _ ?side1 ?side2 ?side3 ?side4 ?side5 ?side6 A7.out).mono ?_); (case side1 => exact tD_); (case side2 => exact HC0_0.out); (case side3 => exact tD_); (case side4 => exact HC0_2.out); (case side5 => exact tD_); (case side6 => exact HC0_3.out); rintro e w61 ⟨v284, v288, v291, rfl, ho0, ho1, ho2, hb⟩; refine ⟨_, rfl, ?_⟩; have n0_ := Aside0.mk (Kd.R_lower ho0 (below_size (tb_ HB.out))); have n1_ := Aside0.mk (Kd.R_lower ho1 (below_size (tb_ HB.out))); have n2_ := Aside0.mk (Kd.S_lower ho2 (below_size (tb_ HB.out))); have n3_ := Aside0.mk (blk_below (g := gb281) (o := .cells #[.slice A0_0 l0_0.length c0_0, .int .i64 a0_1, .slice A0_2 l0_2.length c0_2, .slice A0_3 l0_3.length c0_3] 44 (0, 0)) (tk_ BK281.out) hb); have n4_ := Aside0.mk (below_step (tb_ HB.out) hb); clear BK281 HB; have HO285 := n0_; have HO289 := n1_; have HO292 := n2_; have BK281 := n3_; have HB := n4_; clear n0_ n1_ n2_ n3_ n4_; (try clear hb); (try clear hb2); (try clear hk); (try clear hi); (try clear ho0); (try clear ho1); (try clear ho2); obtain ⟨Ao62, co62, eo62⟩ := Kd.R_slice HO285.out; subst eo62; obtain ⟨Ao63, co63, eo63⟩ := Kd.R_slice HO289.out; subst eo63; obtain ⟨Ao64, co64, eo64⟩ := Kd.S_slice HO292.out; subst eo64) | ((with_reducible refine gate_callee (f := 24) rfl ?_); refine goesL_ (some 14) rfl rfl Try.func24 (by kernel_rfl) rfl #[.agg #[.slice Ao62 t283.length co62, .int .i64 t286, .slice Ao63 t287.length co63, .slice Ao64 t290.length co64]] rfl tz_ ?_; (with_reducible refine (spec_DeskOk.calls k _ _ t283 t286 _ _ t287 _ _ t290 t293 _ ?side1 ?side2 ?side3 ?side4 ?side5 ?side6 A8.out).mono ?_); (case side1 => repeat (first | exact (Kd.R_reads' HO285.out).2.2 | (with_reducible refine Kd.C_alloc ?_ _) | (with_reducible refine Kd.C_drewN ?_ _) | (with_reducible refine Kd.C_drew ?_))); (case side2 => exact (Kd.R_reads' HO285.out).2.1); (case side3 => repeat (first | exact (Kd.R_reads' HO289.out).2.2 | (with_reducible refine Kd.C_alloc ?_ _) | (with_reducible refine Kd.C_drewN ?_ _) | (with_reducible refine Kd.C_drew ?_))); (case side4 => exact (Kd.R_reads' HO289.out).2.1); (case side5 => repeat (first | exact (Kd.S_reads' HO292.out).2.2 | (with_reducible refine Kd.C_alloc ?_ _) | (with_reducible refine Kd.C_drewN ?_ _) | (with_reducible refine Kd.C_drew ?_))); (case side6 => exact (Kd.S_reads' HO292.out).2.1); rintro e w65 ⟨rfl, hb⟩; refine ⟨_, rfl, ?_⟩; have n0_ := Aside0.mk (Kd.R_below (rR_ HO285.out) hb); have n1_ := Aside0.mk (Kd.R_below (rR_ HO289.out) hb); have n2_ := Aside0.mk (Kd.S_below (rS_ HO292.out) hb); have n3_ := Aside0.mk (blk_below (g := gb281) (o := .cells #[.slice A0_0 l0_0.length c0_0, .int .i64 a0_1, .slice A0_2 l0_2.length c0_2, .slice A0_3 l0_3.length c0_3] 44 (0, 0)) (tk_ BK281.out) hb); have n4_ := Aside0.mk (below_step (tb_ HB.out) hb); clear HO285 HO289 HO292 BK281 HB; have HO285 := n0_; have HO289 := n1_; have HO292 := n2_; have BK281 := n3_; have HB := n4_; clear n0_ n1_ n2_ n3_ n4_; (try clear hb); (try clear hb2); (try clear hk); (try clear hi); have hcz66_0 : w65.cell? ⟨gb281, 0, none⟩ = some (.slice A0_0 l0_0.length c0_0) := (blk_cell BK281.out 0).trans rfl; have hcz66_1 : w65.cell? ⟨gb281, 1, none⟩ = some (.int .i64 a0_1) := (blk_cell BK281.out 1).trans rfl; have hcz66_2 : w65.cell? ⟨gb281, 2, none⟩ = some (.slice A0_2 l0_2.length c0_2) := (blk_cell BK281.out 2).trans rfl; have hcz66_3 : w65.cell? ⟨gb281, 3, none⟩ = some (.slice A0_3 l0_3.length c0_3) := (blk_cell BK281.out 3).trans rfl; have hfz66_0 := blk_frozen BK281.out 0; have hfz66_1 := blk_frozen BK281.out 1; have hfz66_2 := blk_frozen BK281.out 2; have hfz66_3 := blk_frozen BK281.out 3) | ((with_reducible refine gate_callee (f := 25) rfl ?_); refine goesL_ (some 16) rfl rfl Try.func25 (by kernel_rfl) rfl #[.agg #[.slice A0_0 l0_0.length c0_0, .int .i64 a0_1, .slice A0_2 l0_2.length c0_2, .slice A0_3 l0_3.length c0_3]] rfl tz_ ?_; (with_reducible refine (laws_toDesk.calls k _ _ l0_0 a0_1 _ _ l0_2 _ _ l0_3 t294 t297 t298 t301 _ ?side1 ?side2 ?side3 ?side4 ?side5 ?side6 A9.out).mono ?_); (case side1 => exact tD_); (case side2 => exact HC0_0.out); (case side3 => exact tD_); (case side4 => exact HC0_2.out); (case side5 => exact tD_); (case side6 => exact HC0_3.out); rintro e w67 ⟨v295, v299, v302, rfl, ho0, ho1, ho2, hb⟩; refine ⟨_, rfl, ?_⟩; have n0_ := Aside0.mk (Kd.R_mono (Kd.R_told (Kd.R_told (Kd.R_old (rR_ HO285.out) hb) (Kd.R_base ho0)) (Kd.R_base ho1)) (fun _ h_ => h_.1)); have n1_ := Aside0.mk (Kd.R_mono (Kd.R_told (Kd.R_told (Kd.R_old (rR_ HO289.out) hb) (Kd.R_base ho0)) (Kd.R_base ho1)) (fun _ h_ => h_.1)); have n2_ := Aside0.mk (Kd.S_mono (Kd.S_told (Kd.S_told (Kd.S_told (Kd.S_old (rS_ HO292.out) hb) (Kd.R_base ho0)) (Kd.R_base ho1)) (Kd.S_base ho2)) (fun _ h_ => h_.1)); have n3_ := Aside0.mk (Kd.R_lower (Kd.R_new' (Kd.R_new' ho0 (Kd.R_lt (rR_ HO285.out))) (Kd.R_lt (rR_ HO289.out))) (below_size (tb_ HB.out))); have n4_ := Aside0.mk (Kd.R_lower (Kd.R_new' (Kd.R_new' ho1 (Kd.R_lt (rR_ HO285.out))) (Kd.R_lt (rR_ HO289.out))) (below_size (tb_ HB.out))); have n5_ := Aside0.mk (Kd.S_lower (Kd.S_new' (Kd.S_new' (Kd.S_new' ho2 (Kd.R_lt (rR_ HO285.out))) (Kd.R_lt (rR_ HO289.out))) (Kd.S_lt (rS_ HO292.out))) (below_size (tb_ HB.out))); have n6_ := Aside0.mk (blk_below (g := gb281) (o := .cells #[.slice A0_0 l0_0.length c0_0, .int .i64 a0_1, .slice A0_2 l0_2.length c0_2, .slice A0_3 l0_3.length c0_3] 44 (0, 0)) (tk_ BK281.out) hb); have n7_ := Aside0.mk (below_step (tb_ HB.out) hb); clear HO285 HO289 HO292 BK281 HB; have HO285 := n0_; have HO289 := n1_; have HO292 := n2_; have HO296 := n3_; have HO300 := n4_; have HO303 := n5_; have BK281 := n6_; have HB := n7_; clear n0_ n1_ n2_ n3_ n4_ n5_ n6_ n7_; (try clear hb); (try clear hb2); (try clear hk); (try clear hi); (try clear ho0); (try clear ho1); (try clear ho2)) | ((with_reducible refine gate_dst (N := 5) rfl ?_); refine box_event ?hg (N := 5) ?hd (cs := #[.slice none 0 0, .int .i64 0, .slice none 0 0, .slice none 0 0]) (t := 37) ?hr ?_; (case hd => rfl); (case hg => rfl); (case hr => first | (go_simp; done) | (go_simp; rfl)); intro gb304 hg w68 hbox hb; have n0_ := Aside0.mk (Kd.R_below (rR_ HO285.out) hb); have n1_ := Aside0.mk (Kd.R_below (rR_ HO289.out) hb); have n2_ := Aside0.mk (Kd.S_below (rS_ HO292.out) hb); have n3_ := Aside0.mk (Kd.R_below (rR_ HO296.out) hb); have n4_ := Aside0.mk (Kd.R_below (rR_ HO300.out) hb); have n5_ := Aside0.mk (Kd.S_below (rS_ HO303.out) hb); have n6_ := Aside0.mk (blk_below (g := gb281) (o := .cells #[.slice A0_0 l0_0.length c0_0, .int .i64 a0_1, .slice A0_2 l0_2.length c0_2, .slice A0_3 l0_3.length c0_3] 44 (0, 0)) (tk_ BK281.out) hb); have n7_ := Aside0.mk (below_step (tb_ HB.out) hb); have n8_ := Aside0.mk (hbox); have n9_ := Aside0.mk ((by rw [hg]; exact (below_size (tb_ HB.out)) : w.heap.size ≤ gb304)); have n10_ := Aside0.mk ((by rw [hg]; exact (below_size (tb_ HB.out)) : w.heap.size ≤ gb304)); have n11_ := Aside0.mk ((by rw [hg]; exact Nat.ne_of_lt (blk_lt (g := gb281) (o := .cells #[.slice A0_0 l0_0.length c0_0, .int .i64 a0_1, .slice A0_2 l0_2.length c0_2, .slice A0_3 l0_3.length c0_3] 44 (0, 0)) (tk_ BK281.out)) : gb281 ≠ gb304)); have n12_ := Aside0.mk ((by rw [hg]; exact Nat.ne_of_gt (blk_lt (g := gb281) (o := .cells #[.slice A0_0 l0_0.length c0_0, .int .i64 a0_1, .slice A0_2 l0_2.length c0_2, .slice A0_3 l0_3.length c0_3] 44 (0, 0)) (tk_ BK281.out)) : gb304 ≠ gb281)); clear HO285 HO289 HO292 HO296 HO300 HO303 BK281 HB; have HO285 := n0_; have HO289 := n1_; have HO292 := n2_; have HO296 := n3_; have HO300 := n4_; have HO303 := n5_; have BK281 := n6_; have HB := n7_; have BK304 := n8_; have GW304 := n9_; have GE304 := n10_; have NB281_304 := n11_; have NB304_281 := n12_; clear n0_ n1_ n2_ n3_ n4_ n5_ n6_ n7_ n8_ n9_ n10_ n11_ n12_ hb hbox hg; obtain ⟨Ao69, co69, eo69⟩ := Kd.R_slice HO296.out; subst eo69; have hnb70 := NB304_281.out; have hnc70 := NB281_304.out; have hcz71_0 : w68.cell? ⟨gb304, 0, none⟩ = some (.slice none 0 0) := (blk_cell BK304.out 0).trans rfl; have hcz71_1 : w68.cell? ⟨gb304, 1, none⟩ = some (.int .i64 0) := (blk_cell BK304.out 1).trans rfl; have hcz71_2 : w68.cell? ⟨gb304, 2, none⟩ = some (.slice none 0 0) := (blk_cell BK304.out 2).trans rfl; have hcz71_3 : w68.cell? ⟨gb304, 3, none⟩ = some (.slice none 0 0) := (blk_cell BK304.out 3).trans rfl; have hfz71_0 := blk_frozen BK304.out 0; have hfz71_1 := blk_frozen BK304.out 1; have hfz71_2 := blk_frozen BK304.out 2; have hfz71_3 := blk_frozen BK304.out 3; obtain ⟨Ao72, co72, eo72⟩ := Kd.R_slice HO300.out; subst eo72; obtain ⟨Ao73, co73, eo73⟩ := Kd.S_slice HO303.out; subst eo73) | ((with_reducible refine gate_callee (f := 21) rfl ?_); refine goesL_ (some 18) rfl rfl Try.func21 (by kernel_rfl) rfl #[.agg #[.slice Ao69 t294.length co69, .int .i64 t297, .slice Ao72 t298.length co72, .slice Ao73 t301.length co73]] rfl tz_ ?_; (with_reducible refine (impl_DeskOk.calls k _ _ t294 t297 _ _ t298 _ _ t301 t305 _ ?side1 ?side2 ?side3 ?side4 ?side5 ?side6 A10.out).mono ?_); (case side1 => refine (Kd.R_reads' (e := 3) (base := w.heap.size) (ok := fun k_ => ((some k_ ≠ (.slice Ao72 t298.length co72 : Value).ownBlock ∧ some k_ ≠ (.slice Ao62 t283.length co62 : Value).ownBlock) ∧ some k_ ≠ (.slice Ao63 t287.length co63 : Value).ownBlock)) (n := t294.length) (c := co69) ?_).2.2; exact (by refine qR_ ?_; exact (Kd.R_mono (Kd.R_far (p := ⟨gb304, 3, none⟩) (Kd.R_far (p := ⟨gb304, 2, none⟩) (Kd.R_far (p := ⟨gb304, 1, none⟩) (Kd.R_far (p := ⟨gb304, 0, none⟩) (Kd.R_types HO296.out BK304.out (by decide)) (fun _ hk => hk.2) (.slice Ao69 t294.length co69)) (fun _ hk => hk.2) (.int .i64 t297)) (fun _ hk => hk.2) (.slice Ao72 t298.length co72)) (fun _ hk => hk.2) (.slice Ao73 t301.length co73)) (fun _ h_ => h_.1)))); (case side2 => exact (Kd.R_reads' HO296.out).2.1); (case side3 => refine (Kd.R_reads' (e := 3) (base := w.heap.size) (ok := fun k_ => ((some k_ ≠ (.slice Ao69 t294.length co69 : Value).ownBlock ∧ some k_ ≠ (.slice Ao62 t283.length co62 : Value).ownBlock) ∧ some k_ ≠ (.slice Ao63 t287.length co63 : Value).ownBlock)) (n := t298.length) (c := co72) ?_).2.2; exact (by refine qR_ ?_; exact (Kd.R_mono (Kd.R_far (p := ⟨gb304, 3, none⟩) (Kd.R_far (p := ⟨gb304, 2, none⟩) (Kd.R_far (p := ⟨gb304, 1, none⟩) (Kd.R_far (p := ⟨gb304, 0, none⟩) (Kd.R_types HO300.out BK304.out (by decide)) (fun _ hk => hk.2) (.slice Ao69 t294.length co69)) (fun _ hk => hk.2) (.int .i64 t297)) (fun _ hk => hk.2) (.slice Ao72 t298.length co72)) (fun _ hk => hk.2) (.slice Ao73 t301.length co73)) (fun _ h_ => h_.1)))); (case side4 => exact (Kd.R_reads' HO300.out).2.1); (case side5 => refine (Kd.S_reads' (e := 27) (base := w.heap.size) (ok := fun k_ => ((((some k_ ≠ (.slice Ao69 t294.length co69 : Value).ownBlock ∧ some k_ ≠ (.slice Ao72 t298.length co72 : Value).ownBlock) ∧ some k_ ≠ (.slice Ao62 t283.length co62 : Value).ownBlock) ∧ some k_ ≠ (.slice Ao63 t287.length co63 : Value).ownBlock) ∧ some k_ ≠ (.slice Ao64 t290.length co64 : Value).ownBlock)) (n := t301.length) (c := co73) ?_).2.2; exact (by refine qS_ ?_; exact (Kd.S_mono (Kd.S_far (p := ⟨gb304, 3, none⟩) (Kd.S_far (p := ⟨gb304, 2, none⟩) (Kd.S_far (p := ⟨gb304, 1, none⟩) (Kd.S_far (p := ⟨gb304, 0, none⟩) (Kd.S_types HO303.out BK304.out (by decide)) (fun _ hk => hk.2) (.slice Ao69 t294.length co69)) (fun _ hk => hk.2) (.int .i64 t297)) (fun _ hk => hk.2) (.slice Ao72 t298.length co72)) (fun _ hk => hk.2) (.slice Ao73 t301.length co73)) (fun _ h_ => h_.1)))); (case side6 => exact (Kd.S_reads' HO303.out).2.1); rintro e w74 ⟨rfl, hb⟩; refine ⟨_, rfl, ?_⟩; have n0_ := Aside0.mk (Kd.R_below (by refine qR_ ?_; exact (Kd.R_mono (Kd.R_far (p := ⟨gb304, 3, none⟩) (Kd.R_far (p := ⟨gb304, 2, none⟩) (Kd.R_far (p := ⟨gb304, 1, none⟩) (Kd.R_far (p := ⟨gb304, 0, none⟩) (Kd.R_types HO285.out BK304.out (by decide)) (fun _ hk => hk.2) (.slice Ao69 t294.length co69)) (fun _ hk => hk.2) (.int .i64 t297)) (fun _ hk => hk.2) (.slice Ao72 t298.length co72)) (fun _ hk => hk.2) (.slice Ao73 t301.length co73)) (fun _ h_ => h_.1))) hb); have n1_ := Aside0.mk (Kd.R_below (by refine qR_ ?_; exact (Kd.R_mono (Kd.R_far (p := ⟨gb304, 3, none⟩) (Kd.R_far (p := ⟨gb304, 2, none⟩) (Kd.R_far (p := ⟨gb304, 1, none⟩) (Kd.R_far (p := ⟨gb304, 0, none⟩) (Kd.R_types HO289.out BK304.out (by decide)) (fun _ hk => hk.2) (.slice Ao69 t294.length co69)) (fun _ hk => hk.2) (.int .i64 t297)) (fun _ hk => hk.2) (.slice Ao72 t298.length co72)) (fun _ hk => hk.2) (.slice Ao73 t301.length co73)) (fun _ h_ => h_.1))) hb); have n2_ := Aside0.mk (Kd.S_below (by refine qS_ ?_; exact (Kd.S_mono (Kd.S_far (p := ⟨gb304, 3, none⟩) (Kd.S_far (p := ⟨gb304, 2, none⟩) (Kd.S_far (p := ⟨gb304, 1, none⟩) (Kd.S_far (p := ⟨gb304, 0, none⟩) (Kd.S_types HO292.out BK304.out (by decide)) (fun _ hk => hk.2) (.slice Ao69 t294.length co69)) (fun _ hk => hk.2) (.int .i64 t297)) (fun _ hk => hk.2) (.slice Ao72 t298.length co72)) (fun _ hk => hk.2) (.slice Ao73 t301.length co73)) (fun _ h_ => h_.1))) hb); have n3_ := Aside0.mk (Kd.R_below (by refine qR_ ?_; exact (Kd.R_mono (Kd.R_far (p := ⟨gb304, 3, none⟩) (Kd.R_far (p := ⟨gb304, 2, none⟩) (Kd.R_far (p := ⟨gb304, 1, none⟩) (Kd.R_far (p := ⟨gb304, 0, none⟩) (Kd.R_types HO296.out BK304.out (by decide)) (fun _ hk => hk.2) (.slice Ao69 t294.length co69)) (fun _ hk => hk.2) (.int .i64 t297)) (fun _ hk => hk.2) (.slice Ao72 t298.length co72)) (fun _ hk => hk.2) (.slice Ao73 t301.length co73)) (fun _ h_ => h_.1))) hb); have n4_ := Aside0.mk (Kd.R_below (by refine qR_ ?_; exact (Kd.R_mono (Kd.R_far (p := ⟨gb304, 3, none⟩) (Kd.R_far (p := ⟨gb304, 2, none⟩) (Kd.R_far (p := ⟨gb304, 1, none⟩) (Kd.R_far (p := ⟨gb304, 0, none⟩) (Kd.R_types HO300.out BK304.out (by decide)) (fun _ hk => hk.2) (.slice Ao69 t294.length co69)) (fun _ hk => hk.2) (.int .i64 t297)) (fun _ hk => hk.2) (.slice Ao72 t298.length co72)) (fun _ hk => hk.2) (.slice Ao73 t301.length co73)) (fun _ h_ => h_.1))) hb); have n5_ := Aside0.mk (Kd.S_below (by refine qS_ ?_; exact (Kd.S_mono (Kd.S_far (p := ⟨gb304, 3, none⟩) (Kd.S_far (p := ⟨gb304, 2, none⟩) (Kd.S_far (p := ⟨gb304, 1, none⟩) (Kd.S_far (p := ⟨gb304, 0, none⟩) (Kd.S_types HO303.out BK304.out (by decide)) (fun _ hk => hk.2) (.slice Ao69 t294.length co69)) (fun _ hk => hk.2) (.int .i64 t297)) (fun _ hk => hk.2) (.slice Ao72 t298.length co72)) (fun _ hk => hk.2) (.slice Ao73 t301.length co73)) (fun _ h_ => h_.1))) hb); have n6_ := Aside0.mk (blk_below (g := gb281) (o := .cells #[.slice A0_0 l0_0.length c0_0, .int .i64 a0_1, .slice A0_2 l0_2.length c0_2, .slice A0_3 l0_3.length c0_3] 44 (0, 0)) (tk_ BK281.out) hb); have n7_ := Aside0.mk (blk_below (g := gb304) (o := .cells #[.slice Ao69 t294.length co69, .int .i64 t297, .slice Ao72 t298.length co72, .slice Ao73 t301.length co73] 37 (0, 0)) (by refine bq_ ?_; refine blk_put (cs := #[.slice Ao69 t294.length co69, .int .i64 t297, .slice Ao72 t298.length co72, .slice none 0 0]) ?_ 3 _ rfl; refine bq_ ?_; refine blk_put (cs := #[.slice Ao69 t294.length co69, .int .i64 t297, .slice none 0 0, .slice none 0 0]) ?_ 2 _ rfl; refine bq_ ?_; refine blk_put (cs := #[.slice Ao69 t294.length co69, .int .i64 0, .slice none 0 0, .slice none 0 0]) ?_ 1 _ rfl; refine bq_ ?_; refine blk_put (cs := #[.slice none 0 0, .int .i64 0, .slice none 0 0, .slice none 0 0]) ?_ 0 _ rfl; exact tk_ BK304.out) hb); have n8_ := Aside0.mk (below_step (tb_ HB.out) hb); clear HO285 HO289 HO292 HO296 HO300 HO303 BK281 BK304 HB; have HO285 := n0_; have HO289 := n1_; have HO292 := n2_; have HO296 := n3_; have HO300 := n4_; have HO303 := n5_; have BK281 := n6_; have BK304 := n7_; have HB := n8_; clear n0_ n1_ n2_ n3_ n4_ n5_ n6_ n7_ n8_; (try clear hb); (try clear hb2); (try clear hk); (try clear hi)))
    have n0_ := Aside0.mk (Kd.R_drew HO285.out)
    have n1_ := Aside0.mk (Kd.R_drew HO289.out)
    have n2_ := Aside0.mk (Kd.S_drew HO292.out)
    have n3_ := Aside0.mk (Kd.R_drew HO296.out)
    have n4_ := Aside0.mk (Kd.R_drew HO300.out)
    have n5_ := Aside0.mk (Kd.S_drew HO303.out)
    have n6_ := Aside0.mk (blk_drew BK281.out)
    have n7_ := Aside0.mk (blk_drew BK304.out)
    have n8_ := Aside0.mk (ld_ HB.out)
    clear HO285
    clear HO289
    clear HO292
    clear HO296
    clear HO300
    clear HO303
    clear BK281
    clear BK304
    clear HB
    have HO285 := n0_
    have HO289 := n1_
    have HO292 := n2_
    have HO296 := n3_
    have HO300 := n4_
    have HO303 := n5_
    have BK281 := n6_
    have BK304 := n7_
    have HB := n8_
    clear n0_ n1_ n2_ n3_ n4_ n5_ n6_ n7_ n8_
    refine start_ (n := 5) (S := fun w' => w'.cell? ⟨gb304, 0, none⟩ = some (.slice Ao69 t294.length co69) ∧ w'.cell? ⟨gb304, 1, none⟩ = some (.int .i64 t297) ∧ w'.cell? ⟨gb304, 2, none⟩ = some (.slice Ao72 t298.length co72) ∧ w'.cell? ⟨gb304, 3, none⟩ = some (.slice Ao73 t301.length co73) ∧ w'.cell? ⟨gb281, 0, none⟩ = some (.slice A0_0 l0_0.length c0_0) ∧ w'.cell? ⟨gb281, 1, none⟩ = some (.int .i64 a0_1) ∧ w'.cell? ⟨gb281, 2, none⟩ = some (.slice A0_2 l0_2.length c0_2) ∧ w'.cell? ⟨gb281, 3, none⟩ = some (.slice A0_3 l0_3.length c0_3)) (ds := []) #[false, false, false, false, false] (by kernel_rfl) rfl rfl ⟨(blk_cell BK304.out 0).trans rfl, (blk_cell BK304.out 1).trans rfl, (blk_cell BK304.out 2).trans rfl, (blk_cell BK304.out 3).trans rfl, (blk_cell BK281.out 0).trans rfl, (blk_cell BK281.out 1).trans rfl, (blk_cell BK281.out 2).trans rfl, (blk_cell BK281.out 3).trans rfl⟩ (fun hHeld => ?_)
    generalize w74.drew = w75 at HO285 HO289 HO292 HO296 HO300 HO303 BK281 BK304 HB hHeld ⊢
    refine take_ (i := 0) (N := some 22) (v := ?_) (a' := ?_) #[true, false, false, false, false] rfl rfl (by kernel_rfl) (fun _ _ _ h => h) (Or.inl ⟨by rfl, ?_⟩) hHeld ?_ ?_
    rotate_left
    ·
     rintro w' ⟨s0, s1, s2, s3, s4, s5, s6, s7⟩
     go_simp
     first | with_reducible rfl | (rw [if_neg (by omega)]; done)
    rotate_left
    ·
     simp only [Act.put, sa_, sb_, sc_, i64_w, i32_w]
     rfl
    refine take_ (i := 1) (N := some 23) (v := ?_) (a' := ?_) #[true, true, false, false, false] rfl rfl (by kernel_rfl) (fun _ _ _ h => h) (Or.inl ⟨by rfl, ?_⟩) hHeld ?_ ?_
    rotate_left
    ·
     rintro w' ⟨s0, s1, s2, s3, s4, s5, s6, s7⟩
     go_simp
     first | with_reducible rfl | (rw [if_neg (by omega)]; done)
    rotate_left
    ·
     simp only [Act.put, sa_, sb_, sc_, i64_w, i32_w]
     rfl
    refine one_ (i := 2) (N := some 24) #[true, true, true, false, false] rfl rfl (by kernel_rfl) (by decide) (fun K hK => ?_)
    refine goes_ Try.func25 (by kernel_rfl) rfl #[.agg #[.slice A0_0 l0_0.length c0_0, .int .i64 a0_1, .slice A0_2 l0_2.length c0_2, .slice A0_3 l0_3.length c0_3]] (by rfl) rfl rfl tz_ ?_
    with_reducible refine (laws_toDesk.calls k _ _ l0_0 a0_1 _ _ l0_2 _ _ l0_3 t306 t309 t310 t313 _ ?side1 ?side2 ?side3 ?side4 ?side5 ?side6 A30.out).mono ?_
    (case side1 => exact tD_)
    (case side2 => exact HC0_0.out)
    (case side3 => exact tD_)
    (case side4 => exact HC0_2.out)
    (case side5 => exact tD_)
    (case side6 => exact HC0_3.out)
    rintro e w76 ⟨v307, v311, v314, rfl, ho0, ho1, ho2, hb⟩
    refine ⟨_, rfl, ?_⟩
    have n0_ := Aside0.mk (Kd.R_mono (Kd.R_told (Kd.R_told (Kd.R_old (rR_ HO285.out) hb) (Kd.R_base ho0)) (Kd.R_base ho1)) (fun _ h_ => h_.1))
    have n1_ := Aside0.mk (Kd.R_mono (Kd.R_told (Kd.R_told (Kd.R_old (rR_ HO289.out) hb) (Kd.R_base ho0)) (Kd.R_base ho1)) (fun _ h_ => h_.1))
    have n2_ := Aside0.mk (Kd.S_mono (Kd.S_told (Kd.S_told (Kd.S_told (Kd.S_old (rS_ HO292.out) hb) (Kd.R_base ho0)) (Kd.R_base ho1)) (Kd.S_base ho2)) (fun _ h_ => h_.1))
    have n3_ := Aside0.mk (Kd.R_mono (Kd.R_told (Kd.R_told (Kd.R_old (rR_ HO296.out) hb) (Kd.R_base ho0)) (Kd.R_base ho1)) (fun _ h_ => h_.1))
    have n4_ := Aside0.mk (Kd.R_mono (Kd.R_told (Kd.R_told (Kd.R_old (rR_ HO300.out) hb) (Kd.R_base ho0)) (Kd.R_base ho1)) (fun _ h_ => h_.1))
    have n5_ := Aside0.mk (Kd.S_mono (Kd.S_told (Kd.S_told (Kd.S_told (Kd.S_old (rS_ HO303.out) hb) (Kd.R_base ho0)) (Kd.R_base ho1)) (Kd.S_base ho2)) (fun _ h_ => h_.1))
    have n6_ := Aside0.mk (Kd.R_lower (Kd.R_new' (Kd.R_new' (Kd.R_new' (Kd.R_new' ho0 (Kd.R_lt (rR_ HO285.out))) (Kd.R_lt (rR_ HO289.out))) (Kd.R_lt (rR_ HO296.out))) (Kd.R_lt (rR_ HO300.out))) (below_size (tb_ HB.out)))
    have n7_ := Aside0.mk (Kd.R_lower (Kd.R_new' (Kd.R_new' (Kd.R_new' (Kd.R_new' ho1 (Kd.R_lt (rR_ HO285.out))) (Kd.R_lt (rR_ HO289.out))) (Kd.R_lt (rR_ HO296.out))) (Kd.R_lt (rR_ HO300.out))) (below_size (tb_ HB.out)))
    have n8_ := Aside0.mk (Kd.S_lower (Kd.S_new' (Kd.S_new' (Kd.S_new' (Kd.S_new' (Kd.S_new' (Kd.S_new' ho2 (Kd.R_lt (rR_ HO285.out))) (Kd.R_lt (rR_ HO289.out))) (Kd.S_lt (rS_ HO292.out))) (Kd.R_lt (rR_ HO296.out))) (Kd.R_lt (rR_ HO300.out))) (Kd.S_lt (rS_ HO303.out))) (below_size (tb_ HB.out)))
    have n9_ := Aside0.mk (blk_below (g := gb281) (o := .cells #[.slice A0_0 l0_0.length c0_0, .int .i64 a0_1, .slice A0_2 l0_2.length c0_2, .slice A0_3 l0_3.length c0_3] 44 (0, 0)) (tk_ BK281.out) hb)
    have n10_ := Aside0.mk (blk_below (g := gb304) (o := .cells #[.slice Ao69 t294.length co69, .int .i64 t297, .slice Ao72 t298.length co72, .slice Ao73 t301.length co73] 37 (0, 0)) (tk_ BK304.out) hb)
    have n11_ := Aside0.mk (below_step (tb_ HB.out) hb)
    clear HO285
    clear HO289
    clear HO292
    clear HO296
    clear HO300
    clear HO303
    clear BK281
    clear BK304
    clear HB
    have HO285 := n0_
    have HO289 := n1_
    have HO292 := n2_
    have HO296 := n3_
    have HO300 := n4_
    have HO303 := n5_
    have HO308 := n6_
    have HO312 := n7_
    have HO315 := n8_
    have BK281 := n9_
    have BK304 := n10_
    have HB := n11_
    clear n0_ n1_ n2_ n3_ n4_ n5_ n6_ n7_ n8_ n9_ n10_ n11_
    (try clear hb)
    (try clear hb2)
    (try clear hk)
    (try clear hi)
    (try clear ho0)
    (try clear ho1)
    (try clear ho2)
    obtain ⟨Ao77, co77, eo77⟩ := Kd.R_slice HO308.out
    (first | subst eo77 | (injection eo77 with f1_ f2_ f3_; have f4_ := f1_.symm; have f5_ := f3_.symm; clear f1_ f2_ f3_; subst f4_; subst f5_))
    obtain ⟨Ao78, co78, eo78⟩ := Kd.R_slice HO312.out
    (first | subst eo78 | (injection eo78 with f1_ f2_ f3_; have f4_ := f1_.symm; have f5_ := f3_.symm; clear f1_ f2_ f3_; subst f4_; subst f5_))
    obtain ⟨Ao79, co79, eo79⟩ := Kd.S_slice HO315.out
    (first | subst eo79 | (injection eo79 with f1_ f2_ f3_; have f4_ := f1_.symm; have f5_ := f3_.symm; clear f1_ f2_ f3_; subst f4_; subst f5_))
    refine hK.out _ _ ⟨(blk_cell BK304.out 0).trans rfl, (blk_cell BK304.out 1).trans rfl, (blk_cell BK304.out 2).trans rfl, (blk_cell BK304.out 3).trans rfl, (blk_cell BK281.out 0).trans rfl, (blk_cell BK281.out 1).trans rfl, (blk_cell BK281.out 2).trans rfl, (blk_cell BK281.out 3).trans rfl⟩ (fun hHeld => ?_)
    clear hK K
    refine norm_ (a' := ?_) ?_ ?_
    rotate_left
    ·
     show Act.put _ (some 24) _ = _
     simp only [Act.put, sa_, sb_, sc_, i64_w, i32_w]
     rfl
    refine one_ (i := 3) (N := some 25) #[true, true, true, true, false] rfl rfl (by kernel_rfl) (by decide) (fun K hK => ?_)
    refine goes_ Try.func26 (by kernel_rfl) rfl #[.agg #[.slice Ao69 t294.length co69, .int .i64 t297, .slice Ao72 t298.length co72, .slice Ao73 t301.length co73], .agg #[.slice Ao77 t306.length co77, .int .i64 t309, .slice Ao78 t310.length co78, .slice Ao79 t313.length co79]] (by rfl) rfl rfl tz_ ?_
    with_reducible refine (laws_eqDesk.calls k _ _ t294 t297 _ _ t298 _ _ t301 _ _ t306 t309 _ _ t310 _ _ t313 false _ ?side1 ?side2 ?side3 ?side4 ?side5 ?side6 ?side7 ?side8 ?side9 ?side10 ?side11 ?side12 A31.out).mono ?_
    (case side1 => repeat (first | exact (Kd.R_reads' HO296.out).2.2 | (with_reducible refine Kd.C_alloc ?_ _) | (with_reducible refine Kd.C_drewN ?_ _) | (with_reducible refine Kd.C_drew ?_)))
    (case side2 => exact (Kd.R_reads' HO296.out).2.1)
    (case side3 => repeat (first | exact (Kd.R_reads' HO300.out).2.2 | (with_reducible refine Kd.C_alloc ?_ _) | (with_reducible refine Kd.C_drewN ?_ _) | (with_reducible refine Kd.C_drew ?_)))
    (case side4 => exact (Kd.R_reads' HO300.out).2.1)
    (case side5 => repeat (first | exact (Kd.S_reads' HO303.out).2.2 | (with_reducible refine Kd.C_alloc ?_ _) | (with_reducible refine Kd.C_drewN ?_ _) | (with_reducible refine Kd.C_drew ?_)))
    (case side6 => exact (Kd.S_reads' HO303.out).2.1)
    (case side7 => repeat (first | exact (Kd.R_reads' HO308.out).2.2 | (with_reducible refine Kd.C_alloc ?_ _) | (with_reducible refine Kd.C_drewN ?_ _) | (with_reducible refine Kd.C_drew ?_)))
    (case side8 => exact (Kd.R_reads' HO308.out).2.1)
    (case side9 => repeat (first | exact (Kd.R_reads' HO312.out).2.2 | (with_reducible refine Kd.C_alloc ?_ _) | (with_reducible refine Kd.C_drewN ?_ _) | (with_reducible refine Kd.C_drew ?_)))
    (case side10 => exact (Kd.R_reads' HO312.out).2.1)
    (case side11 => repeat (first | exact (Kd.S_reads' HO315.out).2.2 | (with_reducible refine Kd.C_alloc ?_ _) | (with_reducible refine Kd.C_drewN ?_ _) | (with_reducible refine Kd.C_drew ?_)))
    (case side12 => exact (Kd.S_reads' HO315.out).2.1)
    rintro e w80 ⟨rfl, hb⟩
    refine ⟨_, rfl, ?_⟩
    have n0_ := Aside0.mk (Kd.R_below (rR_ HO285.out) hb)
    have n1_ := Aside0.mk (Kd.R_below (rR_ HO289.out) hb)
    have n2_ := Aside0.mk (Kd.S_below (rS_ HO292.out) hb)
    have n3_ := Aside0.mk (Kd.R_below (rR_ HO296.out) hb)
    have n4_ := Aside0.mk (Kd.R_below (rR_ HO300.out) hb)
    have n5_ := Aside0.mk (Kd.S_below (rS_ HO303.out) hb)
    have n6_ := Aside0.mk (Kd.R_below (rR_ HO308.out) hb)
    have n7_ := Aside0.mk (Kd.R_below (rR_ HO312.out) hb)
    have n8_ := Aside0.mk (Kd.S_below (rS_ HO315.out) hb)
    have n9_ := Aside0.mk (blk_below (g := gb281) (o := .cells #[.slice A0_0 l0_0.length c0_0, .int .i64 a0_1, .slice A0_2 l0_2.length c0_2, .slice A0_3 l0_3.length c0_3] 44 (0, 0)) (tk_ BK281.out) hb)
    have n10_ := Aside0.mk (blk_below (g := gb304) (o := .cells #[.slice Ao69 t294.length co69, .int .i64 t297, .slice Ao72 t298.length co72, .slice Ao73 t301.length co73] 37 (0, 0)) (tk_ BK304.out) hb)
    have n11_ := Aside0.mk (below_step (tb_ HB.out) hb)
    clear HO285
    clear HO289
    clear HO292
    clear HO296
    clear HO300
    clear HO303
    clear HO308
    clear HO312
    clear HO315
    clear BK281
    clear BK304
    clear HB
    have HO285 := n0_
    have HO289 := n1_
    have HO292 := n2_
    have HO296 := n3_
    have HO300 := n4_
    have HO303 := n5_
    have HO308 := n6_
    have HO312 := n7_
    have HO315 := n8_
    have BK281 := n9_
    have BK304 := n10_
    have HB := n11_
    clear n0_ n1_ n2_ n3_ n4_ n5_ n6_ n7_ n8_ n9_ n10_ n11_
    (try clear hb)
    (try clear hb2)
    (try clear hk)
    (try clear hi)
    refine hK.out _ _ ⟨(blk_cell BK304.out 0).trans rfl, (blk_cell BK304.out 1).trans rfl, (blk_cell BK304.out 2).trans rfl, (blk_cell BK304.out 3).trans rfl, (blk_cell BK281.out 0).trans rfl, (blk_cell BK281.out 1).trans rfl, (blk_cell BK281.out 2).trans rfl, (blk_cell BK281.out 3).trans rfl⟩ (fun hHeld => ?_)
    clear hK K
    refine norm_ (a' := ?_) ?_ ?_
    rotate_left
    ·
     show Act.put _ (some 25) _ = _
     simp only [Act.put, sa_, sb_, sc_, i64_w, i32_w]
     rfl
    refine pure_ (i := 4) (N := some 26) (v := ?_) (a' := ?_) #[true, true, true, true, true] rfl rfl (by kernel_rfl) (fun _ _ _ h => h) (Or.inl ⟨by rfl, ?_⟩) ?_ ?_
    rotate_left
    ·
     intro w'
     go_simp
     first | with_reducible rfl | (rw [if_neg (by omega)]; done)
    rotate_left
    ·
     simp only [Act.put, sa_, sb_, sc_, i64_w, i32_w]
     rfl
    refine done_ (by kernel_rfl) ?_
    try go_wp2
    go_ret
    exact ⟨by first | rfl | (simp [errW_none, errW_some] <;> rfl) | (simp [*, errW_none, errW_some] <;> rfl), (tb_ HB.out)⟩

end Go.Proofs.Ytlnbobpmjbcejaa.MFnExactDeskOk
