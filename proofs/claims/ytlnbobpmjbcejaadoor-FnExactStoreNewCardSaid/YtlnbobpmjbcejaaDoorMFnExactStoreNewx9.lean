/- For the law FnExactStoreNew: walks of the functions that it reaches: each call returns what the plain function beside it tells. The conditions stand in each statement. -/
import Derived.Test.YtlnbobpmjbcejaaDoorMFnExactStoreNewx0
import Derived.Test.YtlnbobpmjbcejaaDoorMFnExactStoreNewx1
import Derived.Test.YtlnbobpmjbcejaaDoorMFnExactStoreNewx5
import Derived.Test.YtlnbobpmjbcejaaDoorMFnExactStoreNewx8
namespace Go.Proofs.YtlnbobpmjbcejaaDoor.MFnExactStoreNew
open Go.RowKit Go.Proofs.YtlnbobpmjbcejaaDoorW.PrintWords Go.Proofs.YtlnbobpmjbcejaaDoorW.PrintLast Go.Proofs.YtlnbobpmjbcejaaDoorW.PrintMore
attribute [local go_sem] max2_int min2_int max_two min_two max_three min_three max_four min_four   -- for this text's walks alone
set_option linter.unusedVariables false
set_option linter.unusedSimpArgs false

/-! ### laws_FnExactStoreNew: function 6 -/
def laws_FnExactStoreNew.j0 : Nat → Bool → List Int → Int → List Int → List Int → Int → List Int → Option (Bool)
 | 0, _, _, _, _, _, _, _ => none
 | k + 1, x35, x292000, x292001, x292002, x313000, x313001, x313002 => if x35 = true then (some false) else ((laws_toPlace.f k x292000 x292001 x292002).bind fun bt319 => ((laws_eqPlace.f k x313000 x313001 x313002 bt319.1 bt319.2.1 bt319.2.2).bind fun t326 => (if t326 = true then (some true) else (some false))))
def laws_FnExactStoreNew.f (k : Nat) (l0_0 : List Int) (a0_1 : Int) (l0_2 : List Int) : Option (Bool) := (laws_szPlace.f l0_0 a0_1 l0_2 1048576).bind fun t292 => (if t292 < 0 then (some true) else ((laws_toPlace.f k l0_0 a0_1 l0_2).bind fun bt293 => ((spec_StoreNew.f k bt293.1 bt293.2.1 bt293.2.2).bind fun bt300 => ((laws_toPlace.f k l0_0 a0_1 l0_2).bind fun bt305 => ((impl_StoreNew.f k bt305.1 bt305.2.1 bt305.2.2).bind fun bt313 => ((laws_eqStore.f bt313.1 bt313.2.1 bt313.2.2.1 bt300.1 bt300.2.1 bt300.2.2.1).bind fun t318 => (if t318 = true then (laws_FnExactStoreNew.j0 k (bt313.2.2.2 != bt300.2.2.2) l0_0 a0_1 l0_2 bt305.1 bt305.2.1 bt305.2.2) else (laws_FnExactStoreNew.j0 k true l0_0 a0_1 l0_2 bt305.1 bt305.2.1 bt305.2.2))))))))
theorem laws_FnExactStoreNew.mono_l : ∀ k, (∀ y0 y1 y2 y3 y4 y5 y6, LeO (laws_FnExactStoreNew.j0 k y0 y1 y2 y3 y4 y5 y6) (laws_FnExactStoreNew.j0 (k + 1) y0 y1 y2 y3 y4 y5 y6))
 | 0 => fun _ _ _ _ _ _ _ r h => by simp [laws_FnExactStoreNew.j0] at h
 | k + 1 => by
  have ih0 := laws_FnExactStoreNew.mono_l k
  ·
   intro y0 y1 y2 y3 y4 y5 y6
   unfold laws_FnExactStoreNew.j0
   repeat' first
   | (with_reducible exact ih0 _ _ _ _ _ _ _)
   | (with_reducible exact impl_StoreNew.mono _ _ _ _)
   | (with_reducible exact laws_eqPlace.mono _ _ _ _ _ _ _)
   | (with_reducible exact laws_toPlace.mono _ _ _ _)
   | (with_reducible exact spec_StoreNew.mono _ _ _ _)
   | (with_reducible exact LeO.refl _)
   | (with_reducible exact LeO.none _)
   | (with_reducible refine LeO.ite ?_ ?_)
   | (with_reducible refine LeO.bind ?_ (fun _ => ?_))
   | exact ih0 _ _ _ _ _ _ _
   | exact impl_StoreNew.mono _ _ _ _
   | exact laws_eqPlace.mono _ _ _ _ _ _ _
   | exact laws_toPlace.mono _ _ _ _
   | exact spec_StoreNew.mono _ _ _ _
   | exact LeO.none _
   | refine LeO.ite ?_ ?_
   | refine LeO.bind ?_ (fun _ => ?_)
theorem laws_FnExactStoreNew.mono : ∀ a0 a1 a2 k, LeO (laws_FnExactStoreNew.f k a0 a1 a2) (laws_FnExactStoreNew.f (k + 1) a0 a1 a2) := by
 intro a0 a1 a2 k
 have ih0 := laws_FnExactStoreNew.mono_l k
 unfold laws_FnExactStoreNew.f
 repeat' first
   | (with_reducible exact ih0 _ _ _ _ _ _ _)
   | (with_reducible exact impl_StoreNew.mono _ _ _ _)
   | (with_reducible exact laws_eqPlace.mono _ _ _ _ _ _ _)
   | (with_reducible exact laws_toPlace.mono _ _ _ _)
   | (with_reducible exact spec_StoreNew.mono _ _ _ _)
   | (with_reducible exact LeO.refl _)
   | (with_reducible exact LeO.none _)
   | (with_reducible refine LeO.ite ?_ ?_)
   | (with_reducible refine LeO.bind ?_ (fun _ => ?_))
   | exact ih0 _ _ _ _ _ _ _
   | exact impl_StoreNew.mono _ _ _ _
   | exact laws_eqPlace.mono _ _ _ _ _ _ _
   | exact laws_toPlace.mono _ _ _ _
   | exact spec_StoreNew.mono _ _ _ _
   | exact LeO.none _
   | refine LeO.ite ?_ ?_
   | refine LeO.bind ?_ (fun _ => ?_)
set_option maxHeartbeats 8000000 in
set_option maxRecDepth 100000 in
theorem laws_FnExactStoreNew.calls (k : Nat) (A0_0 : Option Addr) (c0_0 : Nat) (l0_0 : List Int) (a0_1 : Int) (A0_2 : Option Addr) (c0_2 : Nat) (l0_2 : List Int) (r : Bool) (w : World) (hr0_0 : Kd.C (Kd.int .i64) w A0_0 l0_0.length l0_0) (hc0_0 : l0_0.length ≤ c0_0) (hr0_2 : Kd.C (Kd.int .i64) w A0_2 l0_2.length l0_2) (hc0_2 : l0_2.length ≤ c0_2) (hG : GWa w) (h : laws_FnExactStoreNew.f k l0_0 a0_1 l0_2 = some r) :
  Calls Tryd.prog 6 #[.agg #[.slice A0_0 l0_0.length c0_0, .int .i64 a0_1, .slice A0_2 l0_2.length c0_2]] w fun e w' => e = .returned (.bool r) ∧ Below w.heap.size w w' := by
 have HG := Aside0.mk hG
 clear hG
 have hu37 := Tryd.underlying37
 have hu45 := Tryd.underlying45
 have hu40 := Tryd.underlying40
 have HR0_0 := Aside0.mk hr0_0
 have HC0_0 := Aside0.mk hc0_0
 clear hr0_0 hc0_0
 have HR0_2 := Aside0.mk hr0_2
 have HC0_2 := Aside0.mk hc0_2
 clear hr0_2 hc0_2
 have HB := Aside0.mk (Below.refl w.heap.size w)
 have H : ((laws_szPlace.f l0_0 a0_1 l0_2 1048576).bind fun t292 => (if t292 < 0 then (some true) else ((laws_toPlace.f k l0_0 a0_1 l0_2).bind fun bt293 => ((spec_StoreNew.f k bt293.1 bt293.2.1 bt293.2.2).bind fun bt300 => ((laws_toPlace.f k l0_0 a0_1 l0_2).bind fun bt305 => ((impl_StoreNew.f k bt305.1 bt305.2.1 bt305.2.2).bind fun bt313 => ((laws_eqStore.f bt313.1 bt313.2.1 bt313.2.2.1 bt300.1 bt300.2.1 bt300.2.2.1).bind fun t318 => (if t318 = true then (laws_FnExactStoreNew.j0 k (bt313.2.2.2 != bt300.2.2.2) l0_0 a0_1 l0_2 bt305.1 bt305.2.1 bt305.2.2) else (laws_FnExactStoreNew.j0 k true l0_0 a0_1 l0_2 bt305.1 bt305.2.1 bt305.2.2))))))))) = some r := h
 clear h
 replace H := Option.bind_eq_some_iff.mp H
 obtain ⟨t292, A20, H⟩ := H
 replace H : (if t292 < 0 then (some true) else ((laws_toPlace.f k l0_0 a0_1 l0_2).bind fun bt293 => ((spec_StoreNew.f k bt293.1 bt293.2.1 bt293.2.2).bind fun bt300 => ((laws_toPlace.f k l0_0 a0_1 l0_2).bind fun bt305 => ((impl_StoreNew.f k bt305.1 bt305.2.1 bt305.2.2).bind fun bt313 => ((laws_eqStore.f bt313.1 bt313.2.1 bt313.2.2.1 bt300.1 bt300.2.1 bt300.2.2.1).bind fun t318 => (if t318 = true then (laws_FnExactStoreNew.j0 k (bt313.2.2.2 != bt300.2.2.2) l0_0 a0_1 l0_2 bt305.1 bt305.2.1 bt305.2.2) else (laws_FnExactStoreNew.j0 k true l0_0 a0_1 l0_2 bt305.1 bt305.2.1 bt305.2.2)))))))) = some r := H
 have A2 := Aside0.mk A20
 clear A20
 by_cases c3 : t292 < 0
 ·
  rw [if_pos c3] at H
  have c3b0 : decide (t292 < 0) = true := decide_eq_true c3
  clear c3
  obtain rfl := Option.some.inj H
  go_enter Tryd.func6, Tryd.ntmps6
  go_wp2_with (first | ((with_reducible refine gate_dst (N := 1) rfl ?_); refine box_event ?hg (N := 1) ?hd (cs := #[.slice A0_0 l0_0.length c0_0, .int .i64 a0_1, .slice A0_2 l0_2.length c0_2]) (t := 37) ?hr ?_; (case hd => rfl); (case hg => rfl); (case hr => first | (go_simp; done) | (go_simp; rfl)); intro gb291 hg w4 hbox hb; have n0_ := Aside0.mk (below_step (tb_ HB.out) hb); have n1_ := Aside0.mk (hbox); have n2_ := Aside0.mk ((by rw [hg]; exact (below_size (tb_ HB.out)) : w.heap.size ≤ gb291)); have n3_ := Aside0.mk ((by rw [hg]; exact (below_size (tb_ HB.out)) : w.heap.size ≤ gb291)); clear HB; have HB := n0_; have BK291 := n1_; have GW291 := n2_; have GE291 := n3_; clear n0_ n1_ n2_ n3_ hb hbox hg; have hcz5_0 : w4.cell? ⟨gb291, 0, none⟩ = some (.slice A0_0 l0_0.length c0_0) := (blk_cell BK291.out 0).trans rfl; have hcz5_1 : w4.cell? ⟨gb291, 1, none⟩ = some (.int .i64 a0_1) := (blk_cell BK291.out 1).trans rfl; have hcz5_2 : w4.cell? ⟨gb291, 2, none⟩ = some (.slice A0_2 l0_2.length c0_2) := (blk_cell BK291.out 2).trans rfl; have hfz5_0 := blk_frozen BK291.out 0; have hfz5_1 := blk_frozen BK291.out 1; have hfz5_2 := blk_frozen BK291.out 2) | ((with_reducible refine gate_callee (f := 15) rfl ?_); refine goesL_ (some 11) rfl rfl Tryd.func15 (by kernel_rfl) rfl #[.agg #[.slice A0_0 l0_0.length c0_0, .int .i64 a0_1, .slice A0_2 l0_2.length c0_2], .int .i64 1048576] rfl tz_ ?_; (with_reducible refine (laws_szPlace.calls _ _ l0_0 a0_1 _ _ l0_2 1048576 t292 _ ?side1 ?side2 ?side3 ?side4 A2.out).mono ?_); (case side1 => exact tD_); (case side2 => exact HC0_0.out); (case side3 => exact tD_); (case side4 => exact HC0_2.out); rintro e w6 ⟨rfl, hb⟩; refine ⟨_, rfl, ?_⟩; have n0_ := Aside0.mk (blk_below (g := gb291) (o := .cells #[.slice A0_0 l0_0.length c0_0, .int .i64 a0_1, .slice A0_2 l0_2.length c0_2] 37 (0, 0)) (tk_ BK291.out) hb); have n1_ := Aside0.mk (below_step (tb_ HB.out) hb); clear BK291 HB; have BK291 := n0_; have HB := n1_; clear n0_ n1_; (try clear hb); (try clear hb2); (try clear hk); (try clear hi)))
  go_ret
  exact ⟨by first | rfl | (simp [errW_none, errW_some] <;> rfl) | (simp [*, errW_none, errW_some] <;> rfl), (tb_ HB.out)⟩
 ·
  rw [if_neg c3] at H
  have c3b0 : decide (t292 < 0) = false := decide_eq_false c3
  clear c3
  replace H := Option.bind_eq_some_iff.mp H
  obtain ⟨⟨t293, t296, t297⟩, A70, H⟩ := H
  replace H : ((spec_StoreNew.f k t293 t296 t297).bind fun bt300 => ((laws_toPlace.f k l0_0 a0_1 l0_2).bind fun bt305 => ((impl_StoreNew.f k bt305.1 bt305.2.1 bt305.2.2).bind fun bt313 => ((laws_eqStore.f bt313.1 bt313.2.1 bt313.2.2.1 bt300.1 bt300.2.1 bt300.2.2.1).bind fun t318 => (if t318 = true then (laws_FnExactStoreNew.j0 k (bt313.2.2.2 != bt300.2.2.2) l0_0 a0_1 l0_2 bt305.1 bt305.2.1 bt305.2.2) else (laws_FnExactStoreNew.j0 k true l0_0 a0_1 l0_2 bt305.1 bt305.2.1 bt305.2.2)))))) = some r := H
  have A7 := Aside0.mk A70
  clear A70
  replace H := Option.bind_eq_some_iff.mp H
  obtain ⟨⟨t300, t301, t302, t303⟩, A80, H⟩ := H
  replace H : ((laws_toPlace.f k l0_0 a0_1 l0_2).bind fun bt305 => ((impl_StoreNew.f k bt305.1 bt305.2.1 bt305.2.2).bind fun bt313 => ((laws_eqStore.f bt313.1 bt313.2.1 bt313.2.2.1 t300 t301 t302).bind fun t318 => (if t318 = true then (laws_FnExactStoreNew.j0 k (bt313.2.2.2 != t303) l0_0 a0_1 l0_2 bt305.1 bt305.2.1 bt305.2.2) else (laws_FnExactStoreNew.j0 k true l0_0 a0_1 l0_2 bt305.1 bt305.2.1 bt305.2.2))))) = some r := H
  have A8 := Aside0.mk A80
  clear A80
  replace H := Option.bind_eq_some_iff.mp H
  obtain ⟨⟨t305, t308, t309⟩, A90, H⟩ := H
  replace H : ((impl_StoreNew.f k t305 t308 t309).bind fun bt313 => ((laws_eqStore.f bt313.1 bt313.2.1 bt313.2.2.1 t300 t301 t302).bind fun t318 => (if t318 = true then (laws_FnExactStoreNew.j0 k (bt313.2.2.2 != t303) l0_0 a0_1 l0_2 t305 t308 t309) else (laws_FnExactStoreNew.j0 k true l0_0 a0_1 l0_2 t305 t308 t309)))) = some r := H
  have A9 := Aside0.mk A90
  clear A90
  replace H := Option.bind_eq_some_iff.mp H
  obtain ⟨⟨t313, t314, t315, t316⟩, A100, H⟩ := H
  replace H : ((laws_eqStore.f t313 t314 t315 t300 t301 t302).bind fun t318 => (if t318 = true then (laws_FnExactStoreNew.j0 k (t316 != t303) l0_0 a0_1 l0_2 t305 t308 t309) else (laws_FnExactStoreNew.j0 k true l0_0 a0_1 l0_2 t305 t308 t309))) = some r := H
  have A10 := Aside0.mk A100
  clear A100
  have HC11 := Aside0.mk H
  clear H
  go_enter Tryd.func6, Tryd.ntmps6
  go_upto_region 8 with (first | ((with_reducible refine gate_dst (N := 1) rfl ?_); refine box_event ?hg (N := 1) ?hd (cs := #[.slice A0_0 l0_0.length c0_0, .int .i64 a0_1, .slice A0_2 l0_2.length c0_2]) (t := 37) ?hr ?_; (case hd => rfl); (case hg => rfl); (case hr => first | (go_simp; done) | (go_simp; rfl)); intro gb291 hg w12 hbox hb; have n0_ := Aside0.mk (below_step (tb_ HB.out) hb); have n1_ := Aside0.mk (hbox); have n2_ := Aside0.mk ((by rw [hg]; exact (below_size (tb_ HB.out)) : w.heap.size ≤ gb291)); have n3_ := Aside0.mk ((by rw [hg]; exact (below_size (tb_ HB.out)) : w.heap.size ≤ gb291)); clear HB; have HB := n0_; have BK291 := n1_; have GW291 := n2_; have GE291 := n3_; clear n0_ n1_ n2_ n3_ hb hbox hg; have hcz13_0 : w12.cell? ⟨gb291, 0, none⟩ = some (.slice A0_0 l0_0.length c0_0) := (blk_cell BK291.out 0).trans rfl; have hcz13_1 : w12.cell? ⟨gb291, 1, none⟩ = some (.int .i64 a0_1) := (blk_cell BK291.out 1).trans rfl; have hcz13_2 : w12.cell? ⟨gb291, 2, none⟩ = some (.slice A0_2 l0_2.length c0_2) := (blk_cell BK291.out 2).trans rfl; have hfz13_0 := blk_frozen BK291.out 0; have hfz13_1 := blk_frozen BK291.out 1; have hfz13_2 := blk_frozen BK291.out 2) | ((with_reducible refine gate_callee (f := 15) rfl ?_); refine goesL_ (some 11) rfl rfl Tryd.func15 (by kernel_rfl) rfl #[.agg #[.slice A0_0 l0_0.length c0_0, .int .i64 a0_1, .slice A0_2 l0_2.length c0_2], .int .i64 1048576] rfl tz_ ?_; (with_reducible refine (laws_szPlace.calls _ _ l0_0 a0_1 _ _ l0_2 1048576 t292 _ ?side1 ?side2 ?side3 ?side4 A2.out).mono ?_); (case side1 => exact tD_); (case side2 => exact HC0_0.out); (case side3 => exact tD_); (case side4 => exact HC0_2.out); rintro e w14 ⟨rfl, hb⟩; refine ⟨_, rfl, ?_⟩; have n0_ := Aside0.mk (blk_below (g := gb291) (o := .cells #[.slice A0_0 l0_0.length c0_0, .int .i64 a0_1, .slice A0_2 l0_2.length c0_2] 37 (0, 0)) (tk_ BK291.out) hb); have n1_ := Aside0.mk (below_step (tb_ HB.out) hb); clear BK291 HB; have BK291 := n0_; have HB := n1_; clear n0_ n1_; (try clear hb); (try clear hb2); (try clear hk); (try clear hi); have hcz15_0 : w14.cell? ⟨gb291, 0, none⟩ = some (.slice A0_0 l0_0.length c0_0) := (blk_cell BK291.out 0).trans rfl; have hcz15_1 : w14.cell? ⟨gb291, 1, none⟩ = some (.int .i64 a0_1) := (blk_cell BK291.out 1).trans rfl; have hcz15_2 : w14.cell? ⟨gb291, 2, none⟩ = some (.slice A0_2 l0_2.length c0_2) := (blk_cell BK291.out 2).trans rfl; have hfz15_0 := blk_frozen BK291.out 0; have hfz15_1 := blk_frozen BK291.out 1; have hfz15_2 := blk_frozen BK291.out 2) | ((with_reducible refine gate_callee (f := 17) rfl ?_); refine goesL_ (some 16) rfl rfl Tryd.func17 (by kernel_rfl) rfl #[.agg #[.slice A0_0 l0_0.length c0_0, .int .i64 a0_1, .slice A0_2 l0_2.length c0_2]] rfl tz_ ?_; (with_reducible refine (laws_toPlace.calls k _ _ l0_0 a0_1 _ _ l0_2 t293 t296 t297 _ ?side1 ?side2 ?side3 ?side4 A7.out).mono ?_); (case side1 => exact tD_); (case side2 => exact HC0_0.out); (case side3 => exact tD_); (case side4 => exact HC0_2.out); rintro e w16 ⟨v294, v298, rfl, ho0, ho1, hb⟩; refine ⟨_, rfl, ?_⟩; have n0_ := Aside0.mk (Kd.R_lower ho0 (below_size (tb_ HB.out))); have n1_ := Aside0.mk (Kd.R_lower ho1 (below_size (tb_ HB.out))); have n2_ := Aside0.mk (blk_below (g := gb291) (o := .cells #[.slice A0_0 l0_0.length c0_0, .int .i64 a0_1, .slice A0_2 l0_2.length c0_2] 37 (0, 0)) (tk_ BK291.out) hb); have n3_ := Aside0.mk (below_step (tb_ HB.out) hb); clear BK291 HB; have HO295 := n0_; have HO299 := n1_; have BK291 := n2_; have HB := n3_; clear n0_ n1_ n2_ n3_; (try clear hb); (try clear hb2); (try clear hk); (try clear hi); (try clear ho0); (try clear ho1); obtain ⟨Ao17, co17, eo17⟩ := Kd.R_slice HO295.out; subst eo17; obtain ⟨Ao18, co18, eo18⟩ := Kd.R_slice HO299.out; subst eo18) | ((with_reducible refine gate_callee (f := 20) rfl ?_); refine goesL_ (some 17) rfl rfl Tryd.func20 (by kernel_rfl) rfl #[.agg #[.slice Ao17 t293.length co17, .int .i64 t296, .slice Ao18 t297.length co18]] rfl tz_ ?_; (with_reducible refine (spec_StoreNew.calls k _ _ t293 t296 _ _ t297 t300 t301 t302 t303 _ ?side1 ?side2 ?side3 ?side4 A8.out).mono ?_); (case side1 => repeat (first | exact (Kd.R_reads' HO295.out).2.2 | (with_reducible refine Kd.C_alloc ?_ _) | (with_reducible refine Kd.C_drewN ?_ _) | (with_reducible refine Kd.C_drew ?_))); (case side2 => exact (Kd.R_reads' HO295.out).2.1); (case side3 => repeat (first | exact (Kd.R_reads' HO299.out).2.2 | (with_reducible refine Kd.C_alloc ?_ _) | (with_reducible refine Kd.C_drewN ?_ _) | (with_reducible refine Kd.C_drew ?_))); (case side4 => exact (Kd.R_reads' HO299.out).2.1); rintro e w19 ⟨rfl, hb⟩; refine ⟨_, rfl, ?_⟩; have n0_ := Aside0.mk (Kd.R_below (rR_ HO295.out) hb); have n1_ := Aside0.mk (Kd.R_below (rR_ HO299.out) hb); have n2_ := Aside0.mk (blk_below (g := gb291) (o := .cells #[.slice A0_0 l0_0.length c0_0, .int .i64 a0_1, .slice A0_2 l0_2.length c0_2] 37 (0, 0)) (tk_ BK291.out) hb); have n3_ := Aside0.mk (below_step (tb_ HB.out) hb); clear HO295 HO299 BK291 HB; have HO295 := n0_; have HO299 := n1_; have BK291 := n2_; have HB := n3_; clear n0_ n1_ n2_ n3_; (try clear hb); (try clear hb2); (try clear hk); (try clear hi)) | ((with_reducible refine gate_dst (N := 4) rfl ?_); refine box_event ?hg (N := 4) ?hd (cs := #[.string (⟨#[]⟩ : ByteArray), .string (⟨#[]⟩ : ByteArray), .int .i64 0]) (t := 45) ?hr ?_; (case hd => rfl); (case hg => rfl); (case hr => first | (go_simp; done) | (go_simp; rfl)); intro gb304 hg w20 hbox hb; have n0_ := Aside0.mk (Kd.R_below (rR_ HO295.out) hb); have n1_ := Aside0.mk (Kd.R_below (rR_ HO299.out) hb); have n2_ := Aside0.mk (blk_below (g := gb291) (o := .cells #[.slice A0_0 l0_0.length c0_0, .int .i64 a0_1, .slice A0_2 l0_2.length c0_2] 37 (0, 0)) (tk_ BK291.out) hb); have n3_ := Aside0.mk (below_step (tb_ HB.out) hb); have n4_ := Aside0.mk (hbox); have n5_ := Aside0.mk ((by rw [hg]; exact (below_size (tb_ HB.out)) : w.heap.size ≤ gb304)); have n6_ := Aside0.mk ((by rw [hg]; exact (below_size (tb_ HB.out)) : w.heap.size ≤ gb304)); have n7_ := Aside0.mk ((by rw [hg]; exact Nat.ne_of_lt (blk_lt (g := gb291) (o := .cells #[.slice A0_0 l0_0.length c0_0, .int .i64 a0_1, .slice A0_2 l0_2.length c0_2] 37 (0, 0)) (tk_ BK291.out)) : gb291 ≠ gb304)); have n8_ := Aside0.mk ((by rw [hg]; exact Nat.ne_of_gt (blk_lt (g := gb291) (o := .cells #[.slice A0_0 l0_0.length c0_0, .int .i64 a0_1, .slice A0_2 l0_2.length c0_2] 37 (0, 0)) (tk_ BK291.out)) : gb304 ≠ gb291)); clear HO295 HO299 BK291 HB; have HO295 := n0_; have HO299 := n1_; have BK291 := n2_; have HB := n3_; have BK304 := n4_; have GW304 := n5_; have GE304 := n6_; have NB291_304 := n7_; have NB304_291 := n8_; clear n0_ n1_ n2_ n3_ n4_ n5_ n6_ n7_ n8_ hb hbox hg; have hnb21 := NB304_291.out; have hnc21 := NB291_304.out; have hcz22_0 : w20.cell? ⟨gb304, 0, none⟩ = some (.string (⟨#[]⟩ : ByteArray)) := (blk_cell BK304.out 0).trans rfl; have hcz22_1 : w20.cell? ⟨gb304, 1, none⟩ = some (.string (⟨#[]⟩ : ByteArray)) := (blk_cell BK304.out 1).trans rfl; have hcz22_2 : w20.cell? ⟨gb304, 2, none⟩ = some (.int .i64 0) := (blk_cell BK304.out 2).trans rfl; have hfz22_0 := blk_frozen BK304.out 0; have hfz22_1 := blk_frozen BK304.out 1; have hfz22_2 := blk_frozen BK304.out 2; have hcz23_0 : w20.cell? ⟨gb291, 0, none⟩ = some (.slice A0_0 l0_0.length c0_0) := (blk_cell BK291.out 0).trans rfl; have hcz23_1 : w20.cell? ⟨gb291, 1, none⟩ = some (.int .i64 a0_1) := (blk_cell BK291.out 1).trans rfl; have hcz23_2 : w20.cell? ⟨gb291, 2, none⟩ = some (.slice A0_2 l0_2.length c0_2) := (blk_cell BK291.out 2).trans rfl; have hfz23_0 := blk_frozen BK291.out 0; have hfz23_1 := blk_frozen BK291.out 1; have hfz23_2 := blk_frozen BK291.out 2) | ((with_reducible refine gate_callee (f := 17) rfl ?_); refine goesL_ (some 21) rfl rfl Tryd.func17 (by kernel_rfl) rfl #[.agg #[.slice A0_0 l0_0.length c0_0, .int .i64 a0_1, .slice A0_2 l0_2.length c0_2]] rfl tz_ ?_; (with_reducible refine (laws_toPlace.calls k _ _ l0_0 a0_1 _ _ l0_2 t305 t308 t309 _ ?side1 ?side2 ?side3 ?side4 A9.out).mono ?_); (case side1 => exact Kd.C_below HR0_0.out (tb_ HB.out)); (case side2 => exact HC0_0.out); (case side3 => exact Kd.C_below HR0_2.out (tb_ HB.out)); (case side4 => exact HC0_2.out); rintro e w24 ⟨v306, v310, rfl, ho0, ho1, hb⟩; refine ⟨_, rfl, ?_⟩; have n0_ := Aside0.mk (Kd.R_mono (Kd.R_told (Kd.R_told (Kd.R_old (by refine qR_ ?_; exact (Kd.R_mono (Kd.R_far (p := ⟨gb304, 2, none⟩) (Kd.R_far (p := ⟨gb304, 1, none⟩) (Kd.R_far (p := ⟨gb304, 0, none⟩) (Kd.R_types HO295.out BK304.out (by decide)) (fun _ hk => hk.2) (.string t300)) (fun _ hk => hk.2) (.string t301)) (fun _ hk => hk.2) (.int .i64 t302)) (fun _ h_ => h_.1))) hb) (Kd.R_base ho0)) (Kd.R_base ho1)) (fun _ h_ => h_.1)); have n1_ := Aside0.mk (Kd.R_mono (Kd.R_told (Kd.R_told (Kd.R_old (by refine qR_ ?_; exact (Kd.R_mono (Kd.R_far (p := ⟨gb304, 2, none⟩) (Kd.R_far (p := ⟨gb304, 1, none⟩) (Kd.R_far (p := ⟨gb304, 0, none⟩) (Kd.R_types HO299.out BK304.out (by decide)) (fun _ hk => hk.2) (.string t300)) (fun _ hk => hk.2) (.string t301)) (fun _ hk => hk.2) (.int .i64 t302)) (fun _ h_ => h_.1))) hb) (Kd.R_base ho0)) (Kd.R_base ho1)) (fun _ h_ => h_.1)); have n2_ := Aside0.mk (Kd.R_lower (Kd.R_new' (Kd.R_new' ho0 (Kd.R_lt (by refine qR_ ?_; exact (Kd.R_mono (Kd.R_far (p := ⟨gb304, 2, none⟩) (Kd.R_far (p := ⟨gb304, 1, none⟩) (Kd.R_far (p := ⟨gb304, 0, none⟩) (Kd.R_types HO295.out BK304.out (by decide)) (fun _ hk => hk.2) (.string t300)) (fun _ hk => hk.2) (.string t301)) (fun _ hk => hk.2) (.int .i64 t302)) (fun _ h_ => h_.1))))) (Kd.R_lt (by refine qR_ ?_; exact (Kd.R_mono (Kd.R_far (p := ⟨gb304, 2, none⟩) (Kd.R_far (p := ⟨gb304, 1, none⟩) (Kd.R_far (p := ⟨gb304, 0, none⟩) (Kd.R_types HO299.out BK304.out (by decide)) (fun _ hk => hk.2) (.string t300)) (fun _ hk => hk.2) (.string t301)) (fun _ hk => hk.2) (.int .i64 t302)) (fun _ h_ => h_.1))))) (below_size (tb_ HB.out))); have n3_ := Aside0.mk (Kd.R_lower (Kd.R_new' (Kd.R_new' ho1 (Kd.R_lt (by refine qR_ ?_; exact (Kd.R_mono (Kd.R_far (p := ⟨gb304, 2, none⟩) (Kd.R_far (p := ⟨gb304, 1, none⟩) (Kd.R_far (p := ⟨gb304, 0, none⟩) (Kd.R_types HO295.out BK304.out (by decide)) (fun _ hk => hk.2) (.string t300)) (fun _ hk => hk.2) (.string t301)) (fun _ hk => hk.2) (.int .i64 t302)) (fun _ h_ => h_.1))))) (Kd.R_lt (by refine qR_ ?_; exact (Kd.R_mono (Kd.R_far (p := ⟨gb304, 2, none⟩) (Kd.R_far (p := ⟨gb304, 1, none⟩) (Kd.R_far (p := ⟨gb304, 0, none⟩) (Kd.R_types HO299.out BK304.out (by decide)) (fun _ hk => hk.2) (.string t300)) (fun _ hk => hk.2) (.string t301)) (fun _ hk => hk.2) (.int .i64 t302)) (fun _ h_ => h_.1))))) (below_size (tb_ HB.out))); have n4_ := Aside0.mk (blk_below (g := gb291) (o := .cells #[.slice A0_0 l0_0.length c0_0, .int .i64 a0_1, .slice A0_2 l0_2.length c0_2] 37 (0, 0)) (tk_ BK291.out) hb); have n5_ := Aside0.mk (blk_below (g := gb304) (o := .cells #[.string t300, .string t301, .int .i64 t302] 45 (0, 0)) (by refine bq_ ?_; refine blk_put (cs := #[.string t300, .string t301, .int .i64 0]) ?_ 2 _ rfl; refine bq_ ?_; refine blk_put (cs := #[.string t300, .string (⟨#[]⟩ : ByteArray), .int .i64 0]) ?_ 1 _ rfl; refine bq_ ?_; refine blk_put (cs := #[.string (⟨#[]⟩ : ByteArray), .string (⟨#[]⟩ : ByteArray), .int .i64 0]) ?_ 0 _ rfl; exact tk_ BK304.out) hb); have n6_ := Aside0.mk (below_step (tb_ HB.out) hb); clear HO295 HO299 BK291 BK304 HB; have HO295 := n0_; have HO299 := n1_; have HO307 := n2_; have HO311 := n3_; have BK291 := n4_; have BK304 := n5_; have HB := n6_; clear n0_ n1_ n2_ n3_ n4_ n5_ n6_; (try clear hb); (try clear hb2); (try clear hk); (try clear hi); (try clear ho0); (try clear ho1)) | ((with_reducible refine gate_dst (N := 6) rfl ?_); refine box_event ?hg (N := 6) ?hd (cs := #[.slice none 0 0, .int .i64 0, .slice none 0 0]) (t := 40) ?hr ?_; (case hd => rfl); (case hg => rfl); (case hr => first | (go_simp; done) | (go_simp; rfl)); intro gb312 hg w25 hbox hb; have n0_ := Aside0.mk (Kd.R_below (rR_ HO295.out) hb); have n1_ := Aside0.mk (Kd.R_below (rR_ HO299.out) hb); have n2_ := Aside0.mk (Kd.R_below (rR_ HO307.out) hb); have n3_ := Aside0.mk (Kd.R_below (rR_ HO311.out) hb); have n4_ := Aside0.mk (blk_below (g := gb291) (o := .cells #[.slice A0_0 l0_0.length c0_0, .int .i64 a0_1, .slice A0_2 l0_2.length c0_2] 37 (0, 0)) (tk_ BK291.out) hb); have n5_ := Aside0.mk (blk_below (g := gb304) (o := .cells #[.string t300, .string t301, .int .i64 t302] 45 (0, 0)) (tk_ BK304.out) hb); have n6_ := Aside0.mk (below_step (tb_ HB.out) hb); have n7_ := Aside0.mk (hbox); have n8_ := Aside0.mk ((by rw [hg]; exact (below_size (tb_ HB.out)) : w.heap.size ≤ gb312)); have n9_ := Aside0.mk ((by rw [hg]; exact (below_size (tb_ HB.out)) : w.heap.size ≤ gb312)); have n10_ := Aside0.mk ((by rw [hg]; exact Nat.ne_of_lt (blk_lt (g := gb291) (o := .cells #[.slice A0_0 l0_0.length c0_0, .int .i64 a0_1, .slice A0_2 l0_2.length c0_2] 37 (0, 0)) (tk_ BK291.out)) : gb291 ≠ gb312)); have n11_ := Aside0.mk ((by rw [hg]; exact Nat.ne_of_gt (blk_lt (g := gb291) (o := .cells #[.slice A0_0 l0_0.length c0_0, .int .i64 a0_1, .slice A0_2 l0_2.length c0_2] 37 (0, 0)) (tk_ BK291.out)) : gb312 ≠ gb291)); have n12_ := Aside0.mk ((by rw [hg]; exact Nat.ne_of_lt (blk_lt (g := gb304) (o := .cells #[.string t300, .string t301, .int .i64 t302] 45 (0, 0)) (tk_ BK304.out)) : gb304 ≠ gb312)); have n13_ := Aside0.mk ((by rw [hg]; exact Nat.ne_of_gt (blk_lt (g := gb304) (o := .cells #[.string t300, .string t301, .int .i64 t302] 45 (0, 0)) (tk_ BK304.out)) : gb312 ≠ gb304)); clear HO295 HO299 HO307 HO311 BK291 BK304 HB; have HO295 := n0_; have HO299 := n1_; have HO307 := n2_; have HO311 := n3_; have BK291 := n4_; have BK304 := n5_; have HB := n6_; have BK312 := n7_; have GW312 := n8_; have GE312 := n9_; have NB291_312 := n10_; have NB312_291 := n11_; have NB304_312 := n12_; have NB312_304 := n13_; clear n0_ n1_ n2_ n3_ n4_ n5_ n6_ n7_ n8_ n9_ n10_ n11_ n12_ n13_ hb hbox hg; obtain ⟨Ao26, co26, eo26⟩ := Kd.R_slice HO307.out; subst eo26; have hnb27 := NB312_291.out; have hnc27 := NB291_312.out; have hnb28 := NB312_304.out; have hnc28 := NB304_312.out; have hcz29_0 : w25.cell? ⟨gb312, 0, none⟩ = some (.slice none 0 0) := (blk_cell BK312.out 0).trans rfl; have hcz29_1 : w25.cell? ⟨gb312, 1, none⟩ = some (.int .i64 0) := (blk_cell BK312.out 1).trans rfl; have hcz29_2 : w25.cell? ⟨gb312, 2, none⟩ = some (.slice none 0 0) := (blk_cell BK312.out 2).trans rfl; have hfz29_0 := blk_frozen BK312.out 0; have hfz29_1 := blk_frozen BK312.out 1; have hfz29_2 := blk_frozen BK312.out 2; obtain ⟨Ao30, co30, eo30⟩ := Kd.R_slice HO311.out; subst eo30) | ((with_reducible refine gate_callee (f := 21) rfl ?_); refine goesL_ (some 24) rfl rfl Tryd.func21 (by kernel_rfl) rfl #[.agg #[.slice Ao26 t305.length co26, .int .i64 t308, .slice Ao30 t309.length co30]] rfl tz_ ?_; (with_reducible refine (impl_StoreNew.calls k _ _ t305 t308 _ _ t309 t313 t314 t315 t316 _ ?side1 ?side2 ?side3 ?side4 ?side5 A10.out).mono ?_); (case side1 => refine (Kd.R_reads' (e := 3) (base := w.heap.size) (ok := fun k_ => ((some k_ ≠ (.slice Ao30 t309.length co30 : Value).ownBlock ∧ some k_ ≠ (.slice Ao17 t293.length co17 : Value).ownBlock) ∧ some k_ ≠ (.slice Ao18 t297.length co18 : Value).ownBlock)) (n := t305.length) (c := co26) ?_).2.2; exact (by refine qR_ ?_; exact (Kd.R_mono (Kd.R_far (p := ⟨gb312, 2, none⟩) (Kd.R_far (p := ⟨gb312, 1, none⟩) (Kd.R_far (p := ⟨gb312, 0, none⟩) (Kd.R_types HO307.out BK312.out (by decide)) (fun _ hk => hk.2) (.slice Ao26 t305.length co26)) (fun _ hk => hk.2) (.int .i64 t308)) (fun _ hk => hk.2) (.slice Ao30 t309.length co30)) (fun _ h_ => h_.1)))); (case side2 => exact (Kd.R_reads' HO307.out).2.1); (case side3 => refine (Kd.R_reads' (e := 3) (base := w.heap.size) (ok := fun k_ => ((some k_ ≠ (.slice Ao26 t305.length co26 : Value).ownBlock ∧ some k_ ≠ (.slice Ao17 t293.length co17 : Value).ownBlock) ∧ some k_ ≠ (.slice Ao18 t297.length co18 : Value).ownBlock)) (n := t309.length) (c := co30) ?_).2.2; exact (by refine qR_ ?_; exact (Kd.R_mono (Kd.R_far (p := ⟨gb312, 2, none⟩) (Kd.R_far (p := ⟨gb312, 1, none⟩) (Kd.R_far (p := ⟨gb312, 0, none⟩) (Kd.R_types HO311.out BK312.out (by decide)) (fun _ hk => hk.2) (.slice Ao26 t305.length co26)) (fun _ hk => hk.2) (.int .i64 t308)) (fun _ hk => hk.2) (.slice Ao30 t309.length co30)) (fun _ h_ => h_.1)))); (case side4 => exact (Kd.R_reads' HO311.out).2.1); (case side5 => exact GWa.below HG.out (tb_ HB.out)); rintro e w31 ⟨rfl, hb⟩; refine ⟨_, rfl, ?_⟩; have n0_ := Aside0.mk (Kd.R_below (by refine qR_ ?_; exact (Kd.R_mono (Kd.R_far (p := ⟨gb312, 2, none⟩) (Kd.R_far (p := ⟨gb312, 1, none⟩) (Kd.R_far (p := ⟨gb312, 0, none⟩) (Kd.R_types HO295.out BK312.out (by decide)) (fun _ hk => hk.2) (.slice Ao26 t305.length co26)) (fun _ hk => hk.2) (.int .i64 t308)) (fun _ hk => hk.2) (.slice Ao30 t309.length co30)) (fun _ h_ => h_.1))) hb); have n1_ := Aside0.mk (Kd.R_below (by refine qR_ ?_; exact (Kd.R_mono (Kd.R_far (p := ⟨gb312, 2, none⟩) (Kd.R_far (p := ⟨gb312, 1, none⟩) (Kd.R_far (p := ⟨gb312, 0, none⟩) (Kd.R_types HO299.out BK312.out (by decide)) (fun _ hk => hk.2) (.slice Ao26 t305.length co26)) (fun _ hk => hk.2) (.int .i64 t308)) (fun _ hk => hk.2) (.slice Ao30 t309.length co30)) (fun _ h_ => h_.1))) hb); have n2_ := Aside0.mk (Kd.R_below (by refine qR_ ?_; exact (Kd.R_mono (Kd.R_far (p := ⟨gb312, 2, none⟩) (Kd.R_far (p := ⟨gb312, 1, none⟩) (Kd.R_far (p := ⟨gb312, 0, none⟩) (Kd.R_types HO307.out BK312.out (by decide)) (fun _ hk => hk.2) (.slice Ao26 t305.length co26)) (fun _ hk => hk.2) (.int .i64 t308)) (fun _ hk => hk.2) (.slice Ao30 t309.length co30)) (fun _ h_ => h_.1))) hb); have n3_ := Aside0.mk (Kd.R_below (by refine qR_ ?_; exact (Kd.R_mono (Kd.R_far (p := ⟨gb312, 2, none⟩) (Kd.R_far (p := ⟨gb312, 1, none⟩) (Kd.R_far (p := ⟨gb312, 0, none⟩) (Kd.R_types HO311.out BK312.out (by decide)) (fun _ hk => hk.2) (.slice Ao26 t305.length co26)) (fun _ hk => hk.2) (.int .i64 t308)) (fun _ hk => hk.2) (.slice Ao30 t309.length co30)) (fun _ h_ => h_.1))) hb); have n4_ := Aside0.mk (blk_below (g := gb291) (o := .cells #[.slice A0_0 l0_0.length c0_0, .int .i64 a0_1, .slice A0_2 l0_2.length c0_2] 37 (0, 0)) (tk_ BK291.out) hb); have n5_ := Aside0.mk (blk_below (g := gb304) (o := .cells #[.string t300, .string t301, .int .i64 t302] 45 (0, 0)) (tk_ BK304.out) hb); have n6_ := Aside0.mk (blk_below (g := gb312) (o := .cells #[.slice Ao26 t305.length co26, .int .i64 t308, .slice Ao30 t309.length co30] 40 (0, 0)) (by refine bq_ ?_; refine blk_put (cs := #[.slice Ao26 t305.length co26, .int .i64 t308, .slice none 0 0]) ?_ 2 _ rfl; refine bq_ ?_; refine blk_put (cs := #[.slice Ao26 t305.length co26, .int .i64 0, .slice none 0 0]) ?_ 1 _ rfl; refine bq_ ?_; refine blk_put (cs := #[.slice none 0 0, .int .i64 0, .slice none 0 0]) ?_ 0 _ rfl; exact tk_ BK312.out) hb); have n7_ := Aside0.mk (below_step (tb_ HB.out) hb); clear HO295 HO299 HO307 HO311 BK291 BK304 BK312 HB; have HO295 := n0_; have HO299 := n1_; have HO307 := n2_; have HO311 := n3_; have BK291 := n4_; have BK304 := n5_; have BK312 := n6_; have HB := n7_; clear n0_ n1_ n2_ n3_ n4_ n5_ n6_ n7_; (try clear hb); (try clear hb2); (try clear hk); (try clear hi)) | ((with_reducible refine gate_dst (N := 7) rfl ?_); refine box_event ?hg (N := 7) ?hd (cs := #[.string (⟨#[]⟩ : ByteArray), .string (⟨#[]⟩ : ByteArray), .int .i64 0]) (t := 45) ?hr ?_; (case hd => rfl); (case hg => rfl); (case hr => first | (go_simp; done) | (go_simp; rfl)); intro gb317 hg w32 hbox hb; have n0_ := Aside0.mk (Kd.R_below (rR_ HO295.out) hb); have n1_ := Aside0.mk (Kd.R_below (rR_ HO299.out) hb); have n2_ := Aside0.mk (Kd.R_below (rR_ HO307.out) hb); have n3_ := Aside0.mk (Kd.R_below (rR_ HO311.out) hb); have n4_ := Aside0.mk (blk_below (g := gb291) (o := .cells #[.slice A0_0 l0_0.length c0_0, .int .i64 a0_1, .slice A0_2 l0_2.length c0_2] 37 (0, 0)) (tk_ BK291.out) hb); have n5_ := Aside0.mk (blk_below (g := gb304) (o := .cells #[.string t300, .string t301, .int .i64 t302] 45 (0, 0)) (tk_ BK304.out) hb); have n6_ := Aside0.mk (blk_below (g := gb312) (o := .cells #[.slice Ao26 t305.length co26, .int .i64 t308, .slice Ao30 t309.length co30] 40 (0, 0)) (tk_ BK312.out) hb); have n7_ := Aside0.mk (below_step (tb_ HB.out) hb); have n8_ := Aside0.mk (hbox); have n9_ := Aside0.mk ((by rw [hg]; exact (below_size (tb_ HB.out)) : w.heap.size ≤ gb317)); have n10_ := Aside0.mk ((by rw [hg]; exact (below_size (tb_ HB.out)) : w.heap.size ≤ gb317)); have n11_ := Aside0.mk ((by rw [hg]; exact Nat.ne_of_lt (blk_lt (g := gb291) (o := .cells #[.slice A0_0 l0_0.length c0_0, .int .i64 a0_1, .slice A0_2 l0_2.length c0_2] 37 (0, 0)) (tk_ BK291.out)) : gb291 ≠ gb317)); have n12_ := Aside0.mk ((by rw [hg]; exact Nat.ne_of_gt (blk_lt (g := gb291) (o := .cells #[.slice A0_0 l0_0.length c0_0, .int .i64 a0_1, .slice A0_2 l0_2.length c0_2] 37 (0, 0)) (tk_ BK291.out)) : gb317 ≠ gb291)); have n13_ := Aside0.mk ((by rw [hg]; exact Nat.ne_of_lt (blk_lt (g := gb304) (o := .cells #[.string t300, .string t301, .int .i64 t302] 45 (0, 0)) (tk_ BK304.out)) : gb304 ≠ gb317)); have n14_ := Aside0.mk ((by rw [hg]; exact Nat.ne_of_gt (blk_lt (g := gb304) (o := .cells #[.string t300, .string t301, .int .i64 t302] 45 (0, 0)) (tk_ BK304.out)) : gb317 ≠ gb304)); have n15_ := Aside0.mk ((by rw [hg]; exact Nat.ne_of_lt (blk_lt (g := gb312) (o := .cells #[.slice Ao26 t305.length co26, .int .i64 t308, .slice Ao30 t309.length co30] 40 (0, 0)) (tk_ BK312.out)) : gb312 ≠ gb317)); have n16_ := Aside0.mk ((by rw [hg]; exact Nat.ne_of_gt (blk_lt (g := gb312) (o := .cells #[.slice Ao26 t305.length co26, .int .i64 t308, .slice Ao30 t309.length co30] 40 (0, 0)) (tk_ BK312.out)) : gb317 ≠ gb312)); clear HO295 HO299 HO307 HO311 BK291 BK304 BK312 HB; have HO295 := n0_; have HO299 := n1_; have HO307 := n2_; have HO311 := n3_; have BK291 := n4_; have BK304 := n5_; have BK312 := n6_; have HB := n7_; have BK317 := n8_; have GW317 := n9_; have GE317 := n10_; have NB291_317 := n11_; have NB317_291 := n12_; have NB304_317 := n13_; have NB317_304 := n14_; have NB312_317 := n15_; have NB317_312 := n16_; clear n0_ n1_ n2_ n3_ n4_ n5_ n6_ n7_ n8_ n9_ n10_ n11_ n12_ n13_ n14_ n15_ n16_ hb hbox hg; have hnb33 := NB317_291.out; have hnc33 := NB291_317.out; have hnb34 := NB317_304.out; have hnc34 := NB304_317.out; have hnb35 := NB317_312.out; have hnc35 := NB312_317.out; have hcz36_0 : w32.cell? ⟨gb317, 0, none⟩ = some (.string (⟨#[]⟩ : ByteArray)) := (blk_cell BK317.out 0).trans rfl; have hcz36_1 : w32.cell? ⟨gb317, 1, none⟩ = some (.string (⟨#[]⟩ : ByteArray)) := (blk_cell BK317.out 1).trans rfl; have hcz36_2 : w32.cell? ⟨gb317, 2, none⟩ = some (.int .i64 0) := (blk_cell BK317.out 2).trans rfl; have hfz36_0 := blk_frozen BK317.out 0; have hfz36_1 := blk_frozen BK317.out 1; have hfz36_2 := blk_frozen BK317.out 2))
  (try simp only [Act.put, sa_, sb_, sc_])
  go_cut [35] (fun v35 wc => ∃ (kq : Nat) (x35_10 : Bool), v35 = .bool x35_10 ∧ Aside0 (laws_FnExactStoreNew.j0 kq x35_10 l0_0 a0_1 l0_2 t305 t308 t309 = some r) ∧ Aside0 (kq ≤ k) ∧ Aside0 (Kd.R (Kd.int .i64) 3 wc w.heap.size (fun k_ => some k_ ≠ ((.slice Ao30 t309.length co30) : Value).ownBlock) (.slice Ao26 t305.length co26) t305) ∧ Aside0 (Kd.R (Kd.int .i64) 3 wc w.heap.size (fun k_ => some k_ ≠ ((.slice Ao26 t305.length co26) : Value).ownBlock) (.slice Ao30 t309.length co30) t309) ∧ Aside0 (wc.heap[gb291]? = some (.cells #[(.slice A0_0 l0_0.length c0_0), .int .i64 a0_1, (.slice A0_2 l0_2.length c0_2)] 37 (0, 0))) ∧ Aside0 (wc.heap[gb304]? = some (.cells #[.string t300, .string t301, .int .i64 t302] 45 (0, 0))) ∧ Aside0 (wc.heap[gb312]? = some (.cells #[(.slice Ao26 t305.length co26), .int .i64 t308, (.slice Ao30 t309.length co30)] 40 (0, 0))) ∧ Aside0 (wc.heap[gb317]? = some (.cells #[.string t313, .string t314, .int .i64 t315] 45 (0, 0))) ∧ Aside0 (Below w.heap.size w wc))
  case first =>
   have H := HC11.out
   clear HC11
   replace H := Option.bind_eq_some_iff.mp H
   obtain ⟨t318, A370, H⟩ := H
   replace H : (if t318 = true then (laws_FnExactStoreNew.j0 k (t316 != t303) l0_0 a0_1 l0_2 t305 t308 t309) else (laws_FnExactStoreNew.j0 k true l0_0 a0_1 l0_2 t305 t308 t309)) = some r := H
   have A37 := Aside0.mk A370
   clear A370
   by_cases c38 : t318 = true
   ·
    subst c38
    have H1 : (laws_FnExactStoreNew.j0 k (t316 != t303) l0_0 a0_1 l0_2 t305 t308 t309) = some r := by rw [if_pos rfl] at H; exact H
    clear H
    have H := H1
    clear H1
    have H' := Aside0.mk H
    clear H
    have hnb39 := NB317_291.out
    have hnc39 := NB291_317.out
    have hnb40 := NB317_304.out
    have hnc40 := NB304_317.out
    have hnb41 := NB317_312.out
    have hnc41 := NB312_317.out
    have hcz42_0 : w32.cell? ⟨gb317, 0, none⟩ = some (.string (⟨#[]⟩ : ByteArray)) := (blk_cell BK317.out 0).trans rfl
    have hcz42_1 : w32.cell? ⟨gb317, 1, none⟩ = some (.string (⟨#[]⟩ : ByteArray)) := (blk_cell BK317.out 1).trans rfl
    have hcz42_2 : w32.cell? ⟨gb317, 2, none⟩ = some (.int .i64 0) := (blk_cell BK317.out 2).trans rfl
    have hfz42_0 := blk_frozen BK317.out 0
    have hfz42_1 := blk_frozen BK317.out 1
    have hfz42_2 := blk_frozen BK317.out 2
    have hnb43 := NB304_291.out
    have hnc43 := NB291_304.out
    have hnb44 := NB304_312.out
    have hnc44 := NB312_304.out
    have hcz45_0 : w32.cell? ⟨gb304, 0, none⟩ = some (.string t300) := (blk_cell BK304.out 0).trans rfl
    have hcz45_1 : w32.cell? ⟨gb304, 1, none⟩ = some (.string t301) := (blk_cell BK304.out 1).trans rfl
    have hcz45_2 : w32.cell? ⟨gb304, 2, none⟩ = some (.int .i64 t302) := (blk_cell BK304.out 2).trans rfl
    have hfz45_0 := blk_frozen BK304.out 0
    have hfz45_1 := blk_frozen BK304.out 1
    have hfz45_2 := blk_frozen BK304.out 2
    go_wp2_with (first | ((with_reducible refine gate_callee (f := 22) rfl ?_); refine goesL_ (some 29) rfl rfl Tryd.func22 (by kernel_rfl) rfl #[.agg #[.string t313, .string t314, .int .i64 t315], .agg #[.string t300, .string t301, .int .i64 t302]] rfl tz_ ?_; (with_reducible refine (laws_eqStore.calls t313 t314 t315 t300 t301 t302 true _ A37.out).mono ?_); rintro e w46 ⟨rfl, hb⟩; refine ⟨_, rfl, ?_⟩; have n0_ := Aside0.mk (Kd.R_below (by refine qR_ ?_; exact (Kd.R_mono (Kd.R_far (p := ⟨gb317, 2, none⟩) (Kd.R_far (p := ⟨gb317, 1, none⟩) (Kd.R_far (p := ⟨gb317, 0, none⟩) (Kd.R_types HO295.out BK317.out (by decide)) (fun _ hk => hk.2) (.string t313)) (fun _ hk => hk.2) (.string t314)) (fun _ hk => hk.2) (.int .i64 t315)) (fun _ h_ => h_.1))) hb); have n1_ := Aside0.mk (Kd.R_below (by refine qR_ ?_; exact (Kd.R_mono (Kd.R_far (p := ⟨gb317, 2, none⟩) (Kd.R_far (p := ⟨gb317, 1, none⟩) (Kd.R_far (p := ⟨gb317, 0, none⟩) (Kd.R_types HO299.out BK317.out (by decide)) (fun _ hk => hk.2) (.string t313)) (fun _ hk => hk.2) (.string t314)) (fun _ hk => hk.2) (.int .i64 t315)) (fun _ h_ => h_.1))) hb); have n2_ := Aside0.mk (Kd.R_below (by refine qR_ ?_; exact (Kd.R_mono (Kd.R_far (p := ⟨gb317, 2, none⟩) (Kd.R_far (p := ⟨gb317, 1, none⟩) (Kd.R_far (p := ⟨gb317, 0, none⟩) (Kd.R_types HO307.out BK317.out (by decide)) (fun _ hk => hk.2) (.string t313)) (fun _ hk => hk.2) (.string t314)) (fun _ hk => hk.2) (.int .i64 t315)) (fun _ h_ => h_.1))) hb); have n3_ := Aside0.mk (Kd.R_below (by refine qR_ ?_; exact (Kd.R_mono (Kd.R_far (p := ⟨gb317, 2, none⟩) (Kd.R_far (p := ⟨gb317, 1, none⟩) (Kd.R_far (p := ⟨gb317, 0, none⟩) (Kd.R_types HO311.out BK317.out (by decide)) (fun _ hk => hk.2) (.string t313)) (fun _ hk => hk.2) (.string t314)) (fun _ hk => hk.2) (.int .i64 t315)) (fun _ h_ => h_.1))) hb); have n4_ := Aside0.mk (blk_below (g := gb291) (o := .cells #[.slice A0_0 l0_0.length c0_0, .int .i64 a0_1, .slice A0_2 l0_2.length c0_2] 37 (0, 0)) (tk_ BK291.out) hb); have n5_ := Aside0.mk (blk_below (g := gb304) (o := .cells #[.string t300, .string t301, .int .i64 t302] 45 (0, 0)) (tk_ BK304.out) hb); have n6_ := Aside0.mk (blk_below (g := gb312) (o := .cells #[.slice Ao26 t305.length co26, .int .i64 t308, .slice Ao30 t309.length co30] 40 (0, 0)) (tk_ BK312.out) hb); have n7_ := Aside0.mk (blk_below (g := gb317) (o := .cells #[.string t313, .string t314, .int .i64 t315] 45 (0, 0)) (by refine bq_ ?_; refine blk_put (cs := #[.string t313, .string t314, .int .i64 0]) ?_ 2 _ rfl; refine bq_ ?_; refine blk_put (cs := #[.string t313, .string (⟨#[]⟩ : ByteArray), .int .i64 0]) ?_ 1 _ rfl; refine bq_ ?_; refine blk_put (cs := #[.string (⟨#[]⟩ : ByteArray), .string (⟨#[]⟩ : ByteArray), .int .i64 0]) ?_ 0 _ rfl; exact tk_ BK317.out) hb); have n8_ := Aside0.mk (below_step (tb_ HB.out) hb); clear HO295 HO299 HO307 HO311 BK291 BK304 BK312 BK317 HB; have HO295 := n0_; have HO299 := n1_; have HO307 := n2_; have HO311 := n3_; have BK291 := n4_; have BK304 := n5_; have BK312 := n6_; have BK317 := n7_; have HB := n8_; clear n0_ n1_ n2_ n3_ n4_ n5_ n6_ n7_ n8_; (try clear hb); (try clear hb2); (try clear hk); (try clear hi)))
    go_meet
    case rel => exact ⟨_, ((t316 != t303)), tx_, H', ⟨by first | omega | exact Nat.le_refl _⟩, ⟨by refine qR_ ?_; exact Kd.R_mono HO307.out (fun _ hk => hk.1.1)⟩, ⟨by refine qR_ ?_; exact Kd.R_mono HO311.out (fun _ hk => hk.1.1)⟩, ⟨tk_ BK291.out⟩, ⟨tk_ BK304.out⟩, ⟨tk_ BK312.out⟩, ⟨tk_ BK317.out⟩, ⟨(tb_ HB.out)⟩⟩
   ·
    replace c38 := Bool.eq_false_iff.mpr c38
    subst c38
    have H1 : (laws_FnExactStoreNew.j0 k true l0_0 a0_1 l0_2 t305 t308 t309) = some r := by rw [if_neg (show ¬ (false = true) by decide)] at H; exact H
    clear H
    have H := H1
    clear H1
    have H' := Aside0.mk H
    clear H
    have hnb47 := NB317_291.out
    have hnc47 := NB291_317.out
    have hnb48 := NB317_304.out
    have hnc48 := NB304_317.out
    have hnb49 := NB317_312.out
    have hnc49 := NB312_317.out
    have hcz50_0 : w32.cell? ⟨gb317, 0, none⟩ = some (.string (⟨#[]⟩ : ByteArray)) := (blk_cell BK317.out 0).trans rfl
    have hcz50_1 : w32.cell? ⟨gb317, 1, none⟩ = some (.string (⟨#[]⟩ : ByteArray)) := (blk_cell BK317.out 1).trans rfl
    have hcz50_2 : w32.cell? ⟨gb317, 2, none⟩ = some (.int .i64 0) := (blk_cell BK317.out 2).trans rfl
    have hfz50_0 := blk_frozen BK317.out 0
    have hfz50_1 := blk_frozen BK317.out 1
    have hfz50_2 := blk_frozen BK317.out 2
    have hnb51 := NB304_291.out
    have hnc51 := NB291_304.out
    have hnb52 := NB304_312.out
    have hnc52 := NB312_304.out
    have hcz53_0 : w32.cell? ⟨gb304, 0, none⟩ = some (.string t300) := (blk_cell BK304.out 0).trans rfl
    have hcz53_1 : w32.cell? ⟨gb304, 1, none⟩ = some (.string t301) := (blk_cell BK304.out 1).trans rfl
    have hcz53_2 : w32.cell? ⟨gb304, 2, none⟩ = some (.int .i64 t302) := (blk_cell BK304.out 2).trans rfl
    have hfz53_0 := blk_frozen BK304.out 0
    have hfz53_1 := blk_frozen BK304.out 1
    have hfz53_2 := blk_frozen BK304.out 2
    go_wp2_with (first | ((with_reducible refine gate_callee (f := 22) rfl ?_); refine goesL_ (some 29) rfl rfl Tryd.func22 (by kernel_rfl) rfl #[.agg #[.string t313, .string t314, .int .i64 t315], .agg #[.string t300, .string t301, .int .i64 t302]] rfl tz_ ?_; (with_reducible refine (laws_eqStore.calls t313 t314 t315 t300 t301 t302 false _ A37.out).mono ?_); rintro e w54 ⟨rfl, hb⟩; refine ⟨_, rfl, ?_⟩; have n0_ := Aside0.mk (Kd.R_below (by refine qR_ ?_; exact (Kd.R_mono (Kd.R_far (p := ⟨gb317, 2, none⟩) (Kd.R_far (p := ⟨gb317, 1, none⟩) (Kd.R_far (p := ⟨gb317, 0, none⟩) (Kd.R_types HO295.out BK317.out (by decide)) (fun _ hk => hk.2) (.string t313)) (fun _ hk => hk.2) (.string t314)) (fun _ hk => hk.2) (.int .i64 t315)) (fun _ h_ => h_.1))) hb); have n1_ := Aside0.mk (Kd.R_below (by refine qR_ ?_; exact (Kd.R_mono (Kd.R_far (p := ⟨gb317, 2, none⟩) (Kd.R_far (p := ⟨gb317, 1, none⟩) (Kd.R_far (p := ⟨gb317, 0, none⟩) (Kd.R_types HO299.out BK317.out (by decide)) (fun _ hk => hk.2) (.string t313)) (fun _ hk => hk.2) (.string t314)) (fun _ hk => hk.2) (.int .i64 t315)) (fun _ h_ => h_.1))) hb); have n2_ := Aside0.mk (Kd.R_below (by refine qR_ ?_; exact (Kd.R_mono (Kd.R_far (p := ⟨gb317, 2, none⟩) (Kd.R_far (p := ⟨gb317, 1, none⟩) (Kd.R_far (p := ⟨gb317, 0, none⟩) (Kd.R_types HO307.out BK317.out (by decide)) (fun _ hk => hk.2) (.string t313)) (fun _ hk => hk.2) (.string t314)) (fun _ hk => hk.2) (.int .i64 t315)) (fun _ h_ => h_.1))) hb); have n3_ := Aside0.mk (Kd.R_below (by refine qR_ ?_; exact (Kd.R_mono (Kd.R_far (p := ⟨gb317, 2, none⟩) (Kd.R_far (p := ⟨gb317, 1, none⟩) (Kd.R_far (p := ⟨gb317, 0, none⟩) (Kd.R_types HO311.out BK317.out (by decide)) (fun _ hk => hk.2) (.string t313)) (fun _ hk => hk.2) (.string t314)) (fun _ hk => hk.2) (.int .i64 t315)) (fun _ h_ => h_.1))) hb); have n4_ := Aside0.mk (blk_below (g := gb291) (o := .cells #[.slice A0_0 l0_0.length c0_0, .int .i64 a0_1, .slice A0_2 l0_2.length c0_2] 37 (0, 0)) (tk_ BK291.out) hb); have n5_ := Aside0.mk (blk_below (g := gb304) (o := .cells #[.string t300, .string t301, .int .i64 t302] 45 (0, 0)) (tk_ BK304.out) hb); have n6_ := Aside0.mk (blk_below (g := gb312) (o := .cells #[.slice Ao26 t305.length co26, .int .i64 t308, .slice Ao30 t309.length co30] 40 (0, 0)) (tk_ BK312.out) hb); have n7_ := Aside0.mk (blk_below (g := gb317) (o := .cells #[.string t313, .string t314, .int .i64 t315] 45 (0, 0)) (by refine bq_ ?_; refine blk_put (cs := #[.string t313, .string t314, .int .i64 0]) ?_ 2 _ rfl; refine bq_ ?_; refine blk_put (cs := #[.string t313, .string (⟨#[]⟩ : ByteArray), .int .i64 0]) ?_ 1 _ rfl; refine bq_ ?_; refine blk_put (cs := #[.string (⟨#[]⟩ : ByteArray), .string (⟨#[]⟩ : ByteArray), .int .i64 0]) ?_ 0 _ rfl; exact tk_ BK317.out) hb); have n8_ := Aside0.mk (below_step (tb_ HB.out) hb); clear HO295 HO299 HO307 HO311 BK291 BK304 BK312 BK317 HB; have HO295 := n0_; have HO299 := n1_; have HO307 := n2_; have HO311 := n3_; have BK291 := n4_; have BK304 := n5_; have BK312 := n6_; have BK317 := n7_; have HB := n8_; clear n0_ n1_ n2_ n3_ n4_ n5_ n6_ n7_ n8_; (try clear hb); (try clear hb2); (try clear hk); (try clear hi)))
    go_meet
    case rel => exact ⟨_, (true), tx_, H', ⟨by first | omega | exact Nat.le_refl _⟩, ⟨by refine qR_ ?_; exact Kd.R_mono HO307.out (fun _ hk => hk.1.1)⟩, ⟨by refine qR_ ?_; exact Kd.R_mono HO311.out (fun _ hk => hk.1.1)⟩, ⟨tk_ BK291.out⟩, ⟨tk_ BK304.out⟩, ⟨tk_ BK312.out⟩, ⟨tk_ BK317.out⟩, ⟨(tb_ HB.out)⟩⟩
  case rest =>
   clear HC11
   try clear c1
   try clear c2
   try clear p2
   try clear c3
   try clear c3b0
   try clear c4
   try clear c5
   try clear c6
   try clear c15
   try clear c17
   try clear c20
   try clear c21
   try clear c22
   try clear c27
   try clear c28
   try clear c33
   try clear c34
   try clear c35
   try clear c38
   try clear c39
   try clear c40
   try clear c41
   try clear c43
   try clear c44
   try clear c47
   try clear c48
   try clear c49
   try clear c51
   try clear c52
   try clear hcz13_0
   try clear hcz13_1
   try clear hcz13_2
   try clear hcz15_0
   try clear hcz15_1
   try clear hcz15_2
   try clear hcz22_0
   try clear hcz22_1
   try clear hcz22_2
   try clear hcz23_0
   try clear hcz23_1
   try clear hcz23_2
   try clear hcz29_0
   try clear hcz29_1
   try clear hcz29_2
   try clear hcz36_0
   try clear hcz36_1
   try clear hcz36_2
   try clear hcz42_0
   try clear hcz42_1
   try clear hcz42_2
   try clear hcz45_0
   try clear hcz45_1
   try clear hcz45_2
   try clear hcz50_0
   try clear hcz50_1
   try clear hcz50_2
   try clear hcz53_0
   try clear hcz53_1
   try clear hcz53_2
   try clear hcz5_0
   try clear hcz5_1
   try clear hcz5_2
   try clear hfz13_0
   try clear hfz13_1
   try clear hfz13_2
   try clear hfz15_0
   try clear hfz15_1
   try clear hfz15_2
   try clear hfz22_0
   try clear hfz22_1
   try clear hfz22_2
   try clear hfz23_0
   try clear hfz23_1
   try clear hfz23_2
   try clear hfz29_0
   try clear hfz29_1
   try clear hfz29_2
   try clear hfz36_0
   try clear hfz36_1
   try clear hfz36_2
   try clear hfz42_0
   try clear hfz42_1
   try clear hfz42_2
   try clear hfz45_0
   try clear hfz45_1
   try clear hfz45_2
   try clear hfz50_0
   try clear hfz50_1
   try clear hfz50_2
   try clear hfz53_0
   try clear hfz53_1
   try clear hfz53_2
   try clear hfz5_0
   try clear hfz5_1
   try clear hfz5_2
   obtain ⟨kq, x35_10, rfl, HA, HJ10, HO_313000, HO_313002, BK291, BK304, BK312, BK317, HB⟩ := hcut
   cases kq with
   | zero => exact absurd HA.out (by simp [laws_FnExactStoreNew.j0])
   | succ kj10 =>
    have H := HA.out
    clear HA
    simp only [laws_FnExactStoreNew.j0] at H
    by_cases c55 : x35_10 = true
    ·
     subst c55
     have H1 : (some false) = some r := by rw [if_pos rfl] at H; exact H
     clear H
     have H := H1
     clear H1
     obtain rfl := Option.some.inj H
     go_wp2
     go_ret
     exact ⟨by first | rfl | (simp [errW_none, errW_some] <;> rfl) | (simp [*, errW_none, errW_some] <;> rfl), (tb_ HB.out)⟩
    ·
     replace c55 := Bool.eq_false_iff.mpr c55
     subst c55
     have H1 : ((laws_toPlace.f kj10 l0_0 a0_1 l0_2).bind fun bt319 => ((laws_eqPlace.f kj10 t305 t308 t309 bt319.1 bt319.2.1 bt319.2.2).bind fun t326 => (if t326 = true then (some true) else (some false)))) = some r := by rw [if_neg (show ¬ (false = true) by decide)] at H; exact H
     clear H
     have H := H1
     clear H1
     replace H := Option.bind_eq_some_iff.mp H
     obtain ⟨⟨t319, t322, t323⟩, A560, H⟩ := H
     replace H : ((laws_eqPlace.f kj10 t305 t308 t309 t319 t322 t323).bind fun t326 => (if t326 = true then (some true) else (some false))) = some r := H
     have A56 := Aside0.mk A560
     clear A560
     replace H := Option.bind_eq_some_iff.mp H
     obtain ⟨t326, A570, H⟩ := H
     replace H : (if t326 = true then (some true) else (some false)) = some r := H
     have A57 := Aside0.mk A570
     clear A570
     by_cases c58 : t326 = true
     ·
      subst c58
      have H1 : (some true) = some r := by rw [if_pos rfl] at H; exact H
      clear H
      have H := H1
      clear H1
      obtain rfl := Option.some.inj H
      try go_wp2
      have n0_ := Aside0.mk (Kd.R_drew HO_313000.out)
      have n1_ := Aside0.mk (Kd.R_drew HO_313002.out)
      have n2_ := Aside0.mk (blk_drew BK291.out)
      have n3_ := Aside0.mk (blk_drew BK304.out)
      have n4_ := Aside0.mk (blk_drew BK312.out)
      have n5_ := Aside0.mk (blk_drew BK317.out)
      have n6_ := Aside0.mk (ld_ HB.out)
      clear HO_313000
      clear HO_313002
      clear BK291
      clear BK304
      clear BK312
      clear BK317
      clear HB
      have HO_313000 := n0_
      have HO_313002 := n1_
      have BK291 := n2_
      have BK304 := n3_
      have BK312 := n4_
      have BK317 := n5_
      have HB := n6_
      clear n0_ n1_ n2_ n3_ n4_ n5_ n6_
      refine start_ (n := 5) (S := fun w' => w'.cell? ⟨gb312, 0, none⟩ = some (.slice Ao26 t305.length co26) ∧ w'.cell? ⟨gb312, 1, none⟩ = some (.int .i64 t308) ∧ w'.cell? ⟨gb312, 2, none⟩ = some (.slice Ao30 t309.length co30) ∧ w'.cell? ⟨gb291, 0, none⟩ = some (.slice A0_0 l0_0.length c0_0) ∧ w'.cell? ⟨gb291, 1, none⟩ = some (.int .i64 a0_1) ∧ w'.cell? ⟨gb291, 2, none⟩ = some (.slice A0_2 l0_2.length c0_2)) (ds := []) #[false, false, false, false, false] (by kernel_rfl) rfl rfl ⟨(blk_cell BK312.out 0).trans rfl, (blk_cell BK312.out 1).trans rfl, (blk_cell BK312.out 2).trans rfl, (blk_cell BK291.out 0).trans rfl, (blk_cell BK291.out 1).trans rfl, (blk_cell BK291.out 2).trans rfl⟩ (fun hHeld => ?_)
      generalize wc.drew = w59 at HO_313000 HO_313002 BK291 BK304 BK312 BK317 HB hHeld ⊢
      refine take_ (i := 0) (N := some 36) (v := ?_) (a' := ?_) #[true, false, false, false, false] rfl rfl (by kernel_rfl) (fun _ _ _ h => h) (Or.inl ⟨by rfl, ?_⟩) hHeld ?_ ?_
      rotate_left
      ·
       rintro w' ⟨s0, s1, s2, s3, s4, s5⟩
       go_simp
       first | with_reducible rfl | (rw [if_neg (by omega)]; done)
      rotate_left
      ·
       simp only [Act.put, sa_, sb_, sc_, i64_w, i32_w]
       rfl
      refine take_ (i := 1) (N := some 37) (v := ?_) (a' := ?_) #[true, true, false, false, false] rfl rfl (by kernel_rfl) (fun _ _ _ h => h) (Or.inl ⟨by rfl, ?_⟩) hHeld ?_ ?_
      rotate_left
      ·
       rintro w' ⟨s0, s1, s2, s3, s4, s5⟩
       go_simp
       first | with_reducible rfl | (rw [if_neg (by omega)]; done)
      rotate_left
      ·
       simp only [Act.put, sa_, sb_, sc_, i64_w, i32_w]
       rfl
      refine one_ (i := 2) (N := some 38) #[true, true, true, false, false] rfl rfl (by kernel_rfl) (by decide) (fun K hK => ?_)
      refine goes_ Tryd.func17 (by kernel_rfl) rfl #[.agg #[.slice A0_0 l0_0.length c0_0, .int .i64 a0_1, .slice A0_2 l0_2.length c0_2]] (by rfl) rfl rfl tz_ ?_
      with_reducible refine (laws_toPlace.calls kj10 _ _ l0_0 a0_1 _ _ l0_2 t319 t322 t323 _ ?side1 ?side2 ?side3 ?side4 A56.out).mono ?_
      (case side1 => exact tD_)
      (case side2 => exact HC0_0.out)
      (case side3 => exact tD_)
      (case side4 => exact HC0_2.out)
      rintro e w60 ⟨v320, v324, rfl, ho0, ho1, hb⟩
      refine ⟨_, rfl, ?_⟩
      have n0_ := Aside0.mk (Kd.R_mono (Kd.R_told (Kd.R_told (Kd.R_old (rR_ HO_313000.out) hb) (Kd.R_base ho0)) (Kd.R_base ho1)) (fun _ h_ => h_.1))
      have n1_ := Aside0.mk (Kd.R_mono (Kd.R_told (Kd.R_told (Kd.R_old (rR_ HO_313002.out) hb) (Kd.R_base ho0)) (Kd.R_base ho1)) (fun _ h_ => h_.1))
      have n2_ := Aside0.mk (Kd.R_lower (Kd.R_new' (Kd.R_new' ho0 (Kd.R_lt (rR_ HO_313000.out))) (Kd.R_lt (rR_ HO_313002.out))) (below_size (tb_ HB.out)))
      have n3_ := Aside0.mk (Kd.R_lower (Kd.R_new' (Kd.R_new' ho1 (Kd.R_lt (rR_ HO_313000.out))) (Kd.R_lt (rR_ HO_313002.out))) (below_size (tb_ HB.out)))
      have n4_ := Aside0.mk (blk_below (g := gb291) (o := .cells #[.slice A0_0 l0_0.length c0_0, .int .i64 a0_1, .slice A0_2 l0_2.length c0_2] 37 (0, 0)) (tk_ BK291.out) hb)
      have n5_ := Aside0.mk (blk_below (g := gb304) (o := .cells #[.string t300, .string t301, .int .i64 t302] 45 (0, 0)) (tk_ BK304.out) hb)
      have n6_ := Aside0.mk (blk_below (g := gb312) (o := .cells #[.slice Ao26 t305.length co26, .int .i64 t308, .slice Ao30 t309.length co30] 40 (0, 0)) (tk_ BK312.out) hb)
      have n7_ := Aside0.mk (blk_below (g := gb317) (o := .cells #[.string t313, .string t314, .int .i64 t315] 45 (0, 0)) (tk_ BK317.out) hb)
      have n8_ := Aside0.mk (below_step (tb_ HB.out) hb)
      clear HO_313000
      clear HO_313002
      clear BK291
      clear BK304
      clear BK312
      clear BK317
      clear HB
      have HO_313000 := n0_
      have HO_313002 := n1_
      have HO321 := n2_
      have HO325 := n3_
      have BK291 := n4_
      have BK304 := n5_
      have BK312 := n6_
      have BK317 := n7_
      have HB := n8_
      clear n0_ n1_ n2_ n3_ n4_ n5_ n6_ n7_ n8_
      (try clear hb)
      (try clear hb2)
      (try clear hk)
      (try clear hi)
      (try clear ho0)
      (try clear ho1)
      obtain ⟨Ao61, co61, eo61⟩ := Kd.R_slice HO321.out
      (first | subst eo61 | (injection eo61 with f1_ f2_ f3_; have f4_ := f1_.symm; have f5_ := f3_.symm; clear f1_ f2_ f3_; subst f4_; subst f5_))
      obtain ⟨Ao62, co62, eo62⟩ := Kd.R_slice HO325.out
      (first | subst eo62 | (injection eo62 with f1_ f2_ f3_; have f4_ := f1_.symm; have f5_ := f3_.symm; clear f1_ f2_ f3_; subst f4_; subst f5_))
      refine hK.out _ _ ⟨(blk_cell BK312.out 0).trans rfl, (blk_cell BK312.out 1).trans rfl, (blk_cell BK312.out 2).trans rfl, (blk_cell BK291.out 0).trans rfl, (blk_cell BK291.out 1).trans rfl, (blk_cell BK291.out 2).trans rfl⟩ (fun hHeld => ?_)
      clear hK K
      refine norm_ (a' := ?_) ?_ ?_
      rotate_left
      ·
       show Act.put _ (some 38) _ = _
       simp only [Act.put, sa_, sb_, sc_, i64_w, i32_w]
       rfl
      refine one_ (i := 3) (N := some 39) #[true, true, true, true, false] rfl rfl (by kernel_rfl) (by decide) (fun K hK => ?_)
      refine goes_ Tryd.func19 (by kernel_rfl) rfl #[.agg #[.slice Ao26 t305.length co26, .int .i64 t308, .slice Ao30 t309.length co30], .agg #[.slice Ao61 t319.length co61, .int .i64 t322, .slice Ao62 t323.length co62]] (by rfl) rfl rfl tz_ ?_
      with_reducible refine (laws_eqPlace.calls kj10 _ _ t305 t308 _ _ t309 _ _ t319 t322 _ _ t323 true _ ?side1 ?side2 ?side3 ?side4 ?side5 ?side6 ?side7 ?side8 A57.out).mono ?_
      (case side1 => repeat (first | exact (Kd.R_reads' HO_313000.out).2.2 | (with_reducible refine Kd.C_alloc ?_ _) | (with_reducible refine Kd.C_drewN ?_ _) | (with_reducible refine Kd.C_drew ?_)))
      (case side2 => exact (Kd.R_reads' HO_313000.out).2.1)
      (case side3 => repeat (first | exact (Kd.R_reads' HO_313002.out).2.2 | (with_reducible refine Kd.C_alloc ?_ _) | (with_reducible refine Kd.C_drewN ?_ _) | (with_reducible refine Kd.C_drew ?_)))
      (case side4 => exact (Kd.R_reads' HO_313002.out).2.1)
      (case side5 => repeat (first | exact (Kd.R_reads' HO321.out).2.2 | (with_reducible refine Kd.C_alloc ?_ _) | (with_reducible refine Kd.C_drewN ?_ _) | (with_reducible refine Kd.C_drew ?_)))
      (case side6 => exact (Kd.R_reads' HO321.out).2.1)
      (case side7 => repeat (first | exact (Kd.R_reads' HO325.out).2.2 | (with_reducible refine Kd.C_alloc ?_ _) | (with_reducible refine Kd.C_drewN ?_ _) | (with_reducible refine Kd.C_drew ?_)))
      (case side8 => exact (Kd.R_reads' HO325.out).2.1)
      rintro e w63 ⟨rfl, hb⟩
      refine ⟨_, rfl, ?_⟩
      have n0_ := Aside0.mk (Kd.R_below (rR_ HO_313000.out) hb)
      have n1_ := Aside0.mk (Kd.R_below (rR_ HO_313002.out) hb)
      have n2_ := Aside0.mk (Kd.R_below (rR_ HO321.out) hb)
      have n3_ := Aside0.mk (Kd.R_below (rR_ HO325.out) hb)
      have n4_ := Aside0.mk (blk_below (g := gb291) (o := .cells #[.slice A0_0 l0_0.length c0_0, .int .i64 a0_1, .slice A0_2 l0_2.length c0_2] 37 (0, 0)) (tk_ BK291.out) hb)
      have n5_ := Aside0.mk (blk_below (g := gb304) (o := .cells #[.string t300, .string t301, .int .i64 t302] 45 (0, 0)) (tk_ BK304.out) hb)
      have n6_ := Aside0.mk (blk_below (g := gb312) (o := .cells #[.slice Ao26 t305.length co26, .int .i64 t308, .slice Ao30 t309.length co30] 40 (0, 0)) (tk_ BK312.out) hb)
      have n7_ := Aside0.mk (blk_below (g := gb317) (o := .cells #[.string t313, .string t314, .int .i64 t315] 45 (0, 0)) (tk_ BK317.out) hb)
      have n8_ := Aside0.mk (below_step (tb_ HB.out) hb)
      clear HO_313000
      clear HO_313002
      clear HO321
      clear HO325
      clear BK291
      clear BK304
      clear BK312
      clear BK317
      clear HB
      have HO_313000 := n0_
      have HO_313002 := n1_
      have HO321 := n2_
      have HO325 := n3_
      have BK291 := n4_
      have BK304 := n5_
      have BK312 := n6_
      have BK317 := n7_
      have HB := n8_
      clear n0_ n1_ n2_ n3_ n4_ n5_ n6_ n7_ n8_
      (try clear hb)
      (try clear hb2)
      (try clear hk)
      (try clear hi)
      refine hK.out _ _ ⟨(blk_cell BK312.out 0).trans rfl, (blk_cell BK312.out 1).trans rfl, (blk_cell BK312.out 2).trans rfl, (blk_cell BK291.out 0).trans rfl, (blk_cell BK291.out 1).trans rfl, (blk_cell BK291.out 2).trans rfl⟩ (fun hHeld => ?_)
      clear hK K
      refine norm_ (a' := ?_) ?_ ?_
      rotate_left
      ·
       show Act.put _ (some 39) _ = _
       simp only [Act.put, sa_, sb_, sc_, i64_w, i32_w]
       rfl
      refine pure_ (i := 4) (N := some 40) (v := ?_) (a' := ?_) #[true, true, true, true, true] rfl rfl (by kernel_rfl) (fun _ _ _ h => h) (Or.inl ⟨by rfl, ?_⟩) ?_ ?_
      rotate_left
      ·
       intro w'
       go_simp
       first | with_reducible rfl | (rw [if_neg (by omega)]; done)
      rotate_left
      ·
       simp only [Act.put, sa_, sb_, sc_, i64_w, i32_w]
       rfl
      refine done_ (by kernel_rfl) ?_
      try go_wp2
      go_ret
      exact ⟨by first | rfl | (simp [errW_none, errW_some] <;> rfl) | (simp [*, errW_none, errW_some] <;> rfl), (tb_ HB.out)⟩
     ·
      replace c58 := Bool.eq_false_iff.mpr c58
      subst c58
      have H1 : (some false) = some r := by rw [if_neg (show ¬ (false = true) by decide)] at H; exact H
      clear H
      have H := H1
      clear H1
      obtain rfl := Option.some.inj H
      try go_wp2
      have n0_ := Aside0.mk (Kd.R_drew HO_313000.out)
      have n1_ := Aside0.mk (Kd.R_drew HO_313002.out)
      have n2_ := Aside0.mk (blk_drew BK291.out)
      have n3_ := Aside0.mk (blk_drew BK304.out)
      have n4_ := Aside0.mk (blk_drew BK312.out)
      have n5_ := Aside0.mk (blk_drew BK317.out)
      have n6_ := Aside0.mk (ld_ HB.out)
      clear HO_313000
      clear HO_313002
      clear BK291
      clear BK304
      clear BK312
      clear BK317
      clear HB
      have HO_313000 := n0_
      have HO_313002 := n1_
      have BK291 := n2_
      have BK304 := n3_
      have BK312 := n4_
      have BK317 := n5_
      have HB := n6_
      clear n0_ n1_ n2_ n3_ n4_ n5_ n6_
      refine start_ (n := 5) (S := fun w' => w'.cell? ⟨gb312, 0, none⟩ = some (.slice Ao26 t305.length co26) ∧ w'.cell? ⟨gb312, 1, none⟩ = some (.int .i64 t308) ∧ w'.cell? ⟨gb312, 2, none⟩ = some (.slice Ao30 t309.length co30) ∧ w'.cell? ⟨gb291, 0, none⟩ = some (.slice A0_0 l0_0.length c0_0) ∧ w'.cell? ⟨gb291, 1, none⟩ = some (.int .i64 a0_1) ∧ w'.cell? ⟨gb291, 2, none⟩ = some (.slice A0_2 l0_2.length c0_2)) (ds := []) #[false, false, false, false, false] (by kernel_rfl) rfl rfl ⟨(blk_cell BK312.out 0).trans rfl, (blk_cell BK312.out 1).trans rfl, (blk_cell BK312.out 2).trans rfl, (blk_cell BK291.out 0).trans rfl, (blk_cell BK291.out 1).trans rfl, (blk_cell BK291.out 2).trans rfl⟩ (fun hHeld => ?_)
      generalize wc.drew = w64 at HO_313000 HO_313002 BK291 BK304 BK312 BK317 HB hHeld ⊢
      refine take_ (i := 0) (N := some 36) (v := ?_) (a' := ?_) #[true, false, false, false, false] rfl rfl (by kernel_rfl) (fun _ _ _ h => h) (Or.inl ⟨by rfl, ?_⟩) hHeld ?_ ?_
      rotate_left
      ·
       rintro w' ⟨s0, s1, s2, s3, s4, s5⟩
       go_simp
       first | with_reducible rfl | (rw [if_neg (by omega)]; done)
      rotate_left
      ·
       simp only [Act.put, sa_, sb_, sc_, i64_w, i32_w]
       rfl
      refine take_ (i := 1) (N := some 37) (v := ?_) (a' := ?_) #[true, true, false, false, false] rfl rfl (by kernel_rfl) (fun _ _ _ h => h) (Or.inl ⟨by rfl, ?_⟩) hHeld ?_ ?_
      rotate_left
      ·
       rintro w' ⟨s0, s1, s2, s3, s4, s5⟩
       go_simp
       first | with_reducible rfl | (rw [if_neg (by omega)]; done)
      rotate_left
      ·
       simp only [Act.put, sa_, sb_, sc_, i64_w, i32_w]
       rfl
      refine one_ (i := 2) (N := some 38) #[true, true, true, false, false] rfl rfl (by kernel_rfl) (by decide) (fun K hK => ?_)
      refine goes_ Tryd.func17 (by kernel_rfl) rfl #[.agg #[.slice A0_0 l0_0.length c0_0, .int .i64 a0_1, .slice A0_2 l0_2.length c0_2]] (by rfl) rfl rfl tz_ ?_
      with_reducible refine (laws_toPlace.calls kj10 _ _ l0_0 a0_1 _ _ l0_2 t319 t322 t323 _ ?side1 ?side2 ?side3 ?side4 A56.out).mono ?_
      (case side1 => exact tD_)
      (case side2 => exact HC0_0.out)
      (case side3 => exact tD_)
      (case side4 => exact HC0_2.out)
      rintro e w65 ⟨v320, v324, rfl, ho0, ho1, hb⟩
      refine ⟨_, rfl, ?_⟩
      have n0_ := Aside0.mk (Kd.R_mono (Kd.R_told (Kd.R_told (Kd.R_old (rR_ HO_313000.out) hb) (Kd.R_base ho0)) (Kd.R_base ho1)) (fun _ h_ => h_.1))
      have n1_ := Aside0.mk (Kd.R_mono (Kd.R_told (Kd.R_told (Kd.R_old (rR_ HO_313002.out) hb) (Kd.R_base ho0)) (Kd.R_base ho1)) (fun _ h_ => h_.1))
      have n2_ := Aside0.mk (Kd.R_lower (Kd.R_new' (Kd.R_new' ho0 (Kd.R_lt (rR_ HO_313000.out))) (Kd.R_lt (rR_ HO_313002.out))) (below_size (tb_ HB.out)))
      have n3_ := Aside0.mk (Kd.R_lower (Kd.R_new' (Kd.R_new' ho1 (Kd.R_lt (rR_ HO_313000.out))) (Kd.R_lt (rR_ HO_313002.out))) (below_size (tb_ HB.out)))
      have n4_ := Aside0.mk (blk_below (g := gb291) (o := .cells #[.slice A0_0 l0_0.length c0_0, .int .i64 a0_1, .slice A0_2 l0_2.length c0_2] 37 (0, 0)) (tk_ BK291.out) hb)
      have n5_ := Aside0.mk (blk_below (g := gb304) (o := .cells #[.string t300, .string t301, .int .i64 t302] 45 (0, 0)) (tk_ BK304.out) hb)
      have n6_ := Aside0.mk (blk_below (g := gb312) (o := .cells #[.slice Ao26 t305.length co26, .int .i64 t308, .slice Ao30 t309.length co30] 40 (0, 0)) (tk_ BK312.out) hb)
      have n7_ := Aside0.mk (blk_below (g := gb317) (o := .cells #[.string t313, .string t314, .int .i64 t315] 45 (0, 0)) (tk_ BK317.out) hb)
      have n8_ := Aside0.mk (below_step (tb_ HB.out) hb)
      clear HO_313000
      clear HO_313002
      clear BK291
      clear BK304
      clear BK312
      clear BK317
      clear HB
      have HO_313000 := n0_
      have HO_313002 := n1_
      have HO321 := n2_
      have HO325 := n3_
      have BK291 := n4_
      have BK304 := n5_
      have BK312 := n6_
      have BK317 := n7_
      have HB := n8_
      clear n0_ n1_ n2_ n3_ n4_ n5_ n6_ n7_ n8_
      (try clear hb)
      (try clear hb2)
      (try clear hk)
      (try clear hi)
      (try clear ho0)
      (try clear ho1)
      obtain ⟨Ao66, co66, eo66⟩ := Kd.R_slice HO321.out
      (first | subst eo66 | (injection eo66 with f1_ f2_ f3_; have f4_ := f1_.symm; have f5_ := f3_.symm; clear f1_ f2_ f3_; subst f4_; subst f5_))
      obtain ⟨Ao67, co67, eo67⟩ := Kd.R_slice HO325.out
      (first | subst eo67 | (injection eo67 with f1_ f2_ f3_; have f4_ := f1_.symm; have f5_ := f3_.symm; clear f1_ f2_ f3_; subst f4_; subst f5_))
      refine hK.out _ _ ⟨(blk_cell BK312.out 0).trans rfl, (blk_cell BK312.out 1).trans rfl, (blk_cell BK312.out 2).trans rfl, (blk_cell BK291.out 0).trans rfl, (blk_cell BK291.out 1).trans rfl, (blk_cell BK291.out 2).trans rfl⟩ (fun hHeld => ?_)
      clear hK K
      refine norm_ (a' := ?_) ?_ ?_
      rotate_left
      ·
       show Act.put _ (some 38) _ = _
       simp only [Act.put, sa_, sb_, sc_, i64_w, i32_w]
       rfl
      refine one_ (i := 3) (N := some 39) #[true, true, true, true, false] rfl rfl (by kernel_rfl) (by decide) (fun K hK => ?_)
      refine goes_ Tryd.func19 (by kernel_rfl) rfl #[.agg #[.slice Ao26 t305.length co26, .int .i64 t308, .slice Ao30 t309.length co30], .agg #[.slice Ao66 t319.length co66, .int .i64 t322, .slice Ao67 t323.length co67]] (by rfl) rfl rfl tz_ ?_
      with_reducible refine (laws_eqPlace.calls kj10 _ _ t305 t308 _ _ t309 _ _ t319 t322 _ _ t323 false _ ?side1 ?side2 ?side3 ?side4 ?side5 ?side6 ?side7 ?side8 A57.out).mono ?_
      (case side1 => repeat (first | exact (Kd.R_reads' HO_313000.out).2.2 | (with_reducible refine Kd.C_alloc ?_ _) | (with_reducible refine Kd.C_drewN ?_ _) | (with_reducible refine Kd.C_drew ?_)))
      (case side2 => exact (Kd.R_reads' HO_313000.out).2.1)
      (case side3 => repeat (first | exact (Kd.R_reads' HO_313002.out).2.2 | (with_reducible refine Kd.C_alloc ?_ _) | (with_reducible refine Kd.C_drewN ?_ _) | (with_reducible refine Kd.C_drew ?_)))
      (case side4 => exact (Kd.R_reads' HO_313002.out).2.1)
      (case side5 => repeat (first | exact (Kd.R_reads' HO321.out).2.2 | (with_reducible refine Kd.C_alloc ?_ _) | (with_reducible refine Kd.C_drewN ?_ _) | (with_reducible refine Kd.C_drew ?_)))
      (case side6 => exact (Kd.R_reads' HO321.out).2.1)
      (case side7 => repeat (first | exact (Kd.R_reads' HO325.out).2.2 | (with_reducible refine Kd.C_alloc ?_ _) | (with_reducible refine Kd.C_drewN ?_ _) | (with_reducible refine Kd.C_drew ?_)))
      (case side8 => exact (Kd.R_reads' HO325.out).2.1)
      rintro e w68 ⟨rfl, hb⟩
      refine ⟨_, rfl, ?_⟩
      have n0_ := Aside0.mk (Kd.R_below (rR_ HO_313000.out) hb)
      have n1_ := Aside0.mk (Kd.R_below (rR_ HO_313002.out) hb)
      have n2_ := Aside0.mk (Kd.R_below (rR_ HO321.out) hb)
      have n3_ := Aside0.mk (Kd.R_below (rR_ HO325.out) hb)
      have n4_ := Aside0.mk (blk_below (g := gb291) (o := .cells #[.slice A0_0 l0_0.length c0_0, .int .i64 a0_1, .slice A0_2 l0_2.length c0_2] 37 (0, 0)) (tk_ BK291.out) hb)
      have n5_ := Aside0.mk (blk_below (g := gb304) (o := .cells #[.string t300, .string t301, .int .i64 t302] 45 (0, 0)) (tk_ BK304.out) hb)
      have n6_ := Aside0.mk (blk_below (g := gb312) (o := .cells #[.slice Ao26 t305.length co26, .int .i64 t308, .slice Ao30 t309.length co30] 40 (0, 0)) (tk_ BK312.out) hb)
      have n7_ := Aside0.mk (blk_below (g := gb317) (o := .cells #[.string t313, .string t314, .int .i64 t315] 45 (0, 0)) (tk_ BK317.out) hb)
      have n8_ := Aside0.mk (below_step (tb_ HB.out) hb)
      clear HO_313000
      clear HO_313002
      clear HO321
      clear HO325
      clear BK291
      clear BK304
      clear BK312
      clear BK317
      clear HB
      have HO_313000 := n0_
      have HO_313002 := n1_
      have HO321 := n2_
      have HO325 := n3_
      have BK291 := n4_
      have BK304 := n5_
      have BK312 := n6_
      have BK317 := n7_
      have HB := n8_
      clear n0_ n1_ n2_ n3_ n4_ n5_ n6_ n7_ n8_
      (try clear hb)
      (try clear hb2)
      (try clear hk)
      (try clear hi)
      refine hK.out _ _ ⟨(blk_cell BK312.out 0).trans rfl, (blk_cell BK312.out 1).trans rfl, (blk_cell BK312.out 2).trans rfl, (blk_cell BK291.out 0).trans rfl, (blk_cell BK291.out 1).trans rfl, (blk_cell BK291.out 2).trans rfl⟩ (fun hHeld => ?_)
      clear hK K
      refine norm_ (a' := ?_) ?_ ?_
      rotate_left
      ·
       show Act.put _ (some 39) _ = _
       simp only [Act.put, sa_, sb_, sc_, i64_w, i32_w]
       rfl
      refine pure_ (i := 4) (N := some 40) (v := ?_) (a' := ?_) #[true, true, true, true, true] rfl rfl (by kernel_rfl) (fun _ _ _ h => h) (Or.inl ⟨by rfl, ?_⟩) ?_ ?_
      rotate_left
      ·
       intro w'
       go_simp
       first | with_reducible rfl | (rw [if_neg (by omega)]; done)
      rotate_left
      ·
       simp only [Act.put, sa_, sb_, sc_, i64_w, i32_w]
       rfl
      refine done_ (by kernel_rfl) ?_
      try go_wp2
      go_ret
      exact ⟨by first | rfl | (simp [errW_none, errW_some] <;> rfl) | (simp [*, errW_none, errW_some] <;> rfl), (tb_ HB.out)⟩

end Go.Proofs.YtlnbobpmjbcejaaDoor.MFnExactStoreNew
