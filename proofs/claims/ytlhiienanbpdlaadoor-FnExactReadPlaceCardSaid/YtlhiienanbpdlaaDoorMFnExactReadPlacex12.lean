/- For the law FnExactReadPlace: walks of the functions that it reaches: each call returns what the plain function beside it tells. The conditions stand in each statement. -/
import Derived.Test.YtlhiienanbpdlaaDoorMFnExactReadPlacex0
import Derived.Test.YtlhiienanbpdlaaDoorMFnExactReadPlacex6
import Derived.Test.YtlhiienanbpdlaaDoorMFnExactReadPlacex10
import Derived.Test.YtlhiienanbpdlaaDoorMFnExactReadPlacex11
namespace Go.Proofs.YtlhiienanbpdlaaDoor.MFnExactReadPlace
open Go.RowKit Go.Proofs.YtlhiienanbpdlaaDoorW.PrintWords Go.Proofs.YtlhiienanbpdlaaDoorW.PrintLast Go.Proofs.YtlhiienanbpdlaaDoorW.PrintMore
attribute [local go_sem] max2_int min2_int max_two min_two max_three min_three max_four min_four   -- for this text's walks alone
set_option linter.unusedVariables false
set_option linter.unusedSimpArgs false

/-! ### laws_FnExactReadPlace: function 12 -/
mutual
def laws_FnExactReadPlace.j0 : Nat → ByteArray → Bool → Bool → List Int → Int → List Int → List Int → Int → List Int → Option (Bool)
 | 0, _, _, _, _, _, _, _, _, _ => none
 | k + 1, x0, x4, x32, x347000, x347001, x347002, x356000, x356001, x356002 => if x32 = true then (some false) else ((laws_markPlace.f k x356000 x356001 x356002 1).bind fun bt357 => ((laws_heldPlace.f k bt357.2.1 x356001 bt357.2.2 1).bind fun t360 => (if t360 < 0 then (some false) else (if t360 = bt357.1 then ((impl_ReadPlace.f k x0).bind fun bt361 => ((laws_eqPlace.f k bt361.1 bt361.2.1 bt361.2.2.1 x347000 x347001 x347002).bind fun t370 => (if t370 = true then (laws_FnExactReadPlace.j1 k bt357.1 (bt361.2.2.2 != x4) bt357.2.1 x356001 bt357.2.2) else (laws_FnExactReadPlace.j1 k bt357.1 true bt357.2.1 x356001 bt357.2.2)))) else (some false)))))
def laws_FnExactReadPlace.j1 : Nat → Int → Bool → List Int → Int → List Int → Option (Bool)
 | 0, _, _, _, _, _ => none
 | k + 1, x7, x57, x356000, x356001, x356002 => if x57 = true then (some false) else ((laws_heldPlace.f k x356000 x356001 x356002 1).bind fun t371 => (if t371 < 0 then (some false) else (if t371 = x7 then (some true) else (some false))))
end
def laws_FnExactReadPlace.f (k : Nat) (a0 : ByteArray) : Option (Bool) := if (a0.size : Int) > 1048576 then (some true) else ((spec_ReadPlace.f k a0).bind fun bt338 => ((impl_ReadPlace.f k a0).bind fun bt347 => ((laws_eqPlace.f k bt347.1 bt347.2.1 bt347.2.2.1 bt338.1 bt338.2.1 bt338.2.2.1).bind fun t356 => (if t356 = true then (laws_FnExactReadPlace.j0 k a0 bt338.2.2.2 (bt347.2.2.2 != bt338.2.2.2) bt338.1 bt338.2.1 bt338.2.2.1 bt347.1 bt347.2.1 bt347.2.2.1) else (laws_FnExactReadPlace.j0 k a0 bt338.2.2.2 true bt338.1 bt338.2.1 bt338.2.2.1 bt347.1 bt347.2.1 bt347.2.2.1)))))
theorem laws_FnExactReadPlace.mono_l : ∀ k, (∀ y0 y1 y2 y3 y4 y5 y6 y7 y8, LeO (laws_FnExactReadPlace.j0 k y0 y1 y2 y3 y4 y5 y6 y7 y8) (laws_FnExactReadPlace.j0 (k + 1) y0 y1 y2 y3 y4 y5 y6 y7 y8)) ∧ (∀ y0 y1 y2 y3 y4, LeO (laws_FnExactReadPlace.j1 k y0 y1 y2 y3 y4) (laws_FnExactReadPlace.j1 (k + 1) y0 y1 y2 y3 y4))
 | 0 => ⟨fun _ _ _ _ _ _ _ _ _ r h => by simp [laws_FnExactReadPlace.j0] at h, fun _ _ _ _ _ r h => by simp [laws_FnExactReadPlace.j1] at h⟩
 | k + 1 => by
  obtain ⟨ih0, ih1⟩ := laws_FnExactReadPlace.mono_l k
  refine ⟨?_, ?_⟩
  ·
   intro y0 y1 y2 y3 y4 y5 y6 y7 y8
   unfold laws_FnExactReadPlace.j0
   repeat' first
   | (with_reducible exact ih0 _ _ _ _ _ _ _ _ _)
   | (with_reducible exact ih1 _ _ _ _ _)
   | (with_reducible exact impl_ReadPlace.mono _ _)
   | (with_reducible exact laws_eqPlace.mono _ _ _ _ _ _ _)
   | (with_reducible exact laws_heldPlace.mono _ _ _ _ _)
   | (with_reducible exact laws_markPlace.mono _ _ _ _ _)
   | (with_reducible exact spec_ReadPlace.mono _ _)
   | (with_reducible exact LeO.refl _)
   | (with_reducible exact LeO.none _)
   | (with_reducible refine LeO.ite ?_ ?_)
   | (with_reducible refine LeO.bind ?_ (fun _ => ?_))
   | exact ih0 _ _ _ _ _ _ _ _ _
   | exact ih1 _ _ _ _ _
   | exact impl_ReadPlace.mono _ _
   | exact laws_eqPlace.mono _ _ _ _ _ _ _
   | exact laws_heldPlace.mono _ _ _ _ _
   | exact laws_markPlace.mono _ _ _ _ _
   | exact spec_ReadPlace.mono _ _
   | exact LeO.none _
   | refine LeO.ite ?_ ?_
   | refine LeO.bind ?_ (fun _ => ?_)
  ·
   intro y0 y1 y2 y3 y4
   unfold laws_FnExactReadPlace.j1
   repeat' first
   | (with_reducible exact ih0 _ _ _ _ _ _ _ _ _)
   | (with_reducible exact ih1 _ _ _ _ _)
   | (with_reducible exact impl_ReadPlace.mono _ _)
   | (with_reducible exact laws_eqPlace.mono _ _ _ _ _ _ _)
   | (with_reducible exact laws_heldPlace.mono _ _ _ _ _)
   | (with_reducible exact laws_markPlace.mono _ _ _ _ _)
   | (with_reducible exact spec_ReadPlace.mono _ _)
   | (with_reducible exact LeO.refl _)
   | (with_reducible exact LeO.none _)
   | (with_reducible refine LeO.ite ?_ ?_)
   | (with_reducible refine LeO.bind ?_ (fun _ => ?_))
   | exact ih0 _ _ _ _ _ _ _ _ _
   | exact ih1 _ _ _ _ _
   | exact impl_ReadPlace.mono _ _
   | exact laws_eqPlace.mono _ _ _ _ _ _ _
   | exact laws_heldPlace.mono _ _ _ _ _
   | exact laws_markPlace.mono _ _ _ _ _
   | exact spec_ReadPlace.mono _ _
   | exact LeO.none _
   | refine LeO.ite ?_ ?_
   | refine LeO.bind ?_ (fun _ => ?_)
theorem laws_FnExactReadPlace.mono : ∀ a0 k, LeO (laws_FnExactReadPlace.f k a0) (laws_FnExactReadPlace.f (k + 1) a0) := by
 intro a0 k
 obtain ⟨ih0, ih1⟩ := laws_FnExactReadPlace.mono_l k
 unfold laws_FnExactReadPlace.f
 repeat' first
   | (with_reducible exact ih0 _ _ _ _ _ _ _ _ _)
   | (with_reducible exact ih1 _ _ _ _ _)
   | (with_reducible exact impl_ReadPlace.mono _ _)
   | (with_reducible exact laws_eqPlace.mono _ _ _ _ _ _ _)
   | (with_reducible exact laws_heldPlace.mono _ _ _ _ _)
   | (with_reducible exact laws_markPlace.mono _ _ _ _ _)
   | (with_reducible exact spec_ReadPlace.mono _ _)
   | (with_reducible exact LeO.refl _)
   | (with_reducible exact LeO.none _)
   | (with_reducible refine LeO.ite ?_ ?_)
   | (with_reducible refine LeO.bind ?_ (fun _ => ?_))
   | exact ih0 _ _ _ _ _ _ _ _ _
   | exact ih1 _ _ _ _ _
   | exact impl_ReadPlace.mono _ _
   | exact laws_eqPlace.mono _ _ _ _ _ _ _
   | exact laws_heldPlace.mono _ _ _ _ _
   | exact laws_markPlace.mono _ _ _ _ _
   | exact spec_ReadPlace.mono _ _
   | exact LeO.none _
   | refine LeO.ite ?_ ?_
   | refine LeO.bind ?_ (fun _ => ?_)
set_option maxHeartbeats 8000000 in
set_option maxRecDepth 100000 in
theorem laws_FnExactReadPlace.calls (k : Nat) (a0 : ByteArray) (r : Bool) (w : World) (hG : GWb w) (h : laws_FnExactReadPlace.f k a0 = some r) :
  Calls Tryd.prog 12 #[.string a0] w fun e w' => e = .returned (.bool r) ∧ Below w.heap.size w w' := by
 have HG := Aside0.mk hG
 clear hG
 have hu25 := Tryd.underlying25
 have HB := Aside0.mk (Below.refl w.heap.size w)
 have H : (if (a0.size : Int) > 1048576 then (some true) else ((spec_ReadPlace.f k a0).bind fun bt338 => ((impl_ReadPlace.f k a0).bind fun bt347 => ((laws_eqPlace.f k bt347.1 bt347.2.1 bt347.2.2.1 bt338.1 bt338.2.1 bt338.2.2.1).bind fun t356 => (if t356 = true then (laws_FnExactReadPlace.j0 k a0 bt338.2.2.2 (bt347.2.2.2 != bt338.2.2.2) bt338.1 bt338.2.1 bt338.2.2.1 bt347.1 bt347.2.1 bt347.2.2.1) else (laws_FnExactReadPlace.j0 k a0 bt338.2.2.2 true bt338.1 bt338.2.1 bt338.2.2.1 bt347.1 bt347.2.1 bt347.2.2.1)))))) = some r := h
 clear h
 by_cases c2 : (a0.size : Int) > 1048576
 ·
  rw [if_pos c2] at H
  have c2b0 : decide (1048576 < (a0.size : Int)) = true := decide_eq_true c2
  have c2b1 : decide (1048576 < a0.size) = true := decide_eq_true (by omega)
  clear c2
  obtain rfl := Option.some.inj H
  go_enter Tryd.func12, Tryd.ntmps12
  go_wp2
  go_ret
  exact ⟨by first | rfl | (simp [errW_none, errW_some, Option.map_none, Option.map_some] <;> rfl) | (simp [*, errW_none, errW_some] <;> rfl), (tb_ HB.out)⟩
 ·
  rw [if_neg c2] at H
  have c2b0 : decide (1048576 < (a0.size : Int)) = false := decide_eq_false c2
  have c2b1 : decide (1048576 < a0.size) = false := decide_eq_false (by omega)
  clear c2
  replace H := Option.bind_eq_some_iff.mp H
  obtain ⟨⟨t338, t341, t342, t345⟩, A30, H⟩ := H
  replace H : ((impl_ReadPlace.f k a0).bind fun bt347 => ((laws_eqPlace.f k bt347.1 bt347.2.1 bt347.2.2.1 t338 t341 t342).bind fun t356 => (if t356 = true then (laws_FnExactReadPlace.j0 k a0 t345 (bt347.2.2.2 != t345) t338 t341 t342 bt347.1 bt347.2.1 bt347.2.2.1) else (laws_FnExactReadPlace.j0 k a0 t345 true t338 t341 t342 bt347.1 bt347.2.1 bt347.2.2.1)))) = some r := H
  have A3 := Aside0.mk A30
  clear A30
  replace H := Option.bind_eq_some_iff.mp H
  obtain ⟨⟨t347, t350, t351, t354⟩, A40, H⟩ := H
  replace H : ((laws_eqPlace.f k t347 t350 t351 t338 t341 t342).bind fun t356 => (if t356 = true then (laws_FnExactReadPlace.j0 k a0 t345 (t354 != t345) t338 t341 t342 t347 t350 t351) else (laws_FnExactReadPlace.j0 k a0 t345 true t338 t341 t342 t347 t350 t351))) = some r := H
  have A4 := Aside0.mk A40
  clear A40
  have HC5 := Aside0.mk H
  clear H
  go_enter Tryd.func12, Tryd.ntmps12
  go_upto_region 5 with (first | ((with_reducible refine gate_callee (f := 53) rfl ?_); refine goesL_ (some 16) rfl rfl Tryd.func53 (by kernel_rfl) rfl #[.string a0] rfl tz_ ?_; (with_reducible refine (spec_ReadPlace.calls k a0 t338 t341 t342 t345 _ A3.out).mono ?_); rintro e w6 ⟨v339, v343, rfl, ho0, ho1, hb⟩; refine ⟨_, rfl, ?_⟩; have n0_ := Aside0.mk (Kd.R_lower ho0 (below_size (tb_ HB.out))); have n1_ := Aside0.mk (Kd.R_lower ho1 (below_size (tb_ HB.out))); have n2_ := Aside0.mk (below_step (tb_ HB.out) hb); clear HB; have HO340 := n0_; have HO344 := n1_; have HB := n2_; clear n0_ n1_ n2_; (try clear hb); (try clear hb2); (try clear hk); (try clear hi); (try clear ho0); (try clear ho1)) | ((with_reducible refine gate_dst (N := 3) rfl ?_); refine box_event ?hg (N := 3) ?hd (cs := #[.slice none 0 0, .int .i64 0, .slice none 0 0]) (t := 25) ?hr ?_; (case hd => rfl); (case hg => rfl); (case hr => first | (go_simp; done) | (go_simp; rfl)); intro gb346 hg w7 hbox hb; have n0_ := Aside0.mk (Kd.R_below (rR_ HO340.out) hb); have n1_ := Aside0.mk (Kd.R_below (rR_ HO344.out) hb); have n2_ := Aside0.mk (below_step (tb_ HB.out) hb); have n3_ := Aside0.mk (hbox); have n4_ := Aside0.mk ((by rw [hg]; exact (below_size (tb_ HB.out)) : w.heap.size ≤ gb346)); have n5_ := Aside0.mk ((by rw [hg]; exact (below_size (tb_ HB.out)) : w.heap.size ≤ gb346)); clear HO340 HO344 HB; have HO340 := n0_; have HO344 := n1_; have HB := n2_; have BK346 := n3_; have GW346 := n4_; have GE346 := n5_; clear n0_ n1_ n2_ n3_ n4_ n5_ hb hbox hg; obtain ⟨Ao8, co8, eo8⟩ := Kd.R_slice HO340.out; subst eo8; have hcz9_0 : w7.cell? ⟨gb346, 0, none⟩ = some (.slice none 0 0) := (blk_cell BK346.out 0).trans rfl; have hcz9_1 : w7.cell? ⟨gb346, 1, none⟩ = some (.int .i64 0) := (blk_cell BK346.out 1).trans rfl; have hcz9_2 : w7.cell? ⟨gb346, 2, none⟩ = some (.slice none 0 0) := (blk_cell BK346.out 2).trans rfl; have hfz9_0 := blk_frozen BK346.out 0; have hfz9_1 := blk_frozen BK346.out 1; have hfz9_2 := blk_frozen BK346.out 2; obtain ⟨Ao10, co10, eo10⟩ := Kd.R_slice HO344.out; subst eo10) | ((with_reducible refine gate_callee (f := 54) rfl ?_); refine goesL_ (some 21) rfl rfl Tryd.func54 (by kernel_rfl) rfl #[.string a0] rfl tz_ ?_; (with_reducible refine (impl_ReadPlace.calls k a0 t347 t350 t351 t354 _ ?side1 A4.out).mono ?_); (case side1 => exact GWb.below HG.out (tb_ HB.out)); rintro e w11 ⟨v348, v352, rfl, ho0, ho1, hb⟩; refine ⟨_, rfl, ?_⟩; have n0_ := Aside0.mk (Kd.R_mono (Kd.R_told (Kd.R_told (Kd.R_old (by refine qR_ ?_; exact (Kd.R_mono (Kd.R_far (p := ⟨gb346, 2, none⟩) (Kd.R_far (p := ⟨gb346, 1, none⟩) (Kd.R_far (p := ⟨gb346, 0, none⟩) (Kd.R_types HO340.out BK346.out (by decide)) (fun _ hk => hk.2) (.slice Ao8 t338.length co8)) (fun _ hk => hk.2) (.int .i64 t341)) (fun _ hk => hk.2) (.slice Ao10 t342.length co10)) (fun _ h_ => h_.1))) hb) (Kd.R_base ho0)) (Kd.R_base ho1)) (fun _ h_ => h_.1)); have n1_ := Aside0.mk (Kd.R_mono (Kd.R_told (Kd.R_told (Kd.R_old (by refine qR_ ?_; exact (Kd.R_mono (Kd.R_far (p := ⟨gb346, 2, none⟩) (Kd.R_far (p := ⟨gb346, 1, none⟩) (Kd.R_far (p := ⟨gb346, 0, none⟩) (Kd.R_types HO344.out BK346.out (by decide)) (fun _ hk => hk.2) (.slice Ao8 t338.length co8)) (fun _ hk => hk.2) (.int .i64 t341)) (fun _ hk => hk.2) (.slice Ao10 t342.length co10)) (fun _ h_ => h_.1))) hb) (Kd.R_base ho0)) (Kd.R_base ho1)) (fun _ h_ => h_.1)); have n2_ := Aside0.mk (Kd.R_lower (Kd.R_new' (Kd.R_new' ho0 (Kd.R_lt (by refine qR_ ?_; exact (Kd.R_mono (Kd.R_far (p := ⟨gb346, 2, none⟩) (Kd.R_far (p := ⟨gb346, 1, none⟩) (Kd.R_far (p := ⟨gb346, 0, none⟩) (Kd.R_types HO340.out BK346.out (by decide)) (fun _ hk => hk.2) (.slice Ao8 t338.length co8)) (fun _ hk => hk.2) (.int .i64 t341)) (fun _ hk => hk.2) (.slice Ao10 t342.length co10)) (fun _ h_ => h_.1))))) (Kd.R_lt (by refine qR_ ?_; exact (Kd.R_mono (Kd.R_far (p := ⟨gb346, 2, none⟩) (Kd.R_far (p := ⟨gb346, 1, none⟩) (Kd.R_far (p := ⟨gb346, 0, none⟩) (Kd.R_types HO344.out BK346.out (by decide)) (fun _ hk => hk.2) (.slice Ao8 t338.length co8)) (fun _ hk => hk.2) (.int .i64 t341)) (fun _ hk => hk.2) (.slice Ao10 t342.length co10)) (fun _ h_ => h_.1))))) (below_size (tb_ HB.out))); have n3_ := Aside0.mk (Kd.R_lower (Kd.R_new' (Kd.R_new' ho1 (Kd.R_lt (by refine qR_ ?_; exact (Kd.R_mono (Kd.R_far (p := ⟨gb346, 2, none⟩) (Kd.R_far (p := ⟨gb346, 1, none⟩) (Kd.R_far (p := ⟨gb346, 0, none⟩) (Kd.R_types HO340.out BK346.out (by decide)) (fun _ hk => hk.2) (.slice Ao8 t338.length co8)) (fun _ hk => hk.2) (.int .i64 t341)) (fun _ hk => hk.2) (.slice Ao10 t342.length co10)) (fun _ h_ => h_.1))))) (Kd.R_lt (by refine qR_ ?_; exact (Kd.R_mono (Kd.R_far (p := ⟨gb346, 2, none⟩) (Kd.R_far (p := ⟨gb346, 1, none⟩) (Kd.R_far (p := ⟨gb346, 0, none⟩) (Kd.R_types HO344.out BK346.out (by decide)) (fun _ hk => hk.2) (.slice Ao8 t338.length co8)) (fun _ hk => hk.2) (.int .i64 t341)) (fun _ hk => hk.2) (.slice Ao10 t342.length co10)) (fun _ h_ => h_.1))))) (below_size (tb_ HB.out))); have n4_ := Aside0.mk (blk_below (g := gb346) (o := .cells #[.slice Ao8 t338.length co8, .int .i64 t341, .slice Ao10 t342.length co10] 25 (0, 0)) (by refine bq_ ?_; refine blk_put (cs := #[.slice Ao8 t338.length co8, .int .i64 t341, .slice none 0 0]) ?_ 2 _ rfl; refine bq_ ?_; refine blk_put (cs := #[.slice Ao8 t338.length co8, .int .i64 0, .slice none 0 0]) ?_ 1 _ rfl; refine bq_ ?_; refine blk_put (cs := #[.slice none 0 0, .int .i64 0, .slice none 0 0]) ?_ 0 _ rfl; exact tk_ BK346.out) hb); have n5_ := Aside0.mk (below_step (tb_ HB.out) hb); clear HO340 HO344 BK346 HB; have HO340 := n0_; have HO344 := n1_; have HO349 := n2_; have HO353 := n3_; have BK346 := n4_; have HB := n5_; clear n0_ n1_ n2_ n3_ n4_ n5_; (try clear hb); (try clear hb2); (try clear hk); (try clear hi); (try clear ho0); (try clear ho1)) | ((with_reducible refine gate_dst (N := 5) rfl ?_); refine box_event ?hg (N := 5) ?hd (cs := #[.slice none 0 0, .int .i64 0, .slice none 0 0]) (t := 25) ?hr ?_; (case hd => rfl); (case hg => rfl); (case hr => first | (go_simp; done) | (go_simp; rfl)); intro gb355 hg w12 hbox hb; have n0_ := Aside0.mk (Kd.R_below (rR_ HO340.out) hb); have n1_ := Aside0.mk (Kd.R_below (rR_ HO344.out) hb); have n2_ := Aside0.mk (Kd.R_below (rR_ HO349.out) hb); have n3_ := Aside0.mk (Kd.R_below (rR_ HO353.out) hb); have n4_ := Aside0.mk (blk_below (g := gb346) (o := .cells #[.slice Ao8 t338.length co8, .int .i64 t341, .slice Ao10 t342.length co10] 25 (0, 0)) (tk_ BK346.out) hb); have n5_ := Aside0.mk (below_step (tb_ HB.out) hb); have n6_ := Aside0.mk (hbox); have n7_ := Aside0.mk ((by rw [hg]; exact (below_size (tb_ HB.out)) : w.heap.size ≤ gb355)); have n8_ := Aside0.mk ((by rw [hg]; exact (below_size (tb_ HB.out)) : w.heap.size ≤ gb355)); have n9_ := Aside0.mk ((by rw [hg]; exact Nat.ne_of_lt (blk_lt (g := gb346) (o := .cells #[.slice Ao8 t338.length co8, .int .i64 t341, .slice Ao10 t342.length co10] 25 (0, 0)) (tk_ BK346.out)) : gb346 ≠ gb355)); have n10_ := Aside0.mk ((by rw [hg]; exact Nat.ne_of_gt (blk_lt (g := gb346) (o := .cells #[.slice Ao8 t338.length co8, .int .i64 t341, .slice Ao10 t342.length co10] 25 (0, 0)) (tk_ BK346.out)) : gb355 ≠ gb346)); clear HO340 HO344 HO349 HO353 BK346 HB; have HO340 := n0_; have HO344 := n1_; have HO349 := n2_; have HO353 := n3_; have BK346 := n4_; have HB := n5_; have BK355 := n6_; have GW355 := n7_; have GE355 := n8_; have NB346_355 := n9_; have NB355_346 := n10_; clear n0_ n1_ n2_ n3_ n4_ n5_ n6_ n7_ n8_ n9_ n10_ hb hbox hg; obtain ⟨Ao13, co13, eo13⟩ := Kd.R_slice HO349.out; subst eo13; have hnb14 := NB355_346.out; have hnc14 := NB346_355.out; have hcz15_0 : w12.cell? ⟨gb355, 0, none⟩ = some (.slice none 0 0) := (blk_cell BK355.out 0).trans rfl; have hcz15_1 : w12.cell? ⟨gb355, 1, none⟩ = some (.int .i64 0) := (blk_cell BK355.out 1).trans rfl; have hcz15_2 : w12.cell? ⟨gb355, 2, none⟩ = some (.slice none 0 0) := (blk_cell BK355.out 2).trans rfl; have hfz15_0 := blk_frozen BK355.out 0; have hfz15_1 := blk_frozen BK355.out 1; have hfz15_2 := blk_frozen BK355.out 2; obtain ⟨Ao16, co16, eo16⟩ := Kd.R_slice HO353.out; subst eo16))
  (try simp only [Act.put, sa_, sb_, sc_])
  go_cut [32] (fun v32 wc => ∃ (kq : Nat) (x32_4 : Bool), v32 = .bool x32_4 ∧ Aside0 (laws_FnExactReadPlace.j0 kq a0 t345 x32_4 t338 t341 t342 t347 t350 t351 = some r) ∧ Aside0 (kq ≤ k) ∧ Aside0 (Kd.R (Kd.int .i64) 3 wc w.heap.size (fun k_ => some k_ ≠ ((.slice Ao10 t342.length co10) : Value).ownBlock ∧ some k_ ≠ ((.slice Ao13 t347.length co13) : Value).ownBlock ∧ some k_ ≠ ((.slice Ao16 t351.length co16) : Value).ownBlock) (.slice Ao8 t338.length co8) t338) ∧ Aside0 (Kd.R (Kd.int .i64) 3 wc w.heap.size (fun k_ => some k_ ≠ ((.slice Ao8 t338.length co8) : Value).ownBlock ∧ some k_ ≠ ((.slice Ao13 t347.length co13) : Value).ownBlock ∧ some k_ ≠ ((.slice Ao16 t351.length co16) : Value).ownBlock) (.slice Ao10 t342.length co10) t342) ∧ Aside0 (Kd.R (Kd.int .i64) 3 wc w.heap.size (fun k_ => some k_ ≠ ((.slice Ao8 t338.length co8) : Value).ownBlock ∧ some k_ ≠ ((.slice Ao10 t342.length co10) : Value).ownBlock ∧ some k_ ≠ ((.slice Ao16 t351.length co16) : Value).ownBlock) (.slice Ao13 t347.length co13) t347) ∧ Aside0 (Kd.R (Kd.int .i64) 3 wc w.heap.size (fun k_ => some k_ ≠ ((.slice Ao8 t338.length co8) : Value).ownBlock ∧ some k_ ≠ ((.slice Ao10 t342.length co10) : Value).ownBlock ∧ some k_ ≠ ((.slice Ao13 t347.length co13) : Value).ownBlock) (.slice Ao16 t351.length co16) t351) ∧ Aside0 (wc.heap[gb346]? = some (.cells #[(.slice Ao8 t338.length co8), .int .i64 t341, (.slice Ao10 t342.length co10)] 25 (0, 0))) ∧ Aside0 (wc.heap[gb355]? = some (.cells #[(.slice Ao13 t347.length co13), .int .i64 t350, (.slice Ao16 t351.length co16)] 25 (0, 0))) ∧ Aside0 (Below w.heap.size w wc))
  case first =>
   have H := HC5.out
   clear HC5
   replace H := Option.bind_eq_some_iff.mp H
   obtain ⟨t356, A170, H⟩ := H
   replace H : (if t356 = true then (laws_FnExactReadPlace.j0 k a0 t345 (t354 != t345) t338 t341 t342 t347 t350 t351) else (laws_FnExactReadPlace.j0 k a0 t345 true t338 t341 t342 t347 t350 t351)) = some r := H
   have A17 := Aside0.mk A170
   clear A170
   by_cases c18 : t356 = true
   ·
    subst c18
    have H1 : (laws_FnExactReadPlace.j0 k a0 t345 (t354 != t345) t338 t341 t342 t347 t350 t351) = some r := by rw [if_pos rfl] at H; exact H
    clear H
    have H := H1
    clear H1
    have H' := Aside0.mk H
    clear H
    have hnb19 := NB355_346.out
    have hnc19 := NB346_355.out
    have hcz20_0 : w12.cell? ⟨gb355, 0, none⟩ = some (.slice none 0 0) := (blk_cell BK355.out 0).trans rfl
    have hcz20_1 : w12.cell? ⟨gb355, 1, none⟩ = some (.int .i64 0) := (blk_cell BK355.out 1).trans rfl
    have hcz20_2 : w12.cell? ⟨gb355, 2, none⟩ = some (.slice none 0 0) := (blk_cell BK355.out 2).trans rfl
    have hfz20_0 := blk_frozen BK355.out 0
    have hfz20_1 := blk_frozen BK355.out 1
    have hfz20_2 := blk_frozen BK355.out 2
    have hcz21_0 : w12.cell? ⟨gb346, 0, none⟩ = some (.slice Ao8 t338.length co8) := (blk_cell BK346.out 0).trans rfl
    have hcz21_1 : w12.cell? ⟨gb346, 1, none⟩ = some (.int .i64 t341) := (blk_cell BK346.out 1).trans rfl
    have hcz21_2 : w12.cell? ⟨gb346, 2, none⟩ = some (.slice Ao10 t342.length co10) := (blk_cell BK346.out 2).trans rfl
    have hfz21_0 := blk_frozen BK346.out 0
    have hfz21_1 := blk_frozen BK346.out 1
    have hfz21_2 := blk_frozen BK346.out 2
    go_wp2_with (first | ((with_reducible refine gate_callee (f := 55) rfl ?_); refine goesL_ (some 26) rfl rfl Tryd.func55 (by kernel_rfl) rfl #[.agg #[.slice Ao13 t347.length co13, .int .i64 t350, .slice Ao16 t351.length co16], .agg #[.slice Ao8 t338.length co8, .int .i64 t341, .slice Ao10 t342.length co10]] rfl tz_ ?_; (with_reducible refine (laws_eqPlace.calls k _ _ t347 t350 _ _ t351 _ _ t338 t341 _ _ t342 true _ ?side1 ?side2 ?side3 ?side4 ?side5 ?side6 ?side7 ?side8 A17.out).mono ?_); (case side1 => refine (Kd.R_reads' (e := 3) (base := w.heap.size) (ok := fun k_ => ((some k_ ≠ (.slice Ao16 t351.length co16 : Value).ownBlock ∧ some k_ ≠ (.slice Ao8 t338.length co8 : Value).ownBlock) ∧ some k_ ≠ (.slice Ao10 t342.length co10 : Value).ownBlock)) (n := t347.length) (c := co13) ?_).2.2; exact (by refine qR_ ?_; exact (Kd.R_mono (Kd.R_far (p := ⟨gb355, 2, none⟩) (Kd.R_far (p := ⟨gb355, 1, none⟩) (Kd.R_far (p := ⟨gb355, 0, none⟩) (Kd.R_types HO349.out BK355.out (by decide)) (fun _ hk => hk.2) (.slice Ao13 t347.length co13)) (fun _ hk => hk.2) (.int .i64 t350)) (fun _ hk => hk.2) (.slice Ao16 t351.length co16)) (fun _ h_ => h_.1)))); (case side2 => exact (Kd.R_reads' HO349.out).2.1); (case side3 => refine (Kd.R_reads' (e := 3) (base := w.heap.size) (ok := fun k_ => ((some k_ ≠ (.slice Ao13 t347.length co13 : Value).ownBlock ∧ some k_ ≠ (.slice Ao8 t338.length co8 : Value).ownBlock) ∧ some k_ ≠ (.slice Ao10 t342.length co10 : Value).ownBlock)) (n := t351.length) (c := co16) ?_).2.2; exact (by refine qR_ ?_; exact (Kd.R_mono (Kd.R_far (p := ⟨gb355, 2, none⟩) (Kd.R_far (p := ⟨gb355, 1, none⟩) (Kd.R_far (p := ⟨gb355, 0, none⟩) (Kd.R_types HO353.out BK355.out (by decide)) (fun _ hk => hk.2) (.slice Ao13 t347.length co13)) (fun _ hk => hk.2) (.int .i64 t350)) (fun _ hk => hk.2) (.slice Ao16 t351.length co16)) (fun _ h_ => h_.1)))); (case side4 => exact (Kd.R_reads' HO353.out).2.1); (case side5 => refine (Kd.R_reads' (e := 3) (base := w.heap.size) (ok := fun k_ => ((some k_ ≠ (.slice Ao10 t342.length co10 : Value).ownBlock ∧ some k_ ≠ (.slice Ao13 t347.length co13 : Value).ownBlock) ∧ some k_ ≠ (.slice Ao16 t351.length co16 : Value).ownBlock)) (n := t338.length) (c := co8) ?_).2.2; exact (by refine qR_ ?_; exact (Kd.R_mono (Kd.R_far (p := ⟨gb355, 2, none⟩) (Kd.R_far (p := ⟨gb355, 1, none⟩) (Kd.R_far (p := ⟨gb355, 0, none⟩) (Kd.R_types HO340.out BK355.out (by decide)) (fun _ hk => hk.2) (.slice Ao13 t347.length co13)) (fun _ hk => hk.2) (.int .i64 t350)) (fun _ hk => hk.2) (.slice Ao16 t351.length co16)) (fun _ h_ => h_.1)))); (case side6 => exact (Kd.R_reads' HO340.out).2.1); (case side7 => refine (Kd.R_reads' (e := 3) (base := w.heap.size) (ok := fun k_ => ((some k_ ≠ (.slice Ao8 t338.length co8 : Value).ownBlock ∧ some k_ ≠ (.slice Ao13 t347.length co13 : Value).ownBlock) ∧ some k_ ≠ (.slice Ao16 t351.length co16 : Value).ownBlock)) (n := t342.length) (c := co10) ?_).2.2; exact (by refine qR_ ?_; exact (Kd.R_mono (Kd.R_far (p := ⟨gb355, 2, none⟩) (Kd.R_far (p := ⟨gb355, 1, none⟩) (Kd.R_far (p := ⟨gb355, 0, none⟩) (Kd.R_types HO344.out BK355.out (by decide)) (fun _ hk => hk.2) (.slice Ao13 t347.length co13)) (fun _ hk => hk.2) (.int .i64 t350)) (fun _ hk => hk.2) (.slice Ao16 t351.length co16)) (fun _ h_ => h_.1)))); (case side8 => exact (Kd.R_reads' HO344.out).2.1); rintro e w22 ⟨rfl, hb⟩; refine ⟨_, rfl, ?_⟩; have n0_ := Aside0.mk (Kd.R_below (by refine qR_ ?_; exact (Kd.R_mono (Kd.R_far (p := ⟨gb355, 2, none⟩) (Kd.R_far (p := ⟨gb355, 1, none⟩) (Kd.R_far (p := ⟨gb355, 0, none⟩) (Kd.R_types HO340.out BK355.out (by decide)) (fun _ hk => hk.2) (.slice Ao13 t347.length co13)) (fun _ hk => hk.2) (.int .i64 t350)) (fun _ hk => hk.2) (.slice Ao16 t351.length co16)) (fun _ h_ => h_.1))) hb); have n1_ := Aside0.mk (Kd.R_below (by refine qR_ ?_; exact (Kd.R_mono (Kd.R_far (p := ⟨gb355, 2, none⟩) (Kd.R_far (p := ⟨gb355, 1, none⟩) (Kd.R_far (p := ⟨gb355, 0, none⟩) (Kd.R_types HO344.out BK355.out (by decide)) (fun _ hk => hk.2) (.slice Ao13 t347.length co13)) (fun _ hk => hk.2) (.int .i64 t350)) (fun _ hk => hk.2) (.slice Ao16 t351.length co16)) (fun _ h_ => h_.1))) hb); have n2_ := Aside0.mk (Kd.R_below (by refine qR_ ?_; exact (Kd.R_mono (Kd.R_far (p := ⟨gb355, 2, none⟩) (Kd.R_far (p := ⟨gb355, 1, none⟩) (Kd.R_far (p := ⟨gb355, 0, none⟩) (Kd.R_types HO349.out BK355.out (by decide)) (fun _ hk => hk.2) (.slice Ao13 t347.length co13)) (fun _ hk => hk.2) (.int .i64 t350)) (fun _ hk => hk.2) (.slice Ao16 t351.length co16)) (fun _ h_ => h_.1))) hb); have n3_ := Aside0.mk (Kd.R_below (by refine qR_ ?_; exact (Kd.R_mono (Kd.R_far (p := ⟨gb355, 2, none⟩) (Kd.R_far (p := ⟨gb355, 1, none⟩) (Kd.R_far (p := ⟨gb355, 0, none⟩) (Kd.R_types HO353.out BK355.out (by decide)) (fun _ hk => hk.2) (.slice Ao13 t347.length co13)) (fun _ hk => hk.2) (.int .i64 t350)) (fun _ hk => hk.2) (.slice Ao16 t351.length co16)) (fun _ h_ => h_.1))) hb); have n4_ := Aside0.mk (blk_below (g := gb346) (o := .cells #[.slice Ao8 t338.length co8, .int .i64 t341, .slice Ao10 t342.length co10] 25 (0, 0)) (tk_ BK346.out) hb); have n5_ := Aside0.mk (blk_below (g := gb355) (o := .cells #[.slice Ao13 t347.length co13, .int .i64 t350, .slice Ao16 t351.length co16] 25 (0, 0)) (by refine bq_ ?_; refine blk_put (cs := #[.slice Ao13 t347.length co13, .int .i64 t350, .slice none 0 0]) ?_ 2 _ rfl; refine bq_ ?_; refine blk_put (cs := #[.slice Ao13 t347.length co13, .int .i64 0, .slice none 0 0]) ?_ 1 _ rfl; refine bq_ ?_; refine blk_put (cs := #[.slice none 0 0, .int .i64 0, .slice none 0 0]) ?_ 0 _ rfl; exact tk_ BK355.out) hb); have n6_ := Aside0.mk (below_step (tb_ HB.out) hb); clear HO340 HO344 HO349 HO353 BK346 BK355 HB; have HO340 := n0_; have HO344 := n1_; have HO349 := n2_; have HO353 := n3_; have BK346 := n4_; have BK355 := n5_; have HB := n6_; clear n0_ n1_ n2_ n3_ n4_ n5_ n6_; (try clear hb); (try clear hb2); (try clear hk); (try clear hi)))
    go_meet
    case rel => exact ⟨_, ((t354 != t345)), tx_, H', ⟨by first | omega | exact Nat.le_refl _⟩, ⟨by refine qR_ ?_; exact Kd.R_mono HO340.out (fun _ hk => ⟨hk.1.1, ⟨hk.1.2, hk.2⟩⟩)⟩, ⟨by refine qR_ ?_; exact Kd.R_mono HO344.out (fun _ hk => ⟨hk.1.1, ⟨hk.1.2, hk.2⟩⟩)⟩, ⟨by refine qR_ ?_; exact Kd.R_mono HO349.out (fun _ hk => ⟨hk.1.2, ⟨hk.2, hk.1.1⟩⟩)⟩, ⟨by refine qR_ ?_; exact Kd.R_mono HO353.out (fun _ hk => ⟨hk.1.2, ⟨hk.2, hk.1.1⟩⟩)⟩, ⟨tk_ BK346.out⟩, ⟨tk_ BK355.out⟩, ⟨(tb_ HB.out)⟩⟩
   ·
    replace c18 := Bool.eq_false_iff.mpr c18
    subst c18
    have H1 : (laws_FnExactReadPlace.j0 k a0 t345 true t338 t341 t342 t347 t350 t351) = some r := by rw [if_neg (show ¬ (false = true) by decide)] at H; exact H
    clear H
    have H := H1
    clear H1
    have H' := Aside0.mk H
    clear H
    have hnb23 := NB355_346.out
    have hnc23 := NB346_355.out
    have hcz24_0 : w12.cell? ⟨gb355, 0, none⟩ = some (.slice none 0 0) := (blk_cell BK355.out 0).trans rfl
    have hcz24_1 : w12.cell? ⟨gb355, 1, none⟩ = some (.int .i64 0) := (blk_cell BK355.out 1).trans rfl
    have hcz24_2 : w12.cell? ⟨gb355, 2, none⟩ = some (.slice none 0 0) := (blk_cell BK355.out 2).trans rfl
    have hfz24_0 := blk_frozen BK355.out 0
    have hfz24_1 := blk_frozen BK355.out 1
    have hfz24_2 := blk_frozen BK355.out 2
    have hcz25_0 : w12.cell? ⟨gb346, 0, none⟩ = some (.slice Ao8 t338.length co8) := (blk_cell BK346.out 0).trans rfl
    have hcz25_1 : w12.cell? ⟨gb346, 1, none⟩ = some (.int .i64 t341) := (blk_cell BK346.out 1).trans rfl
    have hcz25_2 : w12.cell? ⟨gb346, 2, none⟩ = some (.slice Ao10 t342.length co10) := (blk_cell BK346.out 2).trans rfl
    have hfz25_0 := blk_frozen BK346.out 0
    have hfz25_1 := blk_frozen BK346.out 1
    have hfz25_2 := blk_frozen BK346.out 2
    go_wp2_with (first | ((with_reducible refine gate_callee (f := 55) rfl ?_); refine goesL_ (some 26) rfl rfl Tryd.func55 (by kernel_rfl) rfl #[.agg #[.slice Ao13 t347.length co13, .int .i64 t350, .slice Ao16 t351.length co16], .agg #[.slice Ao8 t338.length co8, .int .i64 t341, .slice Ao10 t342.length co10]] rfl tz_ ?_; (with_reducible refine (laws_eqPlace.calls k _ _ t347 t350 _ _ t351 _ _ t338 t341 _ _ t342 false _ ?side1 ?side2 ?side3 ?side4 ?side5 ?side6 ?side7 ?side8 A17.out).mono ?_); (case side1 => refine (Kd.R_reads' (e := 3) (base := w.heap.size) (ok := fun k_ => ((some k_ ≠ (.slice Ao16 t351.length co16 : Value).ownBlock ∧ some k_ ≠ (.slice Ao8 t338.length co8 : Value).ownBlock) ∧ some k_ ≠ (.slice Ao10 t342.length co10 : Value).ownBlock)) (n := t347.length) (c := co13) ?_).2.2; exact (by refine qR_ ?_; exact (Kd.R_mono (Kd.R_far (p := ⟨gb355, 2, none⟩) (Kd.R_far (p := ⟨gb355, 1, none⟩) (Kd.R_far (p := ⟨gb355, 0, none⟩) (Kd.R_types HO349.out BK355.out (by decide)) (fun _ hk => hk.2) (.slice Ao13 t347.length co13)) (fun _ hk => hk.2) (.int .i64 t350)) (fun _ hk => hk.2) (.slice Ao16 t351.length co16)) (fun _ h_ => h_.1)))); (case side2 => exact (Kd.R_reads' HO349.out).2.1); (case side3 => refine (Kd.R_reads' (e := 3) (base := w.heap.size) (ok := fun k_ => ((some k_ ≠ (.slice Ao13 t347.length co13 : Value).ownBlock ∧ some k_ ≠ (.slice Ao8 t338.length co8 : Value).ownBlock) ∧ some k_ ≠ (.slice Ao10 t342.length co10 : Value).ownBlock)) (n := t351.length) (c := co16) ?_).2.2; exact (by refine qR_ ?_; exact (Kd.R_mono (Kd.R_far (p := ⟨gb355, 2, none⟩) (Kd.R_far (p := ⟨gb355, 1, none⟩) (Kd.R_far (p := ⟨gb355, 0, none⟩) (Kd.R_types HO353.out BK355.out (by decide)) (fun _ hk => hk.2) (.slice Ao13 t347.length co13)) (fun _ hk => hk.2) (.int .i64 t350)) (fun _ hk => hk.2) (.slice Ao16 t351.length co16)) (fun _ h_ => h_.1)))); (case side4 => exact (Kd.R_reads' HO353.out).2.1); (case side5 => refine (Kd.R_reads' (e := 3) (base := w.heap.size) (ok := fun k_ => ((some k_ ≠ (.slice Ao10 t342.length co10 : Value).ownBlock ∧ some k_ ≠ (.slice Ao13 t347.length co13 : Value).ownBlock) ∧ some k_ ≠ (.slice Ao16 t351.length co16 : Value).ownBlock)) (n := t338.length) (c := co8) ?_).2.2; exact (by refine qR_ ?_; exact (Kd.R_mono (Kd.R_far (p := ⟨gb355, 2, none⟩) (Kd.R_far (p := ⟨gb355, 1, none⟩) (Kd.R_far (p := ⟨gb355, 0, none⟩) (Kd.R_types HO340.out BK355.out (by decide)) (fun _ hk => hk.2) (.slice Ao13 t347.length co13)) (fun _ hk => hk.2) (.int .i64 t350)) (fun _ hk => hk.2) (.slice Ao16 t351.length co16)) (fun _ h_ => h_.1)))); (case side6 => exact (Kd.R_reads' HO340.out).2.1); (case side7 => refine (Kd.R_reads' (e := 3) (base := w.heap.size) (ok := fun k_ => ((some k_ ≠ (.slice Ao8 t338.length co8 : Value).ownBlock ∧ some k_ ≠ (.slice Ao13 t347.length co13 : Value).ownBlock) ∧ some k_ ≠ (.slice Ao16 t351.length co16 : Value).ownBlock)) (n := t342.length) (c := co10) ?_).2.2; exact (by refine qR_ ?_; exact (Kd.R_mono (Kd.R_far (p := ⟨gb355, 2, none⟩) (Kd.R_far (p := ⟨gb355, 1, none⟩) (Kd.R_far (p := ⟨gb355, 0, none⟩) (Kd.R_types HO344.out BK355.out (by decide)) (fun _ hk => hk.2) (.slice Ao13 t347.length co13)) (fun _ hk => hk.2) (.int .i64 t350)) (fun _ hk => hk.2) (.slice Ao16 t351.length co16)) (fun _ h_ => h_.1)))); (case side8 => exact (Kd.R_reads' HO344.out).2.1); rintro e w26 ⟨rfl, hb⟩; refine ⟨_, rfl, ?_⟩; have n0_ := Aside0.mk (Kd.R_below (by refine qR_ ?_; exact (Kd.R_mono (Kd.R_far (p := ⟨gb355, 2, none⟩) (Kd.R_far (p := ⟨gb355, 1, none⟩) (Kd.R_far (p := ⟨gb355, 0, none⟩) (Kd.R_types HO340.out BK355.out (by decide)) (fun _ hk => hk.2) (.slice Ao13 t347.length co13)) (fun _ hk => hk.2) (.int .i64 t350)) (fun _ hk => hk.2) (.slice Ao16 t351.length co16)) (fun _ h_ => h_.1))) hb); have n1_ := Aside0.mk (Kd.R_below (by refine qR_ ?_; exact (Kd.R_mono (Kd.R_far (p := ⟨gb355, 2, none⟩) (Kd.R_far (p := ⟨gb355, 1, none⟩) (Kd.R_far (p := ⟨gb355, 0, none⟩) (Kd.R_types HO344.out BK355.out (by decide)) (fun _ hk => hk.2) (.slice Ao13 t347.length co13)) (fun _ hk => hk.2) (.int .i64 t350)) (fun _ hk => hk.2) (.slice Ao16 t351.length co16)) (fun _ h_ => h_.1))) hb); have n2_ := Aside0.mk (Kd.R_below (by refine qR_ ?_; exact (Kd.R_mono (Kd.R_far (p := ⟨gb355, 2, none⟩) (Kd.R_far (p := ⟨gb355, 1, none⟩) (Kd.R_far (p := ⟨gb355, 0, none⟩) (Kd.R_types HO349.out BK355.out (by decide)) (fun _ hk => hk.2) (.slice Ao13 t347.length co13)) (fun _ hk => hk.2) (.int .i64 t350)) (fun _ hk => hk.2) (.slice Ao16 t351.length co16)) (fun _ h_ => h_.1))) hb); have n3_ := Aside0.mk (Kd.R_below (by refine qR_ ?_; exact (Kd.R_mono (Kd.R_far (p := ⟨gb355, 2, none⟩) (Kd.R_far (p := ⟨gb355, 1, none⟩) (Kd.R_far (p := ⟨gb355, 0, none⟩) (Kd.R_types HO353.out BK355.out (by decide)) (fun _ hk => hk.2) (.slice Ao13 t347.length co13)) (fun _ hk => hk.2) (.int .i64 t350)) (fun _ hk => hk.2) (.slice Ao16 t351.length co16)) (fun _ h_ => h_.1))) hb); have n4_ := Aside0.mk (blk_below (g := gb346) (o := .cells #[.slice Ao8 t338.length co8, .int .i64 t341, .slice Ao10 t342.length co10] 25 (0, 0)) (tk_ BK346.out) hb); have n5_ := Aside0.mk (blk_below (g := gb355) (o := .cells #[.slice Ao13 t347.length co13, .int .i64 t350, .slice Ao16 t351.length co16] 25 (0, 0)) (by refine bq_ ?_; refine blk_put (cs := #[.slice Ao13 t347.length co13, .int .i64 t350, .slice none 0 0]) ?_ 2 _ rfl; refine bq_ ?_; refine blk_put (cs := #[.slice Ao13 t347.length co13, .int .i64 0, .slice none 0 0]) ?_ 1 _ rfl; refine bq_ ?_; refine blk_put (cs := #[.slice none 0 0, .int .i64 0, .slice none 0 0]) ?_ 0 _ rfl; exact tk_ BK355.out) hb); have n6_ := Aside0.mk (below_step (tb_ HB.out) hb); clear HO340 HO344 HO349 HO353 BK346 BK355 HB; have HO340 := n0_; have HO344 := n1_; have HO349 := n2_; have HO353 := n3_; have BK346 := n4_; have BK355 := n5_; have HB := n6_; clear n0_ n1_ n2_ n3_ n4_ n5_ n6_; (try clear hb); (try clear hb2); (try clear hk); (try clear hi)))
    go_meet
    case rel => exact ⟨_, (true), tx_, H', ⟨by first | omega | exact Nat.le_refl _⟩, ⟨by refine qR_ ?_; exact Kd.R_mono HO340.out (fun _ hk => ⟨hk.1.1, ⟨hk.1.2, hk.2⟩⟩)⟩, ⟨by refine qR_ ?_; exact Kd.R_mono HO344.out (fun _ hk => ⟨hk.1.1, ⟨hk.1.2, hk.2⟩⟩)⟩, ⟨by refine qR_ ?_; exact Kd.R_mono HO349.out (fun _ hk => ⟨hk.1.2, ⟨hk.2, hk.1.1⟩⟩)⟩, ⟨by refine qR_ ?_; exact Kd.R_mono HO353.out (fun _ hk => ⟨hk.1.2, ⟨hk.2, hk.1.1⟩⟩)⟩, ⟨tk_ BK346.out⟩, ⟨tk_ BK355.out⟩, ⟨(tb_ HB.out)⟩⟩
  case rest =>
   clear HC5
   try clear c1
   try clear c2
   try clear c2b0
   try clear c2b1
   try clear p2
   try clear c5
   try clear c12
   try clear c14
   try clear c18
   try clear c19
   try clear c23
   try clear hcz15_0
   try clear hcz15_1
   try clear hcz15_2
   try clear hcz20_0
   try clear hcz20_1
   try clear hcz20_2
   try clear hcz21_0
   try clear hcz21_1
   try clear hcz21_2
   try clear hcz24_0
   try clear hcz24_1
   try clear hcz24_2
   try clear hcz25_0
   try clear hcz25_1
   try clear hcz25_2
   try clear hcz9_0
   try clear hcz9_1
   try clear hcz9_2
   try clear hfz15_0
   try clear hfz15_1
   try clear hfz15_2
   try clear hfz20_0
   try clear hfz20_1
   try clear hfz20_2
   try clear hfz21_0
   try clear hfz21_1
   try clear hfz21_2
   try clear hfz24_0
   try clear hfz24_1
   try clear hfz24_2
   try clear hfz25_0
   try clear hfz25_1
   try clear hfz25_2
   try clear hfz9_0
   try clear hfz9_1
   try clear hfz9_2
   obtain ⟨kq, x32_4, rfl, HA, HJ4, HO_347000, HO_347002, HO_356000, HO_356002, BK346, BK355, HB⟩ := hcut
   cases kq with
   | zero => exact absurd HA.out (by simp [laws_FnExactReadPlace.j0])
   | succ kj4 =>
    have H := HA.out
    clear HA
    simp only [laws_FnExactReadPlace.j0] at H
    by_cases c27 : x32_4 = true
    ·
     subst c27
     have H1 : (some false) = some r := by rw [if_pos rfl] at H; exact H
     clear H
     have H := H1
     clear H1
     obtain rfl := Option.some.inj H
     go_wp2
     go_ret
     exact ⟨by first | rfl | (simp [errW_none, errW_some, Option.map_none, Option.map_some] <;> rfl) | (simp [*, errW_none, errW_some] <;> rfl), (tb_ HB.out)⟩
    ·
     replace c27 := Bool.eq_false_iff.mpr c27
     subst c27
     have H1 : ((laws_markPlace.f kj4 t347 t350 t351 1).bind fun bt357 => ((laws_heldPlace.f kj4 bt357.2.1 t350 bt357.2.2 1).bind fun t360 => (if t360 < 0 then (some false) else (if t360 = bt357.1 then ((impl_ReadPlace.f kj4 a0).bind fun bt361 => ((laws_eqPlace.f kj4 bt361.1 bt361.2.1 bt361.2.2.1 t338 t341 t342).bind fun t370 => (if t370 = true then (laws_FnExactReadPlace.j1 kj4 bt357.1 (bt361.2.2.2 != t345) bt357.2.1 t350 bt357.2.2) else (laws_FnExactReadPlace.j1 kj4 bt357.1 true bt357.2.1 t350 bt357.2.2)))) else (some false))))) = some r := by rw [if_neg (show ¬ (false = true) by decide)] at H; exact H
     clear H
     have H := H1
     clear H1
     replace H := Option.bind_eq_some_iff.mp H
     obtain ⟨⟨t357, t358, t359⟩, A280, H⟩ := H
     replace H : ((laws_heldPlace.f kj4 t358 t350 t359 1).bind fun t360 => (if t360 < 0 then (some false) else (if t360 = t357 then ((impl_ReadPlace.f kj4 a0).bind fun bt361 => ((laws_eqPlace.f kj4 bt361.1 bt361.2.1 bt361.2.2.1 t338 t341 t342).bind fun t370 => (if t370 = true then (laws_FnExactReadPlace.j1 kj4 t357 (bt361.2.2.2 != t345) t358 t350 t359) else (laws_FnExactReadPlace.j1 kj4 t357 true t358 t350 t359)))) else (some false)))) = some r := H
     have A28 := Aside0.mk A280
     clear A280
     replace H := Option.bind_eq_some_iff.mp H
     obtain ⟨t360, A290, H⟩ := H
     replace H : (if t360 < 0 then (some false) else (if t360 = t357 then ((impl_ReadPlace.f kj4 a0).bind fun bt361 => ((laws_eqPlace.f kj4 bt361.1 bt361.2.1 bt361.2.2.1 t338 t341 t342).bind fun t370 => (if t370 = true then (laws_FnExactReadPlace.j1 kj4 t357 (bt361.2.2.2 != t345) t358 t350 t359) else (laws_FnExactReadPlace.j1 kj4 t357 true t358 t350 t359)))) else (some false))) = some r := H
     have A29 := Aside0.mk A290
     clear A290
     by_cases c30 : t360 < 0
     ·
      rw [if_pos c30] at H
      have c30b0 : decide (t360 < 0) = true := decide_eq_true c30
      clear c30
      obtain rfl := Option.some.inj H
      have hnb31 := NB355_346.out
      have hnc31 := NB346_355.out
      have hcz32_0 : wc.cell? ⟨gb355, 0, none⟩ = some (.slice Ao13 t347.length co13) := (blk_cell BK355.out 0).trans rfl
      have hcz32_1 : wc.cell? ⟨gb355, 1, none⟩ = some (.int .i64 t350) := (blk_cell BK355.out 1).trans rfl
      have hcz32_2 : wc.cell? ⟨gb355, 2, none⟩ = some (.slice Ao16 t351.length co16) := (blk_cell BK355.out 2).trans rfl
      have hfz32_0 := blk_frozen BK355.out 0
      have hfz32_1 := blk_frozen BK355.out 1
      have hfz32_2 := blk_frozen BK355.out 2
      go_wp2_with (first | ((with_reducible refine gate_callee (f := 56) rfl ?_); refine goesL_ (some 35) rfl rfl Tryd.func56 (by kernel_rfl) rfl #[.agg #[.slice Ao13 t347.length co13, .int .i64 t350, .slice Ao16 t351.length co16], .int .i64 1] rfl tz_ ?_; (with_reducible refine (laws_markPlace.calls kj4 (fun k_ => some k_ = (.slice Ao13 t347.length co13 : Value).ownBlock) (.slice Ao13 t347.length co13) t347 t350 (fun k_ => some k_ = (.slice Ao16 t351.length co16 : Value).ownBlock) (.slice Ao16 t351.length co16) t351 1 t357 t358 t359 w _ ?side1 ?side2 ?side3 ?side4 ?side5 A28.out).mono ?_); (case side1 => repeat (first | (with_reducible first | exact HB.out | apply la_ | apply ln_ | apply ld_ | refine below_set ?_ GE346.out | refine below_set ?_ GE355.out) | exact HB.out)); (case side2 => exact Kd.R_tight rfl HO_356000.out); (case side3 => exact fun k_ e_ => (HO_356000.out.1 k_ e_.symm).2.2); (case side4 => exact Kd.R_tight rfl HO_356002.out); (case side5 => exact fun k_ e_ => (HO_356002.out.1 k_ e_.symm).2.2); rintro e w33 ⟨rfl, hy0, hy1, hb, hkp⟩; refine ⟨_, rfl, ?_⟩; have n0_ := Aside0.mk (Kd.R_mono (ok' := fun k_ => some k_ ≠ (.slice Ao10 t342.length co10 : Value).ownBlock ∧ some k_ ≠ (.slice Ao13 t347.length co13 : Value).ownBlock ∧ some k_ ≠ (.slice Ao16 t351.length co16 : Value).ownBlock) (Kd.R_keptB (HO_347000.out) hkp (fun k_ hk_ hs_ => Or.elim hs_ (fun e_ => (hk_.2.1) e_) (fun e_ => (hk_.2.2) e_))) (fun k_ hk_ => ⟨hk_.1.1, hk_.1.2.1, hk_.1.2.2⟩)); have n1_ := Aside0.mk (Kd.R_mono (ok' := fun k_ => some k_ ≠ (.slice Ao8 t338.length co8 : Value).ownBlock ∧ some k_ ≠ (.slice Ao13 t347.length co13 : Value).ownBlock ∧ some k_ ≠ (.slice Ao16 t351.length co16 : Value).ownBlock) (Kd.R_keptB (HO_347002.out) hkp (fun k_ hk_ hs_ => Or.elim hs_ (fun e_ => (hk_.2.1) e_) (fun e_ => (hk_.2.2) e_))) (fun k_ hk_ => ⟨hk_.1.1, hk_.1.2.1, hk_.1.2.2⟩)); have n2_ := Aside0.mk (Kd.R_reok rfl hy0 (fun k_ e_ => HO_356000.out.1 k_ e_)); have n3_ := Aside0.mk (Kd.R_reok rfl hy1 (fun k_ e_ => HO_356002.out.1 k_ e_)); have n4_ := Aside0.mk (blk_kept (tk_ BK346.out) hkp (fun hs_ => Or.elim hs_ (fun e_ => (fun e_ => (Kd.R_ne HO_356000.out BK346.out (by decide)) e_) e_) (fun e_ => (fun e_ => (Kd.R_ne HO_356002.out BK346.out (by decide)) e_) e_))); have n5_ := Aside0.mk (blk_kept (tk_ BK355.out) hkp (fun hs_ => Or.elim hs_ (fun e_ => (fun e_ => (Kd.R_ne HO_356000.out BK355.out (by decide)) e_) e_) (fun e_ => (fun e_ => (Kd.R_ne HO_356002.out BK355.out (by decide)) e_) e_))); have n6_ := Aside0.mk (hb); clear HO_347000 HO_347002 HO_356000 HO_356002 BK346 BK355 HB; have HO_347000 := n0_; have HO_347002 := n1_; have HO_356000 := n2_; have HO_356002 := n3_; have BK346 := n4_; have BK355 := n5_; have HB := n6_; clear n0_ n1_ n2_ n3_ n4_ n5_ n6_; (try clear hb); (try clear hkp); (try clear hy0); (try clear hy1); have hcz34_0 : w33.cell? ⟨gb355, 0, none⟩ = some (.slice Ao13 t347.length co13) := (blk_cell BK355.out 0).trans rfl; have hcz34_1 : w33.cell? ⟨gb355, 1, none⟩ = some (.int .i64 t350) := (blk_cell BK355.out 1).trans rfl; have hcz34_2 : w33.cell? ⟨gb355, 2, none⟩ = some (.slice Ao16 t351.length co16) := (blk_cell BK355.out 2).trans rfl; have hfz34_0 := blk_frozen BK355.out 0; have hfz34_1 := blk_frozen BK355.out 1; have hfz34_2 := blk_frozen BK355.out 2) | ((with_reducible refine gate_callee (f := 57) rfl ?_); refine goesL_ (some 38) rfl rfl Tryd.func57 (by kernel_rfl) rfl #[.agg #[.slice Ao13 t358.length co13, .int .i64 t350, .slice Ao16 t359.length co16], .int .i64 1] rfl (by (try simp only [List.map_toArray, List.map_cons, List.map_nil]); first | done | (rw [show t358.length = t347.length from (Kd.R_reads' HO_356000.out).1.symm, show t359.length = t351.length from (Kd.R_reads' HO_356002.out).1.symm] <;> rfl) | rfl | (simp only [List.length_drop, List.length_take]; rfl)) ?_; (with_reducible refine (laws_heldPlace.calls kj4 _ _ t358 t350 _ _ t359 1 t360 _ ?side1 ?side2 ?side3 ?side4 A29.out).mono ?_); (case side1 => repeat (first | exact (Kd.R_reads' HO_356000.out).2.2 | (with_reducible refine Kd.C_alloc ?_ _) | (with_reducible refine Kd.C_drewN ?_ _) | (with_reducible refine Kd.C_drew ?_))); (case side2 => rw [show t358.length = t347.length from (Kd.R_reads' HO_356000.out).1.symm]; exact (Kd.R_reads' HO_356000.out).2.1); (case side3 => repeat (first | exact (Kd.R_reads' HO_356002.out).2.2 | (with_reducible refine Kd.C_alloc ?_ _) | (with_reducible refine Kd.C_drewN ?_ _) | (with_reducible refine Kd.C_drew ?_))); (case side4 => rw [show t359.length = t351.length from (Kd.R_reads' HO_356002.out).1.symm]; exact (Kd.R_reads' HO_356002.out).2.1); rintro e w35 ⟨rfl, hb⟩; refine ⟨_, rfl, ?_⟩; have n0_ := Aside0.mk (Kd.R_below (rR_ HO_347000.out) hb); have n1_ := Aside0.mk (Kd.R_below (rR_ HO_347002.out) hb); have n2_ := Aside0.mk (Kd.R_below (rR_ HO_356000.out) hb); have n3_ := Aside0.mk (Kd.R_below (rR_ HO_356002.out) hb); have n4_ := Aside0.mk (blk_below (g := gb346) (o := .cells #[.slice Ao8 t338.length co8, .int .i64 t341, .slice Ao10 t342.length co10] 25 (0, 0)) (tk_ BK346.out) hb); have n5_ := Aside0.mk (blk_below (g := gb355) (o := .cells #[.slice Ao13 t347.length co13, .int .i64 t350, .slice Ao16 t351.length co16] 25 (0, 0)) (tk_ BK355.out) hb); have n6_ := Aside0.mk (below_step (tb_ HB.out) hb); clear HO_347000 HO_347002 HO_356000 HO_356002 BK346 BK355 HB; have HO_347000 := n0_; have HO_347002 := n1_; have HO_356000 := n2_; have HO_356002 := n3_; have BK346 := n4_; have BK355 := n5_; have HB := n6_; clear n0_ n1_ n2_ n3_ n4_ n5_ n6_; (try clear hb); (try clear hb2); (try clear hk); (try clear hi)))
      go_ret
      exact ⟨by first | rfl | (simp [errW_none, errW_some, Option.map_none, Option.map_some] <;> rfl) | (simp [*, errW_none, errW_some] <;> rfl), (tb_ HB.out)⟩
     ·
      rw [if_neg c30] at H
      have c30b0 : decide (t360 < 0) = false := decide_eq_false c30
      clear c30
      by_cases c36 : t360 = t357
      ·
       rw [if_pos c36] at H
       have c36b0 : (t360 == t357) = true := beq_iff_eq.mpr c36
       have c36b1 : (t360 != t357) = false := bne_eq_false_iff_eq.mpr c36
       clear c36
       replace H := Option.bind_eq_some_iff.mp H
       obtain ⟨⟨t361, t364, t365, t368⟩, A370, H⟩ := H
       replace H : ((laws_eqPlace.f kj4 t361 t364 t365 t338 t341 t342).bind fun t370 => (if t370 = true then (laws_FnExactReadPlace.j1 kj4 t357 (t368 != t345) t358 t350 t359) else (laws_FnExactReadPlace.j1 kj4 t357 true t358 t350 t359))) = some r := H
       have A37 := Aside0.mk A370
       clear A370
       have HC38 := Aside0.mk H
       clear H
       have hnb39 := NB355_346.out
       have hnc39 := NB346_355.out
       have hcz40_0 : wc.cell? ⟨gb355, 0, none⟩ = some (.slice Ao13 t347.length co13) := (blk_cell BK355.out 0).trans rfl
       have hcz40_1 : wc.cell? ⟨gb355, 1, none⟩ = some (.int .i64 t350) := (blk_cell BK355.out 1).trans rfl
       have hcz40_2 : wc.cell? ⟨gb355, 2, none⟩ = some (.slice Ao16 t351.length co16) := (blk_cell BK355.out 2).trans rfl
       have hfz40_0 := blk_frozen BK355.out 0
       have hfz40_1 := blk_frozen BK355.out 1
       have hfz40_2 := blk_frozen BK355.out 2
       go_upto_region 16 with (first | ((with_reducible refine gate_callee (f := 56) rfl ?_); refine goesL_ (some 35) rfl rfl Tryd.func56 (by kernel_rfl) rfl #[.agg #[.slice Ao13 t347.length co13, .int .i64 t350, .slice Ao16 t351.length co16], .int .i64 1] rfl tz_ ?_; (with_reducible refine (laws_markPlace.calls kj4 (fun k_ => some k_ = (.slice Ao13 t347.length co13 : Value).ownBlock) (.slice Ao13 t347.length co13) t347 t350 (fun k_ => some k_ = (.slice Ao16 t351.length co16 : Value).ownBlock) (.slice Ao16 t351.length co16) t351 1 t357 t358 t359 w _ ?side1 ?side2 ?side3 ?side4 ?side5 A28.out).mono ?_); (case side1 => repeat (first | (with_reducible first | exact HB.out | apply la_ | apply ln_ | apply ld_ | refine below_set ?_ GE346.out | refine below_set ?_ GE355.out) | exact HB.out)); (case side2 => exact Kd.R_tight rfl HO_356000.out); (case side3 => exact fun k_ e_ => (HO_356000.out.1 k_ e_.symm).2.2); (case side4 => exact Kd.R_tight rfl HO_356002.out); (case side5 => exact fun k_ e_ => (HO_356002.out.1 k_ e_.symm).2.2); rintro e w41 ⟨rfl, hy0, hy1, hb, hkp⟩; refine ⟨_, rfl, ?_⟩; have n0_ := Aside0.mk (Kd.R_mono (ok' := fun k_ => some k_ ≠ (.slice Ao10 t342.length co10 : Value).ownBlock ∧ some k_ ≠ (.slice Ao13 t347.length co13 : Value).ownBlock ∧ some k_ ≠ (.slice Ao16 t351.length co16 : Value).ownBlock) (Kd.R_keptB (HO_347000.out) hkp (fun k_ hk_ hs_ => Or.elim hs_ (fun e_ => (hk_.2.1) e_) (fun e_ => (hk_.2.2) e_))) (fun k_ hk_ => ⟨hk_.1.1, hk_.1.2.1, hk_.1.2.2⟩)); have n1_ := Aside0.mk (Kd.R_mono (ok' := fun k_ => some k_ ≠ (.slice Ao8 t338.length co8 : Value).ownBlock ∧ some k_ ≠ (.slice Ao13 t347.length co13 : Value).ownBlock ∧ some k_ ≠ (.slice Ao16 t351.length co16 : Value).ownBlock) (Kd.R_keptB (HO_347002.out) hkp (fun k_ hk_ hs_ => Or.elim hs_ (fun e_ => (hk_.2.1) e_) (fun e_ => (hk_.2.2) e_))) (fun k_ hk_ => ⟨hk_.1.1, hk_.1.2.1, hk_.1.2.2⟩)); have n2_ := Aside0.mk (Kd.R_reok rfl hy0 (fun k_ e_ => HO_356000.out.1 k_ e_)); have n3_ := Aside0.mk (Kd.R_reok rfl hy1 (fun k_ e_ => HO_356002.out.1 k_ e_)); have n4_ := Aside0.mk (blk_kept (tk_ BK346.out) hkp (fun hs_ => Or.elim hs_ (fun e_ => (fun e_ => (Kd.R_ne HO_356000.out BK346.out (by decide)) e_) e_) (fun e_ => (fun e_ => (Kd.R_ne HO_356002.out BK346.out (by decide)) e_) e_))); have n5_ := Aside0.mk (blk_kept (tk_ BK355.out) hkp (fun hs_ => Or.elim hs_ (fun e_ => (fun e_ => (Kd.R_ne HO_356000.out BK355.out (by decide)) e_) e_) (fun e_ => (fun e_ => (Kd.R_ne HO_356002.out BK355.out (by decide)) e_) e_))); have n6_ := Aside0.mk (hb); clear HO_347000 HO_347002 HO_356000 HO_356002 BK346 BK355 HB; have HO_347000 := n0_; have HO_347002 := n1_; have HO_356000 := n2_; have HO_356002 := n3_; have BK346 := n4_; have BK355 := n5_; have HB := n6_; clear n0_ n1_ n2_ n3_ n4_ n5_ n6_; (try clear hb); (try clear hkp); (try clear hy0); (try clear hy1); have hcz42_0 : w41.cell? ⟨gb355, 0, none⟩ = some (.slice Ao13 t347.length co13) := (blk_cell BK355.out 0).trans rfl; have hcz42_1 : w41.cell? ⟨gb355, 1, none⟩ = some (.int .i64 t350) := (blk_cell BK355.out 1).trans rfl; have hcz42_2 : w41.cell? ⟨gb355, 2, none⟩ = some (.slice Ao16 t351.length co16) := (blk_cell BK355.out 2).trans rfl; have hfz42_0 := blk_frozen BK355.out 0; have hfz42_1 := blk_frozen BK355.out 1; have hfz42_2 := blk_frozen BK355.out 2) | ((with_reducible refine gate_callee (f := 57) rfl ?_); refine goesL_ (some 38) rfl rfl Tryd.func57 (by kernel_rfl) rfl #[.agg #[.slice Ao13 t358.length co13, .int .i64 t350, .slice Ao16 t359.length co16], .int .i64 1] rfl (by (try simp only [List.map_toArray, List.map_cons, List.map_nil]); first | done | (rw [show t358.length = t347.length from (Kd.R_reads' HO_356000.out).1.symm, show t359.length = t351.length from (Kd.R_reads' HO_356002.out).1.symm] <;> rfl) | rfl | (simp only [List.length_drop, List.length_take]; rfl)) ?_; (with_reducible refine (laws_heldPlace.calls kj4 _ _ t358 t350 _ _ t359 1 t360 _ ?side1 ?side2 ?side3 ?side4 A29.out).mono ?_); (case side1 => repeat (first | exact (Kd.R_reads' HO_356000.out).2.2 | (with_reducible refine Kd.C_alloc ?_ _) | (with_reducible refine Kd.C_drewN ?_ _) | (with_reducible refine Kd.C_drew ?_))); (case side2 => rw [show t358.length = t347.length from (Kd.R_reads' HO_356000.out).1.symm]; exact (Kd.R_reads' HO_356000.out).2.1); (case side3 => repeat (first | exact (Kd.R_reads' HO_356002.out).2.2 | (with_reducible refine Kd.C_alloc ?_ _) | (with_reducible refine Kd.C_drewN ?_ _) | (with_reducible refine Kd.C_drew ?_))); (case side4 => rw [show t359.length = t351.length from (Kd.R_reads' HO_356002.out).1.symm]; exact (Kd.R_reads' HO_356002.out).2.1); rintro e w43 ⟨rfl, hb⟩; refine ⟨_, rfl, ?_⟩; have n0_ := Aside0.mk (Kd.R_below (rR_ HO_347000.out) hb); have n1_ := Aside0.mk (Kd.R_below (rR_ HO_347002.out) hb); have n2_ := Aside0.mk (Kd.R_below (rR_ HO_356000.out) hb); have n3_ := Aside0.mk (Kd.R_below (rR_ HO_356002.out) hb); have n4_ := Aside0.mk (blk_below (g := gb346) (o := .cells #[.slice Ao8 t338.length co8, .int .i64 t341, .slice Ao10 t342.length co10] 25 (0, 0)) (tk_ BK346.out) hb); have n5_ := Aside0.mk (blk_below (g := gb355) (o := .cells #[.slice Ao13 t347.length co13, .int .i64 t350, .slice Ao16 t351.length co16] 25 (0, 0)) (tk_ BK355.out) hb); have n6_ := Aside0.mk (below_step (tb_ HB.out) hb); clear HO_347000 HO_347002 HO_356000 HO_356002 BK346 BK355 HB; have HO_347000 := n0_; have HO_347002 := n1_; have HO_356000 := n2_; have HO_356002 := n3_; have BK346 := n4_; have BK355 := n5_; have HB := n6_; clear n0_ n1_ n2_ n3_ n4_ n5_ n6_; (try clear hb); (try clear hb2); (try clear hk); (try clear hi)) | ((with_reducible refine gate_callee (f := 54) rfl ?_); refine goesL_ (some 46) rfl rfl Tryd.func54 (by kernel_rfl) rfl #[.string a0] rfl tz_ ?_; (with_reducible refine (impl_ReadPlace.calls kj4 a0 t361 t364 t365 t368 _ ?side1 A37.out).mono ?_); (case side1 => exact GWb.below HG.out (tb_ HB.out)); rintro e w44 ⟨v362, v366, rfl, ho0, ho1, hb⟩; refine ⟨_, rfl, ?_⟩; have n0_ := Aside0.mk (Kd.R_mono (Kd.R_told (Kd.R_told (Kd.R_old (rR_ HO_347000.out) hb) (Kd.R_base ho0)) (Kd.R_base ho1)) (fun _ h_ => h_.1)); have n1_ := Aside0.mk (Kd.R_mono (Kd.R_told (Kd.R_told (Kd.R_old (rR_ HO_347002.out) hb) (Kd.R_base ho0)) (Kd.R_base ho1)) (fun _ h_ => h_.1)); have n2_ := Aside0.mk (Kd.R_mono (Kd.R_told (Kd.R_told (Kd.R_old (rR_ HO_356000.out) hb) (Kd.R_base ho0)) (Kd.R_base ho1)) (fun _ h_ => h_.1)); have n3_ := Aside0.mk (Kd.R_mono (Kd.R_told (Kd.R_told (Kd.R_old (rR_ HO_356002.out) hb) (Kd.R_base ho0)) (Kd.R_base ho1)) (fun _ h_ => h_.1)); have n4_ := Aside0.mk (Kd.R_lower (Kd.R_new' (Kd.R_new' (Kd.R_new' (Kd.R_new' ho0 (Kd.R_lt (rR_ HO_347000.out))) (Kd.R_lt (rR_ HO_347002.out))) (Kd.R_lt (rR_ HO_356000.out))) (Kd.R_lt (rR_ HO_356002.out))) (below_size (tb_ HB.out))); have n5_ := Aside0.mk (Kd.R_lower (Kd.R_new' (Kd.R_new' (Kd.R_new' (Kd.R_new' ho1 (Kd.R_lt (rR_ HO_347000.out))) (Kd.R_lt (rR_ HO_347002.out))) (Kd.R_lt (rR_ HO_356000.out))) (Kd.R_lt (rR_ HO_356002.out))) (below_size (tb_ HB.out))); have n6_ := Aside0.mk (blk_below (g := gb346) (o := .cells #[.slice Ao8 t338.length co8, .int .i64 t341, .slice Ao10 t342.length co10] 25 (0, 0)) (tk_ BK346.out) hb); have n7_ := Aside0.mk (blk_below (g := gb355) (o := .cells #[.slice Ao13 t347.length co13, .int .i64 t350, .slice Ao16 t351.length co16] 25 (0, 0)) (tk_ BK355.out) hb); have n8_ := Aside0.mk (below_step (tb_ HB.out) hb); clear HO_347000 HO_347002 HO_356000 HO_356002 BK346 BK355 HB; have HO_347000 := n0_; have HO_347002 := n1_; have HO_356000 := n2_; have HO_356002 := n3_; have HO363 := n4_; have HO367 := n5_; have BK346 := n6_; have BK355 := n7_; have HB := n8_; clear n0_ n1_ n2_ n3_ n4_ n5_ n6_ n7_ n8_; (try clear hb); (try clear hb2); (try clear hk); (try clear hi); (try clear ho0); (try clear ho1)) | ((with_reducible refine gate_dst (N := 9) rfl ?_); refine box_event ?hg (N := 9) ?hd (cs := #[.slice none 0 0, .int .i64 0, .slice none 0 0]) (t := 25) ?hr ?_; (case hd => rfl); (case hg => rfl); (case hr => first | (go_simp; done) | (go_simp; rfl)); intro gb369 hg w45 hbox hb; have n0_ := Aside0.mk (Kd.R_below (rR_ HO_347000.out) hb); have n1_ := Aside0.mk (Kd.R_below (rR_ HO_347002.out) hb); have n2_ := Aside0.mk (Kd.R_below (rR_ HO_356000.out) hb); have n3_ := Aside0.mk (Kd.R_below (rR_ HO_356002.out) hb); have n4_ := Aside0.mk (Kd.R_below (rR_ HO363.out) hb); have n5_ := Aside0.mk (Kd.R_below (rR_ HO367.out) hb); have n6_ := Aside0.mk (blk_below (g := gb346) (o := .cells #[.slice Ao8 t338.length co8, .int .i64 t341, .slice Ao10 t342.length co10] 25 (0, 0)) (tk_ BK346.out) hb); have n7_ := Aside0.mk (blk_below (g := gb355) (o := .cells #[.slice Ao13 t347.length co13, .int .i64 t350, .slice Ao16 t351.length co16] 25 (0, 0)) (tk_ BK355.out) hb); have n8_ := Aside0.mk (below_step (tb_ HB.out) hb); have n9_ := Aside0.mk (hbox); have n10_ := Aside0.mk ((by rw [hg]; exact (below_size (tb_ HB.out)) : w.heap.size ≤ gb369)); have n11_ := Aside0.mk ((by rw [hg]; exact (below_size (tb_ HB.out)) : w.heap.size ≤ gb369)); have n12_ := Aside0.mk ((by rw [hg]; exact Nat.ne_of_lt (blk_lt (g := gb346) (o := .cells #[.slice Ao8 t338.length co8, .int .i64 t341, .slice Ao10 t342.length co10] 25 (0, 0)) (tk_ BK346.out)) : gb346 ≠ gb369)); have n13_ := Aside0.mk ((by rw [hg]; exact Nat.ne_of_gt (blk_lt (g := gb346) (o := .cells #[.slice Ao8 t338.length co8, .int .i64 t341, .slice Ao10 t342.length co10] 25 (0, 0)) (tk_ BK346.out)) : gb369 ≠ gb346)); have n14_ := Aside0.mk ((by rw [hg]; exact Nat.ne_of_lt (blk_lt (g := gb355) (o := .cells #[.slice Ao13 t347.length co13, .int .i64 t350, .slice Ao16 t351.length co16] 25 (0, 0)) (tk_ BK355.out)) : gb355 ≠ gb369)); have n15_ := Aside0.mk ((by rw [hg]; exact Nat.ne_of_gt (blk_lt (g := gb355) (o := .cells #[.slice Ao13 t347.length co13, .int .i64 t350, .slice Ao16 t351.length co16] 25 (0, 0)) (tk_ BK355.out)) : gb369 ≠ gb355)); clear HO_347000 HO_347002 HO_356000 HO_356002 HO363 HO367 BK346 BK355 HB; have HO_347000 := n0_; have HO_347002 := n1_; have HO_356000 := n2_; have HO_356002 := n3_; have HO363 := n4_; have HO367 := n5_; have BK346 := n6_; have BK355 := n7_; have HB := n8_; have BK369 := n9_; have GW369 := n10_; have GE369 := n11_; have NB346_369 := n12_; have NB369_346 := n13_; have NB355_369 := n14_; have NB369_355 := n15_; clear n0_ n1_ n2_ n3_ n4_ n5_ n6_ n7_ n8_ n9_ n10_ n11_ n12_ n13_ n14_ n15_ hb hbox hg; obtain ⟨Ao46, co46, eo46⟩ := Kd.R_slice HO363.out; subst eo46; have hnb47 := NB369_346.out; have hnc47 := NB346_369.out; have hnb48 := NB369_355.out; have hnc48 := NB355_369.out; have hcz49_0 : w45.cell? ⟨gb369, 0, none⟩ = some (.slice none 0 0) := (blk_cell BK369.out 0).trans rfl; have hcz49_1 : w45.cell? ⟨gb369, 1, none⟩ = some (.int .i64 0) := (blk_cell BK369.out 1).trans rfl; have hcz49_2 : w45.cell? ⟨gb369, 2, none⟩ = some (.slice none 0 0) := (blk_cell BK369.out 2).trans rfl; have hfz49_0 := blk_frozen BK369.out 0; have hfz49_1 := blk_frozen BK369.out 1; have hfz49_2 := blk_frozen BK369.out 2; obtain ⟨Ao50, co50, eo50⟩ := Kd.R_slice HO367.out; subst eo50))
       (try simp only [Act.put, sa_, sb_, sc_])
       go_cut [57] (fun v57 wc => ∃ (kq : Nat) (x57_37 : Bool), v57 = .bool x57_37 ∧ Aside0 (laws_FnExactReadPlace.j1 kq t357 x57_37 t358 t350 t359 = some r) ∧ Aside0 (kq ≤ kj4) ∧ Aside0 (Kd.R (Kd.int .i64) 3 wc w.heap.size (fun k_ => some k_ ≠ ((.slice Ao10 t342.length co10) : Value).ownBlock ∧ some k_ ≠ ((.slice Ao13 t347.length co13) : Value).ownBlock ∧ some k_ ≠ ((.slice Ao16 t351.length co16) : Value).ownBlock ∧ some k_ ≠ ((.slice Ao46 t361.length co46) : Value).ownBlock ∧ some k_ ≠ ((.slice Ao50 t365.length co50) : Value).ownBlock) (.slice Ao8 t338.length co8) t338) ∧ Aside0 (Kd.R (Kd.int .i64) 3 wc w.heap.size (fun k_ => some k_ ≠ ((.slice Ao8 t338.length co8) : Value).ownBlock ∧ some k_ ≠ ((.slice Ao13 t347.length co13) : Value).ownBlock ∧ some k_ ≠ ((.slice Ao16 t351.length co16) : Value).ownBlock ∧ some k_ ≠ ((.slice Ao46 t361.length co46) : Value).ownBlock ∧ some k_ ≠ ((.slice Ao50 t365.length co50) : Value).ownBlock) (.slice Ao10 t342.length co10) t342) ∧ Aside0 (Kd.R (Kd.int .i64) 3 wc w.heap.size (fun k_ => some k_ ≠ ((.slice Ao8 t338.length co8) : Value).ownBlock ∧ some k_ ≠ ((.slice Ao10 t342.length co10) : Value).ownBlock ∧ some k_ ≠ ((.slice Ao16 t351.length co16) : Value).ownBlock ∧ some k_ ≠ ((.slice Ao46 t361.length co46) : Value).ownBlock ∧ some k_ ≠ ((.slice Ao50 t365.length co50) : Value).ownBlock) (.slice Ao13 t347.length co13) t358) ∧ Aside0 (Kd.R (Kd.int .i64) 3 wc w.heap.size (fun k_ => some k_ ≠ ((.slice Ao8 t338.length co8) : Value).ownBlock ∧ some k_ ≠ ((.slice Ao10 t342.length co10) : Value).ownBlock ∧ some k_ ≠ ((.slice Ao13 t347.length co13) : Value).ownBlock ∧ some k_ ≠ ((.slice Ao46 t361.length co46) : Value).ownBlock ∧ some k_ ≠ ((.slice Ao50 t365.length co50) : Value).ownBlock) (.slice Ao16 t351.length co16) t359) ∧ Aside0 (Kd.R (Kd.int .i64) 3 wc w.heap.size (fun k_ => some k_ ≠ ((.slice Ao8 t338.length co8) : Value).ownBlock ∧ some k_ ≠ ((.slice Ao10 t342.length co10) : Value).ownBlock ∧ some k_ ≠ ((.slice Ao13 t347.length co13) : Value).ownBlock ∧ some k_ ≠ ((.slice Ao16 t351.length co16) : Value).ownBlock ∧ some k_ ≠ ((.slice Ao50 t365.length co50) : Value).ownBlock) (.slice Ao46 t361.length co46) t361) ∧ Aside0 (Kd.R (Kd.int .i64) 3 wc w.heap.size (fun k_ => some k_ ≠ ((.slice Ao8 t338.length co8) : Value).ownBlock ∧ some k_ ≠ ((.slice Ao10 t342.length co10) : Value).ownBlock ∧ some k_ ≠ ((.slice Ao13 t347.length co13) : Value).ownBlock ∧ some k_ ≠ ((.slice Ao16 t351.length co16) : Value).ownBlock ∧ some k_ ≠ ((.slice Ao46 t361.length co46) : Value).ownBlock) (.slice Ao50 t365.length co50) t365) ∧ Aside0 (wc.heap[gb346]? = some (.cells #[(.slice Ao8 t338.length co8), .int .i64 t341, (.slice Ao10 t342.length co10)] 25 (0, 0))) ∧ Aside0 (wc.heap[gb355]? = some (.cells #[(.slice Ao13 t347.length co13), .int .i64 t350, (.slice Ao16 t351.length co16)] 25 (0, 0))) ∧ Aside0 (wc.heap[gb369]? = some (.cells #[(.slice Ao46 t361.length co46), .int .i64 t364, (.slice Ao50 t365.length co50)] 25 (0, 0))) ∧ Aside0 (Below w.heap.size w wc))
       case first =>
        have H := HC38.out
        clear HC38
        replace H := Option.bind_eq_some_iff.mp H
        obtain ⟨t370, A510, H⟩ := H
        replace H : (if t370 = true then (laws_FnExactReadPlace.j1 kj4 t357 (t368 != t345) t358 t350 t359) else (laws_FnExactReadPlace.j1 kj4 t357 true t358 t350 t359)) = some r := H
        have A51 := Aside0.mk A510
        clear A510
        by_cases c52 : t370 = true
        ·
         subst c52
         have H1 : (laws_FnExactReadPlace.j1 kj4 t357 (t368 != t345) t358 t350 t359) = some r := by rw [if_pos rfl] at H; exact H
         clear H
         have H := H1
         clear H1
         have H' := Aside0.mk H
         clear H
         have hnb53 := NB369_346.out
         have hnc53 := NB346_369.out
         have hnb54 := NB369_355.out
         have hnc54 := NB355_369.out
         have hcz55_0 : w45.cell? ⟨gb369, 0, none⟩ = some (.slice none 0 0) := (blk_cell BK369.out 0).trans rfl
         have hcz55_1 : w45.cell? ⟨gb369, 1, none⟩ = some (.int .i64 0) := (blk_cell BK369.out 1).trans rfl
         have hcz55_2 : w45.cell? ⟨gb369, 2, none⟩ = some (.slice none 0 0) := (blk_cell BK369.out 2).trans rfl
         have hfz55_0 := blk_frozen BK369.out 0
         have hfz55_1 := blk_frozen BK369.out 1
         have hfz55_2 := blk_frozen BK369.out 2
         have hnb56 := NB346_355.out
         have hnc56 := NB355_346.out
         have hcz57_0 : w45.cell? ⟨gb346, 0, none⟩ = some (.slice Ao8 t338.length co8) := (blk_cell BK346.out 0).trans rfl
         have hcz57_1 : w45.cell? ⟨gb346, 1, none⟩ = some (.int .i64 t341) := (blk_cell BK346.out 1).trans rfl
         have hcz57_2 : w45.cell? ⟨gb346, 2, none⟩ = some (.slice Ao10 t342.length co10) := (blk_cell BK346.out 2).trans rfl
         have hfz57_0 := blk_frozen BK346.out 0
         have hfz57_1 := blk_frozen BK346.out 1
         have hfz57_2 := blk_frozen BK346.out 2
         go_wp2_with (first | ((with_reducible refine gate_callee (f := 55) rfl ?_); refine goesL_ (some 51) rfl rfl Tryd.func55 (by kernel_rfl) rfl #[.agg #[.slice Ao46 t361.length co46, .int .i64 t364, .slice Ao50 t365.length co50], .agg #[.slice Ao8 t338.length co8, .int .i64 t341, .slice Ao10 t342.length co10]] rfl tz_ ?_; (with_reducible refine (laws_eqPlace.calls kj4 _ _ t361 t364 _ _ t365 _ _ t338 t341 _ _ t342 true _ ?side1 ?side2 ?side3 ?side4 ?side5 ?side6 ?side7 ?side8 A51.out).mono ?_); (case side1 => refine (Kd.R_reads' (e := 3) (base := w.heap.size) (ok := fun k_ => ((((some k_ ≠ (.slice Ao50 t365.length co50 : Value).ownBlock ∧ some k_ ≠ (.slice Ao8 t338.length co8 : Value).ownBlock) ∧ some k_ ≠ (.slice Ao10 t342.length co10 : Value).ownBlock) ∧ some k_ ≠ (.slice Ao13 t347.length co13 : Value).ownBlock) ∧ some k_ ≠ (.slice Ao16 t351.length co16 : Value).ownBlock)) (n := t361.length) (c := co46) ?_).2.2; exact (by refine qR_ ?_; exact (Kd.R_mono (Kd.R_far (p := ⟨gb369, 2, none⟩) (Kd.R_far (p := ⟨gb369, 1, none⟩) (Kd.R_far (p := ⟨gb369, 0, none⟩) (Kd.R_types HO363.out BK369.out (by decide)) (fun _ hk => hk.2) (.slice Ao46 t361.length co46)) (fun _ hk => hk.2) (.int .i64 t364)) (fun _ hk => hk.2) (.slice Ao50 t365.length co50)) (fun _ h_ => h_.1)))); (case side2 => exact (Kd.R_reads' HO363.out).2.1); (case side3 => refine (Kd.R_reads' (e := 3) (base := w.heap.size) (ok := fun k_ => ((((some k_ ≠ (.slice Ao46 t361.length co46 : Value).ownBlock ∧ some k_ ≠ (.slice Ao8 t338.length co8 : Value).ownBlock) ∧ some k_ ≠ (.slice Ao10 t342.length co10 : Value).ownBlock) ∧ some k_ ≠ (.slice Ao13 t347.length co13 : Value).ownBlock) ∧ some k_ ≠ (.slice Ao16 t351.length co16 : Value).ownBlock)) (n := t365.length) (c := co50) ?_).2.2; exact (by refine qR_ ?_; exact (Kd.R_mono (Kd.R_far (p := ⟨gb369, 2, none⟩) (Kd.R_far (p := ⟨gb369, 1, none⟩) (Kd.R_far (p := ⟨gb369, 0, none⟩) (Kd.R_types HO367.out BK369.out (by decide)) (fun _ hk => hk.2) (.slice Ao46 t361.length co46)) (fun _ hk => hk.2) (.int .i64 t364)) (fun _ hk => hk.2) (.slice Ao50 t365.length co50)) (fun _ h_ => h_.1)))); (case side4 => exact (Kd.R_reads' HO367.out).2.1); (case side5 => refine (Kd.R_reads' (e := 3) (base := w.heap.size) (ok := fun k_ => (((some k_ ≠ (.slice Ao10 t342.length co10 : Value).ownBlock ∧ (some k_ ≠ (.slice Ao13 t347.length co13 : Value).ownBlock ∧ some k_ ≠ (.slice Ao16 t351.length co16 : Value).ownBlock)) ∧ some k_ ≠ (.slice Ao46 t361.length co46 : Value).ownBlock) ∧ some k_ ≠ (.slice Ao50 t365.length co50 : Value).ownBlock)) (n := t338.length) (c := co8) ?_).2.2; exact (by refine qR_ ?_; exact (Kd.R_mono (Kd.R_far (p := ⟨gb369, 2, none⟩) (Kd.R_far (p := ⟨gb369, 1, none⟩) (Kd.R_far (p := ⟨gb369, 0, none⟩) (Kd.R_types HO_347000.out BK369.out (by decide)) (fun _ hk => hk.2) (.slice Ao46 t361.length co46)) (fun _ hk => hk.2) (.int .i64 t364)) (fun _ hk => hk.2) (.slice Ao50 t365.length co50)) (fun _ h_ => h_.1)))); (case side6 => exact (Kd.R_reads' HO_347000.out).2.1); (case side7 => refine (Kd.R_reads' (e := 3) (base := w.heap.size) (ok := fun k_ => (((some k_ ≠ (.slice Ao8 t338.length co8 : Value).ownBlock ∧ (some k_ ≠ (.slice Ao13 t347.length co13 : Value).ownBlock ∧ some k_ ≠ (.slice Ao16 t351.length co16 : Value).ownBlock)) ∧ some k_ ≠ (.slice Ao46 t361.length co46 : Value).ownBlock) ∧ some k_ ≠ (.slice Ao50 t365.length co50 : Value).ownBlock)) (n := t342.length) (c := co10) ?_).2.2; exact (by refine qR_ ?_; exact (Kd.R_mono (Kd.R_far (p := ⟨gb369, 2, none⟩) (Kd.R_far (p := ⟨gb369, 1, none⟩) (Kd.R_far (p := ⟨gb369, 0, none⟩) (Kd.R_types HO_347002.out BK369.out (by decide)) (fun _ hk => hk.2) (.slice Ao46 t361.length co46)) (fun _ hk => hk.2) (.int .i64 t364)) (fun _ hk => hk.2) (.slice Ao50 t365.length co50)) (fun _ h_ => h_.1)))); (case side8 => exact (Kd.R_reads' HO_347002.out).2.1); rintro e w58 ⟨rfl, hb⟩; refine ⟨_, rfl, ?_⟩; have n0_ := Aside0.mk (Kd.R_below (by refine qR_ ?_; exact (Kd.R_mono (Kd.R_far (p := ⟨gb369, 2, none⟩) (Kd.R_far (p := ⟨gb369, 1, none⟩) (Kd.R_far (p := ⟨gb369, 0, none⟩) (Kd.R_types HO_347000.out BK369.out (by decide)) (fun _ hk => hk.2) (.slice Ao46 t361.length co46)) (fun _ hk => hk.2) (.int .i64 t364)) (fun _ hk => hk.2) (.slice Ao50 t365.length co50)) (fun _ h_ => h_.1))) hb); have n1_ := Aside0.mk (Kd.R_below (by refine qR_ ?_; exact (Kd.R_mono (Kd.R_far (p := ⟨gb369, 2, none⟩) (Kd.R_far (p := ⟨gb369, 1, none⟩) (Kd.R_far (p := ⟨gb369, 0, none⟩) (Kd.R_types HO_347002.out BK369.out (by decide)) (fun _ hk => hk.2) (.slice Ao46 t361.length co46)) (fun _ hk => hk.2) (.int .i64 t364)) (fun _ hk => hk.2) (.slice Ao50 t365.length co50)) (fun _ h_ => h_.1))) hb); have n2_ := Aside0.mk (Kd.R_below (by refine qR_ ?_; exact (Kd.R_mono (Kd.R_far (p := ⟨gb369, 2, none⟩) (Kd.R_far (p := ⟨gb369, 1, none⟩) (Kd.R_far (p := ⟨gb369, 0, none⟩) (Kd.R_types HO_356000.out BK369.out (by decide)) (fun _ hk => hk.2) (.slice Ao46 t361.length co46)) (fun _ hk => hk.2) (.int .i64 t364)) (fun _ hk => hk.2) (.slice Ao50 t365.length co50)) (fun _ h_ => h_.1))) hb); have n3_ := Aside0.mk (Kd.R_below (by refine qR_ ?_; exact (Kd.R_mono (Kd.R_far (p := ⟨gb369, 2, none⟩) (Kd.R_far (p := ⟨gb369, 1, none⟩) (Kd.R_far (p := ⟨gb369, 0, none⟩) (Kd.R_types HO_356002.out BK369.out (by decide)) (fun _ hk => hk.2) (.slice Ao46 t361.length co46)) (fun _ hk => hk.2) (.int .i64 t364)) (fun _ hk => hk.2) (.slice Ao50 t365.length co50)) (fun _ h_ => h_.1))) hb); have n4_ := Aside0.mk (Kd.R_below (by refine qR_ ?_; exact (Kd.R_mono (Kd.R_far (p := ⟨gb369, 2, none⟩) (Kd.R_far (p := ⟨gb369, 1, none⟩) (Kd.R_far (p := ⟨gb369, 0, none⟩) (Kd.R_types HO363.out BK369.out (by decide)) (fun _ hk => hk.2) (.slice Ao46 t361.length co46)) (fun _ hk => hk.2) (.int .i64 t364)) (fun _ hk => hk.2) (.slice Ao50 t365.length co50)) (fun _ h_ => h_.1))) hb); have n5_ := Aside0.mk (Kd.R_below (by refine qR_ ?_; exact (Kd.R_mono (Kd.R_far (p := ⟨gb369, 2, none⟩) (Kd.R_far (p := ⟨gb369, 1, none⟩) (Kd.R_far (p := ⟨gb369, 0, none⟩) (Kd.R_types HO367.out BK369.out (by decide)) (fun _ hk => hk.2) (.slice Ao46 t361.length co46)) (fun _ hk => hk.2) (.int .i64 t364)) (fun _ hk => hk.2) (.slice Ao50 t365.length co50)) (fun _ h_ => h_.1))) hb); have n6_ := Aside0.mk (blk_below (g := gb346) (o := .cells #[.slice Ao8 t338.length co8, .int .i64 t341, .slice Ao10 t342.length co10] 25 (0, 0)) (tk_ BK346.out) hb); have n7_ := Aside0.mk (blk_below (g := gb355) (o := .cells #[.slice Ao13 t347.length co13, .int .i64 t350, .slice Ao16 t351.length co16] 25 (0, 0)) (tk_ BK355.out) hb); have n8_ := Aside0.mk (blk_below (g := gb369) (o := .cells #[.slice Ao46 t361.length co46, .int .i64 t364, .slice Ao50 t365.length co50] 25 (0, 0)) (by refine bq_ ?_; refine blk_put (cs := #[.slice Ao46 t361.length co46, .int .i64 t364, .slice none 0 0]) ?_ 2 _ rfl; refine bq_ ?_; refine blk_put (cs := #[.slice Ao46 t361.length co46, .int .i64 0, .slice none 0 0]) ?_ 1 _ rfl; refine bq_ ?_; refine blk_put (cs := #[.slice none 0 0, .int .i64 0, .slice none 0 0]) ?_ 0 _ rfl; exact tk_ BK369.out) hb); have n9_ := Aside0.mk (below_step (tb_ HB.out) hb); clear HO_347000 HO_347002 HO_356000 HO_356002 HO363 HO367 BK346 BK355 BK369 HB; have HO_347000 := n0_; have HO_347002 := n1_; have HO_356000 := n2_; have HO_356002 := n3_; have HO363 := n4_; have HO367 := n5_; have BK346 := n6_; have BK355 := n7_; have BK369 := n8_; have HB := n9_; clear n0_ n1_ n2_ n3_ n4_ n5_ n6_ n7_ n8_ n9_; (try clear hb); (try clear hb2); (try clear hk); (try clear hi)))
         go_meet
         case rel => exact ⟨_, ((t368 != t345)), tx_, H', ⟨by have := HJ4.out; first | omega | exact Nat.le_refl _⟩, ⟨by refine qR_ ?_; exact Kd.R_mono HO_347000.out (fun _ hk => ⟨hk.1.1.1, ⟨hk.1.1.2.1, ⟨hk.1.1.2.2, ⟨hk.1.2, hk.2⟩⟩⟩⟩)⟩, ⟨by refine qR_ ?_; exact Kd.R_mono HO_347002.out (fun _ hk => ⟨hk.1.1.1, ⟨hk.1.1.2.1, ⟨hk.1.1.2.2, ⟨hk.1.2, hk.2⟩⟩⟩⟩)⟩, ⟨by refine qR_ ?_; exact Kd.R_mono HO_356000.out (fun _ hk => ⟨hk.1.1.1, ⟨hk.1.1.2.1, ⟨hk.1.1.2.2, ⟨hk.1.2, hk.2⟩⟩⟩⟩)⟩, ⟨by refine qR_ ?_; exact Kd.R_mono HO_356002.out (fun _ hk => ⟨hk.1.1.1, ⟨hk.1.1.2.1, ⟨hk.1.1.2.2, ⟨hk.1.2, hk.2⟩⟩⟩⟩)⟩, ⟨by refine qR_ ?_; exact Kd.R_mono HO363.out (fun _ hk => ⟨hk.1.1.1.2, ⟨hk.1.1.2, ⟨hk.1.2, ⟨hk.2, hk.1.1.1.1⟩⟩⟩⟩)⟩, ⟨by refine qR_ ?_; exact Kd.R_mono HO367.out (fun _ hk => ⟨hk.1.1.1.2, ⟨hk.1.1.2, ⟨hk.1.2, ⟨hk.2, hk.1.1.1.1⟩⟩⟩⟩)⟩, ⟨tk_ BK346.out⟩, ⟨tk_ BK355.out⟩, ⟨tk_ BK369.out⟩, ⟨(tb_ HB.out)⟩⟩
        ·
         replace c52 := Bool.eq_false_iff.mpr c52
         subst c52
         have H1 : (laws_FnExactReadPlace.j1 kj4 t357 true t358 t350 t359) = some r := by rw [if_neg (show ¬ (false = true) by decide)] at H; exact H
         clear H
         have H := H1
         clear H1
         have H' := Aside0.mk H
         clear H
         have hnb59 := NB369_346.out
         have hnc59 := NB346_369.out
         have hnb60 := NB369_355.out
         have hnc60 := NB355_369.out
         have hcz61_0 : w45.cell? ⟨gb369, 0, none⟩ = some (.slice none 0 0) := (blk_cell BK369.out 0).trans rfl
         have hcz61_1 : w45.cell? ⟨gb369, 1, none⟩ = some (.int .i64 0) := (blk_cell BK369.out 1).trans rfl
         have hcz61_2 : w45.cell? ⟨gb369, 2, none⟩ = some (.slice none 0 0) := (blk_cell BK369.out 2).trans rfl
         have hfz61_0 := blk_frozen BK369.out 0
         have hfz61_1 := blk_frozen BK369.out 1
         have hfz61_2 := blk_frozen BK369.out 2
         have hnb62 := NB346_355.out
         have hnc62 := NB355_346.out
         have hcz63_0 : w45.cell? ⟨gb346, 0, none⟩ = some (.slice Ao8 t338.length co8) := (blk_cell BK346.out 0).trans rfl
         have hcz63_1 : w45.cell? ⟨gb346, 1, none⟩ = some (.int .i64 t341) := (blk_cell BK346.out 1).trans rfl
         have hcz63_2 : w45.cell? ⟨gb346, 2, none⟩ = some (.slice Ao10 t342.length co10) := (blk_cell BK346.out 2).trans rfl
         have hfz63_0 := blk_frozen BK346.out 0
         have hfz63_1 := blk_frozen BK346.out 1
         have hfz63_2 := blk_frozen BK346.out 2
         go_wp2_with (first | ((with_reducible refine gate_callee (f := 55) rfl ?_); refine goesL_ (some 51) rfl rfl Tryd.func55 (by kernel_rfl) rfl #[.agg #[.slice Ao46 t361.length co46, .int .i64 t364, .slice Ao50 t365.length co50], .agg #[.slice Ao8 t338.length co8, .int .i64 t341, .slice Ao10 t342.length co10]] rfl tz_ ?_; (with_reducible refine (laws_eqPlace.calls kj4 _ _ t361 t364 _ _ t365 _ _ t338 t341 _ _ t342 false _ ?side1 ?side2 ?side3 ?side4 ?side5 ?side6 ?side7 ?side8 A51.out).mono ?_); (case side1 => refine (Kd.R_reads' (e := 3) (base := w.heap.size) (ok := fun k_ => ((((some k_ ≠ (.slice Ao50 t365.length co50 : Value).ownBlock ∧ some k_ ≠ (.slice Ao8 t338.length co8 : Value).ownBlock) ∧ some k_ ≠ (.slice Ao10 t342.length co10 : Value).ownBlock) ∧ some k_ ≠ (.slice Ao13 t347.length co13 : Value).ownBlock) ∧ some k_ ≠ (.slice Ao16 t351.length co16 : Value).ownBlock)) (n := t361.length) (c := co46) ?_).2.2; exact (by refine qR_ ?_; exact (Kd.R_mono (Kd.R_far (p := ⟨gb369, 2, none⟩) (Kd.R_far (p := ⟨gb369, 1, none⟩) (Kd.R_far (p := ⟨gb369, 0, none⟩) (Kd.R_types HO363.out BK369.out (by decide)) (fun _ hk => hk.2) (.slice Ao46 t361.length co46)) (fun _ hk => hk.2) (.int .i64 t364)) (fun _ hk => hk.2) (.slice Ao50 t365.length co50)) (fun _ h_ => h_.1)))); (case side2 => exact (Kd.R_reads' HO363.out).2.1); (case side3 => refine (Kd.R_reads' (e := 3) (base := w.heap.size) (ok := fun k_ => ((((some k_ ≠ (.slice Ao46 t361.length co46 : Value).ownBlock ∧ some k_ ≠ (.slice Ao8 t338.length co8 : Value).ownBlock) ∧ some k_ ≠ (.slice Ao10 t342.length co10 : Value).ownBlock) ∧ some k_ ≠ (.slice Ao13 t347.length co13 : Value).ownBlock) ∧ some k_ ≠ (.slice Ao16 t351.length co16 : Value).ownBlock)) (n := t365.length) (c := co50) ?_).2.2; exact (by refine qR_ ?_; exact (Kd.R_mono (Kd.R_far (p := ⟨gb369, 2, none⟩) (Kd.R_far (p := ⟨gb369, 1, none⟩) (Kd.R_far (p := ⟨gb369, 0, none⟩) (Kd.R_types HO367.out BK369.out (by decide)) (fun _ hk => hk.2) (.slice Ao46 t361.length co46)) (fun _ hk => hk.2) (.int .i64 t364)) (fun _ hk => hk.2) (.slice Ao50 t365.length co50)) (fun _ h_ => h_.1)))); (case side4 => exact (Kd.R_reads' HO367.out).2.1); (case side5 => refine (Kd.R_reads' (e := 3) (base := w.heap.size) (ok := fun k_ => (((some k_ ≠ (.slice Ao10 t342.length co10 : Value).ownBlock ∧ (some k_ ≠ (.slice Ao13 t347.length co13 : Value).ownBlock ∧ some k_ ≠ (.slice Ao16 t351.length co16 : Value).ownBlock)) ∧ some k_ ≠ (.slice Ao46 t361.length co46 : Value).ownBlock) ∧ some k_ ≠ (.slice Ao50 t365.length co50 : Value).ownBlock)) (n := t338.length) (c := co8) ?_).2.2; exact (by refine qR_ ?_; exact (Kd.R_mono (Kd.R_far (p := ⟨gb369, 2, none⟩) (Kd.R_far (p := ⟨gb369, 1, none⟩) (Kd.R_far (p := ⟨gb369, 0, none⟩) (Kd.R_types HO_347000.out BK369.out (by decide)) (fun _ hk => hk.2) (.slice Ao46 t361.length co46)) (fun _ hk => hk.2) (.int .i64 t364)) (fun _ hk => hk.2) (.slice Ao50 t365.length co50)) (fun _ h_ => h_.1)))); (case side6 => exact (Kd.R_reads' HO_347000.out).2.1); (case side7 => refine (Kd.R_reads' (e := 3) (base := w.heap.size) (ok := fun k_ => (((some k_ ≠ (.slice Ao8 t338.length co8 : Value).ownBlock ∧ (some k_ ≠ (.slice Ao13 t347.length co13 : Value).ownBlock ∧ some k_ ≠ (.slice Ao16 t351.length co16 : Value).ownBlock)) ∧ some k_ ≠ (.slice Ao46 t361.length co46 : Value).ownBlock) ∧ some k_ ≠ (.slice Ao50 t365.length co50 : Value).ownBlock)) (n := t342.length) (c := co10) ?_).2.2; exact (by refine qR_ ?_; exact (Kd.R_mono (Kd.R_far (p := ⟨gb369, 2, none⟩) (Kd.R_far (p := ⟨gb369, 1, none⟩) (Kd.R_far (p := ⟨gb369, 0, none⟩) (Kd.R_types HO_347002.out BK369.out (by decide)) (fun _ hk => hk.2) (.slice Ao46 t361.length co46)) (fun _ hk => hk.2) (.int .i64 t364)) (fun _ hk => hk.2) (.slice Ao50 t365.length co50)) (fun _ h_ => h_.1)))); (case side8 => exact (Kd.R_reads' HO_347002.out).2.1); rintro e w64 ⟨rfl, hb⟩; refine ⟨_, rfl, ?_⟩; have n0_ := Aside0.mk (Kd.R_below (by refine qR_ ?_; exact (Kd.R_mono (Kd.R_far (p := ⟨gb369, 2, none⟩) (Kd.R_far (p := ⟨gb369, 1, none⟩) (Kd.R_far (p := ⟨gb369, 0, none⟩) (Kd.R_types HO_347000.out BK369.out (by decide)) (fun _ hk => hk.2) (.slice Ao46 t361.length co46)) (fun _ hk => hk.2) (.int .i64 t364)) (fun _ hk => hk.2) (.slice Ao50 t365.length co50)) (fun _ h_ => h_.1))) hb); have n1_ := Aside0.mk (Kd.R_below (by refine qR_ ?_; exact (Kd.R_mono (Kd.R_far (p := ⟨gb369, 2, none⟩) (Kd.R_far (p := ⟨gb369, 1, none⟩) (Kd.R_far (p := ⟨gb369, 0, none⟩) (Kd.R_types HO_347002.out BK369.out (by decide)) (fun _ hk => hk.2) (.slice Ao46 t361.length co46)) (fun _ hk => hk.2) (.int .i64 t364)) (fun _ hk => hk.2) (.slice Ao50 t365.length co50)) (fun _ h_ => h_.1))) hb); have n2_ := Aside0.mk (Kd.R_below (by refine qR_ ?_; exact (Kd.R_mono (Kd.R_far (p := ⟨gb369, 2, none⟩) (Kd.R_far (p := ⟨gb369, 1, none⟩) (Kd.R_far (p := ⟨gb369, 0, none⟩) (Kd.R_types HO_356000.out BK369.out (by decide)) (fun _ hk => hk.2) (.slice Ao46 t361.length co46)) (fun _ hk => hk.2) (.int .i64 t364)) (fun _ hk => hk.2) (.slice Ao50 t365.length co50)) (fun _ h_ => h_.1))) hb); have n3_ := Aside0.mk (Kd.R_below (by refine qR_ ?_; exact (Kd.R_mono (Kd.R_far (p := ⟨gb369, 2, none⟩) (Kd.R_far (p := ⟨gb369, 1, none⟩) (Kd.R_far (p := ⟨gb369, 0, none⟩) (Kd.R_types HO_356002.out BK369.out (by decide)) (fun _ hk => hk.2) (.slice Ao46 t361.length co46)) (fun _ hk => hk.2) (.int .i64 t364)) (fun _ hk => hk.2) (.slice Ao50 t365.length co50)) (fun _ h_ => h_.1))) hb); have n4_ := Aside0.mk (Kd.R_below (by refine qR_ ?_; exact (Kd.R_mono (Kd.R_far (p := ⟨gb369, 2, none⟩) (Kd.R_far (p := ⟨gb369, 1, none⟩) (Kd.R_far (p := ⟨gb369, 0, none⟩) (Kd.R_types HO363.out BK369.out (by decide)) (fun _ hk => hk.2) (.slice Ao46 t361.length co46)) (fun _ hk => hk.2) (.int .i64 t364)) (fun _ hk => hk.2) (.slice Ao50 t365.length co50)) (fun _ h_ => h_.1))) hb); have n5_ := Aside0.mk (Kd.R_below (by refine qR_ ?_; exact (Kd.R_mono (Kd.R_far (p := ⟨gb369, 2, none⟩) (Kd.R_far (p := ⟨gb369, 1, none⟩) (Kd.R_far (p := ⟨gb369, 0, none⟩) (Kd.R_types HO367.out BK369.out (by decide)) (fun _ hk => hk.2) (.slice Ao46 t361.length co46)) (fun _ hk => hk.2) (.int .i64 t364)) (fun _ hk => hk.2) (.slice Ao50 t365.length co50)) (fun _ h_ => h_.1))) hb); have n6_ := Aside0.mk (blk_below (g := gb346) (o := .cells #[.slice Ao8 t338.length co8, .int .i64 t341, .slice Ao10 t342.length co10] 25 (0, 0)) (tk_ BK346.out) hb); have n7_ := Aside0.mk (blk_below (g := gb355) (o := .cells #[.slice Ao13 t347.length co13, .int .i64 t350, .slice Ao16 t351.length co16] 25 (0, 0)) (tk_ BK355.out) hb); have n8_ := Aside0.mk (blk_below (g := gb369) (o := .cells #[.slice Ao46 t361.length co46, .int .i64 t364, .slice Ao50 t365.length co50] 25 (0, 0)) (by refine bq_ ?_; refine blk_put (cs := #[.slice Ao46 t361.length co46, .int .i64 t364, .slice none 0 0]) ?_ 2 _ rfl; refine bq_ ?_; refine blk_put (cs := #[.slice Ao46 t361.length co46, .int .i64 0, .slice none 0 0]) ?_ 1 _ rfl; refine bq_ ?_; refine blk_put (cs := #[.slice none 0 0, .int .i64 0, .slice none 0 0]) ?_ 0 _ rfl; exact tk_ BK369.out) hb); have n9_ := Aside0.mk (below_step (tb_ HB.out) hb); clear HO_347000 HO_347002 HO_356000 HO_356002 HO363 HO367 BK346 BK355 BK369 HB; have HO_347000 := n0_; have HO_347002 := n1_; have HO_356000 := n2_; have HO_356002 := n3_; have HO363 := n4_; have HO367 := n5_; have BK346 := n6_; have BK355 := n7_; have BK369 := n8_; have HB := n9_; clear n0_ n1_ n2_ n3_ n4_ n5_ n6_ n7_ n8_ n9_; (try clear hb); (try clear hb2); (try clear hk); (try clear hi)))
         go_meet
         case rel => exact ⟨_, (true), tx_, H', ⟨by have := HJ4.out; first | omega | exact Nat.le_refl _⟩, ⟨by refine qR_ ?_; exact Kd.R_mono HO_347000.out (fun _ hk => ⟨hk.1.1.1, ⟨hk.1.1.2.1, ⟨hk.1.1.2.2, ⟨hk.1.2, hk.2⟩⟩⟩⟩)⟩, ⟨by refine qR_ ?_; exact Kd.R_mono HO_347002.out (fun _ hk => ⟨hk.1.1.1, ⟨hk.1.1.2.1, ⟨hk.1.1.2.2, ⟨hk.1.2, hk.2⟩⟩⟩⟩)⟩, ⟨by refine qR_ ?_; exact Kd.R_mono HO_356000.out (fun _ hk => ⟨hk.1.1.1, ⟨hk.1.1.2.1, ⟨hk.1.1.2.2, ⟨hk.1.2, hk.2⟩⟩⟩⟩)⟩, ⟨by refine qR_ ?_; exact Kd.R_mono HO_356002.out (fun _ hk => ⟨hk.1.1.1, ⟨hk.1.1.2.1, ⟨hk.1.1.2.2, ⟨hk.1.2, hk.2⟩⟩⟩⟩)⟩, ⟨by refine qR_ ?_; exact Kd.R_mono HO363.out (fun _ hk => ⟨hk.1.1.1.2, ⟨hk.1.1.2, ⟨hk.1.2, ⟨hk.2, hk.1.1.1.1⟩⟩⟩⟩)⟩, ⟨by refine qR_ ?_; exact Kd.R_mono HO367.out (fun _ hk => ⟨hk.1.1.1.2, ⟨hk.1.1.2, ⟨hk.1.2, ⟨hk.2, hk.1.1.1.1⟩⟩⟩⟩)⟩, ⟨tk_ BK346.out⟩, ⟨tk_ BK355.out⟩, ⟨tk_ BK369.out⟩, ⟨(tb_ HB.out)⟩⟩
       case rest =>
        clear HC38
        try clear c1
        try clear c2
        try clear c2b0
        try clear c2b1
        try clear p2
        try clear c3
        try clear c4
        try clear c5
        try clear c6
        try clear c12
        try clear c14
        try clear c18
        try clear c19
        try clear c23
        try clear c27
        try clear c30
        try clear c30b0
        try clear c31
        try clear c36
        try clear c36b0
        try clear c36b1
        try clear c39
        try clear c47
        try clear c48
        try clear c52
        try clear c53
        try clear c54
        try clear c55
        try clear c56
        try clear c57
        try clear c59
        try clear c60
        try clear c62
        try clear hcz15_0
        try clear hcz15_1
        try clear hcz15_2
        try clear hcz20_0
        try clear hcz20_1
        try clear hcz20_2
        try clear hcz21_0
        try clear hcz21_1
        try clear hcz21_2
        try clear hcz24_0
        try clear hcz24_1
        try clear hcz24_2
        try clear hcz25_0
        try clear hcz25_1
        try clear hcz25_2
        try clear hcz32_0
        try clear hcz32_1
        try clear hcz32_2
        try clear hcz34_0
        try clear hcz34_1
        try clear hcz34_2
        try clear hcz40_0
        try clear hcz40_1
        try clear hcz40_2
        try clear hcz42_0
        try clear hcz42_1
        try clear hcz42_2
        try clear hcz49_0
        try clear hcz49_1
        try clear hcz49_2
        try clear hcz55_0
        try clear hcz55_1
        try clear hcz55_2
        try clear hcz57_0
        try clear hcz57_1
        try clear hcz57_2
        try clear hcz61_0
        try clear hcz61_1
        try clear hcz61_2
        try clear hcz63_0
        try clear hcz63_1
        try clear hcz63_2
        try clear hcz9_0
        try clear hcz9_1
        try clear hcz9_2
        try clear hfz15_0
        try clear hfz15_1
        try clear hfz15_2
        try clear hfz20_0
        try clear hfz20_1
        try clear hfz20_2
        try clear hfz21_0
        try clear hfz21_1
        try clear hfz21_2
        try clear hfz24_0
        try clear hfz24_1
        try clear hfz24_2
        try clear hfz25_0
        try clear hfz25_1
        try clear hfz25_2
        try clear hfz32_0
        try clear hfz32_1
        try clear hfz32_2
        try clear hfz34_0
        try clear hfz34_1
        try clear hfz34_2
        try clear hfz40_0
        try clear hfz40_1
        try clear hfz40_2
        try clear hfz42_0
        try clear hfz42_1
        try clear hfz42_2
        try clear hfz49_0
        try clear hfz49_1
        try clear hfz49_2
        try clear hfz55_0
        try clear hfz55_1
        try clear hfz55_2
        try clear hfz57_0
        try clear hfz57_1
        try clear hfz57_2
        try clear hfz61_0
        try clear hfz61_1
        try clear hfz61_2
        try clear hfz63_0
        try clear hfz63_1
        try clear hfz63_2
        try clear hfz9_0
        try clear hfz9_1
        try clear hfz9_2
        try clear p2
        obtain ⟨kq, x57_37, rfl, HA, HJ37, HO_347000, HO_347002, HO_356000, HO_356002, HO_370000, HO_370002, BK346, BK355, BK369, HB⟩ := hcut
        have hl356000_37 := (Kd.R_reads' HO_356000.out).1
        rw [hl356000_37] at HO_356000
        (try simp only [hl356000_37])
        (try simp only [hl356000_37] at BK346)
        (try simp only [hl356000_37] at BK355)
        (try simp only [hl356000_37] at BK369)
        (try simp only [hl356000_37] at HO_347000)
        (try simp only [hl356000_37] at HO_347002)
        (try simp only [hl356000_37] at HO_356002)
        (try simp only [hl356000_37] at HO_370000)
        (try simp only [hl356000_37] at HO_370002)
        have hl356002_37 := (Kd.R_reads' HO_356002.out).1
        rw [hl356002_37] at HO_356002
        (try simp only [hl356002_37])
        (try simp only [hl356002_37] at BK346)
        (try simp only [hl356002_37] at BK355)
        (try simp only [hl356002_37] at BK369)
        (try simp only [hl356002_37] at HO_347000)
        (try simp only [hl356002_37] at HO_347002)
        (try simp only [hl356002_37] at HO_356000)
        (try simp only [hl356002_37] at HO_370000)
        (try simp only [hl356002_37] at HO_370002)
        cases kq with
        | zero => exact absurd HA.out (by simp [laws_FnExactReadPlace.j1])
        | succ kj37 =>
         have H := HA.out
         clear HA
         simp only [laws_FnExactReadPlace.j1] at H
         by_cases c65 : x57_37 = true
         ·
          subst c65
          have H1 : (some false) = some r := by rw [if_pos rfl] at H; exact H
          clear H
          have H := H1
          clear H1
          obtain rfl := Option.some.inj H
          go_wp2
          go_ret
          exact ⟨by first | rfl | (simp [errW_none, errW_some, Option.map_none, Option.map_some] <;> rfl) | (simp [*, errW_none, errW_some] <;> rfl), (tb_ HB.out)⟩
         ·
          replace c65 := Bool.eq_false_iff.mpr c65
          subst c65
          have H1 : ((laws_heldPlace.f kj37 t358 t350 t359 1).bind fun t371 => (if t371 < 0 then (some false) else (if t371 = t357 then (some true) else (some false)))) = some r := by rw [if_neg (show ¬ (false = true) by decide)] at H; exact H
          clear H
          have H := H1
          clear H1
          replace H := Option.bind_eq_some_iff.mp H
          obtain ⟨t371, A660, H⟩ := H
          replace H : (if t371 < 0 then (some false) else (if t371 = t357 then (some true) else (some false))) = some r := H
          have A66 := Aside0.mk A660
          clear A660
          by_cases c67 : t371 < 0
          ·
           rw [if_pos c67] at H
           have c67b0 : decide (t371 < 0) = true := decide_eq_true c67
           clear c67
           obtain rfl := Option.some.inj H
           have hnb68 := NB355_346.out
           have hnc68 := NB346_355.out
           have hnb69 := NB355_369.out
           have hnc69 := NB369_355.out
           have hcz70_0 : wc.cell? ⟨gb355, 0, none⟩ = some (.slice Ao13 t358.length co13) := (blk_cell BK355.out 0).trans rfl
           have hcz70_1 : wc.cell? ⟨gb355, 1, none⟩ = some (.int .i64 t350) := (blk_cell BK355.out 1).trans rfl
           have hcz70_2 : wc.cell? ⟨gb355, 2, none⟩ = some (.slice Ao16 t359.length co16) := (blk_cell BK355.out 2).trans rfl
           have hfz70_0 := blk_frozen BK355.out 0
           have hfz70_1 := blk_frozen BK355.out 1
           have hfz70_2 := blk_frozen BK355.out 2
           go_wp2_with (first | ((with_reducible refine gate_callee (f := 57) rfl ?_); refine goesL_ (some 60) rfl rfl Tryd.func57 (by kernel_rfl) rfl #[.agg #[.slice Ao13 t358.length co13, .int .i64 t350, .slice Ao16 t359.length co16], .int .i64 1] rfl tz_ ?_; (with_reducible refine (laws_heldPlace.calls kj37 _ _ t358 t350 _ _ t359 1 t371 _ ?side1 ?side2 ?side3 ?side4 A66.out).mono ?_); (case side1 => repeat (first | exact (Kd.R_reads' HO_356000.out).2.2 | (with_reducible refine Kd.C_alloc ?_ _) | (with_reducible refine Kd.C_drewN ?_ _) | (with_reducible refine Kd.C_drew ?_))); (case side2 => exact (Kd.R_reads' HO_356000.out).2.1); (case side3 => repeat (first | exact (Kd.R_reads' HO_356002.out).2.2 | (with_reducible refine Kd.C_alloc ?_ _) | (with_reducible refine Kd.C_drewN ?_ _) | (with_reducible refine Kd.C_drew ?_))); (case side4 => exact (Kd.R_reads' HO_356002.out).2.1); rintro e w71 ⟨rfl, hb⟩; refine ⟨_, rfl, ?_⟩; have n0_ := Aside0.mk (Kd.R_below (rR_ HO_347000.out) hb); have n1_ := Aside0.mk (Kd.R_below (rR_ HO_347002.out) hb); have n2_ := Aside0.mk (Kd.R_below (rR_ HO_356000.out) hb); have n3_ := Aside0.mk (Kd.R_below (rR_ HO_356002.out) hb); have n4_ := Aside0.mk (Kd.R_below (rR_ HO_370000.out) hb); have n5_ := Aside0.mk (Kd.R_below (rR_ HO_370002.out) hb); have n6_ := Aside0.mk (blk_below (g := gb346) (o := .cells #[.slice Ao8 t338.length co8, .int .i64 t341, .slice Ao10 t342.length co10] 25 (0, 0)) (tk_ BK346.out) hb); have n7_ := Aside0.mk (blk_below (g := gb355) (o := .cells #[.slice Ao13 t358.length co13, .int .i64 t350, .slice Ao16 t359.length co16] 25 (0, 0)) (tk_ BK355.out) hb); have n8_ := Aside0.mk (blk_below (g := gb369) (o := .cells #[.slice Ao46 t361.length co46, .int .i64 t364, .slice Ao50 t365.length co50] 25 (0, 0)) (tk_ BK369.out) hb); have n9_ := Aside0.mk (below_step (tb_ HB.out) hb); clear HO_347000 HO_347002 HO_356000 HO_356002 HO_370000 HO_370002 BK346 BK355 BK369 HB; have HO_347000 := n0_; have HO_347002 := n1_; have HO_356000 := n2_; have HO_356002 := n3_; have HO_370000 := n4_; have HO_370002 := n5_; have BK346 := n6_; have BK355 := n7_; have BK369 := n8_; have HB := n9_; clear n0_ n1_ n2_ n3_ n4_ n5_ n6_ n7_ n8_ n9_; (try clear hb); (try clear hb2); (try clear hk); (try clear hi)))
           go_ret
           exact ⟨by first | rfl | (simp [errW_none, errW_some, Option.map_none, Option.map_some] <;> rfl) | (simp [*, errW_none, errW_some] <;> rfl), (tb_ HB.out)⟩
          ·
           rw [if_neg c67] at H
           have c67b0 : decide (t371 < 0) = false := decide_eq_false c67
           clear c67
           by_cases c72 : t371 = t357
           ·
            rw [if_pos c72] at H
            have c72b0 : (t371 == t357) = true := beq_iff_eq.mpr c72
            have c72b1 : (t371 != t357) = false := bne_eq_false_iff_eq.mpr c72
            clear c72
            obtain rfl := Option.some.inj H
            have hnb73 := NB355_346.out
            have hnc73 := NB346_355.out
            have hnb74 := NB355_369.out
            have hnc74 := NB369_355.out
            have hcz75_0 : wc.cell? ⟨gb355, 0, none⟩ = some (.slice Ao13 t358.length co13) := (blk_cell BK355.out 0).trans rfl
            have hcz75_1 : wc.cell? ⟨gb355, 1, none⟩ = some (.int .i64 t350) := (blk_cell BK355.out 1).trans rfl
            have hcz75_2 : wc.cell? ⟨gb355, 2, none⟩ = some (.slice Ao16 t359.length co16) := (blk_cell BK355.out 2).trans rfl
            have hfz75_0 := blk_frozen BK355.out 0
            have hfz75_1 := blk_frozen BK355.out 1
            have hfz75_2 := blk_frozen BK355.out 2
            go_wp2_with (first | ((with_reducible refine gate_callee (f := 57) rfl ?_); refine goesL_ (some 60) rfl rfl Tryd.func57 (by kernel_rfl) rfl #[.agg #[.slice Ao13 t358.length co13, .int .i64 t350, .slice Ao16 t359.length co16], .int .i64 1] rfl tz_ ?_; (with_reducible refine (laws_heldPlace.calls kj37 _ _ t358 t350 _ _ t359 1 t371 _ ?side1 ?side2 ?side3 ?side4 A66.out).mono ?_); (case side1 => repeat (first | exact (Kd.R_reads' HO_356000.out).2.2 | (with_reducible refine Kd.C_alloc ?_ _) | (with_reducible refine Kd.C_drewN ?_ _) | (with_reducible refine Kd.C_drew ?_))); (case side2 => exact (Kd.R_reads' HO_356000.out).2.1); (case side3 => repeat (first | exact (Kd.R_reads' HO_356002.out).2.2 | (with_reducible refine Kd.C_alloc ?_ _) | (with_reducible refine Kd.C_drewN ?_ _) | (with_reducible refine Kd.C_drew ?_))); (case side4 => exact (Kd.R_reads' HO_356002.out).2.1); rintro e w76 ⟨rfl, hb⟩; refine ⟨_, rfl, ?_⟩; have n0_ := Aside0.mk (Kd.R_below (rR_ HO_347000.out) hb); have n1_ := Aside0.mk (Kd.R_below (rR_ HO_347002.out) hb); have n2_ := Aside0.mk (Kd.R_below (rR_ HO_356000.out) hb); have n3_ := Aside0.mk (Kd.R_below (rR_ HO_356002.out) hb); have n4_ := Aside0.mk (Kd.R_below (rR_ HO_370000.out) hb); have n5_ := Aside0.mk (Kd.R_below (rR_ HO_370002.out) hb); have n6_ := Aside0.mk (blk_below (g := gb346) (o := .cells #[.slice Ao8 t338.length co8, .int .i64 t341, .slice Ao10 t342.length co10] 25 (0, 0)) (tk_ BK346.out) hb); have n7_ := Aside0.mk (blk_below (g := gb355) (o := .cells #[.slice Ao13 t358.length co13, .int .i64 t350, .slice Ao16 t359.length co16] 25 (0, 0)) (tk_ BK355.out) hb); have n8_ := Aside0.mk (blk_below (g := gb369) (o := .cells #[.slice Ao46 t361.length co46, .int .i64 t364, .slice Ao50 t365.length co50] 25 (0, 0)) (tk_ BK369.out) hb); have n9_ := Aside0.mk (below_step (tb_ HB.out) hb); clear HO_347000 HO_347002 HO_356000 HO_356002 HO_370000 HO_370002 BK346 BK355 BK369 HB; have HO_347000 := n0_; have HO_347002 := n1_; have HO_356000 := n2_; have HO_356002 := n3_; have HO_370000 := n4_; have HO_370002 := n5_; have BK346 := n6_; have BK355 := n7_; have BK369 := n8_; have HB := n9_; clear n0_ n1_ n2_ n3_ n4_ n5_ n6_ n7_ n8_ n9_; (try clear hb); (try clear hb2); (try clear hk); (try clear hi)))
            go_ret
            exact ⟨by first | rfl | (simp [errW_none, errW_some, Option.map_none, Option.map_some] <;> rfl) | (simp [*, errW_none, errW_some] <;> rfl), (tb_ HB.out)⟩
           ·
            rw [if_neg c72] at H
            have c72b0 : (t371 == t357) = false := beq_eq_false_iff_ne.mpr c72
            have c72b1 : (t371 != t357) = true := bne_iff_ne.mpr c72
            obtain rfl := Option.some.inj H
            have hnb77 := NB355_346.out
            have hnc77 := NB346_355.out
            have hnb78 := NB355_369.out
            have hnc78 := NB369_355.out
            have hcz79_0 : wc.cell? ⟨gb355, 0, none⟩ = some (.slice Ao13 t358.length co13) := (blk_cell BK355.out 0).trans rfl
            have hcz79_1 : wc.cell? ⟨gb355, 1, none⟩ = some (.int .i64 t350) := (blk_cell BK355.out 1).trans rfl
            have hcz79_2 : wc.cell? ⟨gb355, 2, none⟩ = some (.slice Ao16 t359.length co16) := (blk_cell BK355.out 2).trans rfl
            have hfz79_0 := blk_frozen BK355.out 0
            have hfz79_1 := blk_frozen BK355.out 1
            have hfz79_2 := blk_frozen BK355.out 2
            go_wp2_with (first | ((with_reducible refine gate_callee (f := 57) rfl ?_); refine goesL_ (some 60) rfl rfl Tryd.func57 (by kernel_rfl) rfl #[.agg #[.slice Ao13 t358.length co13, .int .i64 t350, .slice Ao16 t359.length co16], .int .i64 1] rfl tz_ ?_; (with_reducible refine (laws_heldPlace.calls kj37 _ _ t358 t350 _ _ t359 1 t371 _ ?side1 ?side2 ?side3 ?side4 A66.out).mono ?_); (case side1 => repeat (first | exact (Kd.R_reads' HO_356000.out).2.2 | (with_reducible refine Kd.C_alloc ?_ _) | (with_reducible refine Kd.C_drewN ?_ _) | (with_reducible refine Kd.C_drew ?_))); (case side2 => exact (Kd.R_reads' HO_356000.out).2.1); (case side3 => repeat (first | exact (Kd.R_reads' HO_356002.out).2.2 | (with_reducible refine Kd.C_alloc ?_ _) | (with_reducible refine Kd.C_drewN ?_ _) | (with_reducible refine Kd.C_drew ?_))); (case side4 => exact (Kd.R_reads' HO_356002.out).2.1); rintro e w80 ⟨rfl, hb⟩; refine ⟨_, rfl, ?_⟩; have n0_ := Aside0.mk (Kd.R_below (rR_ HO_347000.out) hb); have n1_ := Aside0.mk (Kd.R_below (rR_ HO_347002.out) hb); have n2_ := Aside0.mk (Kd.R_below (rR_ HO_356000.out) hb); have n3_ := Aside0.mk (Kd.R_below (rR_ HO_356002.out) hb); have n4_ := Aside0.mk (Kd.R_below (rR_ HO_370000.out) hb); have n5_ := Aside0.mk (Kd.R_below (rR_ HO_370002.out) hb); have n6_ := Aside0.mk (blk_below (g := gb346) (o := .cells #[.slice Ao8 t338.length co8, .int .i64 t341, .slice Ao10 t342.length co10] 25 (0, 0)) (tk_ BK346.out) hb); have n7_ := Aside0.mk (blk_below (g := gb355) (o := .cells #[.slice Ao13 t358.length co13, .int .i64 t350, .slice Ao16 t359.length co16] 25 (0, 0)) (tk_ BK355.out) hb); have n8_ := Aside0.mk (blk_below (g := gb369) (o := .cells #[.slice Ao46 t361.length co46, .int .i64 t364, .slice Ao50 t365.length co50] 25 (0, 0)) (tk_ BK369.out) hb); have n9_ := Aside0.mk (below_step (tb_ HB.out) hb); clear HO_347000 HO_347002 HO_356000 HO_356002 HO_370000 HO_370002 BK346 BK355 BK369 HB; have HO_347000 := n0_; have HO_347002 := n1_; have HO_356000 := n2_; have HO_356002 := n3_; have HO_370000 := n4_; have HO_370002 := n5_; have BK346 := n6_; have BK355 := n7_; have BK369 := n8_; have HB := n9_; clear n0_ n1_ n2_ n3_ n4_ n5_ n6_ n7_ n8_ n9_; (try clear hb); (try clear hb2); (try clear hk); (try clear hi)))
            go_ret
            exact ⟨by first | rfl | (simp [errW_none, errW_some, Option.map_none, Option.map_some] <;> rfl) | (simp [*, errW_none, errW_some] <;> rfl), (tb_ HB.out)⟩
      ·
       rw [if_neg c36] at H
       have c36b0 : (t360 == t357) = false := beq_eq_false_iff_ne.mpr c36
       have c36b1 : (t360 != t357) = true := bne_iff_ne.mpr c36
       obtain rfl := Option.some.inj H
       have hnb81 := NB355_346.out
       have hnc81 := NB346_355.out
       have hcz82_0 : wc.cell? ⟨gb355, 0, none⟩ = some (.slice Ao13 t347.length co13) := (blk_cell BK355.out 0).trans rfl
       have hcz82_1 : wc.cell? ⟨gb355, 1, none⟩ = some (.int .i64 t350) := (blk_cell BK355.out 1).trans rfl
       have hcz82_2 : wc.cell? ⟨gb355, 2, none⟩ = some (.slice Ao16 t351.length co16) := (blk_cell BK355.out 2).trans rfl
       have hfz82_0 := blk_frozen BK355.out 0
       have hfz82_1 := blk_frozen BK355.out 1
       have hfz82_2 := blk_frozen BK355.out 2
       go_wp2_with (first | ((with_reducible refine gate_callee (f := 56) rfl ?_); refine goesL_ (some 35) rfl rfl Tryd.func56 (by kernel_rfl) rfl #[.agg #[.slice Ao13 t347.length co13, .int .i64 t350, .slice Ao16 t351.length co16], .int .i64 1] rfl tz_ ?_; (with_reducible refine (laws_markPlace.calls kj4 (fun k_ => some k_ = (.slice Ao13 t347.length co13 : Value).ownBlock) (.slice Ao13 t347.length co13) t347 t350 (fun k_ => some k_ = (.slice Ao16 t351.length co16 : Value).ownBlock) (.slice Ao16 t351.length co16) t351 1 t357 t358 t359 w _ ?side1 ?side2 ?side3 ?side4 ?side5 A28.out).mono ?_); (case side1 => repeat (first | (with_reducible first | exact HB.out | apply la_ | apply ln_ | apply ld_ | refine below_set ?_ GE346.out | refine below_set ?_ GE355.out) | exact HB.out)); (case side2 => exact Kd.R_tight rfl HO_356000.out); (case side3 => exact fun k_ e_ => (HO_356000.out.1 k_ e_.symm).2.2); (case side4 => exact Kd.R_tight rfl HO_356002.out); (case side5 => exact fun k_ e_ => (HO_356002.out.1 k_ e_.symm).2.2); rintro e w83 ⟨rfl, hy0, hy1, hb, hkp⟩; refine ⟨_, rfl, ?_⟩; have n0_ := Aside0.mk (Kd.R_mono (ok' := fun k_ => some k_ ≠ (.slice Ao10 t342.length co10 : Value).ownBlock ∧ some k_ ≠ (.slice Ao13 t347.length co13 : Value).ownBlock ∧ some k_ ≠ (.slice Ao16 t351.length co16 : Value).ownBlock) (Kd.R_keptB (HO_347000.out) hkp (fun k_ hk_ hs_ => Or.elim hs_ (fun e_ => (hk_.2.1) e_) (fun e_ => (hk_.2.2) e_))) (fun k_ hk_ => ⟨hk_.1.1, hk_.1.2.1, hk_.1.2.2⟩)); have n1_ := Aside0.mk (Kd.R_mono (ok' := fun k_ => some k_ ≠ (.slice Ao8 t338.length co8 : Value).ownBlock ∧ some k_ ≠ (.slice Ao13 t347.length co13 : Value).ownBlock ∧ some k_ ≠ (.slice Ao16 t351.length co16 : Value).ownBlock) (Kd.R_keptB (HO_347002.out) hkp (fun k_ hk_ hs_ => Or.elim hs_ (fun e_ => (hk_.2.1) e_) (fun e_ => (hk_.2.2) e_))) (fun k_ hk_ => ⟨hk_.1.1, hk_.1.2.1, hk_.1.2.2⟩)); have n2_ := Aside0.mk (Kd.R_reok rfl hy0 (fun k_ e_ => HO_356000.out.1 k_ e_)); have n3_ := Aside0.mk (Kd.R_reok rfl hy1 (fun k_ e_ => HO_356002.out.1 k_ e_)); have n4_ := Aside0.mk (blk_kept (tk_ BK346.out) hkp (fun hs_ => Or.elim hs_ (fun e_ => (fun e_ => (Kd.R_ne HO_356000.out BK346.out (by decide)) e_) e_) (fun e_ => (fun e_ => (Kd.R_ne HO_356002.out BK346.out (by decide)) e_) e_))); have n5_ := Aside0.mk (blk_kept (tk_ BK355.out) hkp (fun hs_ => Or.elim hs_ (fun e_ => (fun e_ => (Kd.R_ne HO_356000.out BK355.out (by decide)) e_) e_) (fun e_ => (fun e_ => (Kd.R_ne HO_356002.out BK355.out (by decide)) e_) e_))); have n6_ := Aside0.mk (hb); clear HO_347000 HO_347002 HO_356000 HO_356002 BK346 BK355 HB; have HO_347000 := n0_; have HO_347002 := n1_; have HO_356000 := n2_; have HO_356002 := n3_; have BK346 := n4_; have BK355 := n5_; have HB := n6_; clear n0_ n1_ n2_ n3_ n4_ n5_ n6_; (try clear hb); (try clear hkp); (try clear hy0); (try clear hy1); have hcz84_0 : w83.cell? ⟨gb355, 0, none⟩ = some (.slice Ao13 t347.length co13) := (blk_cell BK355.out 0).trans rfl; have hcz84_1 : w83.cell? ⟨gb355, 1, none⟩ = some (.int .i64 t350) := (blk_cell BK355.out 1).trans rfl; have hcz84_2 : w83.cell? ⟨gb355, 2, none⟩ = some (.slice Ao16 t351.length co16) := (blk_cell BK355.out 2).trans rfl; have hfz84_0 := blk_frozen BK355.out 0; have hfz84_1 := blk_frozen BK355.out 1; have hfz84_2 := blk_frozen BK355.out 2) | ((with_reducible refine gate_callee (f := 57) rfl ?_); refine goesL_ (some 38) rfl rfl Tryd.func57 (by kernel_rfl) rfl #[.agg #[.slice Ao13 t358.length co13, .int .i64 t350, .slice Ao16 t359.length co16], .int .i64 1] rfl (by (try simp only [List.map_toArray, List.map_cons, List.map_nil]); first | done | (rw [show t358.length = t347.length from (Kd.R_reads' HO_356000.out).1.symm, show t359.length = t351.length from (Kd.R_reads' HO_356002.out).1.symm] <;> rfl) | rfl | (simp only [List.length_drop, List.length_take]; rfl)) ?_; (with_reducible refine (laws_heldPlace.calls kj4 _ _ t358 t350 _ _ t359 1 t360 _ ?side1 ?side2 ?side3 ?side4 A29.out).mono ?_); (case side1 => repeat (first | exact (Kd.R_reads' HO_356000.out).2.2 | (with_reducible refine Kd.C_alloc ?_ _) | (with_reducible refine Kd.C_drewN ?_ _) | (with_reducible refine Kd.C_drew ?_))); (case side2 => rw [show t358.length = t347.length from (Kd.R_reads' HO_356000.out).1.symm]; exact (Kd.R_reads' HO_356000.out).2.1); (case side3 => repeat (first | exact (Kd.R_reads' HO_356002.out).2.2 | (with_reducible refine Kd.C_alloc ?_ _) | (with_reducible refine Kd.C_drewN ?_ _) | (with_reducible refine Kd.C_drew ?_))); (case side4 => rw [show t359.length = t351.length from (Kd.R_reads' HO_356002.out).1.symm]; exact (Kd.R_reads' HO_356002.out).2.1); rintro e w85 ⟨rfl, hb⟩; refine ⟨_, rfl, ?_⟩; have n0_ := Aside0.mk (Kd.R_below (rR_ HO_347000.out) hb); have n1_ := Aside0.mk (Kd.R_below (rR_ HO_347002.out) hb); have n2_ := Aside0.mk (Kd.R_below (rR_ HO_356000.out) hb); have n3_ := Aside0.mk (Kd.R_below (rR_ HO_356002.out) hb); have n4_ := Aside0.mk (blk_below (g := gb346) (o := .cells #[.slice Ao8 t338.length co8, .int .i64 t341, .slice Ao10 t342.length co10] 25 (0, 0)) (tk_ BK346.out) hb); have n5_ := Aside0.mk (blk_below (g := gb355) (o := .cells #[.slice Ao13 t347.length co13, .int .i64 t350, .slice Ao16 t351.length co16] 25 (0, 0)) (tk_ BK355.out) hb); have n6_ := Aside0.mk (below_step (tb_ HB.out) hb); clear HO_347000 HO_347002 HO_356000 HO_356002 BK346 BK355 HB; have HO_347000 := n0_; have HO_347002 := n1_; have HO_356000 := n2_; have HO_356002 := n3_; have BK346 := n4_; have BK355 := n5_; have HB := n6_; clear n0_ n1_ n2_ n3_ n4_ n5_ n6_; (try clear hb); (try clear hb2); (try clear hk); (try clear hi)))
       go_ret
       exact ⟨by first | rfl | (simp [errW_none, errW_some, Option.map_none, Option.map_some] <;> rfl) | (simp [*, errW_none, errW_some] <;> rfl), (tb_ HB.out)⟩

/-- THE ONE PURE STATEMENT of laws_FnExactReadPlace: yours. -/
def laws_FnExactReadPlace.Pure : Prop := ∀ (a0 : ByteArray), a0.size ≤ 140737488351232 → ∃ k, laws_FnExactReadPlace.f k a0 = some true
theorem laws_FnExactReadPlace.walk (P : laws_FnExactReadPlace.Pure) (a0 : ByteArray) (w : World) (hG : GWb w) (w0 : a0.size ≤ 140737488351232) :
  Calls Tryd.prog 12 #[.string a0] w fun e w' => e = .returned (.bool true) ∧ Below w.heap.size w w' := by
 obtain ⟨k, h⟩ := P a0 w0
 refine (laws_FnExactReadPlace.calls k a0 true w hG h).mono ?_
 rintro e w' ⟨rfl, hd⟩
 exact ⟨rfl, hd⟩

end Go.Proofs.YtlhiienanbpdlaaDoor.MFnExactReadPlace
