/- For the law FnReadPlace: walks of the functions that it reaches: each call returns what the plain function beside it tells. The conditions stand in each statement. -/
import Derived.Test.YtlhiienanbpdlaaDoorV
import Derived.Test.YtlhiienanbpdlaaDoorMFnReadPlacex0
import Derived.Test.YtlhiienanbpdlaaDoorMFnReadPlacex1
import Derived.Test.YtlhiienanbpdlaaDoorMFnReadPlacex7
import Derived.Test.YtlhiienanbpdlaaDoorMFnReadPlacex10
import Derived.Test.YtlhiienanbpdlaaDoorMFnReadPlacex11
import Derived.Test.YtlhiienanbpdlaaDoorMFnReadPlacex14
namespace Go.Proofs.YtlhiienanbpdlaaDoor.MFnReadPlace
open Go.RowKit Go.Proofs.YtlhiienanbpdlaaDoorW.PrintWords Go.Proofs.YtlhiienanbpdlaaDoorW.PrintLast Go.Proofs.YtlhiienanbpdlaaDoorW.PrintMore
attribute [local go_sem] max2_int min2_int max_two min_two max_three min_three max_four min_four   -- for this text's walks alone
set_option linter.unusedVariables false
set_option linter.unusedSimpArgs false

/-! ### laws_FnReadPlace: function 13 -/
def laws_FnReadPlace.j0 : Nat → ByteArray → Bool → Bool → List Int → Int → List Int → Option (Bool)
 | 0, _, _, _, _, _, _ => none
 | k + 1, x3, x5, x33, x434000, x434001, x434002 => if x33 = true then (some false) else (if x5 = true then (if x3.size + 1 ≤ 9223372036854775807 then ((impl_ReadPlace.f k (x3 ++ (⟨#[32]⟩ : ByteArray))).bind fun bt444 => ((impl_PlaceText.f k x434000 x434001 x434002).bind fun t453 => (if t453.toList = x3.toList then (some (!bt444.2.2.2)) else (some false)))) else (none)) else ((laws_samePlace.f k x434000 x434001 x434002 ([] : List Int) 0 ([] : List Int)).bind fun t454 => (if t454 = true then ((laws_alive.f k).bind fun t455 => (some t455)) else (some false))))
def laws_FnReadPlace.f (k : Nat) (l0 : List Int) : Option (Bool) := if (l0.length : Int) > 1048576 then (some true) else ((spec_DrawReadPlace.f k l0).bind fun t424 => ((impl_ReadPlace.f k t424).bind fun bt425 => ((spec_ReadPlace.f k t424).bind fun bt434 => ((laws_samePlace.f k bt425.1 bt425.2.1 bt425.2.2.1 bt434.1 bt434.2.1 bt434.2.2.1).bind fun t443 => (if t443 = true then (laws_FnReadPlace.j0 k t424 bt425.2.2.2 (bt425.2.2.2 != bt434.2.2.2) bt425.1 bt425.2.1 bt425.2.2.1) else (laws_FnReadPlace.j0 k t424 bt425.2.2.2 true bt425.1 bt425.2.1 bt425.2.2.1))))))
theorem laws_FnReadPlace.mono_l : ∀ k, (∀ y0 y1 y2 y3 y4 y5, LeO (laws_FnReadPlace.j0 k y0 y1 y2 y3 y4 y5) (laws_FnReadPlace.j0 (k + 1) y0 y1 y2 y3 y4 y5))
 | 0 => fun _ _ _ _ _ _ r h => by simp [laws_FnReadPlace.j0] at h
 | k + 1 => by
  have ih0 := laws_FnReadPlace.mono_l k
  ·
   intro y0 y1 y2 y3 y4 y5
   unfold laws_FnReadPlace.j0
   repeat' first
   | (with_reducible exact ih0 _ _ _ _ _ _)
   | (with_reducible exact impl_PlaceText.mono _ _ _ _)
   | (with_reducible exact impl_ReadPlace.mono _ _)
   | (with_reducible exact laws_alive.mono _)
   | (with_reducible exact laws_samePlace.mono _ _ _ _ _ _ _)
   | (with_reducible exact spec_DrawReadPlace.mono _ _)
   | (with_reducible exact spec_ReadPlace.mono _ _)
   | (with_reducible exact LeO.refl _)
   | (with_reducible exact LeO.none _)
   | (with_reducible refine LeO.ite ?_ ?_)
   | (with_reducible refine LeO.bind ?_ (fun _ => ?_))
   | exact ih0 _ _ _ _ _ _
   | exact impl_PlaceText.mono _ _ _ _
   | exact impl_ReadPlace.mono _ _
   | exact laws_alive.mono _
   | exact laws_samePlace.mono _ _ _ _ _ _ _
   | exact spec_DrawReadPlace.mono _ _
   | exact spec_ReadPlace.mono _ _
   | exact LeO.none _
   | refine LeO.ite ?_ ?_
   | refine LeO.bind ?_ (fun _ => ?_)
theorem laws_FnReadPlace.mono : ∀ a0 k, LeO (laws_FnReadPlace.f k a0) (laws_FnReadPlace.f (k + 1) a0) := by
 intro a0 k
 have ih0 := laws_FnReadPlace.mono_l k
 unfold laws_FnReadPlace.f
 repeat' first
   | (with_reducible exact ih0 _ _ _ _ _ _)
   | (with_reducible exact impl_PlaceText.mono _ _ _ _)
   | (with_reducible exact impl_ReadPlace.mono _ _)
   | (with_reducible exact laws_alive.mono _)
   | (with_reducible exact laws_samePlace.mono _ _ _ _ _ _ _)
   | (with_reducible exact spec_DrawReadPlace.mono _ _)
   | (with_reducible exact spec_ReadPlace.mono _ _)
   | (with_reducible exact LeO.refl _)
   | (with_reducible exact LeO.none _)
   | (with_reducible refine LeO.ite ?_ ?_)
   | (with_reducible refine LeO.bind ?_ (fun _ => ?_))
   | exact ih0 _ _ _ _ _ _
   | exact impl_PlaceText.mono _ _ _ _
   | exact impl_ReadPlace.mono _ _
   | exact laws_alive.mono _
   | exact laws_samePlace.mono _ _ _ _ _ _ _
   | exact spec_DrawReadPlace.mono _ _
   | exact spec_ReadPlace.mono _ _
   | exact LeO.none _
   | refine LeO.ite ?_ ?_
   | refine LeO.bind ?_ (fun _ => ?_)
set_option maxHeartbeats 8000000 in
set_option maxRecDepth 100000 in
theorem laws_FnReadPlace.calls (k : Nat) (A0 : Option Addr) (c0 : Nat) (l0 : List Int) (r : Bool) (w : World) (hr0 : Kd.C (Kd.int .u8) w A0 l0.length l0) (hc0 : l0.length ≤ c0) (hG : GWb w) (h : laws_FnReadPlace.f k l0 = some r) :
  Calls Tryd.prog 13 #[.slice A0 l0.length c0] w fun e w' => e = .returned (.bool r) ∧ Below w.heap.size w w' := by
 have HG := Aside0.mk hG
 clear hG
 have hu25 := Tryd.underlying25
 have HR0 := Aside0.mk hr0
 have HC0 := Aside0.mk hc0
 clear hr0 hc0
 have HB := Aside0.mk (Below.refl w.heap.size w)
 have H : (if (l0.length : Int) > 1048576 then (some true) else ((spec_DrawReadPlace.f k l0).bind fun t424 => ((impl_ReadPlace.f k t424).bind fun bt425 => ((spec_ReadPlace.f k t424).bind fun bt434 => ((laws_samePlace.f k bt425.1 bt425.2.1 bt425.2.2.1 bt434.1 bt434.2.1 bt434.2.2.1).bind fun t443 => (if t443 = true then (laws_FnReadPlace.j0 k t424 bt425.2.2.2 (bt425.2.2.2 != bt434.2.2.2) bt425.1 bt425.2.1 bt425.2.2.1) else (laws_FnReadPlace.j0 k t424 bt425.2.2.2 true bt425.1 bt425.2.1 bt425.2.2.1))))))) = some r := h
 clear h
 by_cases c2 : (l0.length : Int) > 1048576
 ·
  rw [if_pos c2] at H
  have c2b0 : decide (1048576 < (l0.length : Int)) = true := decide_eq_true c2
  have c2b1 : decide (1048576 < l0.length) = true := decide_eq_true (by omega)
  clear c2
  obtain rfl := Option.some.inj H
  go_enter Tryd.func13, Tryd.ntmps13
  go_wp2
  go_ret
  exact ⟨by first | rfl | (simp [errW_none, errW_some, Option.map_none, Option.map_some] <;> rfl) | (simp [*, errW_none, errW_some] <;> rfl), (tb_ HB.out)⟩
 ·
  rw [if_neg c2] at H
  have c2b0 : decide (1048576 < (l0.length : Int)) = false := decide_eq_false c2
  have c2b1 : decide (1048576 < l0.length) = false := decide_eq_false (by omega)
  clear c2
  replace H := Option.bind_eq_some_iff.mp H
  obtain ⟨t424, A30, H⟩ := H
  replace H : ((impl_ReadPlace.f k t424).bind fun bt425 => ((spec_ReadPlace.f k t424).bind fun bt434 => ((laws_samePlace.f k bt425.1 bt425.2.1 bt425.2.2.1 bt434.1 bt434.2.1 bt434.2.2.1).bind fun t443 => (if t443 = true then (laws_FnReadPlace.j0 k t424 bt425.2.2.2 (bt425.2.2.2 != bt434.2.2.2) bt425.1 bt425.2.1 bt425.2.2.1) else (laws_FnReadPlace.j0 k t424 bt425.2.2.2 true bt425.1 bt425.2.1 bt425.2.2.1))))) = some r := H
  have A3 := Aside0.mk A30
  clear A30
  replace H := Option.bind_eq_some_iff.mp H
  obtain ⟨⟨t425, t428, t429, t432⟩, A40, H⟩ := H
  replace H : ((spec_ReadPlace.f k t424).bind fun bt434 => ((laws_samePlace.f k t425 t428 t429 bt434.1 bt434.2.1 bt434.2.2.1).bind fun t443 => (if t443 = true then (laws_FnReadPlace.j0 k t424 t432 (t432 != bt434.2.2.2) t425 t428 t429) else (laws_FnReadPlace.j0 k t424 t432 true t425 t428 t429)))) = some r := H
  have A4 := Aside0.mk A40
  clear A40
  replace H := Option.bind_eq_some_iff.mp H
  obtain ⟨⟨t434, t437, t438, t441⟩, A50, H⟩ := H
  replace H : ((laws_samePlace.f k t425 t428 t429 t434 t437 t438).bind fun t443 => (if t443 = true then (laws_FnReadPlace.j0 k t424 t432 (t432 != t441) t425 t428 t429) else (laws_FnReadPlace.j0 k t424 t432 true t425 t428 t429))) = some r := H
  have A5 := Aside0.mk A50
  clear A50
  have HC6 := Aside0.mk H
  clear H
  go_enter Tryd.func13, Tryd.ntmps13
  go_upto_region 6 with (first | ((with_reducible refine gate_callee (f := 58) rfl ?_); refine goesL_ (some 14) rfl rfl Tryd.func58 (by kernel_rfl) rfl #[.slice A0 l0.length c0] rfl tz_ ?_; (with_reducible refine (spec_DrawReadPlace.calls k _ _ l0 t424 _ ?side1 ?side2 A3.out).mono ?_); (case side1 => exact td_); (case side2 => exact HC0.out); rintro e w7 ⟨rfl, hb⟩; refine ⟨_, rfl, ?_⟩; have n0_ := Aside0.mk (below_step (tb_ HB.out) hb); clear HB; have HB := n0_; clear n0_; (try clear hb); (try clear hb2); (try clear hk); (try clear hi)) | ((with_reducible refine gate_callee (f := 54) rfl ?_); refine goesL_ (some 17) rfl rfl Tryd.func54 (by kernel_rfl) rfl #[.string t424] rfl tz_ ?_; (with_reducible refine (impl_ReadPlace.calls k t424 t425 t428 t429 t432 _ ?side1 A4.out).mono ?_); (case side1 => exact GWb.below HG.out (tb_ HB.out)); rintro e w8 ⟨v426, v430, rfl, ho0, ho1, hb⟩; refine ⟨_, rfl, ?_⟩; have n0_ := Aside0.mk (Kd.R_lower ho0 (below_size (tb_ HB.out))); have n1_ := Aside0.mk (Kd.R_lower ho1 (below_size (tb_ HB.out))); have n2_ := Aside0.mk (below_step (tb_ HB.out) hb); clear HB; have HO427 := n0_; have HO431 := n1_; have HB := n2_; clear n0_ n1_ n2_; (try clear hb); (try clear hb2); (try clear hk); (try clear hi); (try clear ho0); (try clear ho1)) | ((with_reducible refine gate_dst (N := 4) rfl ?_); refine box_event ?hg (N := 4) ?hd (cs := #[.slice none 0 0, .int .i64 0, .slice none 0 0]) (t := 25) ?hr ?_; (case hd => rfl); (case hg => rfl); (case hr => first | (go_simp; done) | (go_simp; rfl)); intro gb433 hg w9 hbox hb; have n0_ := Aside0.mk (Kd.R_below (rR_ HO427.out) hb); have n1_ := Aside0.mk (Kd.R_below (rR_ HO431.out) hb); have n2_ := Aside0.mk (below_step (tb_ HB.out) hb); have n3_ := Aside0.mk (hbox); have n4_ := Aside0.mk ((by rw [hg]; exact (below_size (tb_ HB.out)) : w.heap.size ≤ gb433)); have n5_ := Aside0.mk ((by rw [hg]; exact (below_size (tb_ HB.out)) : w.heap.size ≤ gb433)); clear HO427 HO431 HB; have HO427 := n0_; have HO431 := n1_; have HB := n2_; have BK433 := n3_; have GW433 := n4_; have GE433 := n5_; clear n0_ n1_ n2_ n3_ n4_ n5_ hb hbox hg; obtain ⟨Ao10, co10, eo10⟩ := Kd.R_slice HO427.out; subst eo10; have hcz11_0 : w9.cell? ⟨gb433, 0, none⟩ = some (.slice none 0 0) := (blk_cell BK433.out 0).trans rfl; have hcz11_1 : w9.cell? ⟨gb433, 1, none⟩ = some (.int .i64 0) := (blk_cell BK433.out 1).trans rfl; have hcz11_2 : w9.cell? ⟨gb433, 2, none⟩ = some (.slice none 0 0) := (blk_cell BK433.out 2).trans rfl; have hfz11_0 := blk_frozen BK433.out 0; have hfz11_1 := blk_frozen BK433.out 1; have hfz11_2 := blk_frozen BK433.out 2; obtain ⟨Ao12, co12, eo12⟩ := Kd.R_slice HO431.out; subst eo12) | ((with_reducible refine gate_callee (f := 53) rfl ?_); refine goesL_ (some 22) rfl rfl Tryd.func53 (by kernel_rfl) rfl #[.string t424] rfl tz_ ?_; (with_reducible refine (spec_ReadPlace.calls k t424 t434 t437 t438 t441 _ A5.out).mono ?_); rintro e w13 ⟨v435, v439, rfl, ho0, ho1, hb⟩; refine ⟨_, rfl, ?_⟩; have n0_ := Aside0.mk (Kd.R_mono (Kd.R_told (Kd.R_told (Kd.R_old (by refine qR_ ?_; exact (Kd.R_mono (Kd.R_far (p := ⟨gb433, 2, none⟩) (Kd.R_far (p := ⟨gb433, 1, none⟩) (Kd.R_far (p := ⟨gb433, 0, none⟩) (Kd.R_types HO427.out BK433.out (by decide)) (fun _ hk => hk.2) (.slice Ao10 t425.length co10)) (fun _ hk => hk.2) (.int .i64 t428)) (fun _ hk => hk.2) (.slice Ao12 t429.length co12)) (fun _ h_ => h_.1))) hb) (Kd.R_base ho0)) (Kd.R_base ho1)) (fun _ h_ => h_.1)); have n1_ := Aside0.mk (Kd.R_mono (Kd.R_told (Kd.R_told (Kd.R_old (by refine qR_ ?_; exact (Kd.R_mono (Kd.R_far (p := ⟨gb433, 2, none⟩) (Kd.R_far (p := ⟨gb433, 1, none⟩) (Kd.R_far (p := ⟨gb433, 0, none⟩) (Kd.R_types HO431.out BK433.out (by decide)) (fun _ hk => hk.2) (.slice Ao10 t425.length co10)) (fun _ hk => hk.2) (.int .i64 t428)) (fun _ hk => hk.2) (.slice Ao12 t429.length co12)) (fun _ h_ => h_.1))) hb) (Kd.R_base ho0)) (Kd.R_base ho1)) (fun _ h_ => h_.1)); have n2_ := Aside0.mk (Kd.R_lower (Kd.R_new' (Kd.R_new' ho0 (Kd.R_lt (by refine qR_ ?_; exact (Kd.R_mono (Kd.R_far (p := ⟨gb433, 2, none⟩) (Kd.R_far (p := ⟨gb433, 1, none⟩) (Kd.R_far (p := ⟨gb433, 0, none⟩) (Kd.R_types HO427.out BK433.out (by decide)) (fun _ hk => hk.2) (.slice Ao10 t425.length co10)) (fun _ hk => hk.2) (.int .i64 t428)) (fun _ hk => hk.2) (.slice Ao12 t429.length co12)) (fun _ h_ => h_.1))))) (Kd.R_lt (by refine qR_ ?_; exact (Kd.R_mono (Kd.R_far (p := ⟨gb433, 2, none⟩) (Kd.R_far (p := ⟨gb433, 1, none⟩) (Kd.R_far (p := ⟨gb433, 0, none⟩) (Kd.R_types HO431.out BK433.out (by decide)) (fun _ hk => hk.2) (.slice Ao10 t425.length co10)) (fun _ hk => hk.2) (.int .i64 t428)) (fun _ hk => hk.2) (.slice Ao12 t429.length co12)) (fun _ h_ => h_.1))))) (below_size (tb_ HB.out))); have n3_ := Aside0.mk (Kd.R_lower (Kd.R_new' (Kd.R_new' ho1 (Kd.R_lt (by refine qR_ ?_; exact (Kd.R_mono (Kd.R_far (p := ⟨gb433, 2, none⟩) (Kd.R_far (p := ⟨gb433, 1, none⟩) (Kd.R_far (p := ⟨gb433, 0, none⟩) (Kd.R_types HO427.out BK433.out (by decide)) (fun _ hk => hk.2) (.slice Ao10 t425.length co10)) (fun _ hk => hk.2) (.int .i64 t428)) (fun _ hk => hk.2) (.slice Ao12 t429.length co12)) (fun _ h_ => h_.1))))) (Kd.R_lt (by refine qR_ ?_; exact (Kd.R_mono (Kd.R_far (p := ⟨gb433, 2, none⟩) (Kd.R_far (p := ⟨gb433, 1, none⟩) (Kd.R_far (p := ⟨gb433, 0, none⟩) (Kd.R_types HO431.out BK433.out (by decide)) (fun _ hk => hk.2) (.slice Ao10 t425.length co10)) (fun _ hk => hk.2) (.int .i64 t428)) (fun _ hk => hk.2) (.slice Ao12 t429.length co12)) (fun _ h_ => h_.1))))) (below_size (tb_ HB.out))); have n4_ := Aside0.mk (blk_below (g := gb433) (o := .cells #[.slice Ao10 t425.length co10, .int .i64 t428, .slice Ao12 t429.length co12] 25 (0, 0)) (by refine bq_ ?_; refine blk_put (cs := #[.slice Ao10 t425.length co10, .int .i64 t428, .slice none 0 0]) ?_ 2 _ rfl; refine bq_ ?_; refine blk_put (cs := #[.slice Ao10 t425.length co10, .int .i64 0, .slice none 0 0]) ?_ 1 _ rfl; refine bq_ ?_; refine blk_put (cs := #[.slice none 0 0, .int .i64 0, .slice none 0 0]) ?_ 0 _ rfl; exact tk_ BK433.out) hb); have n5_ := Aside0.mk (below_step (tb_ HB.out) hb); clear HO427 HO431 BK433 HB; have HO427 := n0_; have HO431 := n1_; have HO436 := n2_; have HO440 := n3_; have BK433 := n4_; have HB := n5_; clear n0_ n1_ n2_ n3_ n4_ n5_; (try clear hb); (try clear hb2); (try clear hk); (try clear hi); (try clear ho0); (try clear ho1)) | ((with_reducible refine gate_dst (N := 6) rfl ?_); refine box_event ?hg (N := 6) ?hd (cs := #[.slice none 0 0, .int .i64 0, .slice none 0 0]) (t := 25) ?hr ?_; (case hd => rfl); (case hg => rfl); (case hr => first | (go_simp; done) | (go_simp; rfl)); intro gb442 hg w14 hbox hb; have n0_ := Aside0.mk (Kd.R_below (rR_ HO427.out) hb); have n1_ := Aside0.mk (Kd.R_below (rR_ HO431.out) hb); have n2_ := Aside0.mk (Kd.R_below (rR_ HO436.out) hb); have n3_ := Aside0.mk (Kd.R_below (rR_ HO440.out) hb); have n4_ := Aside0.mk (blk_below (g := gb433) (o := .cells #[.slice Ao10 t425.length co10, .int .i64 t428, .slice Ao12 t429.length co12] 25 (0, 0)) (tk_ BK433.out) hb); have n5_ := Aside0.mk (below_step (tb_ HB.out) hb); have n6_ := Aside0.mk (hbox); have n7_ := Aside0.mk ((by rw [hg]; exact (below_size (tb_ HB.out)) : w.heap.size ≤ gb442)); have n8_ := Aside0.mk ((by rw [hg]; exact (below_size (tb_ HB.out)) : w.heap.size ≤ gb442)); have n9_ := Aside0.mk ((by rw [hg]; exact Nat.ne_of_lt (blk_lt (g := gb433) (o := .cells #[.slice Ao10 t425.length co10, .int .i64 t428, .slice Ao12 t429.length co12] 25 (0, 0)) (tk_ BK433.out)) : gb433 ≠ gb442)); have n10_ := Aside0.mk ((by rw [hg]; exact Nat.ne_of_gt (blk_lt (g := gb433) (o := .cells #[.slice Ao10 t425.length co10, .int .i64 t428, .slice Ao12 t429.length co12] 25 (0, 0)) (tk_ BK433.out)) : gb442 ≠ gb433)); clear HO427 HO431 HO436 HO440 BK433 HB; have HO427 := n0_; have HO431 := n1_; have HO436 := n2_; have HO440 := n3_; have BK433 := n4_; have HB := n5_; have BK442 := n6_; have GW442 := n7_; have GE442 := n8_; have NB433_442 := n9_; have NB442_433 := n10_; clear n0_ n1_ n2_ n3_ n4_ n5_ n6_ n7_ n8_ n9_ n10_ hb hbox hg; obtain ⟨Ao15, co15, eo15⟩ := Kd.R_slice HO436.out; subst eo15; have hnb16 := NB442_433.out; have hnc16 := NB433_442.out; have hcz17_0 : w14.cell? ⟨gb442, 0, none⟩ = some (.slice none 0 0) := (blk_cell BK442.out 0).trans rfl; have hcz17_1 : w14.cell? ⟨gb442, 1, none⟩ = some (.int .i64 0) := (blk_cell BK442.out 1).trans rfl; have hcz17_2 : w14.cell? ⟨gb442, 2, none⟩ = some (.slice none 0 0) := (blk_cell BK442.out 2).trans rfl; have hfz17_0 := blk_frozen BK442.out 0; have hfz17_1 := blk_frozen BK442.out 1; have hfz17_2 := blk_frozen BK442.out 2; obtain ⟨Ao18, co18, eo18⟩ := Kd.R_slice HO440.out; subst eo18))
  (try simp only [Act.put, sa_, sb_, sc_])
  go_cut [33] (fun v33 wc => ∃ (kq : Nat) (x33_5 : Bool), v33 = .bool x33_5 ∧ Aside0 (laws_FnReadPlace.j0 kq t424 t432 x33_5 t425 t428 t429 = some r) ∧ Aside0 (kq ≤ k) ∧ Aside0 (Kd.R (Kd.int .i64) 3 wc w.heap.size (fun k_ => some k_ ≠ ((.slice Ao12 t429.length co12) : Value).ownBlock ∧ some k_ ≠ ((.slice Ao15 t434.length co15) : Value).ownBlock ∧ some k_ ≠ ((.slice Ao18 t438.length co18) : Value).ownBlock) (.slice Ao10 t425.length co10) t425) ∧ Aside0 (Kd.R (Kd.int .i64) 3 wc w.heap.size (fun k_ => some k_ ≠ ((.slice Ao10 t425.length co10) : Value).ownBlock ∧ some k_ ≠ ((.slice Ao15 t434.length co15) : Value).ownBlock ∧ some k_ ≠ ((.slice Ao18 t438.length co18) : Value).ownBlock) (.slice Ao12 t429.length co12) t429) ∧ Aside0 (Kd.R (Kd.int .i64) 3 wc w.heap.size (fun k_ => some k_ ≠ ((.slice Ao10 t425.length co10) : Value).ownBlock ∧ some k_ ≠ ((.slice Ao12 t429.length co12) : Value).ownBlock ∧ some k_ ≠ ((.slice Ao18 t438.length co18) : Value).ownBlock) (.slice Ao15 t434.length co15) t434) ∧ Aside0 (Kd.R (Kd.int .i64) 3 wc w.heap.size (fun k_ => some k_ ≠ ((.slice Ao10 t425.length co10) : Value).ownBlock ∧ some k_ ≠ ((.slice Ao12 t429.length co12) : Value).ownBlock ∧ some k_ ≠ ((.slice Ao15 t434.length co15) : Value).ownBlock) (.slice Ao18 t438.length co18) t438) ∧ Aside0 (wc.heap[gb433]? = some (.cells #[(.slice Ao10 t425.length co10), .int .i64 t428, (.slice Ao12 t429.length co12)] 25 (0, 0))) ∧ Aside0 (wc.heap[gb442]? = some (.cells #[(.slice Ao15 t434.length co15), .int .i64 t437, (.slice Ao18 t438.length co18)] 25 (0, 0))) ∧ Aside0 (Below w.heap.size w wc))
  case first =>
   have H := HC6.out
   clear HC6
   replace H := Option.bind_eq_some_iff.mp H
   obtain ⟨t443, A190, H⟩ := H
   replace H : (if t443 = true then (laws_FnReadPlace.j0 k t424 t432 (t432 != t441) t425 t428 t429) else (laws_FnReadPlace.j0 k t424 t432 true t425 t428 t429)) = some r := H
   have A19 := Aside0.mk A190
   clear A190
   by_cases c20 : t443 = true
   ·
    subst c20
    have H1 : (laws_FnReadPlace.j0 k t424 t432 (t432 != t441) t425 t428 t429) = some r := by rw [if_pos rfl] at H; exact H
    clear H
    have H := H1
    clear H1
    have H' := Aside0.mk H
    clear H
    have hnb21 := NB433_442.out
    have hnc21 := NB442_433.out
    have hcz22_0 : w14.cell? ⟨gb433, 0, none⟩ = some (.slice Ao10 t425.length co10) := (blk_cell BK433.out 0).trans rfl
    have hcz22_1 : w14.cell? ⟨gb433, 1, none⟩ = some (.int .i64 t428) := (blk_cell BK433.out 1).trans rfl
    have hcz22_2 : w14.cell? ⟨gb433, 2, none⟩ = some (.slice Ao12 t429.length co12) := (blk_cell BK433.out 2).trans rfl
    have hfz22_0 := blk_frozen BK433.out 0
    have hfz22_1 := blk_frozen BK433.out 1
    have hfz22_2 := blk_frozen BK433.out 2
    have hcz23_0 : w14.cell? ⟨gb442, 0, none⟩ = some (.slice none 0 0) := (blk_cell BK442.out 0).trans rfl
    have hcz23_1 : w14.cell? ⟨gb442, 1, none⟩ = some (.int .i64 0) := (blk_cell BK442.out 1).trans rfl
    have hcz23_2 : w14.cell? ⟨gb442, 2, none⟩ = some (.slice none 0 0) := (blk_cell BK442.out 2).trans rfl
    have hfz23_0 := blk_frozen BK442.out 0
    have hfz23_1 := blk_frozen BK442.out 1
    have hfz23_2 := blk_frozen BK442.out 2
    go_wp2_with (first | ((with_reducible refine gate_callee (f := 59) rfl ?_); refine goesL_ (some 27) rfl rfl Tryd.func59 (by kernel_rfl) rfl #[.agg #[.slice Ao10 t425.length co10, .int .i64 t428, .slice Ao12 t429.length co12], .agg #[.slice Ao15 t434.length co15, .int .i64 t437, .slice Ao18 t438.length co18]] rfl tz_ ?_; (with_reducible refine (laws_samePlace.calls k _ _ t425 t428 _ _ t429 _ _ t434 t437 _ _ t438 true _ ?side1 ?side2 ?side3 ?side4 ?side5 ?side6 ?side7 ?side8 A19.out).mono ?_); (case side1 => refine (Kd.R_reads' (e := 3) (base := w.heap.size) (ok := fun k_ => ((some k_ ≠ (.slice Ao12 t429.length co12 : Value).ownBlock ∧ some k_ ≠ (.slice Ao15 t434.length co15 : Value).ownBlock) ∧ some k_ ≠ (.slice Ao18 t438.length co18 : Value).ownBlock)) (n := t425.length) (c := co10) ?_).2.2; exact (by refine qR_ ?_; exact (Kd.R_mono (Kd.R_far (p := ⟨gb442, 2, none⟩) (Kd.R_far (p := ⟨gb442, 1, none⟩) (Kd.R_far (p := ⟨gb442, 0, none⟩) (Kd.R_types HO427.out BK442.out (by decide)) (fun _ hk => hk.2) (.slice Ao15 t434.length co15)) (fun _ hk => hk.2) (.int .i64 t437)) (fun _ hk => hk.2) (.slice Ao18 t438.length co18)) (fun _ h_ => h_.1)))); (case side2 => exact (Kd.R_reads' HO427.out).2.1); (case side3 => refine (Kd.R_reads' (e := 3) (base := w.heap.size) (ok := fun k_ => ((some k_ ≠ (.slice Ao10 t425.length co10 : Value).ownBlock ∧ some k_ ≠ (.slice Ao15 t434.length co15 : Value).ownBlock) ∧ some k_ ≠ (.slice Ao18 t438.length co18 : Value).ownBlock)) (n := t429.length) (c := co12) ?_).2.2; exact (by refine qR_ ?_; exact (Kd.R_mono (Kd.R_far (p := ⟨gb442, 2, none⟩) (Kd.R_far (p := ⟨gb442, 1, none⟩) (Kd.R_far (p := ⟨gb442, 0, none⟩) (Kd.R_types HO431.out BK442.out (by decide)) (fun _ hk => hk.2) (.slice Ao15 t434.length co15)) (fun _ hk => hk.2) (.int .i64 t437)) (fun _ hk => hk.2) (.slice Ao18 t438.length co18)) (fun _ h_ => h_.1)))); (case side4 => exact (Kd.R_reads' HO431.out).2.1); (case side5 => refine (Kd.R_reads' (e := 3) (base := w.heap.size) (ok := fun k_ => ((some k_ ≠ (.slice Ao18 t438.length co18 : Value).ownBlock ∧ some k_ ≠ (.slice Ao10 t425.length co10 : Value).ownBlock) ∧ some k_ ≠ (.slice Ao12 t429.length co12 : Value).ownBlock)) (n := t434.length) (c := co15) ?_).2.2; exact (by refine qR_ ?_; exact (Kd.R_mono (Kd.R_far (p := ⟨gb442, 2, none⟩) (Kd.R_far (p := ⟨gb442, 1, none⟩) (Kd.R_far (p := ⟨gb442, 0, none⟩) (Kd.R_types HO436.out BK442.out (by decide)) (fun _ hk => hk.2) (.slice Ao15 t434.length co15)) (fun _ hk => hk.2) (.int .i64 t437)) (fun _ hk => hk.2) (.slice Ao18 t438.length co18)) (fun _ h_ => h_.1)))); (case side6 => exact (Kd.R_reads' HO436.out).2.1); (case side7 => refine (Kd.R_reads' (e := 3) (base := w.heap.size) (ok := fun k_ => ((some k_ ≠ (.slice Ao15 t434.length co15 : Value).ownBlock ∧ some k_ ≠ (.slice Ao10 t425.length co10 : Value).ownBlock) ∧ some k_ ≠ (.slice Ao12 t429.length co12 : Value).ownBlock)) (n := t438.length) (c := co18) ?_).2.2; exact (by refine qR_ ?_; exact (Kd.R_mono (Kd.R_far (p := ⟨gb442, 2, none⟩) (Kd.R_far (p := ⟨gb442, 1, none⟩) (Kd.R_far (p := ⟨gb442, 0, none⟩) (Kd.R_types HO440.out BK442.out (by decide)) (fun _ hk => hk.2) (.slice Ao15 t434.length co15)) (fun _ hk => hk.2) (.int .i64 t437)) (fun _ hk => hk.2) (.slice Ao18 t438.length co18)) (fun _ h_ => h_.1)))); (case side8 => exact (Kd.R_reads' HO440.out).2.1); rintro e w24 ⟨rfl, hb⟩; refine ⟨_, rfl, ?_⟩; have n0_ := Aside0.mk (Kd.R_below (by refine qR_ ?_; exact (Kd.R_mono (Kd.R_far (p := ⟨gb442, 2, none⟩) (Kd.R_far (p := ⟨gb442, 1, none⟩) (Kd.R_far (p := ⟨gb442, 0, none⟩) (Kd.R_types HO427.out BK442.out (by decide)) (fun _ hk => hk.2) (.slice Ao15 t434.length co15)) (fun _ hk => hk.2) (.int .i64 t437)) (fun _ hk => hk.2) (.slice Ao18 t438.length co18)) (fun _ h_ => h_.1))) hb); have n1_ := Aside0.mk (Kd.R_below (by refine qR_ ?_; exact (Kd.R_mono (Kd.R_far (p := ⟨gb442, 2, none⟩) (Kd.R_far (p := ⟨gb442, 1, none⟩) (Kd.R_far (p := ⟨gb442, 0, none⟩) (Kd.R_types HO431.out BK442.out (by decide)) (fun _ hk => hk.2) (.slice Ao15 t434.length co15)) (fun _ hk => hk.2) (.int .i64 t437)) (fun _ hk => hk.2) (.slice Ao18 t438.length co18)) (fun _ h_ => h_.1))) hb); have n2_ := Aside0.mk (Kd.R_below (by refine qR_ ?_; exact (Kd.R_mono (Kd.R_far (p := ⟨gb442, 2, none⟩) (Kd.R_far (p := ⟨gb442, 1, none⟩) (Kd.R_far (p := ⟨gb442, 0, none⟩) (Kd.R_types HO436.out BK442.out (by decide)) (fun _ hk => hk.2) (.slice Ao15 t434.length co15)) (fun _ hk => hk.2) (.int .i64 t437)) (fun _ hk => hk.2) (.slice Ao18 t438.length co18)) (fun _ h_ => h_.1))) hb); have n3_ := Aside0.mk (Kd.R_below (by refine qR_ ?_; exact (Kd.R_mono (Kd.R_far (p := ⟨gb442, 2, none⟩) (Kd.R_far (p := ⟨gb442, 1, none⟩) (Kd.R_far (p := ⟨gb442, 0, none⟩) (Kd.R_types HO440.out BK442.out (by decide)) (fun _ hk => hk.2) (.slice Ao15 t434.length co15)) (fun _ hk => hk.2) (.int .i64 t437)) (fun _ hk => hk.2) (.slice Ao18 t438.length co18)) (fun _ h_ => h_.1))) hb); have n4_ := Aside0.mk (blk_below (g := gb433) (o := .cells #[.slice Ao10 t425.length co10, .int .i64 t428, .slice Ao12 t429.length co12] 25 (0, 0)) (tk_ BK433.out) hb); have n5_ := Aside0.mk (blk_below (g := gb442) (o := .cells #[.slice Ao15 t434.length co15, .int .i64 t437, .slice Ao18 t438.length co18] 25 (0, 0)) (by refine bq_ ?_; refine blk_put (cs := #[.slice Ao15 t434.length co15, .int .i64 t437, .slice none 0 0]) ?_ 2 _ rfl; refine bq_ ?_; refine blk_put (cs := #[.slice Ao15 t434.length co15, .int .i64 0, .slice none 0 0]) ?_ 1 _ rfl; refine bq_ ?_; refine blk_put (cs := #[.slice none 0 0, .int .i64 0, .slice none 0 0]) ?_ 0 _ rfl; exact tk_ BK442.out) hb); have n6_ := Aside0.mk (below_step (tb_ HB.out) hb); clear HO427 HO431 HO436 HO440 BK433 BK442 HB; have HO427 := n0_; have HO431 := n1_; have HO436 := n2_; have HO440 := n3_; have BK433 := n4_; have BK442 := n5_; have HB := n6_; clear n0_ n1_ n2_ n3_ n4_ n5_ n6_; (try clear hb); (try clear hb2); (try clear hk); (try clear hi)))
    go_meet
    case rel => exact ⟨_, ((t432 != t441)), tx_, H', ⟨by first | omega | exact Nat.le_refl _⟩, ⟨by refine qR_ ?_; exact Kd.R_mono HO427.out (fun _ hk => ⟨hk.1.1, ⟨hk.1.2, hk.2⟩⟩)⟩, ⟨by refine qR_ ?_; exact Kd.R_mono HO431.out (fun _ hk => ⟨hk.1.1, ⟨hk.1.2, hk.2⟩⟩)⟩, ⟨by refine qR_ ?_; exact Kd.R_mono HO436.out (fun _ hk => ⟨hk.1.2, ⟨hk.2, hk.1.1⟩⟩)⟩, ⟨by refine qR_ ?_; exact Kd.R_mono HO440.out (fun _ hk => ⟨hk.1.2, ⟨hk.2, hk.1.1⟩⟩)⟩, ⟨tk_ BK433.out⟩, ⟨tk_ BK442.out⟩, ⟨(tb_ HB.out)⟩⟩
   ·
    replace c20 := Bool.eq_false_iff.mpr c20
    subst c20
    have H1 : (laws_FnReadPlace.j0 k t424 t432 true t425 t428 t429) = some r := by rw [if_neg (show ¬ (false = true) by decide)] at H; exact H
    clear H
    have H := H1
    clear H1
    have H' := Aside0.mk H
    clear H
    have hnb25 := NB433_442.out
    have hnc25 := NB442_433.out
    have hcz26_0 : w14.cell? ⟨gb433, 0, none⟩ = some (.slice Ao10 t425.length co10) := (blk_cell BK433.out 0).trans rfl
    have hcz26_1 : w14.cell? ⟨gb433, 1, none⟩ = some (.int .i64 t428) := (blk_cell BK433.out 1).trans rfl
    have hcz26_2 : w14.cell? ⟨gb433, 2, none⟩ = some (.slice Ao12 t429.length co12) := (blk_cell BK433.out 2).trans rfl
    have hfz26_0 := blk_frozen BK433.out 0
    have hfz26_1 := blk_frozen BK433.out 1
    have hfz26_2 := blk_frozen BK433.out 2
    have hcz27_0 : w14.cell? ⟨gb442, 0, none⟩ = some (.slice none 0 0) := (blk_cell BK442.out 0).trans rfl
    have hcz27_1 : w14.cell? ⟨gb442, 1, none⟩ = some (.int .i64 0) := (blk_cell BK442.out 1).trans rfl
    have hcz27_2 : w14.cell? ⟨gb442, 2, none⟩ = some (.slice none 0 0) := (blk_cell BK442.out 2).trans rfl
    have hfz27_0 := blk_frozen BK442.out 0
    have hfz27_1 := blk_frozen BK442.out 1
    have hfz27_2 := blk_frozen BK442.out 2
    go_wp2_with (first | ((with_reducible refine gate_callee (f := 59) rfl ?_); refine goesL_ (some 27) rfl rfl Tryd.func59 (by kernel_rfl) rfl #[.agg #[.slice Ao10 t425.length co10, .int .i64 t428, .slice Ao12 t429.length co12], .agg #[.slice Ao15 t434.length co15, .int .i64 t437, .slice Ao18 t438.length co18]] rfl tz_ ?_; (with_reducible refine (laws_samePlace.calls k _ _ t425 t428 _ _ t429 _ _ t434 t437 _ _ t438 false _ ?side1 ?side2 ?side3 ?side4 ?side5 ?side6 ?side7 ?side8 A19.out).mono ?_); (case side1 => refine (Kd.R_reads' (e := 3) (base := w.heap.size) (ok := fun k_ => ((some k_ ≠ (.slice Ao12 t429.length co12 : Value).ownBlock ∧ some k_ ≠ (.slice Ao15 t434.length co15 : Value).ownBlock) ∧ some k_ ≠ (.slice Ao18 t438.length co18 : Value).ownBlock)) (n := t425.length) (c := co10) ?_).2.2; exact (by refine qR_ ?_; exact (Kd.R_mono (Kd.R_far (p := ⟨gb442, 2, none⟩) (Kd.R_far (p := ⟨gb442, 1, none⟩) (Kd.R_far (p := ⟨gb442, 0, none⟩) (Kd.R_types HO427.out BK442.out (by decide)) (fun _ hk => hk.2) (.slice Ao15 t434.length co15)) (fun _ hk => hk.2) (.int .i64 t437)) (fun _ hk => hk.2) (.slice Ao18 t438.length co18)) (fun _ h_ => h_.1)))); (case side2 => exact (Kd.R_reads' HO427.out).2.1); (case side3 => refine (Kd.R_reads' (e := 3) (base := w.heap.size) (ok := fun k_ => ((some k_ ≠ (.slice Ao10 t425.length co10 : Value).ownBlock ∧ some k_ ≠ (.slice Ao15 t434.length co15 : Value).ownBlock) ∧ some k_ ≠ (.slice Ao18 t438.length co18 : Value).ownBlock)) (n := t429.length) (c := co12) ?_).2.2; exact (by refine qR_ ?_; exact (Kd.R_mono (Kd.R_far (p := ⟨gb442, 2, none⟩) (Kd.R_far (p := ⟨gb442, 1, none⟩) (Kd.R_far (p := ⟨gb442, 0, none⟩) (Kd.R_types HO431.out BK442.out (by decide)) (fun _ hk => hk.2) (.slice Ao15 t434.length co15)) (fun _ hk => hk.2) (.int .i64 t437)) (fun _ hk => hk.2) (.slice Ao18 t438.length co18)) (fun _ h_ => h_.1)))); (case side4 => exact (Kd.R_reads' HO431.out).2.1); (case side5 => refine (Kd.R_reads' (e := 3) (base := w.heap.size) (ok := fun k_ => ((some k_ ≠ (.slice Ao18 t438.length co18 : Value).ownBlock ∧ some k_ ≠ (.slice Ao10 t425.length co10 : Value).ownBlock) ∧ some k_ ≠ (.slice Ao12 t429.length co12 : Value).ownBlock)) (n := t434.length) (c := co15) ?_).2.2; exact (by refine qR_ ?_; exact (Kd.R_mono (Kd.R_far (p := ⟨gb442, 2, none⟩) (Kd.R_far (p := ⟨gb442, 1, none⟩) (Kd.R_far (p := ⟨gb442, 0, none⟩) (Kd.R_types HO436.out BK442.out (by decide)) (fun _ hk => hk.2) (.slice Ao15 t434.length co15)) (fun _ hk => hk.2) (.int .i64 t437)) (fun _ hk => hk.2) (.slice Ao18 t438.length co18)) (fun _ h_ => h_.1)))); (case side6 => exact (Kd.R_reads' HO436.out).2.1); (case side7 => refine (Kd.R_reads' (e := 3) (base := w.heap.size) (ok := fun k_ => ((some k_ ≠ (.slice Ao15 t434.length co15 : Value).ownBlock ∧ some k_ ≠ (.slice Ao10 t425.length co10 : Value).ownBlock) ∧ some k_ ≠ (.slice Ao12 t429.length co12 : Value).ownBlock)) (n := t438.length) (c := co18) ?_).2.2; exact (by refine qR_ ?_; exact (Kd.R_mono (Kd.R_far (p := ⟨gb442, 2, none⟩) (Kd.R_far (p := ⟨gb442, 1, none⟩) (Kd.R_far (p := ⟨gb442, 0, none⟩) (Kd.R_types HO440.out BK442.out (by decide)) (fun _ hk => hk.2) (.slice Ao15 t434.length co15)) (fun _ hk => hk.2) (.int .i64 t437)) (fun _ hk => hk.2) (.slice Ao18 t438.length co18)) (fun _ h_ => h_.1)))); (case side8 => exact (Kd.R_reads' HO440.out).2.1); rintro e w28 ⟨rfl, hb⟩; refine ⟨_, rfl, ?_⟩; have n0_ := Aside0.mk (Kd.R_below (by refine qR_ ?_; exact (Kd.R_mono (Kd.R_far (p := ⟨gb442, 2, none⟩) (Kd.R_far (p := ⟨gb442, 1, none⟩) (Kd.R_far (p := ⟨gb442, 0, none⟩) (Kd.R_types HO427.out BK442.out (by decide)) (fun _ hk => hk.2) (.slice Ao15 t434.length co15)) (fun _ hk => hk.2) (.int .i64 t437)) (fun _ hk => hk.2) (.slice Ao18 t438.length co18)) (fun _ h_ => h_.1))) hb); have n1_ := Aside0.mk (Kd.R_below (by refine qR_ ?_; exact (Kd.R_mono (Kd.R_far (p := ⟨gb442, 2, none⟩) (Kd.R_far (p := ⟨gb442, 1, none⟩) (Kd.R_far (p := ⟨gb442, 0, none⟩) (Kd.R_types HO431.out BK442.out (by decide)) (fun _ hk => hk.2) (.slice Ao15 t434.length co15)) (fun _ hk => hk.2) (.int .i64 t437)) (fun _ hk => hk.2) (.slice Ao18 t438.length co18)) (fun _ h_ => h_.1))) hb); have n2_ := Aside0.mk (Kd.R_below (by refine qR_ ?_; exact (Kd.R_mono (Kd.R_far (p := ⟨gb442, 2, none⟩) (Kd.R_far (p := ⟨gb442, 1, none⟩) (Kd.R_far (p := ⟨gb442, 0, none⟩) (Kd.R_types HO436.out BK442.out (by decide)) (fun _ hk => hk.2) (.slice Ao15 t434.length co15)) (fun _ hk => hk.2) (.int .i64 t437)) (fun _ hk => hk.2) (.slice Ao18 t438.length co18)) (fun _ h_ => h_.1))) hb); have n3_ := Aside0.mk (Kd.R_below (by refine qR_ ?_; exact (Kd.R_mono (Kd.R_far (p := ⟨gb442, 2, none⟩) (Kd.R_far (p := ⟨gb442, 1, none⟩) (Kd.R_far (p := ⟨gb442, 0, none⟩) (Kd.R_types HO440.out BK442.out (by decide)) (fun _ hk => hk.2) (.slice Ao15 t434.length co15)) (fun _ hk => hk.2) (.int .i64 t437)) (fun _ hk => hk.2) (.slice Ao18 t438.length co18)) (fun _ h_ => h_.1))) hb); have n4_ := Aside0.mk (blk_below (g := gb433) (o := .cells #[.slice Ao10 t425.length co10, .int .i64 t428, .slice Ao12 t429.length co12] 25 (0, 0)) (tk_ BK433.out) hb); have n5_ := Aside0.mk (blk_below (g := gb442) (o := .cells #[.slice Ao15 t434.length co15, .int .i64 t437, .slice Ao18 t438.length co18] 25 (0, 0)) (by refine bq_ ?_; refine blk_put (cs := #[.slice Ao15 t434.length co15, .int .i64 t437, .slice none 0 0]) ?_ 2 _ rfl; refine bq_ ?_; refine blk_put (cs := #[.slice Ao15 t434.length co15, .int .i64 0, .slice none 0 0]) ?_ 1 _ rfl; refine bq_ ?_; refine blk_put (cs := #[.slice none 0 0, .int .i64 0, .slice none 0 0]) ?_ 0 _ rfl; exact tk_ BK442.out) hb); have n6_ := Aside0.mk (below_step (tb_ HB.out) hb); clear HO427 HO431 HO436 HO440 BK433 BK442 HB; have HO427 := n0_; have HO431 := n1_; have HO436 := n2_; have HO440 := n3_; have BK433 := n4_; have BK442 := n5_; have HB := n6_; clear n0_ n1_ n2_ n3_ n4_ n5_ n6_; (try clear hb); (try clear hb2); (try clear hk); (try clear hi)))
    go_meet
    case rel => exact ⟨_, (true), tx_, H', ⟨by first | omega | exact Nat.le_refl _⟩, ⟨by refine qR_ ?_; exact Kd.R_mono HO427.out (fun _ hk => ⟨hk.1.1, ⟨hk.1.2, hk.2⟩⟩)⟩, ⟨by refine qR_ ?_; exact Kd.R_mono HO431.out (fun _ hk => ⟨hk.1.1, ⟨hk.1.2, hk.2⟩⟩)⟩, ⟨by refine qR_ ?_; exact Kd.R_mono HO436.out (fun _ hk => ⟨hk.1.2, ⟨hk.2, hk.1.1⟩⟩)⟩, ⟨by refine qR_ ?_; exact Kd.R_mono HO440.out (fun _ hk => ⟨hk.1.2, ⟨hk.2, hk.1.1⟩⟩)⟩, ⟨tk_ BK433.out⟩, ⟨tk_ BK442.out⟩, ⟨(tb_ HB.out)⟩⟩
  case rest =>
   clear HC6
   try clear c1
   try clear c2
   try clear c2b0
   try clear c2b1
   try clear p2
   try clear c5
   try clear c13
   try clear c16
   try clear c20
   try clear c21
   try clear c25
   try clear hcz11_0
   try clear hcz11_1
   try clear hcz11_2
   try clear hcz17_0
   try clear hcz17_1
   try clear hcz17_2
   try clear hcz22_0
   try clear hcz22_1
   try clear hcz22_2
   try clear hcz23_0
   try clear hcz23_1
   try clear hcz23_2
   try clear hcz26_0
   try clear hcz26_1
   try clear hcz26_2
   try clear hcz27_0
   try clear hcz27_1
   try clear hcz27_2
   try clear hfz11_0
   try clear hfz11_1
   try clear hfz11_2
   try clear hfz17_0
   try clear hfz17_1
   try clear hfz17_2
   try clear hfz22_0
   try clear hfz22_1
   try clear hfz22_2
   try clear hfz23_0
   try clear hfz23_1
   try clear hfz23_2
   try clear hfz26_0
   try clear hfz26_1
   try clear hfz26_2
   try clear hfz27_0
   try clear hfz27_1
   try clear hfz27_2
   obtain ⟨kq, x33_5, rfl, HA, HJ5, HO_434000, HO_434002, HO_443000, HO_443002, BK433, BK442, HB⟩ := hcut
   cases kq with
   | zero => exact absurd HA.out (by simp [laws_FnReadPlace.j0])
   | succ kj5 =>
    have H := HA.out
    clear HA
    simp only [laws_FnReadPlace.j0] at H
    by_cases c29 : x33_5 = true
    ·
     subst c29
     have H1 : (some false) = some r := by rw [if_pos rfl] at H; exact H
     clear H
     have H := H1
     clear H1
     obtain rfl := Option.some.inj H
     go_wp2
     go_ret
     exact ⟨by first | rfl | (simp [errW_none, errW_some, Option.map_none, Option.map_some] <;> rfl) | (simp [*, errW_none, errW_some] <;> rfl), (tb_ HB.out)⟩
    ·
     replace c29 := Bool.eq_false_iff.mpr c29
     subst c29
     have H1 : (if t432 = true then (if t424.size + 1 ≤ 9223372036854775807 then ((impl_ReadPlace.f kj5 (t424 ++ (⟨#[32]⟩ : ByteArray))).bind fun bt444 => ((impl_PlaceText.f kj5 t425 t428 t429).bind fun t453 => (if t453.toList = t424.toList then (some (!bt444.2.2.2)) else (some false)))) else (none)) else ((laws_samePlace.f kj5 t425 t428 t429 ([] : List Int) 0 ([] : List Int)).bind fun t454 => (if t454 = true then ((laws_alive.f kj5).bind fun t455 => (some t455)) else (some false)))) = some r := by rw [if_neg (show ¬ (false = true) by decide)] at H; exact H
     clear H
     have H := H1
     clear H1
     by_cases c30 : t432 = true
     ·
      subst c30
      have H1 : (if t424.size + 1 ≤ 9223372036854775807 then ((impl_ReadPlace.f kj5 (t424 ++ (⟨#[32]⟩ : ByteArray))).bind fun bt444 => ((impl_PlaceText.f kj5 t425 t428 t429).bind fun t453 => (if t453.toList = t424.toList then (some (!bt444.2.2.2)) else (some false)))) else (none)) = some r := by rw [if_pos rfl] at H; exact H
      clear H
      have H := H1
      clear H1
      by_cases c31 : t424.size + 1 ≤ 9223372036854775807
      ·
       rw [if_pos c31] at H
       have c31b0 := eq_true c31
       have c31b1 : decide (t424.size + 1 ≤ 9223372036854775807) = true := decide_eq_true c31
       try have c31b2 : (9223372036854775807 < t424.size + 1) = False := eq_false (Nat.not_lt.2 c31)
       replace H := Option.bind_eq_some_iff.mp H
       obtain ⟨⟨t444, t447, t448, t451⟩, A320, H⟩ := H
       replace H : ((impl_PlaceText.f kj5 t425 t428 t429).bind fun t453 => (if t453.toList = t424.toList then (some (!t451)) else (some false))) = some r := H
       have A32 := Aside0.mk A320
       clear A320
       replace H := Option.bind_eq_some_iff.mp H
       obtain ⟨t453, A330, H⟩ := H
       replace H : (if t453.toList = t424.toList then (some (!t451)) else (some false)) = some r := H
       have A33 := Aside0.mk A330
       clear A330
       by_cases c34 : t453.toList = t424.toList
       ·
        rw [if_pos c34] at H
        have c34b0 : (t453.toList == t424.toList) = true := beq_iff_eq.mpr c34
        have c34b1 : (t453.toList != t424.toList) = false := bne_eq_false_iff_eq.mpr c34
        clear c34
        obtain rfl := Option.some.inj H
        go_wp2_with (first | ((with_reducible refine gate_callee (f := 54) rfl ?_); refine goesL_ (some 45) rfl rfl Tryd.func54 (by kernel_rfl) rfl #[.string (t424 ++ (⟨#[32]⟩ : ByteArray))] rfl tz_ ?_; (with_reducible refine (impl_ReadPlace.calls kj5 (t424 ++ (⟨#[32]⟩ : ByteArray)) t444 t447 t448 t451 _ ?side1 A32.out).mono ?_); (case side1 => exact GWb.below HG.out (tb_ HB.out)); rintro e w35 ⟨v445, v449, rfl, ho0, ho1, hb⟩; refine ⟨_, rfl, ?_⟩; have n0_ := Aside0.mk (Kd.R_mono (Kd.R_told (Kd.R_told (Kd.R_old (rR_ HO_434000.out) hb) (Kd.R_base ho0)) (Kd.R_base ho1)) (fun _ h_ => h_.1)); have n1_ := Aside0.mk (Kd.R_mono (Kd.R_told (Kd.R_told (Kd.R_old (rR_ HO_434002.out) hb) (Kd.R_base ho0)) (Kd.R_base ho1)) (fun _ h_ => h_.1)); have n2_ := Aside0.mk (Kd.R_mono (Kd.R_told (Kd.R_told (Kd.R_old (rR_ HO_443000.out) hb) (Kd.R_base ho0)) (Kd.R_base ho1)) (fun _ h_ => h_.1)); have n3_ := Aside0.mk (Kd.R_mono (Kd.R_told (Kd.R_told (Kd.R_old (rR_ HO_443002.out) hb) (Kd.R_base ho0)) (Kd.R_base ho1)) (fun _ h_ => h_.1)); have n4_ := Aside0.mk (Kd.R_lower (Kd.R_new' (Kd.R_new' (Kd.R_new' (Kd.R_new' ho0 (Kd.R_lt (rR_ HO_434000.out))) (Kd.R_lt (rR_ HO_434002.out))) (Kd.R_lt (rR_ HO_443000.out))) (Kd.R_lt (rR_ HO_443002.out))) (below_size (tb_ HB.out))); have n5_ := Aside0.mk (Kd.R_lower (Kd.R_new' (Kd.R_new' (Kd.R_new' (Kd.R_new' ho1 (Kd.R_lt (rR_ HO_434000.out))) (Kd.R_lt (rR_ HO_434002.out))) (Kd.R_lt (rR_ HO_443000.out))) (Kd.R_lt (rR_ HO_443002.out))) (below_size (tb_ HB.out))); have n6_ := Aside0.mk (blk_below (g := gb433) (o := .cells #[.slice Ao10 t425.length co10, .int .i64 t428, .slice Ao12 t429.length co12] 25 (0, 0)) (tk_ BK433.out) hb); have n7_ := Aside0.mk (blk_below (g := gb442) (o := .cells #[.slice Ao15 t434.length co15, .int .i64 t437, .slice Ao18 t438.length co18] 25 (0, 0)) (tk_ BK442.out) hb); have n8_ := Aside0.mk (below_step (tb_ HB.out) hb); clear HO_434000 HO_434002 HO_443000 HO_443002 BK433 BK442 HB; have HO_434000 := n0_; have HO_434002 := n1_; have HO_443000 := n2_; have HO_443002 := n3_; have HO446 := n4_; have HO450 := n5_; have BK433 := n6_; have BK442 := n7_; have HB := n8_; clear n0_ n1_ n2_ n3_ n4_ n5_ n6_ n7_ n8_; (try clear hb); (try clear hb2); (try clear hk); (try clear hi); (try clear ho0); (try clear ho1)) | ((with_reducible refine gate_dst (N := 8) rfl ?_); refine box_event ?hg (N := 8) ?hd (cs := #[.slice none 0 0, .int .i64 0, .slice none 0 0]) (t := 25) ?hr ?_; (case hd => rfl); (case hg => rfl); (case hr => first | (go_simp; done) | (go_simp; rfl)); intro gb452 hg w36 hbox hb; have n0_ := Aside0.mk (Kd.R_below (rR_ HO_434000.out) hb); have n1_ := Aside0.mk (Kd.R_below (rR_ HO_434002.out) hb); have n2_ := Aside0.mk (Kd.R_below (rR_ HO_443000.out) hb); have n3_ := Aside0.mk (Kd.R_below (rR_ HO_443002.out) hb); have n4_ := Aside0.mk (Kd.R_below (rR_ HO446.out) hb); have n5_ := Aside0.mk (Kd.R_below (rR_ HO450.out) hb); have n6_ := Aside0.mk (blk_below (g := gb433) (o := .cells #[.slice Ao10 t425.length co10, .int .i64 t428, .slice Ao12 t429.length co12] 25 (0, 0)) (tk_ BK433.out) hb); have n7_ := Aside0.mk (blk_below (g := gb442) (o := .cells #[.slice Ao15 t434.length co15, .int .i64 t437, .slice Ao18 t438.length co18] 25 (0, 0)) (tk_ BK442.out) hb); have n8_ := Aside0.mk (below_step (tb_ HB.out) hb); have n9_ := Aside0.mk (hbox); have n10_ := Aside0.mk ((by rw [hg]; exact (below_size (tb_ HB.out)) : w.heap.size ≤ gb452)); have n11_ := Aside0.mk ((by rw [hg]; exact (below_size (tb_ HB.out)) : w.heap.size ≤ gb452)); have n12_ := Aside0.mk ((by rw [hg]; exact Nat.ne_of_lt (blk_lt (g := gb433) (o := .cells #[.slice Ao10 t425.length co10, .int .i64 t428, .slice Ao12 t429.length co12] 25 (0, 0)) (tk_ BK433.out)) : gb433 ≠ gb452)); have n13_ := Aside0.mk ((by rw [hg]; exact Nat.ne_of_gt (blk_lt (g := gb433) (o := .cells #[.slice Ao10 t425.length co10, .int .i64 t428, .slice Ao12 t429.length co12] 25 (0, 0)) (tk_ BK433.out)) : gb452 ≠ gb433)); have n14_ := Aside0.mk ((by rw [hg]; exact Nat.ne_of_lt (blk_lt (g := gb442) (o := .cells #[.slice Ao15 t434.length co15, .int .i64 t437, .slice Ao18 t438.length co18] 25 (0, 0)) (tk_ BK442.out)) : gb442 ≠ gb452)); have n15_ := Aside0.mk ((by rw [hg]; exact Nat.ne_of_gt (blk_lt (g := gb442) (o := .cells #[.slice Ao15 t434.length co15, .int .i64 t437, .slice Ao18 t438.length co18] 25 (0, 0)) (tk_ BK442.out)) : gb452 ≠ gb442)); clear HO_434000 HO_434002 HO_443000 HO_443002 HO446 HO450 BK433 BK442 HB; have HO_434000 := n0_; have HO_434002 := n1_; have HO_443000 := n2_; have HO_443002 := n3_; have HO446 := n4_; have HO450 := n5_; have BK433 := n6_; have BK442 := n7_; have HB := n8_; have BK452 := n9_; have GW452 := n10_; have GE452 := n11_; have NB433_452 := n12_; have NB452_433 := n13_; have NB442_452 := n14_; have NB452_442 := n15_; clear n0_ n1_ n2_ n3_ n4_ n5_ n6_ n7_ n8_ n9_ n10_ n11_ n12_ n13_ n14_ n15_ hb hbox hg; obtain ⟨Ao37, co37, eo37⟩ := Kd.R_slice HO446.out; subst eo37; have hnb38 := NB452_433.out; have hnc38 := NB433_452.out; have hnb39 := NB452_442.out; have hnc39 := NB442_452.out; have hcz40_0 : w36.cell? ⟨gb452, 0, none⟩ = some (.slice none 0 0) := (blk_cell BK452.out 0).trans rfl; have hcz40_1 : w36.cell? ⟨gb452, 1, none⟩ = some (.int .i64 0) := (blk_cell BK452.out 1).trans rfl; have hcz40_2 : w36.cell? ⟨gb452, 2, none⟩ = some (.slice none 0 0) := (blk_cell BK452.out 2).trans rfl; have hfz40_0 := blk_frozen BK452.out 0; have hfz40_1 := blk_frozen BK452.out 1; have hfz40_2 := blk_frozen BK452.out 2; obtain ⟨Ao41, co41, eo41⟩ := Kd.R_slice HO450.out; subst eo41; have hnb42 := NB433_442.out; have hnc42 := NB442_433.out; have hcz43_0 : w36.cell? ⟨gb433, 0, none⟩ = some (.slice Ao10 t425.length co10) := (blk_cell BK433.out 0).trans rfl; have hcz43_1 : w36.cell? ⟨gb433, 1, none⟩ = some (.int .i64 t428) := (blk_cell BK433.out 1).trans rfl; have hcz43_2 : w36.cell? ⟨gb433, 2, none⟩ = some (.slice Ao12 t429.length co12) := (blk_cell BK433.out 2).trans rfl; have hfz43_0 := blk_frozen BK433.out 0; have hfz43_1 := blk_frozen BK433.out 1; have hfz43_2 := blk_frozen BK433.out 2) | ((with_reducible refine gate_callee (f := 60) rfl ?_); refine goesL_ (some 49) rfl rfl Tryd.func60 (by kernel_rfl) rfl #[.agg #[.slice Ao10 t425.length co10, .int .i64 t428, .slice Ao12 t429.length co12]] rfl tz_ ?_; (with_reducible refine (impl_PlaceText.calls kj5 _ _ t425 t428 _ _ t429 t453 _ ?side1 ?side2 ?side3 ?side4 ?side5 A33.out).mono ?_); (case side1 => refine (Kd.R_reads' (e := 3) (base := w.heap.size) (ok := fun k_ => (((some k_ ≠ (.slice Ao12 t429.length co12 : Value).ownBlock ∧ (some k_ ≠ (.slice Ao15 t434.length co15 : Value).ownBlock ∧ some k_ ≠ (.slice Ao18 t438.length co18 : Value).ownBlock)) ∧ some k_ ≠ (.slice Ao37 t444.length co37 : Value).ownBlock) ∧ some k_ ≠ (.slice Ao41 t448.length co41 : Value).ownBlock)) (n := t425.length) (c := co10) ?_).2.2; exact (by refine qR_ ?_; exact (Kd.R_mono (Kd.R_far (p := ⟨gb452, 2, none⟩) (Kd.R_far (p := ⟨gb452, 1, none⟩) (Kd.R_far (p := ⟨gb452, 0, none⟩) (Kd.R_types HO_434000.out BK452.out (by decide)) (fun _ hk => hk.2) (.slice Ao37 t444.length co37)) (fun _ hk => hk.2) (.int .i64 t447)) (fun _ hk => hk.2) (.slice Ao41 t448.length co41)) (fun _ h_ => h_.1)))); (case side2 => exact (Kd.R_reads' HO_434000.out).2.1); (case side3 => refine (Kd.R_reads' (e := 3) (base := w.heap.size) (ok := fun k_ => (((some k_ ≠ (.slice Ao10 t425.length co10 : Value).ownBlock ∧ (some k_ ≠ (.slice Ao15 t434.length co15 : Value).ownBlock ∧ some k_ ≠ (.slice Ao18 t438.length co18 : Value).ownBlock)) ∧ some k_ ≠ (.slice Ao37 t444.length co37 : Value).ownBlock) ∧ some k_ ≠ (.slice Ao41 t448.length co41 : Value).ownBlock)) (n := t429.length) (c := co12) ?_).2.2; exact (by refine qR_ ?_; exact (Kd.R_mono (Kd.R_far (p := ⟨gb452, 2, none⟩) (Kd.R_far (p := ⟨gb452, 1, none⟩) (Kd.R_far (p := ⟨gb452, 0, none⟩) (Kd.R_types HO_434002.out BK452.out (by decide)) (fun _ hk => hk.2) (.slice Ao37 t444.length co37)) (fun _ hk => hk.2) (.int .i64 t447)) (fun _ hk => hk.2) (.slice Ao41 t448.length co41)) (fun _ h_ => h_.1)))); (case side4 => exact (Kd.R_reads' HO_434002.out).2.1); (case side5 => exact GWb.below HG.out (tb_ HB.out)); rintro e w44 ⟨rfl, hb⟩; refine ⟨_, rfl, ?_⟩; have n0_ := Aside0.mk (Kd.R_below (by refine qR_ ?_; exact (Kd.R_mono (Kd.R_far (p := ⟨gb452, 2, none⟩) (Kd.R_far (p := ⟨gb452, 1, none⟩) (Kd.R_far (p := ⟨gb452, 0, none⟩) (Kd.R_types HO_434000.out BK452.out (by decide)) (fun _ hk => hk.2) (.slice Ao37 t444.length co37)) (fun _ hk => hk.2) (.int .i64 t447)) (fun _ hk => hk.2) (.slice Ao41 t448.length co41)) (fun _ h_ => h_.1))) hb); have n1_ := Aside0.mk (Kd.R_below (by refine qR_ ?_; exact (Kd.R_mono (Kd.R_far (p := ⟨gb452, 2, none⟩) (Kd.R_far (p := ⟨gb452, 1, none⟩) (Kd.R_far (p := ⟨gb452, 0, none⟩) (Kd.R_types HO_434002.out BK452.out (by decide)) (fun _ hk => hk.2) (.slice Ao37 t444.length co37)) (fun _ hk => hk.2) (.int .i64 t447)) (fun _ hk => hk.2) (.slice Ao41 t448.length co41)) (fun _ h_ => h_.1))) hb); have n2_ := Aside0.mk (Kd.R_below (by refine qR_ ?_; exact (Kd.R_mono (Kd.R_far (p := ⟨gb452, 2, none⟩) (Kd.R_far (p := ⟨gb452, 1, none⟩) (Kd.R_far (p := ⟨gb452, 0, none⟩) (Kd.R_types HO_443000.out BK452.out (by decide)) (fun _ hk => hk.2) (.slice Ao37 t444.length co37)) (fun _ hk => hk.2) (.int .i64 t447)) (fun _ hk => hk.2) (.slice Ao41 t448.length co41)) (fun _ h_ => h_.1))) hb); have n3_ := Aside0.mk (Kd.R_below (by refine qR_ ?_; exact (Kd.R_mono (Kd.R_far (p := ⟨gb452, 2, none⟩) (Kd.R_far (p := ⟨gb452, 1, none⟩) (Kd.R_far (p := ⟨gb452, 0, none⟩) (Kd.R_types HO_443002.out BK452.out (by decide)) (fun _ hk => hk.2) (.slice Ao37 t444.length co37)) (fun _ hk => hk.2) (.int .i64 t447)) (fun _ hk => hk.2) (.slice Ao41 t448.length co41)) (fun _ h_ => h_.1))) hb); have n4_ := Aside0.mk (Kd.R_below (by refine qR_ ?_; exact (Kd.R_mono (Kd.R_far (p := ⟨gb452, 2, none⟩) (Kd.R_far (p := ⟨gb452, 1, none⟩) (Kd.R_far (p := ⟨gb452, 0, none⟩) (Kd.R_types HO446.out BK452.out (by decide)) (fun _ hk => hk.2) (.slice Ao37 t444.length co37)) (fun _ hk => hk.2) (.int .i64 t447)) (fun _ hk => hk.2) (.slice Ao41 t448.length co41)) (fun _ h_ => h_.1))) hb); have n5_ := Aside0.mk (Kd.R_below (by refine qR_ ?_; exact (Kd.R_mono (Kd.R_far (p := ⟨gb452, 2, none⟩) (Kd.R_far (p := ⟨gb452, 1, none⟩) (Kd.R_far (p := ⟨gb452, 0, none⟩) (Kd.R_types HO450.out BK452.out (by decide)) (fun _ hk => hk.2) (.slice Ao37 t444.length co37)) (fun _ hk => hk.2) (.int .i64 t447)) (fun _ hk => hk.2) (.slice Ao41 t448.length co41)) (fun _ h_ => h_.1))) hb); have n6_ := Aside0.mk (blk_below (g := gb433) (o := .cells #[.slice Ao10 t425.length co10, .int .i64 t428, .slice Ao12 t429.length co12] 25 (0, 0)) (tk_ BK433.out) hb); have n7_ := Aside0.mk (blk_below (g := gb442) (o := .cells #[.slice Ao15 t434.length co15, .int .i64 t437, .slice Ao18 t438.length co18] 25 (0, 0)) (tk_ BK442.out) hb); have n8_ := Aside0.mk (blk_below (g := gb452) (o := .cells #[.slice Ao37 t444.length co37, .int .i64 t447, .slice Ao41 t448.length co41] 25 (0, 0)) (by refine bq_ ?_; refine blk_put (cs := #[.slice Ao37 t444.length co37, .int .i64 t447, .slice none 0 0]) ?_ 2 _ rfl; refine bq_ ?_; refine blk_put (cs := #[.slice Ao37 t444.length co37, .int .i64 0, .slice none 0 0]) ?_ 1 _ rfl; refine bq_ ?_; refine blk_put (cs := #[.slice none 0 0, .int .i64 0, .slice none 0 0]) ?_ 0 _ rfl; exact tk_ BK452.out) hb); have n9_ := Aside0.mk (below_step (tb_ HB.out) hb); clear HO_434000 HO_434002 HO_443000 HO_443002 HO446 HO450 BK433 BK442 BK452 HB; have HO_434000 := n0_; have HO_434002 := n1_; have HO_443000 := n2_; have HO_443002 := n3_; have HO446 := n4_; have HO450 := n5_; have BK433 := n6_; have BK442 := n7_; have BK452 := n8_; have HB := n9_; clear n0_ n1_ n2_ n3_ n4_ n5_ n6_ n7_ n8_ n9_; (try clear hb); (try clear hb2); (try clear hk); (try clear hi)))
        go_ret
        exact ⟨by first | rfl | (simp [errW_none, errW_some, Option.map_none, Option.map_some] <;> rfl) | (simp [*, errW_none, errW_some] <;> rfl), (tb_ HB.out)⟩
       ·
        rw [if_neg c34] at H
        have c34b0 : (t453.toList == t424.toList) = false := beq_eq_false_iff_ne.mpr c34
        have c34b1 : (t453.toList != t424.toList) = true := bne_iff_ne.mpr c34
        obtain rfl := Option.some.inj H
        go_wp2_with (first | ((with_reducible refine gate_callee (f := 54) rfl ?_); refine goesL_ (some 45) rfl rfl Tryd.func54 (by kernel_rfl) rfl #[.string (t424 ++ (⟨#[32]⟩ : ByteArray))] rfl tz_ ?_; (with_reducible refine (impl_ReadPlace.calls kj5 (t424 ++ (⟨#[32]⟩ : ByteArray)) t444 t447 t448 t451 _ ?side1 A32.out).mono ?_); (case side1 => exact GWb.below HG.out (tb_ HB.out)); rintro e w45 ⟨v445, v449, rfl, ho0, ho1, hb⟩; refine ⟨_, rfl, ?_⟩; have n0_ := Aside0.mk (Kd.R_mono (Kd.R_told (Kd.R_told (Kd.R_old (rR_ HO_434000.out) hb) (Kd.R_base ho0)) (Kd.R_base ho1)) (fun _ h_ => h_.1)); have n1_ := Aside0.mk (Kd.R_mono (Kd.R_told (Kd.R_told (Kd.R_old (rR_ HO_434002.out) hb) (Kd.R_base ho0)) (Kd.R_base ho1)) (fun _ h_ => h_.1)); have n2_ := Aside0.mk (Kd.R_mono (Kd.R_told (Kd.R_told (Kd.R_old (rR_ HO_443000.out) hb) (Kd.R_base ho0)) (Kd.R_base ho1)) (fun _ h_ => h_.1)); have n3_ := Aside0.mk (Kd.R_mono (Kd.R_told (Kd.R_told (Kd.R_old (rR_ HO_443002.out) hb) (Kd.R_base ho0)) (Kd.R_base ho1)) (fun _ h_ => h_.1)); have n4_ := Aside0.mk (Kd.R_lower (Kd.R_new' (Kd.R_new' (Kd.R_new' (Kd.R_new' ho0 (Kd.R_lt (rR_ HO_434000.out))) (Kd.R_lt (rR_ HO_434002.out))) (Kd.R_lt (rR_ HO_443000.out))) (Kd.R_lt (rR_ HO_443002.out))) (below_size (tb_ HB.out))); have n5_ := Aside0.mk (Kd.R_lower (Kd.R_new' (Kd.R_new' (Kd.R_new' (Kd.R_new' ho1 (Kd.R_lt (rR_ HO_434000.out))) (Kd.R_lt (rR_ HO_434002.out))) (Kd.R_lt (rR_ HO_443000.out))) (Kd.R_lt (rR_ HO_443002.out))) (below_size (tb_ HB.out))); have n6_ := Aside0.mk (blk_below (g := gb433) (o := .cells #[.slice Ao10 t425.length co10, .int .i64 t428, .slice Ao12 t429.length co12] 25 (0, 0)) (tk_ BK433.out) hb); have n7_ := Aside0.mk (blk_below (g := gb442) (o := .cells #[.slice Ao15 t434.length co15, .int .i64 t437, .slice Ao18 t438.length co18] 25 (0, 0)) (tk_ BK442.out) hb); have n8_ := Aside0.mk (below_step (tb_ HB.out) hb); clear HO_434000 HO_434002 HO_443000 HO_443002 BK433 BK442 HB; have HO_434000 := n0_; have HO_434002 := n1_; have HO_443000 := n2_; have HO_443002 := n3_; have HO446 := n4_; have HO450 := n5_; have BK433 := n6_; have BK442 := n7_; have HB := n8_; clear n0_ n1_ n2_ n3_ n4_ n5_ n6_ n7_ n8_; (try clear hb); (try clear hb2); (try clear hk); (try clear hi); (try clear ho0); (try clear ho1)) | ((with_reducible refine gate_dst (N := 8) rfl ?_); refine box_event ?hg (N := 8) ?hd (cs := #[.slice none 0 0, .int .i64 0, .slice none 0 0]) (t := 25) ?hr ?_; (case hd => rfl); (case hg => rfl); (case hr => first | (go_simp; done) | (go_simp; rfl)); intro gb452 hg w46 hbox hb; have n0_ := Aside0.mk (Kd.R_below (rR_ HO_434000.out) hb); have n1_ := Aside0.mk (Kd.R_below (rR_ HO_434002.out) hb); have n2_ := Aside0.mk (Kd.R_below (rR_ HO_443000.out) hb); have n3_ := Aside0.mk (Kd.R_below (rR_ HO_443002.out) hb); have n4_ := Aside0.mk (Kd.R_below (rR_ HO446.out) hb); have n5_ := Aside0.mk (Kd.R_below (rR_ HO450.out) hb); have n6_ := Aside0.mk (blk_below (g := gb433) (o := .cells #[.slice Ao10 t425.length co10, .int .i64 t428, .slice Ao12 t429.length co12] 25 (0, 0)) (tk_ BK433.out) hb); have n7_ := Aside0.mk (blk_below (g := gb442) (o := .cells #[.slice Ao15 t434.length co15, .int .i64 t437, .slice Ao18 t438.length co18] 25 (0, 0)) (tk_ BK442.out) hb); have n8_ := Aside0.mk (below_step (tb_ HB.out) hb); have n9_ := Aside0.mk (hbox); have n10_ := Aside0.mk ((by rw [hg]; exact (below_size (tb_ HB.out)) : w.heap.size ≤ gb452)); have n11_ := Aside0.mk ((by rw [hg]; exact (below_size (tb_ HB.out)) : w.heap.size ≤ gb452)); have n12_ := Aside0.mk ((by rw [hg]; exact Nat.ne_of_lt (blk_lt (g := gb433) (o := .cells #[.slice Ao10 t425.length co10, .int .i64 t428, .slice Ao12 t429.length co12] 25 (0, 0)) (tk_ BK433.out)) : gb433 ≠ gb452)); have n13_ := Aside0.mk ((by rw [hg]; exact Nat.ne_of_gt (blk_lt (g := gb433) (o := .cells #[.slice Ao10 t425.length co10, .int .i64 t428, .slice Ao12 t429.length co12] 25 (0, 0)) (tk_ BK433.out)) : gb452 ≠ gb433)); have n14_ := Aside0.mk ((by rw [hg]; exact Nat.ne_of_lt (blk_lt (g := gb442) (o := .cells #[.slice Ao15 t434.length co15, .int .i64 t437, .slice Ao18 t438.length co18] 25 (0, 0)) (tk_ BK442.out)) : gb442 ≠ gb452)); have n15_ := Aside0.mk ((by rw [hg]; exact Nat.ne_of_gt (blk_lt (g := gb442) (o := .cells #[.slice Ao15 t434.length co15, .int .i64 t437, .slice Ao18 t438.length co18] 25 (0, 0)) (tk_ BK442.out)) : gb452 ≠ gb442)); clear HO_434000 HO_434002 HO_443000 HO_443002 HO446 HO450 BK433 BK442 HB; have HO_434000 := n0_; have HO_434002 := n1_; have HO_443000 := n2_; have HO_443002 := n3_; have HO446 := n4_; have HO450 := n5_; have BK433 := n6_; have BK442 := n7_; have HB := n8_; have BK452 := n9_; have GW452 := n10_; have GE452 := n11_; have NB433_452 := n12_; have NB452_433 := n13_; have NB442_452 := n14_; have NB452_442 := n15_; clear n0_ n1_ n2_ n3_ n4_ n5_ n6_ n7_ n8_ n9_ n10_ n11_ n12_ n13_ n14_ n15_ hb hbox hg; obtain ⟨Ao47, co47, eo47⟩ := Kd.R_slice HO446.out; subst eo47; have hnb48 := NB452_433.out; have hnc48 := NB433_452.out; have hnb49 := NB452_442.out; have hnc49 := NB442_452.out; have hcz50_0 : w46.cell? ⟨gb452, 0, none⟩ = some (.slice none 0 0) := (blk_cell BK452.out 0).trans rfl; have hcz50_1 : w46.cell? ⟨gb452, 1, none⟩ = some (.int .i64 0) := (blk_cell BK452.out 1).trans rfl; have hcz50_2 : w46.cell? ⟨gb452, 2, none⟩ = some (.slice none 0 0) := (blk_cell BK452.out 2).trans rfl; have hfz50_0 := blk_frozen BK452.out 0; have hfz50_1 := blk_frozen BK452.out 1; have hfz50_2 := blk_frozen BK452.out 2; obtain ⟨Ao51, co51, eo51⟩ := Kd.R_slice HO450.out; subst eo51; have hnb52 := NB433_442.out; have hnc52 := NB442_433.out; have hcz53_0 : w46.cell? ⟨gb433, 0, none⟩ = some (.slice Ao10 t425.length co10) := (blk_cell BK433.out 0).trans rfl; have hcz53_1 : w46.cell? ⟨gb433, 1, none⟩ = some (.int .i64 t428) := (blk_cell BK433.out 1).trans rfl; have hcz53_2 : w46.cell? ⟨gb433, 2, none⟩ = some (.slice Ao12 t429.length co12) := (blk_cell BK433.out 2).trans rfl; have hfz53_0 := blk_frozen BK433.out 0; have hfz53_1 := blk_frozen BK433.out 1; have hfz53_2 := blk_frozen BK433.out 2) | ((with_reducible refine gate_callee (f := 60) rfl ?_); refine goesL_ (some 49) rfl rfl Tryd.func60 (by kernel_rfl) rfl #[.agg #[.slice Ao10 t425.length co10, .int .i64 t428, .slice Ao12 t429.length co12]] rfl tz_ ?_; (with_reducible refine (impl_PlaceText.calls kj5 _ _ t425 t428 _ _ t429 t453 _ ?side1 ?side2 ?side3 ?side4 ?side5 A33.out).mono ?_); (case side1 => refine (Kd.R_reads' (e := 3) (base := w.heap.size) (ok := fun k_ => (((some k_ ≠ (.slice Ao12 t429.length co12 : Value).ownBlock ∧ (some k_ ≠ (.slice Ao15 t434.length co15 : Value).ownBlock ∧ some k_ ≠ (.slice Ao18 t438.length co18 : Value).ownBlock)) ∧ some k_ ≠ (.slice Ao47 t444.length co47 : Value).ownBlock) ∧ some k_ ≠ (.slice Ao51 t448.length co51 : Value).ownBlock)) (n := t425.length) (c := co10) ?_).2.2; exact (by refine qR_ ?_; exact (Kd.R_mono (Kd.R_far (p := ⟨gb452, 2, none⟩) (Kd.R_far (p := ⟨gb452, 1, none⟩) (Kd.R_far (p := ⟨gb452, 0, none⟩) (Kd.R_types HO_434000.out BK452.out (by decide)) (fun _ hk => hk.2) (.slice Ao47 t444.length co47)) (fun _ hk => hk.2) (.int .i64 t447)) (fun _ hk => hk.2) (.slice Ao51 t448.length co51)) (fun _ h_ => h_.1)))); (case side2 => exact (Kd.R_reads' HO_434000.out).2.1); (case side3 => refine (Kd.R_reads' (e := 3) (base := w.heap.size) (ok := fun k_ => (((some k_ ≠ (.slice Ao10 t425.length co10 : Value).ownBlock ∧ (some k_ ≠ (.slice Ao15 t434.length co15 : Value).ownBlock ∧ some k_ ≠ (.slice Ao18 t438.length co18 : Value).ownBlock)) ∧ some k_ ≠ (.slice Ao47 t444.length co47 : Value).ownBlock) ∧ some k_ ≠ (.slice Ao51 t448.length co51 : Value).ownBlock)) (n := t429.length) (c := co12) ?_).2.2; exact (by refine qR_ ?_; exact (Kd.R_mono (Kd.R_far (p := ⟨gb452, 2, none⟩) (Kd.R_far (p := ⟨gb452, 1, none⟩) (Kd.R_far (p := ⟨gb452, 0, none⟩) (Kd.R_types HO_434002.out BK452.out (by decide)) (fun _ hk => hk.2) (.slice Ao47 t444.length co47)) (fun _ hk => hk.2) (.int .i64 t447)) (fun _ hk => hk.2) (.slice Ao51 t448.length co51)) (fun _ h_ => h_.1)))); (case side4 => exact (Kd.R_reads' HO_434002.out).2.1); (case side5 => exact GWb.below HG.out (tb_ HB.out)); rintro e w54 ⟨rfl, hb⟩; refine ⟨_, rfl, ?_⟩; have n0_ := Aside0.mk (Kd.R_below (by refine qR_ ?_; exact (Kd.R_mono (Kd.R_far (p := ⟨gb452, 2, none⟩) (Kd.R_far (p := ⟨gb452, 1, none⟩) (Kd.R_far (p := ⟨gb452, 0, none⟩) (Kd.R_types HO_434000.out BK452.out (by decide)) (fun _ hk => hk.2) (.slice Ao47 t444.length co47)) (fun _ hk => hk.2) (.int .i64 t447)) (fun _ hk => hk.2) (.slice Ao51 t448.length co51)) (fun _ h_ => h_.1))) hb); have n1_ := Aside0.mk (Kd.R_below (by refine qR_ ?_; exact (Kd.R_mono (Kd.R_far (p := ⟨gb452, 2, none⟩) (Kd.R_far (p := ⟨gb452, 1, none⟩) (Kd.R_far (p := ⟨gb452, 0, none⟩) (Kd.R_types HO_434002.out BK452.out (by decide)) (fun _ hk => hk.2) (.slice Ao47 t444.length co47)) (fun _ hk => hk.2) (.int .i64 t447)) (fun _ hk => hk.2) (.slice Ao51 t448.length co51)) (fun _ h_ => h_.1))) hb); have n2_ := Aside0.mk (Kd.R_below (by refine qR_ ?_; exact (Kd.R_mono (Kd.R_far (p := ⟨gb452, 2, none⟩) (Kd.R_far (p := ⟨gb452, 1, none⟩) (Kd.R_far (p := ⟨gb452, 0, none⟩) (Kd.R_types HO_443000.out BK452.out (by decide)) (fun _ hk => hk.2) (.slice Ao47 t444.length co47)) (fun _ hk => hk.2) (.int .i64 t447)) (fun _ hk => hk.2) (.slice Ao51 t448.length co51)) (fun _ h_ => h_.1))) hb); have n3_ := Aside0.mk (Kd.R_below (by refine qR_ ?_; exact (Kd.R_mono (Kd.R_far (p := ⟨gb452, 2, none⟩) (Kd.R_far (p := ⟨gb452, 1, none⟩) (Kd.R_far (p := ⟨gb452, 0, none⟩) (Kd.R_types HO_443002.out BK452.out (by decide)) (fun _ hk => hk.2) (.slice Ao47 t444.length co47)) (fun _ hk => hk.2) (.int .i64 t447)) (fun _ hk => hk.2) (.slice Ao51 t448.length co51)) (fun _ h_ => h_.1))) hb); have n4_ := Aside0.mk (Kd.R_below (by refine qR_ ?_; exact (Kd.R_mono (Kd.R_far (p := ⟨gb452, 2, none⟩) (Kd.R_far (p := ⟨gb452, 1, none⟩) (Kd.R_far (p := ⟨gb452, 0, none⟩) (Kd.R_types HO446.out BK452.out (by decide)) (fun _ hk => hk.2) (.slice Ao47 t444.length co47)) (fun _ hk => hk.2) (.int .i64 t447)) (fun _ hk => hk.2) (.slice Ao51 t448.length co51)) (fun _ h_ => h_.1))) hb); have n5_ := Aside0.mk (Kd.R_below (by refine qR_ ?_; exact (Kd.R_mono (Kd.R_far (p := ⟨gb452, 2, none⟩) (Kd.R_far (p := ⟨gb452, 1, none⟩) (Kd.R_far (p := ⟨gb452, 0, none⟩) (Kd.R_types HO450.out BK452.out (by decide)) (fun _ hk => hk.2) (.slice Ao47 t444.length co47)) (fun _ hk => hk.2) (.int .i64 t447)) (fun _ hk => hk.2) (.slice Ao51 t448.length co51)) (fun _ h_ => h_.1))) hb); have n6_ := Aside0.mk (blk_below (g := gb433) (o := .cells #[.slice Ao10 t425.length co10, .int .i64 t428, .slice Ao12 t429.length co12] 25 (0, 0)) (tk_ BK433.out) hb); have n7_ := Aside0.mk (blk_below (g := gb442) (o := .cells #[.slice Ao15 t434.length co15, .int .i64 t437, .slice Ao18 t438.length co18] 25 (0, 0)) (tk_ BK442.out) hb); have n8_ := Aside0.mk (blk_below (g := gb452) (o := .cells #[.slice Ao47 t444.length co47, .int .i64 t447, .slice Ao51 t448.length co51] 25 (0, 0)) (by refine bq_ ?_; refine blk_put (cs := #[.slice Ao47 t444.length co47, .int .i64 t447, .slice none 0 0]) ?_ 2 _ rfl; refine bq_ ?_; refine blk_put (cs := #[.slice Ao47 t444.length co47, .int .i64 0, .slice none 0 0]) ?_ 1 _ rfl; refine bq_ ?_; refine blk_put (cs := #[.slice none 0 0, .int .i64 0, .slice none 0 0]) ?_ 0 _ rfl; exact tk_ BK452.out) hb); have n9_ := Aside0.mk (below_step (tb_ HB.out) hb); clear HO_434000 HO_434002 HO_443000 HO_443002 HO446 HO450 BK433 BK442 BK452 HB; have HO_434000 := n0_; have HO_434002 := n1_; have HO_443000 := n2_; have HO_443002 := n3_; have HO446 := n4_; have HO450 := n5_; have BK433 := n6_; have BK442 := n7_; have BK452 := n8_; have HB := n9_; clear n0_ n1_ n2_ n3_ n4_ n5_ n6_ n7_ n8_ n9_; (try clear hb); (try clear hb2); (try clear hk); (try clear hi)))
        go_ret
        exact ⟨by first | rfl | (simp [errW_none, errW_some, Option.map_none, Option.map_some] <;> rfl) | (simp [*, errW_none, errW_some] <;> rfl), (tb_ HB.out)⟩
      ·
       rw [if_neg c31] at H
       exact absurd H (by simp)
     ·
      replace c30 := Bool.eq_false_iff.mpr c30
      subst c30
      have H1 : ((laws_samePlace.f kj5 t425 t428 t429 ([] : List Int) 0 ([] : List Int)).bind fun t454 => (if t454 = true then ((laws_alive.f kj5).bind fun t455 => (some t455)) else (some false))) = some r := by rw [if_neg (show ¬ (false = true) by decide)] at H; exact H
      clear H
      have H := H1
      clear H1
      replace H := Option.bind_eq_some_iff.mp H
      obtain ⟨t454, A550, H⟩ := H
      replace H : (if t454 = true then ((laws_alive.f kj5).bind fun t455 => (some t455)) else (some false)) = some r := H
      have A55 := Aside0.mk A550
      clear A550
      by_cases c56 : t454 = true
      ·
       subst c56
       have H1 : ((laws_alive.f kj5).bind fun t455 => (some t455)) = some r := by rw [if_pos rfl] at H; exact H
       clear H
       have H := H1
       clear H1
       replace H := Option.bind_eq_some_iff.mp H
       obtain ⟨t455, A570, H⟩ := H
       replace H : (some t455) = some r := H
       have A57 := Aside0.mk A570
       clear A570
       obtain rfl := Option.some.inj H
       have hnb58 := NB433_442.out
       have hnc58 := NB442_433.out
       have hcz59_0 : wc.cell? ⟨gb433, 0, none⟩ = some (.slice Ao10 t425.length co10) := (blk_cell BK433.out 0).trans rfl
       have hcz59_1 : wc.cell? ⟨gb433, 1, none⟩ = some (.int .i64 t428) := (blk_cell BK433.out 1).trans rfl
       have hcz59_2 : wc.cell? ⟨gb433, 2, none⟩ = some (.slice Ao12 t429.length co12) := (blk_cell BK433.out 2).trans rfl
       have hfz59_0 := blk_frozen BK433.out 0
       have hfz59_1 := blk_frozen BK433.out 1
       have hfz59_2 := blk_frozen BK433.out 2
       go_wp2_with (first | ((with_reducible refine gate_callee (f := 59) rfl ?_); refine goesL_ (some 38) rfl rfl Tryd.func59 (by kernel_rfl) rfl #[.agg #[.slice Ao10 t425.length co10, .int .i64 t428, .slice Ao12 t429.length co12], .agg #[.slice none 0 0, .int .i64 0, .slice none 0 0]] rfl tz_ ?_; (refine (laws_samePlace.calls kj5 _ _ t425 t428 _ _ t429 _ _ ([] : List Int) 0 _ _ ([] : List Int) true _ ?side1 ?side2 ?side3 ?side4 ?side5 ?side6 ?side7 ?side8 A55.out).mono ?_); (case side1 => repeat (first | exact (Kd.R_reads' HO_434000.out).2.2 | (with_reducible refine Kd.C_alloc ?_ _) | (with_reducible refine Kd.C_drewN ?_ _) | (with_reducible refine Kd.C_drew ?_))); (case side2 => exact (Kd.R_reads' HO_434000.out).2.1); (case side3 => repeat (first | exact (Kd.R_reads' HO_434002.out).2.2 | (with_reducible refine Kd.C_alloc ?_ _) | (with_reducible refine Kd.C_drewN ?_ _) | (with_reducible refine Kd.C_drew ?_))); (case side4 => exact (Kd.R_reads' HO_434002.out).2.1); (case side5 => exact Kd.C_nil _ _); (case side6 => exact Nat.le_refl _); (case side7 => exact Kd.C_nil _ _); (case side8 => exact Nat.le_refl _); rintro e w60 ⟨rfl, hb⟩; refine ⟨_, rfl, ?_⟩; have n0_ := Aside0.mk (Kd.R_below (rR_ HO_434000.out) hb); have n1_ := Aside0.mk (Kd.R_below (rR_ HO_434002.out) hb); have n2_ := Aside0.mk (Kd.R_below (rR_ HO_443000.out) hb); have n3_ := Aside0.mk (Kd.R_below (rR_ HO_443002.out) hb); have n4_ := Aside0.mk (blk_below (g := gb433) (o := .cells #[.slice Ao10 t425.length co10, .int .i64 t428, .slice Ao12 t429.length co12] 25 (0, 0)) (tk_ BK433.out) hb); have n5_ := Aside0.mk (blk_below (g := gb442) (o := .cells #[.slice Ao15 t434.length co15, .int .i64 t437, .slice Ao18 t438.length co18] 25 (0, 0)) (tk_ BK442.out) hb); have n6_ := Aside0.mk (below_step (tb_ HB.out) hb); clear HO_434000 HO_434002 HO_443000 HO_443002 BK433 BK442 HB; have HO_434000 := n0_; have HO_434002 := n1_; have HO_443000 := n2_; have HO_443002 := n3_; have BK433 := n4_; have BK442 := n5_; have HB := n6_; clear n0_ n1_ n2_ n3_ n4_ n5_ n6_; (try clear hb); (try clear hb2); (try clear hk); (try clear hi)) | (go_at_call 20; (with_reducible refine (laws_alive.calls kj5  t455 _ A57.out).mono ?_); rintro e w61 ⟨rfl, hb⟩; have n0_ := Aside0.mk (Kd.R_below (rR_ HO_434000.out) hb); have n1_ := Aside0.mk (Kd.R_below (rR_ HO_434002.out) hb); have n2_ := Aside0.mk (Kd.R_below (rR_ HO_443000.out) hb); have n3_ := Aside0.mk (Kd.R_below (rR_ HO_443002.out) hb); have n4_ := Aside0.mk (blk_below (g := gb433) (o := .cells #[.slice Ao10 t425.length co10, .int .i64 t428, .slice Ao12 t429.length co12] 25 (0, 0)) (tk_ BK433.out) hb); have n5_ := Aside0.mk (blk_below (g := gb442) (o := .cells #[.slice Ao15 t434.length co15, .int .i64 t437, .slice Ao18 t438.length co18] 25 (0, 0)) (tk_ BK442.out) hb); have n6_ := Aside0.mk (below_step (tb_ HB.out) hb); clear HO_434000 HO_434002 HO_443000 HO_443002 BK433 BK442 HB; have HO_434000 := n0_; have HO_434002 := n1_; have HO_443000 := n2_; have HO_443002 := n3_; have BK433 := n4_; have BK442 := n5_; have HB := n6_; clear n0_ n1_ n2_ n3_ n4_ n5_ n6_; (try clear hb); (try clear hb2); (try clear hk); (try clear hi)))
       go_ret
       exact ⟨by first | rfl | (simp [errW_none, errW_some, Option.map_none, Option.map_some] <;> rfl) | (simp [*, errW_none, errW_some] <;> rfl), (tb_ HB.out)⟩
      ·
       replace c56 := Bool.eq_false_iff.mpr c56
       subst c56
       have H1 : (some false) = some r := by rw [if_neg (show ¬ (false = true) by decide)] at H; exact H
       clear H
       have H := H1
       clear H1
       obtain rfl := Option.some.inj H
       have hnb62 := NB433_442.out
       have hnc62 := NB442_433.out
       have hcz63_0 : wc.cell? ⟨gb433, 0, none⟩ = some (.slice Ao10 t425.length co10) := (blk_cell BK433.out 0).trans rfl
       have hcz63_1 : wc.cell? ⟨gb433, 1, none⟩ = some (.int .i64 t428) := (blk_cell BK433.out 1).trans rfl
       have hcz63_2 : wc.cell? ⟨gb433, 2, none⟩ = some (.slice Ao12 t429.length co12) := (blk_cell BK433.out 2).trans rfl
       have hfz63_0 := blk_frozen BK433.out 0
       have hfz63_1 := blk_frozen BK433.out 1
       have hfz63_2 := blk_frozen BK433.out 2
       go_wp2_with (first | ((with_reducible refine gate_callee (f := 59) rfl ?_); refine goesL_ (some 38) rfl rfl Tryd.func59 (by kernel_rfl) rfl #[.agg #[.slice Ao10 t425.length co10, .int .i64 t428, .slice Ao12 t429.length co12], .agg #[.slice none 0 0, .int .i64 0, .slice none 0 0]] rfl tz_ ?_; (refine (laws_samePlace.calls kj5 _ _ t425 t428 _ _ t429 _ _ ([] : List Int) 0 _ _ ([] : List Int) false _ ?side1 ?side2 ?side3 ?side4 ?side5 ?side6 ?side7 ?side8 A55.out).mono ?_); (case side1 => repeat (first | exact (Kd.R_reads' HO_434000.out).2.2 | (with_reducible refine Kd.C_alloc ?_ _) | (with_reducible refine Kd.C_drewN ?_ _) | (with_reducible refine Kd.C_drew ?_))); (case side2 => exact (Kd.R_reads' HO_434000.out).2.1); (case side3 => repeat (first | exact (Kd.R_reads' HO_434002.out).2.2 | (with_reducible refine Kd.C_alloc ?_ _) | (with_reducible refine Kd.C_drewN ?_ _) | (with_reducible refine Kd.C_drew ?_))); (case side4 => exact (Kd.R_reads' HO_434002.out).2.1); (case side5 => exact Kd.C_nil _ _); (case side6 => exact Nat.le_refl _); (case side7 => exact Kd.C_nil _ _); (case side8 => exact Nat.le_refl _); rintro e w64 ⟨rfl, hb⟩; refine ⟨_, rfl, ?_⟩; have n0_ := Aside0.mk (Kd.R_below (rR_ HO_434000.out) hb); have n1_ := Aside0.mk (Kd.R_below (rR_ HO_434002.out) hb); have n2_ := Aside0.mk (Kd.R_below (rR_ HO_443000.out) hb); have n3_ := Aside0.mk (Kd.R_below (rR_ HO_443002.out) hb); have n4_ := Aside0.mk (blk_below (g := gb433) (o := .cells #[.slice Ao10 t425.length co10, .int .i64 t428, .slice Ao12 t429.length co12] 25 (0, 0)) (tk_ BK433.out) hb); have n5_ := Aside0.mk (blk_below (g := gb442) (o := .cells #[.slice Ao15 t434.length co15, .int .i64 t437, .slice Ao18 t438.length co18] 25 (0, 0)) (tk_ BK442.out) hb); have n6_ := Aside0.mk (below_step (tb_ HB.out) hb); clear HO_434000 HO_434002 HO_443000 HO_443002 BK433 BK442 HB; have HO_434000 := n0_; have HO_434002 := n1_; have HO_443000 := n2_; have HO_443002 := n3_; have BK433 := n4_; have BK442 := n5_; have HB := n6_; clear n0_ n1_ n2_ n3_ n4_ n5_ n6_; (try clear hb); (try clear hb2); (try clear hk); (try clear hi)))
       go_ret
       exact ⟨by first | rfl | (simp [errW_none, errW_some, Option.map_none, Option.map_some] <;> rfl) | (simp [*, errW_none, errW_some] <;> rfl), (tb_ HB.out)⟩

/-- THE ONE PURE STATEMENT of laws_FnReadPlace: yours. -/
def laws_FnReadPlace.Pure : Prop := ∀ (l0 : List Int), l0.length ≤ maxLen → l0.length * 1 ≤ 140737488351232 → (∀ x ∈ l0, (Lit.int .u8 x).wf = true) → ∃ k, laws_FnReadPlace.f k l0 = some true
theorem laws_FnReadPlace.walk (P : laws_FnReadPlace.Pure) (a0 : Option Addr) (len0 cap0 : Nat) (z0 : List Int) (w : World) (hG : GWb w) (w0 : (a0 = none ∧ len0 = 0 ∧ cap0 = 0 ∧ z0 = []) ∨ ∃ x, a0 = some x ∧ len0 ≤ cap0 ∧ cap0 ≤ maxLen ∧ z0.length = cap0 ∧ (∀ i, i < z0.length → w.cell? (x.add i) = some (.int .u8 (z0.getD i 0))) ∧ ∀ n ∈ z0, (Lit.int .u8 n).wf = true) (y0 : len0 * 1 ≤ 140737488351232) :
  Calls Tryd.prog 13 #[.slice a0 len0 cap0] w fun e w' => e = .returned (.bool true) ∧ Below w.heap.size w w' := by
 obtain ⟨l0, rfl, hr0, hm0, hw0, hc0⟩ := ReadsInt.ofRowC w0
 obtain ⟨k, h⟩ := P l0 hm0 y0 hw0
 refine (laws_FnReadPlace.calls k _ _ l0 true w (Kd.C_of_reads (d := (0 : Int)) (h1 := fun _ => rfl) hr0) hc0 hG h).mono ?_
 rintro e w' ⟨rfl, hd⟩
 exact ⟨rfl, hd⟩

end Go.Proofs.YtlhiienanbpdlaaDoor.MFnReadPlace
