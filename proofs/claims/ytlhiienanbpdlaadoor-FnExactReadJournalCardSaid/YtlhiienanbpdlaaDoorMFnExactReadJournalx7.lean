/- For the law FnExactReadJournal: walks of the functions that it reaches: each call returns what the plain function beside it tells. The conditions stand in each statement. -/
import Derived.Test.YtlhiienanbpdlaaDoorMFnExactReadJournalx0
import Derived.Test.YtlhiienanbpdlaaDoorMFnExactReadJournalx6
namespace Go.Proofs.YtlhiienanbpdlaaDoor.MFnExactReadJournal
open Go.RowKit Go.Proofs.YtlhiienanbpdlaaDoorW.PrintWords Go.Proofs.YtlhiienanbpdlaaDoorW.PrintLast Go.Proofs.YtlhiienanbpdlaaDoorW.PrintMore
attribute [local go_sem] max2_int min2_int max_two min_two max_three min_three max_four min_four   -- for this text's walks alone
set_option linter.unusedVariables false
set_option linter.unusedSimpArgs false

/-! ### impl_ReadDeed: function 40 -/
mutual
def impl_ReadDeed.j0 : Nat → ByteArray → List ByteArray → Int → Bool → Option (Int × Int × Int × Bool)
 | 0, _, _, _, _ => none
 | k + 1, x0, x4, x5, x20 => if x20 = true then (some (0, 0, 0, false)) else ((some (([0, 1, 2, 3, 4] : List Int) : List Int)).bind fun y187 => (if 0 ≤ x5 then (if x5 < (y187.length : Int) then (if (x4.length : Int) > 1 then (if 1 < (x4.length : Int) then ((strconv_Atoi.f (rdOf ByteArray.empty x4 1)).bind fun bt193 => (impl_ReadDeed.j1 k x0 x4 (rd y187 x5) bt193.1 0)) else (none)) else (impl_ReadDeed.j1 k x0 x4 (rd y187 x5) 0 0)) else (none)) else (none)))
def impl_ReadDeed.j1 : Nat → ByteArray → List ByteArray → Int → Int → Int → Option (Int × Int × Int × Bool)
 | 0, _, _, _, _, _ => none
 | k + 1, x0, x4, x192000, x192001, x192002 => if (x4.length : Int) > 2 then (if 2 < (x4.length : Int) then ((strconv_Atoi.f (rdOf ByteArray.empty x4 2)).bind fun bt196 => ((impl_DeedText.f k x192000 x192001 bt196.1).bind fun t198 => (if t198.toList = x0.toList then (some (x192000, x192001, bt196.1, true)) else (some (0, 0, 0, false))))) else (none)) else ((impl_DeedText.f k x192000 x192001 x192002).bind fun t199 => (if t199.toList = x0.toList then (some (x192000, x192001, x192002, true)) else (some (0, 0, 0, false))))
end
def impl_ReadDeed.f (k : Nat) (a0 : ByteArray) : Option (Int × Int × Int × Bool) := (strings_Split.f a0 (⟨#[32]⟩ : ByteArray)).bind fun t179 => (if 0 < (t179.length : Int) then ((slices_Index_string_string.f k (([(⟨#[112, 117, 116]⟩ : ByteArray), (⟨#[115, 116, 101, 112]⟩ : ByteArray), (⟨#[100, 114, 97, 119]⟩ : ByteArray), (⟨#[97, 103, 97, 105, 110]⟩ : ByteArray), (⟨#[98, 97, 99, 107]⟩ : ByteArray)] : List ByteArray)) (rdOf ByteArray.empty t179 0)).bind fun t186 => (if t186 < 0 then (impl_ReadDeed.j0 k a0 t179 t186 true) else (impl_ReadDeed.j0 k a0 t179 t186 (decide ((t179.length : Int) > 3))))) else (none))
theorem impl_ReadDeed.mono_l : ∀ k, (∀ y0 y1 y2 y3, LeO (impl_ReadDeed.j0 k y0 y1 y2 y3) (impl_ReadDeed.j0 (k + 1) y0 y1 y2 y3)) ∧ (∀ y0 y1 y2 y3 y4, LeO (impl_ReadDeed.j1 k y0 y1 y2 y3 y4) (impl_ReadDeed.j1 (k + 1) y0 y1 y2 y3 y4))
 | 0 => ⟨fun _ _ _ _ r h => by simp [impl_ReadDeed.j0] at h, fun _ _ _ _ _ r h => by simp [impl_ReadDeed.j1] at h⟩
 | k + 1 => by
  obtain ⟨ih0, ih1⟩ := impl_ReadDeed.mono_l k
  refine ⟨?_, ?_⟩
  ·
   intro y0 y1 y2 y3
   unfold impl_ReadDeed.j0
   repeat' first
   | (with_reducible exact ih0 _ _ _ _)
   | (with_reducible exact ih1 _ _ _ _ _)
   | (with_reducible exact impl_DeedText.mono _ _ _ _)
   | (with_reducible exact slices_Index_string_string.mono _ _ _)
   | (with_reducible exact LeO.refl _)
   | (with_reducible exact LeO.none _)
   | (with_reducible refine LeO.ite ?_ ?_)
   | (with_reducible refine LeO.bind ?_ (fun _ => ?_))
   | exact ih0 _ _ _ _
   | exact ih1 _ _ _ _ _
   | exact impl_DeedText.mono _ _ _ _
   | exact slices_Index_string_string.mono _ _ _
   | exact LeO.none _
   | refine LeO.ite ?_ ?_
   | refine LeO.bind ?_ (fun _ => ?_)
  ·
   intro y0 y1 y2 y3 y4
   unfold impl_ReadDeed.j1
   repeat' first
   | (with_reducible exact ih0 _ _ _ _)
   | (with_reducible exact ih1 _ _ _ _ _)
   | (with_reducible exact impl_DeedText.mono _ _ _ _)
   | (with_reducible exact slices_Index_string_string.mono _ _ _)
   | (with_reducible exact LeO.refl _)
   | (with_reducible exact LeO.none _)
   | (with_reducible refine LeO.ite ?_ ?_)
   | (with_reducible refine LeO.bind ?_ (fun _ => ?_))
   | exact ih0 _ _ _ _
   | exact ih1 _ _ _ _ _
   | exact impl_DeedText.mono _ _ _ _
   | exact slices_Index_string_string.mono _ _ _
   | exact LeO.none _
   | refine LeO.ite ?_ ?_
   | refine LeO.bind ?_ (fun _ => ?_)
theorem impl_ReadDeed.mono : ∀ a0 k, LeO (impl_ReadDeed.f k a0) (impl_ReadDeed.f (k + 1) a0) := by
 intro a0 k
 obtain ⟨ih0, ih1⟩ := impl_ReadDeed.mono_l k
 unfold impl_ReadDeed.f
 repeat' first
   | (with_reducible exact ih0 _ _ _ _)
   | (with_reducible exact ih1 _ _ _ _ _)
   | (with_reducible exact impl_DeedText.mono _ _ _ _)
   | (with_reducible exact slices_Index_string_string.mono _ _ _)
   | (with_reducible exact LeO.refl _)
   | (with_reducible exact LeO.none _)
   | (with_reducible refine LeO.ite ?_ ?_)
   | (with_reducible refine LeO.bind ?_ (fun _ => ?_))
   | exact ih0 _ _ _ _
   | exact ih1 _ _ _ _ _
   | exact impl_DeedText.mono _ _ _ _
   | exact slices_Index_string_string.mono _ _ _
   | exact LeO.none _
   | refine LeO.ite ?_ ?_
   | refine LeO.bind ?_ (fun _ => ?_)
set_option maxHeartbeats 8000000 in
set_option maxRecDepth 100000 in
theorem impl_ReadDeed.calls (k : Nat) (a0 : ByteArray) (r1 : Int) (r2 : Int) (r3 : Int) (r4 : Bool) (w : World) (hG : GWb w) (h : impl_ReadDeed.f k a0 = some (r1, r2, r3, r4)) :
  Calls Tryd.prog 40 #[.string a0] w fun e w' => e = .returned (.tuple #[.agg #[.int .i64 r1, .int .i64 r2, .int .i64 r3], .bool r4]) ∧ Below w.heap.size w w' := by
 have HG := Aside0.mk hG
 clear hG
 have hu30 := Tryd.underlying30
 have HB := Aside0.mk (Below.refl w.heap.size w)
 have H : ((strings_Split.f a0 (⟨#[32]⟩ : ByteArray)).bind fun t179 => (if 0 < (t179.length : Int) then ((slices_Index_string_string.f k (([(⟨#[112, 117, 116]⟩ : ByteArray), (⟨#[115, 116, 101, 112]⟩ : ByteArray), (⟨#[100, 114, 97, 119]⟩ : ByteArray), (⟨#[97, 103, 97, 105, 110]⟩ : ByteArray), (⟨#[98, 97, 99, 107]⟩ : ByteArray)] : List ByteArray)) (rdOf ByteArray.empty t179 0)).bind fun t186 => (if t186 < 0 then (impl_ReadDeed.j0 k a0 t179 t186 true) else (impl_ReadDeed.j0 k a0 t179 t186 (decide ((t179.length : Int) > 3))))) else (none))) = some (r1, r2, r3, r4) := h
 clear h
 replace H := Option.bind_eq_some_iff.mp H
 obtain ⟨t179, A20, H⟩ := H
 replace H : (if 0 < (t179.length : Int) then ((slices_Index_string_string.f k (([(⟨#[112, 117, 116]⟩ : ByteArray), (⟨#[115, 116, 101, 112]⟩ : ByteArray), (⟨#[100, 114, 97, 119]⟩ : ByteArray), (⟨#[97, 103, 97, 105, 110]⟩ : ByteArray), (⟨#[98, 97, 99, 107]⟩ : ByteArray)] : List ByteArray)) (rdOf ByteArray.empty t179 0)).bind fun t186 => (if t186 < 0 then (impl_ReadDeed.j0 k a0 t179 t186 true) else (impl_ReadDeed.j0 k a0 t179 t186 (decide ((t179.length : Int) > 3))))) else (none)) = some (r1, r2, r3, r4) := H
 have A2 := Aside0.mk A20
 clear A20
 obtain ⟨y182, hy182⟩ : ∃ y_ : List ByteArray, y_ = (([(⟨#[112, 117, 116]⟩ : ByteArray), (⟨#[115, 116, 101, 112]⟩ : ByteArray), (⟨#[100, 114, 97, 119]⟩ : ByteArray), (⟨#[97, 103, 97, 105, 110]⟩ : ByteArray), (⟨#[98, 97, 99, 107]⟩ : ByteArray)] : List ByteArray)) := ⟨_, rfl⟩
 replace H : (if 0 < (t179.length : Int) then ((slices_Index_string_string.f k y182 (rdOf ByteArray.empty t179 0)).bind fun t186 => (if t186 < 0 then (impl_ReadDeed.j0 k a0 t179 t186 true) else (impl_ReadDeed.j0 k a0 t179 t186 (decide ((t179.length : Int) > 3))))) else (none)) = some (r1, r2, r3, r4) := by first | (rw [hy182]; with_reducible exact H) | (have H2_ := (Option.bind_some _ _).symm.trans H; rw [hy182]; with_reducible exact H2_) | (have H2_ := (Option.bind_some _ _).symm.trans H; with_reducible exact H2_) | with_reducible exact H | (rw [hy182]; exact H) | exact H
 have Ny182 := Aside0.mk hy182
 clear hy182
 by_cases c3 : 0 < (t179.length : Int)
 ·
  rw [if_pos c3] at H
  have c3b0 : decide (0 < (t179.length : Int)) = true := decide_eq_true c3
  have c3b1 : decide (0 < t179.length) = true := decide_eq_true (by omega)
  clear c3
  replace H := Option.bind_eq_some_iff.mp H
  obtain ⟨t186, A40, H⟩ := H
  replace H : (if t186 < 0 then (impl_ReadDeed.j0 k a0 t179 t186 true) else (impl_ReadDeed.j0 k a0 t179 t186 (decide ((t179.length : Int) > 3)))) = some (r1, r2, r3, r4) := H
  have A4 := Aside0.mk A40
  clear A40
  have HC5 := Aside0.mk H
  clear H
  go_enter Tryd.func40, Tryd.ntmps40
  go_upto_region 3 with (first | ((with_reducible refine gate_dst (N := 2) rfl ?_); (try (refine gate_guard (by rfl) ?_; dsimp only)); refine box_event ?hg (N := 2) ?hd (cs := #[.int .i64 0, .int .i64 0, .int .i64 0]) (t := 30) ?hr ?_; (case hd => rfl); (case hg => rfl); (case hr => first | (go_simp; done) | (go_simp; rfl)); intro gb178 hg w6 hbox hb; have n0_ := Aside0.mk (below_step (tb_ HB.out) hb); have n1_ := Aside0.mk (hbox); have n2_ := Aside0.mk ((by rw [hg]; exact (below_size (tb_ HB.out)) : w.heap.size ≤ gb178)); have n3_ := Aside0.mk ((by rw [hg]; exact (below_size (tb_ HB.out)) : w.heap.size ≤ gb178)); clear HB; have HB := n0_; have BK178 := n1_; have GW178 := n2_; have GE178 := n3_; clear n0_ n1_ n2_ n3_ hb hbox hg) | ((with_reducible refine gate_callee (f := 93) rfl ?_); refine goesL_ (some 8) rfl rfl Tryd.func93 (by kernel_rfl) rfl #[.string a0, .string (⟨#[32]⟩ : ByteArray)] rfl tz_ ?_; (with_reducible refine (strings_Split.calls a0 (⟨#[32]⟩ : ByteArray) t179 _ ?side1 A2.out).mono ?_); (case side1 => exact GWb.below HG.out (tb_ HB.out)); rintro e w7 ⟨v180, rfl, ho0, hb⟩; refine ⟨_, rfl, ?_⟩; have n0_ := Aside0.mk (Kd.R_lower ho0 (below_size (tb_ HB.out))); have n1_ := Aside0.mk (blk_below (g := gb178) (o := .cells #[.int .i64 0, .int .i64 0, .int .i64 0] 30 (0, 0)) (tk_ BK178.out) hb); have n2_ := Aside0.mk (below_step (tb_ HB.out) hb); clear BK178 HB; have HO181 := n0_; have BK178 := n1_; have HB := n2_; clear n0_ n1_ n2_; (try clear hb); (try clear hb2); (try clear hk); (try clear hi); (try clear ho0)) | ((with_reducible refine gate_dst (N := 9) rfl ?_); (try (refine gate_guard (by rfl) ?_; dsimp only)); refine Kd.R_lit Kd.string _ 9 ?hg (N := 9) ?hd (xs := ([(⟨#[112, 117, 116]⟩ : ByteArray), (⟨#[115, 116, 101, 112]⟩ : ByteArray), (⟨#[100, 114, 97, 119]⟩ : ByteArray), (⟨#[97, 103, 97, 105, 110]⟩ : ByteArray), (⟨#[98, 97, 99, 107]⟩ : ByteArray)] : List ByteArray)) (inner := [.string (⟨#[112, 117, 116]⟩ : ByteArray), .string (⟨#[115, 116, 101, 112]⟩ : ByteArray), .string (⟨#[100, 114, 97, 119]⟩ : ByteArray), .string (⟨#[97, 103, 97, 105, 110]⟩ : ByteArray), .string (⟨#[98, 97, 99, 107]⟩ : ByteArray)]) (ok := fun _ => True) (okp := fun _ => True) ?hr ?hp (fun _ hk => hk) trivial (Below.refl _ _) (Nat.le_refl _) (by simp) ?_; (case hd => rfl); (case hg => rfl); (case hr => first | (go_simp; done) | (go_simp; rfl)); (case hp => exact (Reps.one (show Kd.M Kd.string _ _ _ (⟨#[112, 117, 116]⟩ : ByteArray) [.string (⟨#[112, 117, 116]⟩ : ByteArray)] from rfl) (Reps.one (show Kd.M Kd.string _ _ _ (⟨#[115, 116, 101, 112]⟩ : ByteArray) [.string (⟨#[115, 116, 101, 112]⟩ : ByteArray)] from rfl) (Reps.one (show Kd.M Kd.string _ _ _ (⟨#[100, 114, 97, 119]⟩ : ByteArray) [.string (⟨#[100, 114, 97, 119]⟩ : ByteArray)] from rfl) (Reps.one (show Kd.M Kd.string _ _ _ (⟨#[97, 103, 97, 105, 110]⟩ : ByteArray) [.string (⟨#[97, 103, 97, 105, 110]⟩ : ByteArray)] from rfl) (Reps.one (show Kd.M Kd.string _ _ _ (⟨#[98, 97, 99, 107]⟩ : ByteArray) [.string (⟨#[98, 97, 99, 107]⟩ : ByteArray)] from rfl) (Reps.none _ _))))))); intro v183 w8 ho9 hb hg_ hnew_; clear hg_ hnew_; (first | rw [← Ny182.out] at ho9 | (simp only [Int.reduceToNat] at ho9; rw [← Ny182.out] at ho9)); have n0_ := Aside0.mk (Kd.R_elder' (rR_ HO181.out) (Kd.R_base ho9) hb); have n1_ := Aside0.mk (Kd.R_lower (Kd.R_new' ho9 (Kd.R_lt (rR_ HO181.out))) (below_size (tb_ HB.out))); have n2_ := Aside0.mk (blk_below (g := gb178) (o := .cells #[.int .i64 0, .int .i64 0, .int .i64 0] 30 (0, 0)) (tk_ BK178.out) hb); have n3_ := Aside0.mk (below_step (tb_ HB.out) hb); clear HO181 BK178 HB; have HO181 := n0_; have HO184 := n1_; have BK178 := n2_; have HB := n3_; clear n0_ n1_ n2_ n3_ hb ho9; obtain ⟨Ao10, co10, eo10⟩ := Kd.R_slice HO181.out; subst eo10; have p185 : 0 ≤ (0 : Int) := (by omega); have q185 : 0 < (t179.length : Int) := od_; obtain ⟨ad185, e185, hx185_0⟩ := Kd.at_string (Kd.R_reads' HO181.out).2.2 0 p185 q185; cases e185; have qi185 : (0 < t179.length) = True := eq_true (by omega); (try rw [show ((0 : Int)).toNat = 0 from rfl] at hx185_0); (try rw [Addr.add_zero'] at hx185_0); replace p185 := eq_true p185; replace q185 := eq_true q185; obtain ⟨Ao11, co11, eo11⟩ := Kd.R_slice HO184.out; subst eo11) | ((with_reducible refine gate_callee (f := 94) rfl ?_); refine goesL_ (some 13) rfl rfl Tryd.func94 (by kernel_rfl) rfl #[.slice Ao11 y182.length co11, .string (rdOf ByteArray.empty t179 0)] rfl tz_ ?_; (with_reducible refine (slices_Index_string_string.calls k _ _ y182 (rdOf ByteArray.empty t179 0) t186 _ ?side1 ?side2 A4.out).mono ?_); (case side1 => repeat (first | exact (Kd.R_reads' HO184.out).2.2 | (with_reducible refine Kd.C_alloc ?_ _) | (with_reducible refine Kd.C_drewN ?_ _) | (with_reducible refine Kd.C_drew ?_))); (case side2 => exact (Kd.R_reads' HO184.out).2.1); rintro e w' ⟨rfl, ⟨nd, rfl⟩⟩; refine ⟨_, rfl, ?_⟩))
  (try simp only [Act.put, sa_, sb_, sc_])
  go_cut [20] (fun v20 wc => ∃ (kq : Nat) (x20_4 : Bool), v20 = .bool x20_4 ∧ Aside0 (impl_ReadDeed.j0 kq a0 t179 t186 x20_4 = some (r1, r2, r3, r4)) ∧ Aside0 (kq ≤ k) ∧ Aside0 (Kd.R Kd.string 9 wc w.heap.size (fun _ => True) (.slice (some ad185) t179.length co10) t179) ∧ Aside0 (wc.heap[gb178]? = some (.cells #[.int .i64 0, .int .i64 0, .int .i64 0] 30 (0, 0))) ∧ Aside0 (Below w.heap.size w wc))
  case first =>
   have H := HC5.out
   clear HC5
   by_cases c12 : t186 < 0
   ·
    rw [if_pos c12] at H
    have c12b0 : decide (t186 < 0) = true := decide_eq_true c12
    clear c12
    (first | rw [c12b0] | (simp only [i64_w, i32_w]; rw [c12b0]) | skip)
    have H' := Aside0.mk H
    clear H
    go_wp2
    go_meet
    case rel => exact ⟨_, (true), tx_, H', ⟨by first | omega | exact Nat.le_refl _⟩, ⟨by refine qR_ ?_; exact Kd.R_mono HO181.out (fun _ hk => trivial)⟩, ⟨tk_ BK178.out⟩, ⟨(tb_ HB.out)⟩⟩
   ·
    rw [if_neg c12] at H
    have c12b0 : decide (t186 < 0) = false := decide_eq_false c12
    clear c12
    (first | rw [c12b0] | (simp only [i64_w, i32_w]; rw [c12b0]) | skip)
    have H' := Aside0.mk H
    clear H
    go_wp2
    go_meet
    case rel => exact ⟨_, (decide ((t179.length : Int) > 3)), tx_, H', ⟨by first | omega | exact Nat.le_refl _⟩, ⟨by refine qR_ ?_; exact Kd.R_mono HO181.out (fun _ hk => trivial)⟩, ⟨tk_ BK178.out⟩, ⟨(tb_ HB.out)⟩⟩
  case rest =>
   clear HC5
   try clear c1
   try clear p1
   try clear q1
   try clear hx1
   try clear qi1
   try clear p2
   try clear c3
   try clear c3b0
   try clear c3b1
   try clear c4
   try clear c9
   try clear c12
   try clear c12b0
   try clear hx185_0
   try clear p185
   try clear q185
   obtain ⟨kq, x20_4, rfl, HA, HJ4, HO_4, BK178, HB⟩ := hcut
   cases kq with
   | zero => exact absurd HA.out (by simp [impl_ReadDeed.j0])
   | succ kj4 =>
    have H := HA.out
    clear HA
    simp only [impl_ReadDeed.j0] at H
    by_cases c13 : x20_4 = true
    ·
     subst c13
     have H1 : (some (0, 0, 0, false)) = some (r1, r2, r3, r4) := by rw [if_pos rfl] at H; exact H
     clear H
     have H := H1
     clear H1
     simp only [Option.some.injEq, Prod.mk.injEq] at H
     obtain ⟨rfl, rfl, rfl, rfl⟩ := H
     have hcz14_0 : wc.cell? ⟨gb178, 0, none⟩ = some (.int .i64 0) := (blk_cell BK178.out 0).trans rfl
     have hcz14_1 : wc.cell? ⟨gb178, 1, none⟩ = some (.int .i64 0) := (blk_cell BK178.out 1).trans rfl
     have hcz14_2 : wc.cell? ⟨gb178, 2, none⟩ = some (.int .i64 0) := (blk_cell BK178.out 2).trans rfl
     have hfz14_0 := blk_frozen BK178.out 0
     have hfz14_1 := blk_frozen BK178.out 1
     have hfz14_2 := blk_frozen BK178.out 2
     go_wp2
     refine bodyPost_ret (results_ct rfl _ _ gb178 30 #[.int .i64 0, .int .i64 0, .int .i64 0] (0, 0) _ rfl (by refine bq_ ?_; refine blk_put (cs := #[.int .i64 0, .int .i64 0, .int .i64 0]) ?_ 2 _ rfl; refine bq_ ?_; refine blk_put (cs := #[.int .i64 0, .int .i64 0, .int .i64 0]) ?_ 1 _ rfl; refine bq_ ?_; refine blk_put (cs := #[.int .i64 0, .int .i64 0, .int .i64 0]) ?_ 0 _ rfl; exact tk_ BK178.out) Tryd.underlying30 rfl (by kernel_rfl)) rfl ?_
     exact ⟨by first | rfl | (simp [errW_none, errW_some, Option.map_none, Option.map_some] <;> rfl) | (simp [*, errW_none, errW_some] <;> rfl), (tb_ HB.out)⟩
    ·
     replace c13 := Bool.eq_false_iff.mpr c13
     subst c13
     have H1 : ((some (([0, 1, 2, 3, 4] : List Int) : List Int)).bind fun y187 => (if 0 ≤ t186 then (if t186 < (y187.length : Int) then (if (t179.length : Int) > 1 then (if 1 < (t179.length : Int) then ((strconv_Atoi.f (rdOf ByteArray.empty t179 1)).bind fun bt193 => (impl_ReadDeed.j1 kj4 a0 t179 (rd y187 t186) bt193.1 0)) else (none)) else (impl_ReadDeed.j1 kj4 a0 t179 (rd y187 t186) 0 0)) else (none)) else (none))) = some (r1, r2, r3, r4) := by rw [if_neg (show ¬ (false = true) by decide)] at H; exact H
     clear H
     have H := H1
     clear H1
     obtain ⟨y187, hy187⟩ : ∃ y_ : List Int, y_ = (([0, 1, 2, 3, 4] : List Int)) := ⟨_, rfl⟩
     replace H : (if 0 ≤ t186 then (if t186 < (y187.length : Int) then (if (t179.length : Int) > 1 then (if 1 < (t179.length : Int) then ((strconv_Atoi.f (rdOf ByteArray.empty t179 1)).bind fun bt193 => (impl_ReadDeed.j1 kj4 a0 t179 (rd y187 t186) bt193.1 0)) else (none)) else (impl_ReadDeed.j1 kj4 a0 t179 (rd y187 t186) 0 0)) else (none)) else (none)) = some (r1, r2, r3, r4) := by first | (rw [hy187]; with_reducible exact H) | (have H2_ := (Option.bind_some _ _).symm.trans H; rw [hy187]; with_reducible exact H2_) | (have H2_ := (Option.bind_some _ _).symm.trans H; with_reducible exact H2_) | with_reducible exact H | (rw [hy187]; exact H) | exact H
     have Ny187 := Aside0.mk hy187
     clear hy187
     by_cases c15 : 0 ≤ t186
     ·
      rw [if_pos c15] at H
      have c15b0 : decide (0 ≤ t186) = true := decide_eq_true c15
      clear c15
      by_cases c16 : t186 < (y187.length : Int)
      ·
       rw [if_pos c16] at H
       have c16b0 : decide (t186 < (y187.length : Int)) = true := decide_eq_true c16
       clear c16
       have HC17 := Aside0.mk H
       clear H
       go_upto_if 29 with (first | ((with_reducible refine gate_dst (N := 22) rfl ?_); (try (refine gate_guard (by rfl) ?_; dsimp only)); refine Kd.R_lit (Kd.int .i64) _ 3 ?hg (N := 22) ?hd (xs := ([0, 1, 2, 3, 4] : List Int)) (inner := [.int .i64 0, .int .i64 1, .int .i64 2, .int .i64 3, .int .i64 4]) (ok := fun _ => True) (okp := fun _ => True) ?hr ?hp (fun _ hk => hk) trivial (Below.refl _ _) (Nat.le_refl _) (by simp) ?_; (case hd => rfl); (case hg => rfl); (case hr => first | (go_simp; done) | (go_simp; rfl)); (case hp => exact (Reps.one (show Kd.M (Kd.int .i64) _ _ _ 0 [.int .i64 0] from rfl) (Reps.one (show Kd.M (Kd.int .i64) _ _ _ 1 [.int .i64 1] from rfl) (Reps.one (show Kd.M (Kd.int .i64) _ _ _ 2 [.int .i64 2] from rfl) (Reps.one (show Kd.M (Kd.int .i64) _ _ _ 3 [.int .i64 3] from rfl) (Reps.one (show Kd.M (Kd.int .i64) _ _ _ 4 [.int .i64 4] from rfl) (Reps.none _ _))))))); intro v188 w18 ho19 hb hg_ hnew_; clear hg_ hnew_; (first | rw [← Ny187.out] at ho19 | (simp only [Int.reduceToNat] at ho19; rw [← Ny187.out] at ho19)); have n0_ := Aside0.mk (Kd.R_below (rR_ HO_4.out) hb); have n1_ := Aside0.mk (Kd.R_lower ho19 (below_size (tb_ HB.out))); have n2_ := Aside0.mk (blk_below (g := gb178) (o := .cells #[.int .i64 0, .int .i64 0, .int .i64 0] 30 (0, 0)) (tk_ BK178.out) hb); have n3_ := Aside0.mk (below_step (tb_ HB.out) hb); clear HO_4 BK178 HB; have HO_4 := n0_; have HO189 := n1_; have BK178 := n2_; have HB := n3_; clear n0_ n1_ n2_ n3_ hb ho19; obtain ⟨Ao20, co20, eo20⟩ := Kd.R_slice HO189.out; subst eo20; have p190 : 0 ≤ (t186 : Int) := od_; have q190 : t186 < (y187.length : Int) := od_; obtain ⟨ad190, e190, hx190_0⟩ := Kd.at_int (Kd.R_reads' HO189.out).2.2 t186 p190 q190; cases e190; replace p190 := eq_true p190; replace q190 := eq_true q190) | ((with_reducible refine gate_dst (N := 6) rfl ?_); (try (refine gate_guard (by rfl) ?_; dsimp only)); refine box_event ?hg (N := 6) ?hd (cs := #[.int .i64 0, .int .i64 0, .int .i64 0]) (t := 30) ?hr ?_; (case hd => rfl); (case hg => rfl); (case hr => first | (go_simp; done) | (go_simp; rfl)); intro gb191 hg w21 hbox hb; have n0_ := Aside0.mk (Kd.R_below (rR_ HO_4.out) hb); have n1_ := Aside0.mk (Kd.R_below (rR_ HO189.out) hb); have n2_ := Aside0.mk (blk_below (g := gb178) (o := .cells #[.int .i64 0, .int .i64 0, .int .i64 0] 30 (0, 0)) (tk_ BK178.out) hb); have n3_ := Aside0.mk (below_step (tb_ HB.out) hb); have n4_ := Aside0.mk (hbox); have n5_ := Aside0.mk ((by rw [hg]; exact (below_size (tb_ HB.out)) : w.heap.size ≤ gb191)); have n6_ := Aside0.mk ((by rw [hg]; exact (below_size (tb_ HB.out)) : w.heap.size ≤ gb191)); have n7_ := Aside0.mk ((by rw [hg]; exact Nat.ne_of_lt (blk_lt (g := gb178) (o := .cells #[.int .i64 0, .int .i64 0, .int .i64 0] 30 (0, 0)) (tk_ BK178.out)) : gb178 ≠ gb191)); have n8_ := Aside0.mk ((by rw [hg]; exact Nat.ne_of_gt (blk_lt (g := gb178) (o := .cells #[.int .i64 0, .int .i64 0, .int .i64 0] 30 (0, 0)) (tk_ BK178.out)) : gb191 ≠ gb178)); clear HO_4 HO189 BK178 HB; have HO_4 := n0_; have HO189 := n1_; have BK178 := n2_; have HB := n3_; have BK191 := n4_; have GW191 := n5_; have GE191 := n6_; have NB178_191 := n7_; have NB191_178 := n8_; clear n0_ n1_ n2_ n3_ n4_ n5_ n6_ n7_ n8_ hb hbox hg; have hnb22 := NB191_178.out; have hnc22 := NB178_191.out; have hcz23_0 : w21.cell? ⟨gb191, 0, none⟩ = some (.int .i64 0) := (blk_cell BK191.out 0).trans rfl; have hcz23_1 : w21.cell? ⟨gb191, 1, none⟩ = some (.int .i64 0) := (blk_cell BK191.out 1).trans rfl; have hcz23_2 : w21.cell? ⟨gb191, 2, none⟩ = some (.int .i64 0) := (blk_cell BK191.out 2).trans rfl; have hfz23_0 := blk_frozen BK191.out 0; have hfz23_1 := blk_frozen BK191.out 1; have hfz23_2 := blk_frozen BK191.out 2))
       (try simp only [Act.put, sa_, sb_, sc_])
       go_cut [] (fun wc => ∃ (kq : Nat) (x192001_16 : Int), Aside0 (impl_ReadDeed.j1 kq a0 t179 (rd y187 t186) x192001_16 0 = some (r1, r2, r3, r4)) ∧ Aside0 (kq ≤ kj4) ∧ Aside0 (Kd.R Kd.string 9 wc w.heap.size (fun _ => True) (.slice (some ad185) t179.length co10) t179) ∧ Aside0 (wc.heap[gb178]? = some (.cells #[.int .i64 0, .int .i64 0, .int .i64 0] 30 (0, 0))) ∧ Aside0 (wc.heap[gb191]? = some (.cells #[.int .i64 (rd y187 t186), .int .i64 x192001_16, .int .i64 0] 30 (0, 0))) ∧ Aside0 (Below w.heap.size w wc))
       case first =>
        have H := HC17.out
        clear HC17
        by_cases c24 : (t179.length : Int) > 1
        ·
         rw [if_pos c24] at H
         have c24b0 : decide (1 < (t179.length : Int)) = true := decide_eq_true c24
         have c24b1 : decide (1 < t179.length) = true := decide_eq_true (by omega)
         clear c24
         (first | rw [c24b0] | (simp only [i64_w, i32_w]; rw [c24b0]) | skip)
         by_cases c25 : 1 < (t179.length : Int)
         ·
          rw [if_pos c25] at H
          have c25b0 : decide (1 < (t179.length : Int)) = true := decide_eq_true c25
          have c25b1 : decide (1 < t179.length) = true := decide_eq_true (by omega)
          clear c25
          replace H := Option.bind_eq_some_iff.mp H
          obtain ⟨⟨t193, t194⟩, A260, H⟩ := H
          replace H : (impl_ReadDeed.j1 kj4 a0 t179 (rd y187 t186) t193 0) = some (r1, r2, r3, r4) := H
          have A26 := Aside0.mk A260
          clear A260
          have H' := Aside0.mk H
          clear H
          have p192 : 0 ≤ (1 : Int) := (by omega)
          have q192 : 1 < (t179.length : Int) := od_
          obtain ⟨ad192, e192, hx192_0⟩ := Kd.at_string (Kd.R_reads' HO_4.out).2.2 1 p192 q192
          obtain rfl : ad185 = ad192 := (by injection e192)
          (try simp only [show (1 : Int).toNat = 1 from rfl, Nat.reduceMul, Nat.reduceEqDiff, Go.Addr.add, ↓reduceIte] at hx192_0)
          have qi192 : (1 < t179.length) = True := eq_true (by omega)
          (try rw [show ((1 : Int)).toNat = 1 from rfl] at hx192_0)
          have hn192_0 : ad185.block ≠ gb191 := Kd.own_blk (Kd.R_ne HO_4.out BK191.out (by decide))
          have hn192_1 : ad185.block ≠ gb191 := Kd.own_blk (Kd.R_ne HO_4.out BK191.out (by decide))
          have hn192_2 : ad185.block ≠ gb191 := Kd.own_blk (Kd.R_ne HO_4.out BK191.out (by decide))
          replace hx192_0 := (cell_far (p := ⟨gb191, 0, none⟩) (by first | (rw [add_block]; exact hn192_0) | (show (Addr.add _ _).block ≠ _; rw [add_block]; exact hn192_0) | exact hn192_0) (.int .i64 (rd y187 t186))).trans hx192_0
          replace hx192_0 := (cell_far (p := ⟨gb191, 1, none⟩) (by first | (rw [add_block]; exact hn192_1) | (show (Addr.add _ _).block ≠ _; rw [add_block]; exact hn192_1) | exact hn192_1) (.int .i64 0)).trans hx192_0
          replace hx192_0 := (cell_far (p := ⟨gb191, 2, none⟩) (by first | (rw [add_block]; exact hn192_2) | (show (Addr.add _ _).block ≠ _; rw [add_block]; exact hn192_2) | exact hn192_2) (.int .i64 0)).trans hx192_0
          clear hn192_0
          clear hn192_1
          clear hn192_2
          replace p192 := eq_true p192
          replace q192 := eq_true q192
          go_wp2_with (first | ((with_reducible refine gate_callee (f := 95) rfl ?_); refine goesL_ (some 34) rfl rfl Tryd.func95 (by kernel_rfl) rfl #[.string (rdOf ByteArray.empty t179 1)] rfl tz_ ?_; (with_reducible refine (strconv_Atoi.calls (rdOf ByteArray.empty t179 1) t193 t194 _ ?side1 A26.out).mono ?_); (case side1 => exact GWb.below HG.out (tb_ HB.out)); rintro e w27 ⟨N_, rfl, hb⟩; refine ⟨_, rfl, ?_⟩; have n0_ := Aside0.mk (Kd.R_below (by refine qR_ ?_; exact (Kd.R_mono (Kd.R_far (p := ⟨gb191, 2, none⟩) (Kd.R_far (p := ⟨gb191, 1, none⟩) (Kd.R_far (p := ⟨gb191, 0, none⟩) (Kd.R_types HO_4.out BK191.out (by decide)) (fun _ hk => hk.2) (.int .i64 (rd y187 t186))) (fun _ hk => hk.2) (.int .i64 0)) (fun _ hk => hk.2) (.int .i64 0)) (fun _ h_ => h_.1))) hb); have n1_ := Aside0.mk (Kd.R_below (by refine qR_ ?_; exact (Kd.R_mono (Kd.R_far (p := ⟨gb191, 2, none⟩) (Kd.R_far (p := ⟨gb191, 1, none⟩) (Kd.R_far (p := ⟨gb191, 0, none⟩) (Kd.R_types HO189.out BK191.out (by decide)) (fun _ hk => hk.2) (.int .i64 (rd y187 t186))) (fun _ hk => hk.2) (.int .i64 0)) (fun _ hk => hk.2) (.int .i64 0)) (fun _ h_ => h_.1))) hb); have n2_ := Aside0.mk (blk_below (g := gb178) (o := .cells #[.int .i64 0, .int .i64 0, .int .i64 0] 30 (0, 0)) (tk_ BK178.out) hb); have n3_ := Aside0.mk (blk_below (g := gb191) (o := .cells #[.int .i64 (rd y187 t186), .int .i64 0, .int .i64 0] 30 (0, 0)) (by refine bq_ ?_; refine blk_put (cs := #[.int .i64 (rd y187 t186), .int .i64 0, .int .i64 0]) ?_ 2 _ rfl; refine bq_ ?_; refine blk_put (cs := #[.int .i64 (rd y187 t186), .int .i64 0, .int .i64 0]) ?_ 1 _ rfl; refine bq_ ?_; refine blk_put (cs := #[.int .i64 0, .int .i64 0, .int .i64 0]) ?_ 0 _ rfl; exact tk_ BK191.out) hb); have n4_ := Aside0.mk (below_step (tb_ HB.out) hb); clear HO_4 HO189 BK178 BK191 HB; have HO_4 := n0_; have HO189 := n1_; have BK178 := n2_; have BK191 := n3_; have HB := n4_; clear n0_ n1_ n2_ n3_ n4_; (try clear hb); (try clear hb2); (try clear hk); (try clear hi); (try simp only [errW_none, errW_some, Option.map_none, Option.map_some]); have hnb28 := NB191_178.out; have hnc28 := NB178_191.out; have hcz29_0 : w27.cell? ⟨gb191, 0, none⟩ = some (.int .i64 (rd y187 t186)) := (blk_cell BK191.out 0).trans rfl; have hcz29_1 : w27.cell? ⟨gb191, 1, none⟩ = some (.int .i64 0) := (blk_cell BK191.out 1).trans rfl; have hcz29_2 : w27.cell? ⟨gb191, 2, none⟩ = some (.int .i64 0) := (blk_cell BK191.out 2).trans rfl; have hfz29_0 := blk_frozen BK191.out 0; have hfz29_1 := blk_frozen BK191.out 1; have hfz29_2 := blk_frozen BK191.out 2))
          go_meet
          case rel => exact ⟨_, (t193), H', ⟨by have := HJ4.out; first | omega | exact Nat.le_refl _⟩, ⟨by refine qR_ ?_; exact Kd.R_mono (Kd.R_far (p := ⟨gb191, 1, none⟩) (Kd.R_types HO_4.out BK191.out (by decide)) (fun _ hk => hk.2) (.int .i64 t193)) (fun _ hk => trivial)⟩, ⟨tk_ BK178.out⟩, ⟨by refine bq_ ?_; refine blk_put (cs := #[.int .i64 (rd y187 t186), .int .i64 0, .int .i64 0]) ?_ 1 _ rfl; exact tk_ BK191.out⟩, ⟨(tb_ HB.out)⟩⟩
         ·
          rw [if_neg c25] at H
          exact absurd H (by simp)
        ·
         rw [if_neg c24] at H
         have c24b0 : decide (1 < (t179.length : Int)) = false := decide_eq_false c24
         have c24b1 : decide (1 < t179.length) = false := decide_eq_false (by omega)
         clear c24
         (first | rw [c24b0] | (simp only [i64_w, i32_w]; rw [c24b0]) | skip)
         have H' := Aside0.mk H
         clear H
         go_wp2
         go_meet
         case rel => exact ⟨_, (0), H', ⟨by have := HJ4.out; first | omega | exact Nat.le_refl _⟩, ⟨by refine qR_ ?_; exact Kd.R_mono (Kd.R_far (p := ⟨gb191, 2, none⟩) (Kd.R_far (p := ⟨gb191, 1, none⟩) (Kd.R_far (p := ⟨gb191, 0, none⟩) (Kd.R_types HO_4.out BK191.out (by decide)) (fun _ hk => hk.2) (.int .i64 (rd y187 t186))) (fun _ hk => hk.2) (.int .i64 0)) (fun _ hk => hk.2) (.int .i64 0)) (fun _ hk => trivial)⟩, ⟨tk_ BK178.out⟩, ⟨by refine bq_ ?_; refine blk_put (cs := #[.int .i64 (rd y187 t186), .int .i64 0, .int .i64 0]) ?_ 2 _ rfl; refine bq_ ?_; refine blk_put (cs := #[.int .i64 (rd y187 t186), .int .i64 0, .int .i64 0]) ?_ 1 _ rfl; refine bq_ ?_; refine blk_put (cs := #[.int .i64 0, .int .i64 0, .int .i64 0]) ?_ 0 _ rfl; exact tk_ BK191.out⟩, ⟨(tb_ HB.out)⟩⟩
       case rest =>
        clear HC17
        try clear c1
        try clear p1
        try clear q1
        try clear hx1
        try clear qi1
        try clear c2
        try clear p2
        try clear c3
        try clear c3b0
        try clear c3b1
        try clear c4
        try clear c9
        try clear c12
        try clear c12b0
        try clear c13
        try clear c15
        try clear c15b0
        try clear c16
        try clear c16b0
        try clear p18
        try clear q18
        try clear hx18
        try clear qi18
        try clear p19
        try clear q19
        try clear hx19
        try clear qi19
        try clear c22
        try clear c24
        try clear c24b0
        try clear c24b1
        try clear c25
        try clear c25b0
        try clear c25b1
        try clear c28
        try clear hcz14_0
        try clear hcz14_1
        try clear hcz14_2
        try clear hcz23_0
        try clear hcz23_1
        try clear hcz23_2
        try clear hcz29_0
        try clear hcz29_1
        try clear hcz29_2
        try clear hfz14_0
        try clear hfz14_1
        try clear hfz14_2
        try clear hfz23_0
        try clear hfz23_1
        try clear hfz23_2
        try clear hfz29_0
        try clear hfz29_1
        try clear hfz29_2
        try clear hx185_0
        try clear hx190_0
        try clear hx192_0
        try clear p1
        try clear p185
        try clear p190
        try clear p192
        try clear p2
        try clear q1
        try clear q185
        try clear q190
        try clear q192
        obtain ⟨kq, x192001_16, HA, HJ16, HO_4, BK178, BK191, HB⟩ := hcut
        cases kq with
        | zero => exact absurd HA.out (by simp [impl_ReadDeed.j1])
        | succ kj16 =>
         have H := HA.out
         clear HA
         simp only [impl_ReadDeed.j1] at H
         by_cases c30 : (t179.length : Int) > 2
         ·
          rw [if_pos c30] at H
          have c30b0 : decide (2 < (t179.length : Int)) = true := decide_eq_true c30
          have c30b1 : decide (2 < t179.length) = true := decide_eq_true (by omega)
          clear c30
          by_cases c31 : 2 < (t179.length : Int)
          ·
           rw [if_pos c31] at H
           have c31b0 : decide (2 < (t179.length : Int)) = true := decide_eq_true c31
           have c31b1 : decide (2 < t179.length) = true := decide_eq_true (by omega)
           clear c31
           replace H := Option.bind_eq_some_iff.mp H
           obtain ⟨⟨t196, t197⟩, A320, H⟩ := H
           replace H : ((impl_DeedText.f kj16 (rd y187 t186) x192001_16 t196).bind fun t198 => (if t198.toList = a0.toList then (some ((rd y187 t186), x192001_16, t196, true)) else (some (0, 0, 0, false)))) = some (r1, r2, r3, r4) := H
           have A32 := Aside0.mk A320
           clear A320
           replace H := Option.bind_eq_some_iff.mp H
           obtain ⟨t198, A330, H⟩ := H
           replace H : (if t198.toList = a0.toList then (some ((rd y187 t186), x192001_16, t196, true)) else (some (0, 0, 0, false))) = some (r1, r2, r3, r4) := H
           have A33 := Aside0.mk A330
           clear A330
           by_cases c34 : t198.toList = a0.toList
           ·
            rw [if_pos c34] at H
            have c34b0 : (t198.toList == a0.toList) = true := beq_iff_eq.mpr c34
            have c34b1 : (t198.toList != a0.toList) = false := bne_eq_false_iff_eq.mpr c34
            clear c34
            simp only [Option.some.injEq, Prod.mk.injEq] at H
            obtain ⟨rfl, rfl, rfl, rfl⟩ := H
            have p195 : 0 ≤ (2 : Int) := (by omega)
            have q195 : 2 < (t179.length : Int) := od_
            obtain ⟨ad195, e195, hx195_0⟩ := Kd.at_string (Kd.R_reads' HO_4.out).2.2 2 p195 q195
            obtain rfl : ad185 = ad195 := (by injection e195)
            (try simp only [show (2 : Int).toNat = 2 from rfl, Nat.reduceMul, Nat.reduceEqDiff, Go.Addr.add, ↓reduceIte] at hx195_0)
            have qi195 : (2 < t179.length) = True := eq_true (by omega)
            (try rw [show ((2 : Int)).toNat = 2 from rfl] at hx195_0)
            replace p195 := eq_true p195
            replace q195 := eq_true q195
            go_wp2_with (first | ((with_reducible refine gate_callee (f := 95) rfl ?_); refine goesL_ (some 45) rfl rfl Tryd.func95 (by kernel_rfl) rfl #[.string (rdOf ByteArray.empty t179 2)] rfl tz_ ?_; (with_reducible refine (strconv_Atoi.calls (rdOf ByteArray.empty t179 2) t196 t197 _ ?side1 A32.out).mono ?_); (case side1 => exact GWb.below HG.out (tb_ HB.out)); rintro e w35 ⟨N_, rfl, hb⟩; refine ⟨_, rfl, ?_⟩; have n0_ := Aside0.mk (Kd.R_below (rR_ HO_4.out) hb); have n1_ := Aside0.mk (blk_below (g := gb178) (o := .cells #[.int .i64 0, .int .i64 0, .int .i64 0] 30 (0, 0)) (tk_ BK178.out) hb); have n2_ := Aside0.mk (blk_below (g := gb191) (o := .cells #[.int .i64 (rd y187 t186), .int .i64 x192001_16, .int .i64 0] 30 (0, 0)) (tk_ BK191.out) hb); have n3_ := Aside0.mk (below_step (tb_ HB.out) hb); clear HO_4 BK178 BK191 HB; have HO_4 := n0_; have BK178 := n1_; have BK191 := n2_; have HB := n3_; clear n0_ n1_ n2_ n3_; (try clear hb); (try clear hb2); (try clear hk); (try clear hi); (try simp only [errW_none, errW_some, Option.map_none, Option.map_some]); have hnb36 := NB191_178.out; have hnc36 := NB178_191.out; have hcz37_0 : w35.cell? ⟨gb191, 0, none⟩ = some (.int .i64 (rd y187 t186)) := (blk_cell BK191.out 0).trans rfl; have hcz37_1 : w35.cell? ⟨gb191, 1, none⟩ = some (.int .i64 x192001_16) := (blk_cell BK191.out 1).trans rfl; have hcz37_2 : w35.cell? ⟨gb191, 2, none⟩ = some (.int .i64 0) := (blk_cell BK191.out 2).trans rfl; have hfz37_0 := blk_frozen BK191.out 0; have hfz37_1 := blk_frozen BK191.out 1; have hfz37_2 := blk_frozen BK191.out 2) | ((with_reducible refine gate_callee (f := 46) rfl ?_); refine goesL_ (some 50) rfl rfl Tryd.func46 (by kernel_rfl) rfl #[.agg #[.int .i64 (rd y187 t186), .int .i64 x192001_16, .int .i64 t196]] rfl tz_ ?_; (with_reducible refine (impl_DeedText.calls kj16 (rd y187 t186) x192001_16 t196 t198 _ ?side1 A33.out).mono ?_); (case side1 => exact GWb.below HG.out (tb_ HB.out)); rintro e w38 ⟨rfl, hb⟩; refine ⟨_, rfl, ?_⟩; have n0_ := Aside0.mk (Kd.R_below (by refine qR_ ?_; exact (Kd.R_mono (Kd.R_far (p := ⟨gb191, 2, none⟩) (Kd.R_types HO_4.out BK191.out (by decide)) (fun _ hk => hk.2) (.int .i64 t196)) (fun _ h_ => h_.1))) hb); have n1_ := Aside0.mk (blk_below (g := gb178) (o := .cells #[.int .i64 0, .int .i64 0, .int .i64 0] 30 (0, 0)) (tk_ BK178.out) hb); have n2_ := Aside0.mk (blk_below (g := gb191) (o := .cells #[.int .i64 (rd y187 t186), .int .i64 x192001_16, .int .i64 t196] 30 (0, 0)) (by refine bq_ ?_; refine blk_put (cs := #[.int .i64 (rd y187 t186), .int .i64 x192001_16, .int .i64 0]) ?_ 2 _ rfl; exact tk_ BK191.out) hb); have n3_ := Aside0.mk (below_step (tb_ HB.out) hb); clear HO_4 BK178 BK191 HB; have HO_4 := n0_; have BK178 := n1_; have BK191 := n2_; have HB := n3_; clear n0_ n1_ n2_ n3_; (try clear hb); (try clear hb2); (try clear hk); (try clear hi); have hcz39_0 : w38.cell? ⟨gb191, 0, none⟩ = some (.int .i64 (rd y187 t186)) := (blk_cell BK191.out 0).trans rfl; have hcz39_1 : w38.cell? ⟨gb191, 1, none⟩ = some (.int .i64 x192001_16) := (blk_cell BK191.out 1).trans rfl; have hcz39_2 : w38.cell? ⟨gb191, 2, none⟩ = some (.int .i64 t196) := (blk_cell BK191.out 2).trans rfl; have hfz39_0 := blk_frozen BK191.out 0; have hfz39_1 := blk_frozen BK191.out 1; have hfz39_2 := blk_frozen BK191.out 2; have hcz40_0 : w38.cell? ⟨gb178, 0, none⟩ = some (.int .i64 0) := (blk_cell BK178.out 0).trans rfl; have hcz40_1 : w38.cell? ⟨gb178, 1, none⟩ = some (.int .i64 0) := (blk_cell BK178.out 1).trans rfl; have hcz40_2 : w38.cell? ⟨gb178, 2, none⟩ = some (.int .i64 0) := (blk_cell BK178.out 2).trans rfl; have hfz40_0 := blk_frozen BK178.out 0; have hfz40_1 := blk_frozen BK178.out 1; have hfz40_2 := blk_frozen BK178.out 2))
            refine bodyPost_ret (results_ct rfl _ _ gb178 30 #[.int .i64 (rd y187 t186), .int .i64 x192001_16, .int .i64 t196] (0, 0) _ rfl (by refine bq_ ?_; refine blk_put (cs := #[.int .i64 (rd y187 t186), .int .i64 x192001_16, .int .i64 0]) ?_ 2 _ rfl; refine bq_ ?_; refine blk_put (cs := #[.int .i64 (rd y187 t186), .int .i64 0, .int .i64 0]) ?_ 1 _ rfl; refine bq_ ?_; refine blk_put (cs := #[.int .i64 0, .int .i64 0, .int .i64 0]) ?_ 0 _ rfl; exact tk_ BK178.out) Tryd.underlying30 rfl (by kernel_rfl)) rfl ?_
            exact ⟨by first | rfl | (simp [errW_none, errW_some, Option.map_none, Option.map_some] <;> rfl) | (simp [*, errW_none, errW_some] <;> rfl), (tb_ HB.out)⟩
           ·
            rw [if_neg c34] at H
            have c34b0 : (t198.toList == a0.toList) = false := beq_eq_false_iff_ne.mpr c34
            have c34b1 : (t198.toList != a0.toList) = true := bne_iff_ne.mpr c34
            simp only [Option.some.injEq, Prod.mk.injEq] at H
            obtain ⟨rfl, rfl, rfl, rfl⟩ := H
            have p195 : 0 ≤ (2 : Int) := (by omega)
            have q195 : 2 < (t179.length : Int) := od_
            obtain ⟨ad195, e195, hx195_0⟩ := Kd.at_string (Kd.R_reads' HO_4.out).2.2 2 p195 q195
            obtain rfl : ad185 = ad195 := (by injection e195)
            (try simp only [show (2 : Int).toNat = 2 from rfl, Nat.reduceMul, Nat.reduceEqDiff, Go.Addr.add, ↓reduceIte] at hx195_0)
            have qi195 : (2 < t179.length) = True := eq_true (by omega)
            (try rw [show ((2 : Int)).toNat = 2 from rfl] at hx195_0)
            replace p195 := eq_true p195
            replace q195 := eq_true q195
            go_wp2_with (first | ((with_reducible refine gate_callee (f := 95) rfl ?_); refine goesL_ (some 45) rfl rfl Tryd.func95 (by kernel_rfl) rfl #[.string (rdOf ByteArray.empty t179 2)] rfl tz_ ?_; (with_reducible refine (strconv_Atoi.calls (rdOf ByteArray.empty t179 2) t196 t197 _ ?side1 A32.out).mono ?_); (case side1 => exact GWb.below HG.out (tb_ HB.out)); rintro e w41 ⟨N_, rfl, hb⟩; refine ⟨_, rfl, ?_⟩; have n0_ := Aside0.mk (Kd.R_below (rR_ HO_4.out) hb); have n1_ := Aside0.mk (blk_below (g := gb178) (o := .cells #[.int .i64 0, .int .i64 0, .int .i64 0] 30 (0, 0)) (tk_ BK178.out) hb); have n2_ := Aside0.mk (blk_below (g := gb191) (o := .cells #[.int .i64 (rd y187 t186), .int .i64 x192001_16, .int .i64 0] 30 (0, 0)) (tk_ BK191.out) hb); have n3_ := Aside0.mk (below_step (tb_ HB.out) hb); clear HO_4 BK178 BK191 HB; have HO_4 := n0_; have BK178 := n1_; have BK191 := n2_; have HB := n3_; clear n0_ n1_ n2_ n3_; (try clear hb); (try clear hb2); (try clear hk); (try clear hi); (try simp only [errW_none, errW_some, Option.map_none, Option.map_some]); have hnb42 := NB191_178.out; have hnc42 := NB178_191.out; have hcz43_0 : w41.cell? ⟨gb191, 0, none⟩ = some (.int .i64 (rd y187 t186)) := (blk_cell BK191.out 0).trans rfl; have hcz43_1 : w41.cell? ⟨gb191, 1, none⟩ = some (.int .i64 x192001_16) := (blk_cell BK191.out 1).trans rfl; have hcz43_2 : w41.cell? ⟨gb191, 2, none⟩ = some (.int .i64 0) := (blk_cell BK191.out 2).trans rfl; have hfz43_0 := blk_frozen BK191.out 0; have hfz43_1 := blk_frozen BK191.out 1; have hfz43_2 := blk_frozen BK191.out 2) | ((with_reducible refine gate_callee (f := 46) rfl ?_); refine goesL_ (some 50) rfl rfl Tryd.func46 (by kernel_rfl) rfl #[.agg #[.int .i64 (rd y187 t186), .int .i64 x192001_16, .int .i64 t196]] rfl tz_ ?_; (with_reducible refine (impl_DeedText.calls kj16 (rd y187 t186) x192001_16 t196 t198 _ ?side1 A33.out).mono ?_); (case side1 => exact GWb.below HG.out (tb_ HB.out)); rintro e w44 ⟨rfl, hb⟩; refine ⟨_, rfl, ?_⟩; have n0_ := Aside0.mk (Kd.R_below (by refine qR_ ?_; exact (Kd.R_mono (Kd.R_far (p := ⟨gb191, 2, none⟩) (Kd.R_types HO_4.out BK191.out (by decide)) (fun _ hk => hk.2) (.int .i64 t196)) (fun _ h_ => h_.1))) hb); have n1_ := Aside0.mk (blk_below (g := gb178) (o := .cells #[.int .i64 0, .int .i64 0, .int .i64 0] 30 (0, 0)) (tk_ BK178.out) hb); have n2_ := Aside0.mk (blk_below (g := gb191) (o := .cells #[.int .i64 (rd y187 t186), .int .i64 x192001_16, .int .i64 t196] 30 (0, 0)) (by refine bq_ ?_; refine blk_put (cs := #[.int .i64 (rd y187 t186), .int .i64 x192001_16, .int .i64 0]) ?_ 2 _ rfl; exact tk_ BK191.out) hb); have n3_ := Aside0.mk (below_step (tb_ HB.out) hb); clear HO_4 BK178 BK191 HB; have HO_4 := n0_; have BK178 := n1_; have BK191 := n2_; have HB := n3_; clear n0_ n1_ n2_ n3_; (try clear hb); (try clear hb2); (try clear hk); (try clear hi); have hcz45_0 : w44.cell? ⟨gb178, 0, none⟩ = some (.int .i64 0) := (blk_cell BK178.out 0).trans rfl; have hcz45_1 : w44.cell? ⟨gb178, 1, none⟩ = some (.int .i64 0) := (blk_cell BK178.out 1).trans rfl; have hcz45_2 : w44.cell? ⟨gb178, 2, none⟩ = some (.int .i64 0) := (blk_cell BK178.out 2).trans rfl; have hfz45_0 := blk_frozen BK178.out 0; have hfz45_1 := blk_frozen BK178.out 1; have hfz45_2 := blk_frozen BK178.out 2))
            refine bodyPost_ret (results_ct rfl _ _ gb178 30 #[.int .i64 0, .int .i64 0, .int .i64 0] (0, 0) _ rfl (by refine bq_ ?_; refine blk_put (cs := #[.int .i64 0, .int .i64 0, .int .i64 0]) ?_ 2 _ rfl; refine bq_ ?_; refine blk_put (cs := #[.int .i64 0, .int .i64 0, .int .i64 0]) ?_ 1 _ rfl; refine bq_ ?_; refine blk_put (cs := #[.int .i64 0, .int .i64 0, .int .i64 0]) ?_ 0 _ rfl; exact tk_ BK178.out) Tryd.underlying30 rfl (by kernel_rfl)) rfl ?_
            exact ⟨by first | rfl | (simp [errW_none, errW_some, Option.map_none, Option.map_some] <;> rfl) | (simp [*, errW_none, errW_some] <;> rfl), (tb_ HB.out)⟩
          ·
           rw [if_neg c31] at H
           exact absurd H (by simp)
         ·
          rw [if_neg c30] at H
          have c30b0 : decide (2 < (t179.length : Int)) = false := decide_eq_false c30
          have c30b1 : decide (2 < t179.length) = false := decide_eq_false (by omega)
          clear c30
          replace H := Option.bind_eq_some_iff.mp H
          obtain ⟨t199, A460, H⟩ := H
          replace H : (if t199.toList = a0.toList then (some ((rd y187 t186), x192001_16, 0, true)) else (some (0, 0, 0, false))) = some (r1, r2, r3, r4) := H
          have A46 := Aside0.mk A460
          clear A460
          by_cases c47 : t199.toList = a0.toList
          ·
           rw [if_pos c47] at H
           have c47b0 : (t199.toList == a0.toList) = true := beq_iff_eq.mpr c47
           have c47b1 : (t199.toList != a0.toList) = false := bne_eq_false_iff_eq.mpr c47
           clear c47
           simp only [Option.some.injEq, Prod.mk.injEq] at H
           obtain ⟨rfl, rfl, rfl, rfl⟩ := H
           have hnb48 := NB191_178.out
           have hnc48 := NB178_191.out
           have hcz49_0 : wc.cell? ⟨gb191, 0, none⟩ = some (.int .i64 (rd y187 t186)) := (blk_cell BK191.out 0).trans rfl
           have hcz49_1 : wc.cell? ⟨gb191, 1, none⟩ = some (.int .i64 x192001_16) := (blk_cell BK191.out 1).trans rfl
           have hcz49_2 : wc.cell? ⟨gb191, 2, none⟩ = some (.int .i64 0) := (blk_cell BK191.out 2).trans rfl
           have hfz49_0 := blk_frozen BK191.out 0
           have hfz49_1 := blk_frozen BK191.out 1
           have hfz49_2 := blk_frozen BK191.out 2
           go_wp2_with (first | ((with_reducible refine gate_callee (f := 46) rfl ?_); refine goesL_ (some 50) rfl rfl Tryd.func46 (by kernel_rfl) rfl #[.agg #[.int .i64 (rd y187 t186), .int .i64 x192001_16, .int .i64 0]] rfl tz_ ?_; (with_reducible refine (impl_DeedText.calls kj16 (rd y187 t186) x192001_16 0 t199 _ ?side1 A46.out).mono ?_); (case side1 => exact GWb.below HG.out (tb_ HB.out)); rintro e w50 ⟨rfl, hb⟩; refine ⟨_, rfl, ?_⟩; have n0_ := Aside0.mk (Kd.R_below (rR_ HO_4.out) hb); have n1_ := Aside0.mk (blk_below (g := gb178) (o := .cells #[.int .i64 0, .int .i64 0, .int .i64 0] 30 (0, 0)) (tk_ BK178.out) hb); have n2_ := Aside0.mk (blk_below (g := gb191) (o := .cells #[.int .i64 (rd y187 t186), .int .i64 x192001_16, .int .i64 0] 30 (0, 0)) (tk_ BK191.out) hb); have n3_ := Aside0.mk (below_step (tb_ HB.out) hb); clear HO_4 BK178 BK191 HB; have HO_4 := n0_; have BK178 := n1_; have BK191 := n2_; have HB := n3_; clear n0_ n1_ n2_ n3_; (try clear hb); (try clear hb2); (try clear hk); (try clear hi); have hcz51_0 : w50.cell? ⟨gb191, 0, none⟩ = some (.int .i64 (rd y187 t186)) := (blk_cell BK191.out 0).trans rfl; have hcz51_1 : w50.cell? ⟨gb191, 1, none⟩ = some (.int .i64 x192001_16) := (blk_cell BK191.out 1).trans rfl; have hcz51_2 : w50.cell? ⟨gb191, 2, none⟩ = some (.int .i64 0) := (blk_cell BK191.out 2).trans rfl; have hfz51_0 := blk_frozen BK191.out 0; have hfz51_1 := blk_frozen BK191.out 1; have hfz51_2 := blk_frozen BK191.out 2; have hcz52_0 : w50.cell? ⟨gb178, 0, none⟩ = some (.int .i64 0) := (blk_cell BK178.out 0).trans rfl; have hcz52_1 : w50.cell? ⟨gb178, 1, none⟩ = some (.int .i64 0) := (blk_cell BK178.out 1).trans rfl; have hcz52_2 : w50.cell? ⟨gb178, 2, none⟩ = some (.int .i64 0) := (blk_cell BK178.out 2).trans rfl; have hfz52_0 := blk_frozen BK178.out 0; have hfz52_1 := blk_frozen BK178.out 1; have hfz52_2 := blk_frozen BK178.out 2))
           refine bodyPost_ret (results_ct rfl _ _ gb178 30 #[.int .i64 (rd y187 t186), .int .i64 x192001_16, .int .i64 0] (0, 0) _ rfl (by refine bq_ ?_; refine blk_put (cs := #[.int .i64 (rd y187 t186), .int .i64 x192001_16, .int .i64 0]) ?_ 2 _ rfl; refine bq_ ?_; refine blk_put (cs := #[.int .i64 (rd y187 t186), .int .i64 0, .int .i64 0]) ?_ 1 _ rfl; refine bq_ ?_; refine blk_put (cs := #[.int .i64 0, .int .i64 0, .int .i64 0]) ?_ 0 _ rfl; exact tk_ BK178.out) Tryd.underlying30 rfl (by kernel_rfl)) rfl ?_
           exact ⟨by first | rfl | (simp [errW_none, errW_some, Option.map_none, Option.map_some] <;> rfl) | (simp [*, errW_none, errW_some] <;> rfl), (tb_ HB.out)⟩
          ·
           rw [if_neg c47] at H
           have c47b0 : (t199.toList == a0.toList) = false := beq_eq_false_iff_ne.mpr c47
           have c47b1 : (t199.toList != a0.toList) = true := bne_iff_ne.mpr c47
           simp only [Option.some.injEq, Prod.mk.injEq] at H
           obtain ⟨rfl, rfl, rfl, rfl⟩ := H
           have hnb53 := NB191_178.out
           have hnc53 := NB178_191.out
           have hcz54_0 : wc.cell? ⟨gb191, 0, none⟩ = some (.int .i64 (rd y187 t186)) := (blk_cell BK191.out 0).trans rfl
           have hcz54_1 : wc.cell? ⟨gb191, 1, none⟩ = some (.int .i64 x192001_16) := (blk_cell BK191.out 1).trans rfl
           have hcz54_2 : wc.cell? ⟨gb191, 2, none⟩ = some (.int .i64 0) := (blk_cell BK191.out 2).trans rfl
           have hfz54_0 := blk_frozen BK191.out 0
           have hfz54_1 := blk_frozen BK191.out 1
           have hfz54_2 := blk_frozen BK191.out 2
           go_wp2_with (first | ((with_reducible refine gate_callee (f := 46) rfl ?_); refine goesL_ (some 50) rfl rfl Tryd.func46 (by kernel_rfl) rfl #[.agg #[.int .i64 (rd y187 t186), .int .i64 x192001_16, .int .i64 0]] rfl tz_ ?_; (with_reducible refine (impl_DeedText.calls kj16 (rd y187 t186) x192001_16 0 t199 _ ?side1 A46.out).mono ?_); (case side1 => exact GWb.below HG.out (tb_ HB.out)); rintro e w55 ⟨rfl, hb⟩; refine ⟨_, rfl, ?_⟩; have n0_ := Aside0.mk (Kd.R_below (rR_ HO_4.out) hb); have n1_ := Aside0.mk (blk_below (g := gb178) (o := .cells #[.int .i64 0, .int .i64 0, .int .i64 0] 30 (0, 0)) (tk_ BK178.out) hb); have n2_ := Aside0.mk (blk_below (g := gb191) (o := .cells #[.int .i64 (rd y187 t186), .int .i64 x192001_16, .int .i64 0] 30 (0, 0)) (tk_ BK191.out) hb); have n3_ := Aside0.mk (below_step (tb_ HB.out) hb); clear HO_4 BK178 BK191 HB; have HO_4 := n0_; have BK178 := n1_; have BK191 := n2_; have HB := n3_; clear n0_ n1_ n2_ n3_; (try clear hb); (try clear hb2); (try clear hk); (try clear hi); have hcz56_0 : w55.cell? ⟨gb178, 0, none⟩ = some (.int .i64 0) := (blk_cell BK178.out 0).trans rfl; have hcz56_1 : w55.cell? ⟨gb178, 1, none⟩ = some (.int .i64 0) := (blk_cell BK178.out 1).trans rfl; have hcz56_2 : w55.cell? ⟨gb178, 2, none⟩ = some (.int .i64 0) := (blk_cell BK178.out 2).trans rfl; have hfz56_0 := blk_frozen BK178.out 0; have hfz56_1 := blk_frozen BK178.out 1; have hfz56_2 := blk_frozen BK178.out 2))
           refine bodyPost_ret (results_ct rfl _ _ gb178 30 #[.int .i64 0, .int .i64 0, .int .i64 0] (0, 0) _ rfl (by refine bq_ ?_; refine blk_put (cs := #[.int .i64 0, .int .i64 0, .int .i64 0]) ?_ 2 _ rfl; refine bq_ ?_; refine blk_put (cs := #[.int .i64 0, .int .i64 0, .int .i64 0]) ?_ 1 _ rfl; refine bq_ ?_; refine blk_put (cs := #[.int .i64 0, .int .i64 0, .int .i64 0]) ?_ 0 _ rfl; exact tk_ BK178.out) Tryd.underlying30 rfl (by kernel_rfl)) rfl ?_
           exact ⟨by first | rfl | (simp [errW_none, errW_some, Option.map_none, Option.map_some] <;> rfl) | (simp [*, errW_none, errW_some] <;> rfl), (tb_ HB.out)⟩
      ·
       rw [if_neg c16] at H
       exact absurd H (by simp)
     ·
      rw [if_neg c15] at H
      exact absurd H (by simp)
 ·
  rw [if_neg c3] at H
  exact absurd H (by simp)

/-! ### strings_Cut: function 96 -/
def strings_Cut.f (a0 : ByteArray) (a1 : ByteArray) : Option (ByteArray × ByteArray × Bool) := if a0.size < 4294967281 then some (⟨(Lib.cut a0.data.toList a1.data.toList).1.toArray⟩, ⟨(Lib.cut a0.data.toList a1.data.toList).2.1.toArray⟩, (Lib.cut a0.data.toList a1.data.toList).2.2) else none
theorem strings_Cut.calls (a0 : ByteArray) (a1 : ByteArray) (r1 : ByteArray) (r2 : ByteArray) (r3 : Bool) (w : World) (hG : GWb w) (h : strings_Cut.f a0 a1 = some (r1, r2, r3)) :
  Calls Tryd.prog 96 #[.string a0, .string a1] w fun e w' => e = .returned (.tuple #[.string r1, .string r2, .bool r3]) ∧ Drawn0 w w' := by
 unfold strings_Cut.f at h
 split at h
 ·
  rename_i hb
  simp only [Option.some.injEq, Prod.mk.injEq] at h
  obtain ⟨rfl, rfl, rfl⟩ := h
  exact (Sh.Tryd.strings_Cut_shaped a0 a1 w hG.shape hb).mono fun e w' ⟨he, m, hw⟩ => ⟨he, ⟨m, hw⟩⟩
 ·
  cases h

/-! ### impl_ReadJournal: function 43 -/
def impl_ReadJournal.l0 : Nat → ByteArray → List (S30) → Int → Option ((List (S30)) × Int)
 | 0, _, _, _ => none
 | k + 1, x0, x4, x5 => if 0 ≤ x5 then (if x5 ≤ (x0.size : Int) then ((strings_Cut.f (x0.extract (x5 : Int).toNat x0.size) (⟨#[10]⟩ : ByteArray)).bind fun bt203 => ((impl_ReadDeed.f k bt203.1).bind fun bt206 => (if bt203.2.2 = true then (if bt206.2.2.2 = true then (if x4.length < 5864062014805 then (impl_ReadJournal.l0 k x0 (x4 ++ [(⟨bt206.1, bt206.2.1, bt206.2.2.1⟩ : S30)]) (wrap64 (x5 + (wrap64 ((bt203.1.size : Int) + 1))))) else (none)) else (some (x4, x5))) else (some (x4, x5))))) else (none)) else (none)
def impl_ReadJournal.f (k : Nat) (a0 : ByteArray) : Option ((List (S30)) × Int) := impl_ReadJournal.l0 k a0 (([] : List (S30))) 0
theorem impl_ReadJournal.mono_l : ∀ k, (∀ y0 y1 y2, LeO (impl_ReadJournal.l0 k y0 y1 y2) (impl_ReadJournal.l0 (k + 1) y0 y1 y2))
 | 0 => fun _ _ _ r h => by simp [impl_ReadJournal.l0] at h
 | k + 1 => by
  have ih0 := impl_ReadJournal.mono_l k
  ·
   intro y0 y1 y2
   unfold impl_ReadJournal.l0
   repeat' first
   | (with_reducible exact ih0 _ _ _)
   | (with_reducible exact impl_ReadDeed.mono _ _)
   | (with_reducible exact LeO.refl _)
   | (with_reducible exact LeO.none _)
   | (with_reducible refine LeO.ite ?_ ?_)
   | (with_reducible refine LeO.bind ?_ (fun _ => ?_))
   | exact ih0 _ _ _
   | exact impl_ReadDeed.mono _ _
   | exact LeO.none _
   | refine LeO.ite ?_ ?_
   | refine LeO.bind ?_ (fun _ => ?_)
theorem impl_ReadJournal.mono : ∀ a0 k, LeO (impl_ReadJournal.f k a0) (impl_ReadJournal.f (k + 1) a0) := by
 intro a0 k
 have ih0 := impl_ReadJournal.mono_l k
 unfold impl_ReadJournal.f
 repeat' first
   | (with_reducible exact ih0 _ _ _)
   | (with_reducible exact impl_ReadDeed.mono _ _)
   | (with_reducible exact LeO.refl _)
   | (with_reducible exact LeO.none _)
   | (with_reducible refine LeO.ite ?_ ?_)
   | (with_reducible refine LeO.bind ?_ (fun _ => ?_))
   | exact ih0 _ _ _
   | exact impl_ReadDeed.mono _ _
   | exact LeO.none _
   | refine LeO.ite ?_ ?_
   | refine LeO.bind ?_ (fun _ => ?_)
set_option maxHeartbeats 8000000 in
set_option maxRecDepth 100000 in
theorem impl_ReadJournal.calls (k : Nat) (a0 : ByteArray) (r1 : List (S30)) (r2 : Int) (w : World) (hG : GWb w) (h : impl_ReadJournal.f k a0 = some (r1, r2)) :
  Calls Tryd.prog 43 #[.string a0] w fun e w' => ∃ v0_ : Value, e = .returned (.tuple #[v0_, .int .i64 r2]) ∧ Kd.R k30 30 w' w.heap.size (fun _ => True) v0_ r1 ∧ Below w.heap.size w w' := by
 have HG := Aside0.mk hG
 clear hG
 have hu30 := Tryd.underlying30
 have HB := Aside0.mk (Below.refl w.heap.size w)
 have H : (impl_ReadJournal.l0 k a0 (([] : List (S30))) 0) = some (r1, r2) := h
 clear h
 obtain ⟨y200, hy200⟩ : ∃ y_ : List (S30), y_ = (([] : List (S30))) := ⟨_, rfl⟩
 replace H : (impl_ReadJournal.l0 k a0 y200 0) = some (r1, r2) := by first | (rw [hy200]; with_reducible exact H) | (have H2_ := (Option.bind_some _ _).symm.trans H; rw [hy200]; with_reducible exact H2_) | (have H2_ := (Option.bind_some _ _).symm.trans H; with_reducible exact H2_) | with_reducible exact H | (rw [hy200]; exact H) | exact H
 have Ny200 := Aside0.mk hy200
 clear hy200
 have H' := Aside0.mk H
 clear H
 go_enter Tryd.func43, Tryd.ntmps43
 go_wp2_with (first | ((with_reducible refine gate_dst (N := 11) rfl ?_); refine Kd.R_lit k30 _ 30 ?hg (N := 11) ?hd (xs := ([] : List (S30))) (inner := []) (ok := fun _ => True) (okp := fun _ => True) ?hr ?hp (fun _ hk => hk) trivial (Below.refl _ _) (Nat.le_refl _) (by simp) ?_; (case hd => rfl); (case hg => rfl); (case hr => first | (go_simp; done) | (go_simp; rfl)); (case hp => exact (Reps.none _ _)); intro v201 w2 ho3 hb hg_ hnew_; clear hg_ hnew_; (first | rw [← Ny200.out] at ho3 | (simp only [Int.reduceToNat] at ho3; rw [← Ny200.out] at ho3)); have n0_ := Aside0.mk (Kd.R_lower ho3 (below_size (tb_ HB.out))); have n1_ := Aside0.mk (below_step (tb_ HB.out) hb); clear HB; have HO202 := n0_; have HB := n1_; clear n0_ n1_ hb ho3))
 go_loopg [4, 5] k (fun kq v4 v5 w' => ∃ (x4_1 : List (S30)) (x5_1 : Int), v5 = .int .i64 x5_1 ∧ Aside0 (impl_ReadJournal.l0 kq a0 x4_1 x5_1 = some (r1, r2)) ∧ Aside0 (kq ≤ k) ∧ Aside0 (Kd.R k30 30 w' w.heap.size (fun _ => True) v4 x4_1) ∧ Aside0 (Below w.heap.size w w'))
 case atStart => exact ⟨(y200), (0), tx_, H', ⟨Nat.le_refl _⟩, ⟨rR_ HO202.out⟩, ⟨(tb_ HB.out)⟩⟩
 case round =>
  clear H'
  try clear p2
  obtain ⟨x4_1, x5_1, rfl, HA, HK1, HO_4, HB⟩ := hrel
  cases gk with
  | zero => exact absurd HA.out (by simp [impl_ReadJournal.l0])
  | succ k1 =>
   have H := HA.out
   clear HA
   simp only [impl_ReadJournal.l0] at H
   by_cases c4 : 0 ≤ x5_1
   ·
    rw [if_pos c4] at H
    have c4b0 := eq_true c4
    have c4b1 : decide (0 ≤ x5_1) = true := decide_eq_true c4
    clear c4
    by_cases c5 : x5_1 ≤ (a0.size : Int)
    ·
     rw [if_pos c5] at H
     have c5b0 := eq_true c5
     have c5b1 : decide (x5_1 ≤ (a0.size : Int)) = true := decide_eq_true c5
     clear c5
     replace H := Option.bind_eq_some_iff.mp H
     obtain ⟨⟨t203, t204, t205⟩, A60, H⟩ := H
     replace H : ((impl_ReadDeed.f k1 t203).bind fun bt206 => (if t205 = true then (if bt206.2.2.2 = true then (if x4_1.length < 5864062014805 then (impl_ReadJournal.l0 k1 a0 (x4_1 ++ [(⟨bt206.1, bt206.2.1, bt206.2.2.1⟩ : S30)]) (wrap64 (x5_1 + (wrap64 ((t203.size : Int) + 1))))) else (none)) else (some (x4_1, x5_1))) else (some (x4_1, x5_1)))) = some (r1, r2) := H
     have A6 := Aside0.mk A60
     clear A60
     replace H := Option.bind_eq_some_iff.mp H
     obtain ⟨⟨t206, t207, t208, t209⟩, A70, H⟩ := H
     replace H : (if t205 = true then (if t209 = true then (if x4_1.length < 5864062014805 then (impl_ReadJournal.l0 k1 a0 (x4_1 ++ [(⟨t206, t207, t208⟩ : S30)]) (wrap64 (x5_1 + (wrap64 ((t203.size : Int) + 1))))) else (none)) else (some (x4_1, x5_1))) else (some (x4_1, x5_1))) = some (r1, r2) := H
     have A7 := Aside0.mk A70
     clear A70
     by_cases c8 : t205 = true
     ·
      subst c8
      have H1 : (if t209 = true then (if x4_1.length < 5864062014805 then (impl_ReadJournal.l0 k1 a0 (x4_1 ++ [(⟨t206, t207, t208⟩ : S30)]) (wrap64 (x5_1 + (wrap64 ((t203.size : Int) + 1))))) else (none)) else (some (x4_1, x5_1))) = some (r1, r2) := by rw [if_pos rfl] at H; exact H
      clear H
      have H := H1
      clear H1
      by_cases c9 : t209 = true
      ·
       subst c9
       have H1 : (if x4_1.length < 5864062014805 then (impl_ReadJournal.l0 k1 a0 (x4_1 ++ [(⟨t206, t207, t208⟩ : S30)]) (wrap64 (x5_1 + (wrap64 ((t203.size : Int) + 1))))) else (none)) = some (r1, r2) := by rw [if_pos rfl] at H; exact H
       clear H
       have H := H1
       clear H1
       by_cases c10 : x4_1.length < 5864062014805
       ·
        rw [if_pos c10] at H
        have LMc10 := Aside0.mk c10
        clear c10
        obtain ⟨y211, hy211⟩ : ∃ y_ : List (S30), y_ = (x4_1 ++ [(⟨t206, t207, t208⟩ : S30)]) := ⟨_, rfl⟩
        replace H : (impl_ReadJournal.l0 k1 a0 y211 (wrap64 (x5_1 + (wrap64 ((t203.size : Int) + 1))))) = some (r1, r2) := by first | (rw [hy211]; with_reducible exact H) | (have H2_ := (Option.bind_some _ _).symm.trans H; rw [hy211]; with_reducible exact H2_) | (have H2_ := (Option.bind_some _ _).symm.trans H; with_reducible exact H2_) | with_reducible exact H | (rw [hy211]; exact H) | exact H
        have Ny211 := Aside0.mk hy211
        clear hy211
        have H' := Aside0.mk H
        clear H
        go_wp2_with (first | ((with_reducible refine gate_callee (f := 96) rfl ?_); refine goesL_ (some 16) rfl rfl Tryd.func96 (by kernel_rfl) rfl #[.string (a0.extract (x5_1 : Int).toNat a0.size), .string (⟨#[10]⟩ : ByteArray)] rfl tz_ ?_; (with_reducible refine (strings_Cut.calls (a0.extract (x5_1 : Int).toNat a0.size) (⟨#[10]⟩ : ByteArray) t203 t204 true _ ?side1 A6.out).mono ?_); (case side1 => exact GWb.below HG.out (tb_ HB.out)); rintro e w' ⟨rfl, ⟨nd, rfl⟩⟩; refine ⟨_, rfl, ?_⟩; (try (rw [drewN_self wr]; generalize hq_ : World.drewN wr _ = wr; have n0_ : Aside0 (Kd.R k30 30 wr w.heap.size (fun _ => True) u4 x4_1) := ⟨by rw [← hq_]; exact (rR_ HO_4.out)⟩; have n1_ : Aside0 (Below w.heap.size w wr) := ⟨by rw [← hq_]; exact (tb_ HB.out)⟩; clear HO_4 HB hq_; have HO_4 := n0_; have HB := n1_; clear n0_ n1_))) | ((with_reducible refine gate_callee (f := 40) rfl ?_); refine goesL_ (some 22) rfl rfl Tryd.func40 (by kernel_rfl) rfl #[.string t203] rfl tz_ ?_; (with_reducible refine (impl_ReadDeed.calls k1 t203 t206 t207 t208 true _ ?side1 A7.out).mono ?_); (case side1 => exact GWb.below HG.out (tb_ HB.out)); rintro e w11 ⟨rfl, hb⟩; refine ⟨_, rfl, ?_⟩; have n0_ := Aside0.mk (Kd.R_below (rR_ HO_4.out) hb); have n1_ := Aside0.mk (below_step (tb_ HB.out) hb); clear HO_4 HB; have HO_4 := n0_; have HB := n1_; clear n0_ n1_; (try clear hb); (try clear hb2); (try clear hk); (try clear hi)) | ((with_reducible refine gate_dst (N := 9) rfl ?_); refine box_event ?hg (N := 9) ?hd (cs := #[.int .i64 0, .int .i64 0, .int .i64 0]) (t := 30) ?hr ?_; (case hd => rfl); (case hg => rfl); (case hr => first | (go_simp; done) | (go_simp; rfl)); intro gb210 hg w12 hbox hb; have n0_ := Aside0.mk (Kd.R_below (Kd.R_elderB (rR_ HO_4.out) gb210 (Nat.le_of_eq hg.symm)) hb); have n1_ := Aside0.mk (below_step (tb_ HB.out) hb); have n2_ := Aside0.mk (hbox); have n3_ := Aside0.mk ((by rw [hg]; exact (below_size (tb_ HB.out)) : w.heap.size ≤ gb210)); have n4_ := Aside0.mk ((by rw [hg]; exact (below_size (tb_ HB.out)) : w.heap.size ≤ gb210)); clear HO_4 HB; have HO_4 := n0_; have HB := n1_; have BK210 := n2_; have GW210 := n3_; have GE210 := n4_; clear n0_ n1_ n2_ n3_ n4_ hb hbox hg; have hcz13_0 : w12.cell? ⟨gb210, 0, none⟩ = some (.int .i64 0) := (blk_cell BK210.out 0).trans rfl; have hcz13_1 : w12.cell? ⟨gb210, 1, none⟩ = some (.int .i64 0) := (blk_cell BK210.out 1).trans rfl; have hcz13_2 : w12.cell? ⟨gb210, 2, none⟩ = some (.int .i64 0) := (blk_cell BK210.out 2).trans rfl; have hfz13_0 := blk_frozen BK210.out 0; have hfz13_1 := blk_frozen BK210.out 1; have hfz13_2 := blk_frozen BK210.out 2) | ((with_reducible refine gate_builtin (b := .append) (xs := #[.tmp 33, .tmp 35]) rfl ?_); at_builtin; refine Kd.R_append k30 (w0 := w) w.heap.size rfl (.tmp 33) (.tmp 35) 44 30 (.agg #[(.int .i64 0), (.int .i64 0), (.int .i64 0)]) 24 rfl Tryd.underlying44 info30 rfl (by decide) (by omega) u4 x4_1 (⟨t206, t207, t208⟩ : S30) [.int .i64 t206, .int .i64 t207, .int .i64 t208] (fun k_ => k_ ≠ gb210) (fun _ => False) rfl (by first | (go_simp; done) | (go_simp; rfl)) ?aP (fun _ hk => hk.elim) ?aF ?aO ?aB ?aS ?aL ?_; (case aP => exact k30_mkM _ _ _ (⟨t206, t207, t208⟩ : S30)); (case aB => exact (tb_ HB.out)); (case aF => exact (fun k_ hk => Kd.freshB (g := gb210) (o := .cells #[.int .i64 t206, .int .i64 t207, .int .i64 t208] 30 (0, 0)) (by refine bq_ ?_; refine blk_put (cs := #[.int .i64 t206, .int .i64 t207, .int .i64 0]) ?_ 2 _ rfl; refine bq_ ?_; refine blk_put (cs := #[.int .i64 t206, .int .i64 0, .int .i64 0]) ?_ 1 _ rfl; refine bq_ ?_; refine blk_put (cs := #[.int .i64 0, .int .i64 0, .int .i64 0]) ?_ 0 _ rfl; exact tk_ BK210.out) k_ hk)); (case aO => exact (by refine qR_ ?_; exact Kd.R_mono (Kd.R_far (p := ⟨gb210, 2, none⟩) (Kd.R_far (p := ⟨gb210, 1, none⟩) (Kd.R_far (p := ⟨gb210, 0, none⟩) (Kd.R_mono HO_4.out (fun k_ hk => (⟨hk, hk.2⟩ : _ ∧ k_ ≠ gb210))) (fun _ hk => hk.2) (.int .i64 t206)) (fun _ hk => hk.2) (.int .i64 t207)) (fun _ hk => hk.2) (.int .i64 t208)) (fun _ hk => hk.1.2))); (case aS => exact (below_size (tb_ HB.out))); (case aL => have := LMc10.out; omega); intro v212 w14 ho hb hg hat; rw [← Ny211.out] at ho; have n0_ := Aside0.mk (blk_grown (g := gb210) (o := .cells #[.int .i64 t206, .int .i64 t207, .int .i64 t208] 30 (0, 0)) (by refine bq_ ?_; refine blk_put (cs := #[.int .i64 t206, .int .i64 t207, .int .i64 0]) ?_ 2 _ rfl; refine bq_ ?_; refine blk_put (cs := #[.int .i64 t206, .int .i64 0, .int .i64 0]) ?_ 1 _ rfl; refine bq_ ?_; refine blk_put (cs := #[.int .i64 0, .int .i64 0, .int .i64 0]) ?_ 0 _ rfl; exact tk_ BK210.out) hg (Kd.R_away HO_4.out (fun _ hk => hk.2))); have n1_ := Aside0.mk (hb); have n2_ := Aside0.mk (ho); clear BK210 HB HO_4; have BK210 := n0_; have HB := n1_; have HO213 := n2_; clear n0_ n1_ n2_ ho hb hg hat))
        go_roundg k1
        case measure => have := HK1.out; omega
        case rel => exact ⟨(y211), (wrap64 (x5_1 + (wrap64 ((t203.size : Int) + 1)))), tx_, H', ⟨by have := HK1.out; omega⟩, ⟨by refine qR_ ?_; exact Kd.R_mono HO213.out (fun _ hk => trivial)⟩, ⟨(tb_ HB.out)⟩⟩
       ·
        rw [if_neg c10] at H
        exact absurd H (by simp)
      ·
       replace c9 := Bool.eq_false_iff.mpr c9
       subst c9
       have H1 : (some (x4_1, x5_1)) = some (r1, r2) := by rw [if_neg (show ¬ (false = true) by decide)] at H; exact H
       clear H
       have H := H1
       clear H1
       simp only [Option.some.injEq, Prod.mk.injEq] at H
       obtain ⟨rfl, rfl⟩ := H
       go_wp2_with (first | ((with_reducible refine gate_callee (f := 96) rfl ?_); refine goesL_ (some 16) rfl rfl Tryd.func96 (by kernel_rfl) rfl #[.string (a0.extract (x5_1 : Int).toNat a0.size), .string (⟨#[10]⟩ : ByteArray)] rfl tz_ ?_; (with_reducible refine (strings_Cut.calls (a0.extract (x5_1 : Int).toNat a0.size) (⟨#[10]⟩ : ByteArray) t203 t204 true _ ?side1 A6.out).mono ?_); (case side1 => exact GWb.below HG.out (tb_ HB.out)); rintro e w' ⟨rfl, ⟨nd, rfl⟩⟩; refine ⟨_, rfl, ?_⟩; (try (rw [drewN_self wr]; generalize hq_ : World.drewN wr _ = wr; have n0_ : Aside0 (Kd.R k30 30 wr w.heap.size (fun _ => True) u4 x4_1) := ⟨by rw [← hq_]; exact (rR_ HO_4.out)⟩; have n1_ : Aside0 (Below w.heap.size w wr) := ⟨by rw [← hq_]; exact (tb_ HB.out)⟩; clear HO_4 HB hq_; have HO_4 := n0_; have HB := n1_; clear n0_ n1_))) | ((with_reducible refine gate_callee (f := 40) rfl ?_); refine goesL_ (some 22) rfl rfl Tryd.func40 (by kernel_rfl) rfl #[.string t203] rfl tz_ ?_; (with_reducible refine (impl_ReadDeed.calls k1 t203 t206 t207 t208 false _ ?side1 A7.out).mono ?_); (case side1 => exact GWb.below HG.out (tb_ HB.out)); rintro e w15 ⟨rfl, hb⟩; refine ⟨_, rfl, ?_⟩; have n0_ := Aside0.mk (Kd.R_below (rR_ HO_4.out) hb); have n1_ := Aside0.mk (below_step (tb_ HB.out) hb); clear HO_4 HB; have HO_4 := n0_; have HB := n1_; clear n0_ n1_; (try clear hb); (try clear hb2); (try clear hk); (try clear hi)) | ((with_reducible refine gate_dst (N := 9) rfl ?_); refine box_event ?hg (N := 9) ?hd (cs := #[.int .i64 0, .int .i64 0, .int .i64 0]) (t := 30) ?hr ?_; (case hd => rfl); (case hg => rfl); (case hr => first | (go_simp; done) | (go_simp; rfl)); intro gb210 hg w16 hbox hb; have n0_ := Aside0.mk (Kd.R_below (Kd.R_elderB (rR_ HO_4.out) gb210 (Nat.le_of_eq hg.symm)) hb); have n1_ := Aside0.mk (below_step (tb_ HB.out) hb); have n2_ := Aside0.mk (hbox); have n3_ := Aside0.mk ((by rw [hg]; exact (below_size (tb_ HB.out)) : w.heap.size ≤ gb210)); have n4_ := Aside0.mk ((by rw [hg]; exact (below_size (tb_ HB.out)) : w.heap.size ≤ gb210)); clear HO_4 HB; have HO_4 := n0_; have HB := n1_; have BK210 := n2_; have GW210 := n3_; have GE210 := n4_; clear n0_ n1_ n2_ n3_ n4_ hb hbox hg; have hcz17_0 : w16.cell? ⟨gb210, 0, none⟩ = some (.int .i64 0) := (blk_cell BK210.out 0).trans rfl; have hcz17_1 : w16.cell? ⟨gb210, 1, none⟩ = some (.int .i64 0) := (blk_cell BK210.out 1).trans rfl; have hcz17_2 : w16.cell? ⟨gb210, 2, none⟩ = some (.int .i64 0) := (blk_cell BK210.out 2).trans rfl; have hfz17_0 := blk_frozen BK210.out 0; have hfz17_1 := blk_frozen BK210.out 1; have hfz17_2 := blk_frozen BK210.out 2))
       go_ret2
       exact ⟨_, by first | rfl | (simp [errW_none, errW_some, Option.map_none, Option.map_some] <;> rfl) | (simp [*, errW_none, errW_some] <;> rfl), by refine qR_ ?_; exact Kd.R_mono (Kd.R_far (p := ⟨gb210, 2, none⟩) (Kd.R_far (p := ⟨gb210, 1, none⟩) (Kd.R_far (p := ⟨gb210, 0, none⟩) (Kd.R_mono HO_4.out (fun k_ hk => (⟨hk, hk.2⟩ : _ ∧ k_ ≠ gb210))) (fun _ hk => hk.2) (.int .i64 t206)) (fun _ hk => hk.2) (.int .i64 t207)) (fun _ hk => hk.2) (.int .i64 t208)) (fun _ hk => trivial), (tb_ HB.out)⟩
     ·
      replace c8 := Bool.eq_false_iff.mpr c8
      subst c8
      have H1 : (some (x4_1, x5_1)) = some (r1, r2) := by rw [if_neg (show ¬ (false = true) by decide)] at H; exact H
      clear H
      have H := H1
      clear H1
      simp only [Option.some.injEq, Prod.mk.injEq] at H
      obtain ⟨rfl, rfl⟩ := H
      go_wp2_with (first | ((with_reducible refine gate_callee (f := 96) rfl ?_); refine goesL_ (some 16) rfl rfl Tryd.func96 (by kernel_rfl) rfl #[.string (a0.extract (x5_1 : Int).toNat a0.size), .string (⟨#[10]⟩ : ByteArray)] rfl tz_ ?_; (with_reducible refine (strings_Cut.calls (a0.extract (x5_1 : Int).toNat a0.size) (⟨#[10]⟩ : ByteArray) t203 t204 false _ ?side1 A6.out).mono ?_); (case side1 => exact GWb.below HG.out (tb_ HB.out)); rintro e w' ⟨rfl, ⟨nd, rfl⟩⟩; refine ⟨_, rfl, ?_⟩; (try (rw [drewN_self wr]; generalize hq_ : World.drewN wr _ = wr; have n0_ : Aside0 (Kd.R k30 30 wr w.heap.size (fun _ => True) u4 x4_1) := ⟨by rw [← hq_]; exact (rR_ HO_4.out)⟩; have n1_ : Aside0 (Below w.heap.size w wr) := ⟨by rw [← hq_]; exact (tb_ HB.out)⟩; clear HO_4 HB hq_; have HO_4 := n0_; have HB := n1_; clear n0_ n1_))) | ((with_reducible refine gate_callee (f := 40) rfl ?_); refine goesL_ (some 22) rfl rfl Tryd.func40 (by kernel_rfl) rfl #[.string t203] rfl tz_ ?_; (with_reducible refine (impl_ReadDeed.calls k1 t203 t206 t207 t208 t209 _ ?side1 A7.out).mono ?_); (case side1 => exact GWb.below HG.out (tb_ HB.out)); rintro e w18 ⟨rfl, hb⟩; refine ⟨_, rfl, ?_⟩; have n0_ := Aside0.mk (Kd.R_below (rR_ HO_4.out) hb); have n1_ := Aside0.mk (below_step (tb_ HB.out) hb); clear HO_4 HB; have HO_4 := n0_; have HB := n1_; clear n0_ n1_; (try clear hb); (try clear hb2); (try clear hk); (try clear hi)) | ((with_reducible refine gate_dst (N := 9) rfl ?_); refine box_event ?hg (N := 9) ?hd (cs := #[.int .i64 0, .int .i64 0, .int .i64 0]) (t := 30) ?hr ?_; (case hd => rfl); (case hg => rfl); (case hr => first | (go_simp; done) | (go_simp; rfl)); intro gb210 hg w19 hbox hb; have n0_ := Aside0.mk (Kd.R_below (Kd.R_elderB (rR_ HO_4.out) gb210 (Nat.le_of_eq hg.symm)) hb); have n1_ := Aside0.mk (below_step (tb_ HB.out) hb); have n2_ := Aside0.mk (hbox); have n3_ := Aside0.mk ((by rw [hg]; exact (below_size (tb_ HB.out)) : w.heap.size ≤ gb210)); have n4_ := Aside0.mk ((by rw [hg]; exact (below_size (tb_ HB.out)) : w.heap.size ≤ gb210)); clear HO_4 HB; have HO_4 := n0_; have HB := n1_; have BK210 := n2_; have GW210 := n3_; have GE210 := n4_; clear n0_ n1_ n2_ n3_ n4_ hb hbox hg; have hcz20_0 : w19.cell? ⟨gb210, 0, none⟩ = some (.int .i64 0) := (blk_cell BK210.out 0).trans rfl; have hcz20_1 : w19.cell? ⟨gb210, 1, none⟩ = some (.int .i64 0) := (blk_cell BK210.out 1).trans rfl; have hcz20_2 : w19.cell? ⟨gb210, 2, none⟩ = some (.int .i64 0) := (blk_cell BK210.out 2).trans rfl; have hfz20_0 := blk_frozen BK210.out 0; have hfz20_1 := blk_frozen BK210.out 1; have hfz20_2 := blk_frozen BK210.out 2))
      go_ret2
      exact ⟨_, by first | rfl | (simp [errW_none, errW_some, Option.map_none, Option.map_some] <;> rfl) | (simp [*, errW_none, errW_some] <;> rfl), by refine qR_ ?_; exact Kd.R_mono (Kd.R_far (p := ⟨gb210, 2, none⟩) (Kd.R_far (p := ⟨gb210, 1, none⟩) (Kd.R_far (p := ⟨gb210, 0, none⟩) (Kd.R_mono HO_4.out (fun k_ hk => (⟨hk, hk.2⟩ : _ ∧ k_ ≠ gb210))) (fun _ hk => hk.2) (.int .i64 t206)) (fun _ hk => hk.2) (.int .i64 t207)) (fun _ hk => hk.2) (.int .i64 t208)) (fun _ hk => trivial), (tb_ HB.out)⟩
    ·
     rw [if_neg c5] at H
     exact absurd H (by simp)
   ·
    rw [if_neg c4] at H
    exact absurd H (by simp)

/-! ### laws_heldDeedS: function 44 -/
def laws_heldDeedS.l0 : Nat → List (S30) → Int → Int → Option (Int)
 | 0, _, _, _ => none
 | k + 1, x0, x1, x5 => if x5 < (x0.length : Int) then (if 0 ≤ x5 then (if ((rd_T30 x0 x5).f0) = x1 then (if ((rd_T30 x0 x5).f1) = (wrap64 (x1 + 1)) then (if ((rd_T30 x0 x5).f2) = (wrap64 ((wrap64 (x1 + 1)) + 1)) then (laws_heldDeedS.l0 k x0 (wrap64 ((wrap64 ((wrap64 (x1 + 1)) + 1)) + 1)) (wrap64 (x5 + 1))) else (some (-1))) else (some (-1))) else (some (-1))) else (none)) else (some x1)
def laws_heldDeedS.f (k : Nat) (l0 : List (S30)) (a1 : Int) : Option (Int) := laws_heldDeedS.l0 k l0 a1 0
theorem laws_heldDeedS.mono_l : ∀ k, (∀ y0 y1 y2, LeO (laws_heldDeedS.l0 k y0 y1 y2) (laws_heldDeedS.l0 (k + 1) y0 y1 y2))
 | 0 => fun _ _ _ r h => by simp [laws_heldDeedS.l0] at h
 | k + 1 => by
  have ih0 := laws_heldDeedS.mono_l k
  ·
   intro y0 y1 y2
   unfold laws_heldDeedS.l0
   repeat' first
   | (with_reducible exact ih0 _ _ _)
   | (with_reducible exact LeO.refl _)
   | (with_reducible exact LeO.none _)
   | (with_reducible refine LeO.ite ?_ ?_)
   | (with_reducible refine LeO.bind ?_ (fun _ => ?_))
   | exact ih0 _ _ _
   | exact LeO.none _
   | refine LeO.ite ?_ ?_
   | refine LeO.bind ?_ (fun _ => ?_)
theorem laws_heldDeedS.mono : ∀ a0 a1 k, LeO (laws_heldDeedS.f k a0 a1) (laws_heldDeedS.f (k + 1) a0 a1) := by
 intro a0 a1 k
 have ih0 := laws_heldDeedS.mono_l k
 unfold laws_heldDeedS.f
 repeat' first
   | (with_reducible exact ih0 _ _ _)
   | (with_reducible exact LeO.refl _)
   | (with_reducible exact LeO.none _)
   | (with_reducible refine LeO.ite ?_ ?_)
   | (with_reducible refine LeO.bind ?_ (fun _ => ?_))
   | exact ih0 _ _ _
   | exact LeO.none _
   | refine LeO.ite ?_ ?_
   | refine LeO.bind ?_ (fun _ => ?_)
set_option maxHeartbeats 8000000 in
set_option maxRecDepth 100000 in
theorem laws_heldDeedS.calls (k : Nat) (A0 : Option Addr) (c0 : Nat) (l0 : List (S30)) (a1 : Int) (r : Int) (w : World) (hr0 : Kd.C k30 w A0 l0.length l0) (hc0 : l0.length ≤ c0) (h : laws_heldDeedS.f k l0 a1 = some r) :
  Calls Tryd.prog 44 #[.slice A0 l0.length c0, .int .i64 a1] w fun e w' => e = .returned (.int .i64 r) ∧ Drawn0 w w' := by
 have HR0 := Aside0.mk hr0
 have HC0 := Aside0.mk hc0
 clear hr0 hc0
 have H : (laws_heldDeedS.l0 k l0 a1 0) = some r := h
 clear h
 have H' := Aside0.mk H
 clear H
 go_enter Tryd.func44, Tryd.ntmps44
 go_wp2
 go_loopg [1, 5] k (fun kq v1 v5 w' => ∃ (x1_1 : Int) (x5_1 : Int), v1 = .int .i64 x1_1 ∧ v5 = .int .i64 x5_1 ∧ Aside0 (laws_heldDeedS.l0 kq l0 x1_1 x5_1 = some r) ∧ Aside0 (kq ≤ k) ∧ Drawn0 w w')
 case atStart => exact ⟨(a1), (0), tx_, tx_, H', ⟨Nat.le_refl _⟩, by repeat (first | exact Drawn0.refl _ | apply Drawn0.step)⟩
 case round =>
  clear H'
  try clear p2
  obtain ⟨x1_1, x5_1, rfl, rfl, HA, HK1, ⟨m1, rfl⟩⟩ := hrel
  cases gk with
  | zero => exact absurd HA.out (by simp [laws_heldDeedS.l0])
  | succ k1 =>
   have H := HA.out
   clear HA
   simp only [laws_heldDeedS.l0] at H
   by_cases c3 : x5_1 < (l0.length : Int)
   ·
    rw [if_pos c3] at H
    have c3b0 : decide (x5_1 < (l0.length : Int)) = true := decide_eq_true c3
    clear c3
    by_cases c4 : 0 ≤ x5_1
    ·
     rw [if_pos c4] at H
     have c4b0 : decide (0 ≤ x5_1) = true := decide_eq_true c4
     clear c4
     by_cases c5 : ((rd_T30 l0 x5_1).f0) = x1_1
     ·
      rw [if_pos c5] at H
      have c5b0 : (((rd_T30 l0 x5_1).f0) == x1_1) = true := beq_iff_eq.mpr c5
      have c5b1 : (((rd_T30 l0 x5_1).f0) != x1_1) = false := bne_eq_false_iff_eq.mpr c5
      clear c5
      by_cases c6 : ((rd_T30 l0 x5_1).f1) = (wrap64 (x1_1 + 1))
      ·
       rw [if_pos c6] at H
       have c6b0 : (((rd_T30 l0 x5_1).f1) == (wrap64 (x1_1 + 1))) = true := beq_iff_eq.mpr c6
       have c6b1 : (((rd_T30 l0 x5_1).f1) != (wrap64 (x1_1 + 1))) = false := bne_eq_false_iff_eq.mpr c6
       clear c6
       by_cases c7 : ((rd_T30 l0 x5_1).f2) = (wrap64 ((wrap64 (x1_1 + 1)) + 1))
       ·
        rw [if_pos c7] at H
        have c7b0 : (((rd_T30 l0 x5_1).f2) == (wrap64 ((wrap64 (x1_1 + 1)) + 1))) = true := beq_iff_eq.mpr c7
        have c7b1 : (((rd_T30 l0 x5_1).f2) != (wrap64 ((wrap64 (x1_1 + 1)) + 1))) = false := bne_eq_false_iff_eq.mpr c7
        clear c7
        have H' := Aside0.mk H
        clear H
        have p214 : 0 ≤ (x5_1 : Int) := od_
        have q214 : x5_1 < (l0.length : Int) := od_
        obtain ⟨ad214, e214, hx214_0, hx214_1, hx214_2⟩ := at_T30 HR0.out x5_1 p214 q214
        cases e214
        replace p214 := eq_true p214
        replace q214 := eq_true q214
        have p215 : 0 ≤ (x5_1 : Int) := od_
        have q215 : x5_1 < (l0.length : Int) := od_
        obtain ⟨ad215, e215, hx215_0, hx215_1, hx215_2⟩ := at_T30 HR0.out x5_1 p215 q215
        obtain rfl : ad214 = ad215 := (by injection e215)
        replace p215 := eq_true p215
        replace q215 := eq_true q215
        have p216 : 0 ≤ (x5_1 : Int) := od_
        have q216 : x5_1 < (l0.length : Int) := od_
        obtain ⟨ad216, e216, hx216_0, hx216_1, hx216_2⟩ := at_T30 HR0.out x5_1 p216 q216
        obtain rfl : ad214 = ad216 := (by injection e216)
        replace p216 := eq_true p216
        replace q216 := eq_true q216
        go_wp2
        go_roundg k1
        case measure => have := HK1.out; omega
        case rel => exact ⟨(wrap64 ((wrap64 ((wrap64 (x1_1 + 1)) + 1)) + 1)), (wrap64 (x5_1 + 1)), tx_, tx_, H', ⟨by have := HK1.out; omega⟩, by repeat (first | exact Drawn0.refl _ | apply Drawn0.step)⟩
       ·
        rw [if_neg c7] at H
        have c7b0 : (((rd_T30 l0 x5_1).f2) == (wrap64 ((wrap64 (x1_1 + 1)) + 1))) = false := beq_eq_false_iff_ne.mpr c7
        have c7b1 : (((rd_T30 l0 x5_1).f2) != (wrap64 ((wrap64 (x1_1 + 1)) + 1))) = true := bne_iff_ne.mpr c7
        obtain rfl := Option.some.inj H
        have p214 : 0 ≤ (x5_1 : Int) := od_
        have q214 : x5_1 < (l0.length : Int) := od_
        obtain ⟨ad214, e214, hx214_0, hx214_1, hx214_2⟩ := at_T30 HR0.out x5_1 p214 q214
        cases e214
        replace p214 := eq_true p214
        replace q214 := eq_true q214
        have p215 : 0 ≤ (x5_1 : Int) := od_
        have q215 : x5_1 < (l0.length : Int) := od_
        obtain ⟨ad215, e215, hx215_0, hx215_1, hx215_2⟩ := at_T30 HR0.out x5_1 p215 q215
        obtain rfl : ad214 = ad215 := (by injection e215)
        replace p215 := eq_true p215
        replace q215 := eq_true q215
        have p216 : 0 ≤ (x5_1 : Int) := od_
        have q216 : x5_1 < (l0.length : Int) := od_
        obtain ⟨ad216, e216, hx216_0, hx216_1, hx216_2⟩ := at_T30 HR0.out x5_1 p216 q216
        obtain rfl : ad214 = ad216 := (by injection e216)
        replace p216 := eq_true p216
        replace q216 := eq_true q216
        go_wp2
        go_ret
        exact ⟨tx_, by repeat (first | exact Drawn0.refl _ | apply Drawn0.step)⟩
      ·
       rw [if_neg c6] at H
       have c6b0 : (((rd_T30 l0 x5_1).f1) == (wrap64 (x1_1 + 1))) = false := beq_eq_false_iff_ne.mpr c6
       have c6b1 : (((rd_T30 l0 x5_1).f1) != (wrap64 (x1_1 + 1))) = true := bne_iff_ne.mpr c6
       obtain rfl := Option.some.inj H
       have p214 : 0 ≤ (x5_1 : Int) := od_
       have q214 : x5_1 < (l0.length : Int) := od_
       obtain ⟨ad214, e214, hx214_0, hx214_1, hx214_2⟩ := at_T30 HR0.out x5_1 p214 q214
       cases e214
       replace p214 := eq_true p214
       replace q214 := eq_true q214
       have p215 : 0 ≤ (x5_1 : Int) := od_
       have q215 : x5_1 < (l0.length : Int) := od_
       obtain ⟨ad215, e215, hx215_0, hx215_1, hx215_2⟩ := at_T30 HR0.out x5_1 p215 q215
       obtain rfl : ad214 = ad215 := (by injection e215)
       replace p215 := eq_true p215
       replace q215 := eq_true q215
       go_wp2
       go_ret
       exact ⟨tx_, by repeat (first | exact Drawn0.refl _ | apply Drawn0.step)⟩
     ·
      rw [if_neg c5] at H
      have c5b0 : (((rd_T30 l0 x5_1).f0) == x1_1) = false := beq_eq_false_iff_ne.mpr c5
      have c5b1 : (((rd_T30 l0 x5_1).f0) != x1_1) = true := bne_iff_ne.mpr c5
      obtain rfl := Option.some.inj H
      have p214 : 0 ≤ (x5_1 : Int) := od_
      have q214 : x5_1 < (l0.length : Int) := od_
      obtain ⟨ad214, e214, hx214_0, hx214_1, hx214_2⟩ := at_T30 HR0.out x5_1 p214 q214
      cases e214
      replace p214 := eq_true p214
      replace q214 := eq_true q214
      go_wp2
      go_ret
      exact ⟨tx_, by repeat (first | exact Drawn0.refl _ | apply Drawn0.step)⟩
    ·
     rw [if_neg c4] at H
     exact absurd H (by simp)
   ·
    rw [if_neg c3] at H
    have c3b0 : decide (x5_1 < (l0.length : Int)) = false := decide_eq_false c3
    clear c3
    obtain rfl := Option.some.inj H
    go_wp2
    go_ret
    exact ⟨tx_, by repeat (first | exact Drawn0.refl _ | apply Drawn0.step)⟩

end Go.Proofs.YtlhiienanbpdlaaDoor.MFnExactReadJournal
