/- For the law FnReadPlace: walks of the functions that it reaches: each call returns what the plain function beside it tells. The conditions stand in each statement. -/
import Derived.Test.YtlhiienanbpdlaaDoorV
import Derived.Test.YtlhiienanbpdlaaDoorMFnReadPlacex0
import Derived.Test.YtlhiienanbpdlaaDoorMFnReadPlacex9
namespace Go.Proofs.YtlhiienanbpdlaaDoor.MFnReadPlace
open Go.RowKit Go.Proofs.YtlhiienanbpdlaaDoorW.PrintWords Go.Proofs.YtlhiienanbpdlaaDoorW.PrintLast Go.Proofs.YtlhiienanbpdlaaDoorW.PrintMore
attribute [local go_sem] max2_int min2_int max_two min_two max_three min_three max_four min_four   -- for this text's walks alone
set_option linter.unusedVariables false
set_option linter.unusedSimpArgs false

/-! ### impl_PlaceText: function 60 -/
def impl_PlaceText.l0 : Nat → List Int → List Int → Int → Int → List Int → Int → List Int → Option (ByteArray)
 | 0, _, _, _, _, _, _, _ => none
 | k + 1, x3, x11, x12, x13, x288000, x288001, x288002 => if x13 < x12 then (if 0 ≤ x13 then (if x13 < (x11.length : Int) then (if x3.length < 140737488355328 then (impl_PlaceText.l0 k (x3 ++ [(wrap64 (97 + (rd x11 x13))) % 256]) x11 x12 (wrap64 (x13 + 1)) x288000 x288001 x288002) else (none)) else (none)) else (none)) else (if (x3.length : Int) = 0 then (if x3.length < 140737488355328 then ((some (x3 ++ [46] : List Int)).bind fun y296 => ((impl_rowText.f k x288000).bind fun t299 => (if t299.size + 1 ≤ 9223372036854775807 then ((strconv_Itoa.f x288001).bind fun t300 => (if (t299 ++ (⟨#[32]⟩ : ByteArray)).size + t300.size ≤ 9223372036854775807 then (if ((t299 ++ (⟨#[32]⟩ : ByteArray)) ++ t300).size + 1 ≤ 9223372036854775807 then (if (((t299 ++ (⟨#[32]⟩ : ByteArray)) ++ t300) ++ (⟨#[32]⟩ : ByteArray)).size + (strOfNums y296).size ≤ 9223372036854775807 then (some ((((t299 ++ (⟨#[32]⟩ : ByteArray)) ++ t300) ++ (⟨#[32]⟩ : ByteArray)) ++ (strOfNums y296))) else (none)) else (none)) else (none))) else (none)))) else (none)) else ((impl_rowText.f k x288000).bind fun t301 => (if t301.size + 1 ≤ 9223372036854775807 then ((strconv_Itoa.f x288001).bind fun t302 => (if (t301 ++ (⟨#[32]⟩ : ByteArray)).size + t302.size ≤ 9223372036854775807 then (if ((t301 ++ (⟨#[32]⟩ : ByteArray)) ++ t302).size + 1 ≤ 9223372036854775807 then (if (((t301 ++ (⟨#[32]⟩ : ByteArray)) ++ t302) ++ (⟨#[32]⟩ : ByteArray)).size + (strOfNums x3).size ≤ 9223372036854775807 then (some ((((t301 ++ (⟨#[32]⟩ : ByteArray)) ++ t302) ++ (⟨#[32]⟩ : ByteArray)) ++ (strOfNums x3))) else (none)) else (none)) else (none))) else (none))))
def impl_PlaceText.f (k : Nat) (l0_0 : List Int) (a0_1 : Int) (l0_2 : List Int) : Option (ByteArray) := (impl_PlaceOk.f k l0_0 a0_1 l0_2).bind fun t288 => (if t288 = true then (impl_PlaceText.l0 k (([] : List Int)) l0_2 (l0_2.length : Int) 0 l0_0 a0_1 l0_2) else (some (⟨#[]⟩ : ByteArray)))
theorem impl_PlaceText.mono_l : ∀ k, (∀ y0 y1 y2 y3 y4 y5 y6, LeO (impl_PlaceText.l0 k y0 y1 y2 y3 y4 y5 y6) (impl_PlaceText.l0 (k + 1) y0 y1 y2 y3 y4 y5 y6))
 | 0 => fun _ _ _ _ _ _ _ r h => by simp [impl_PlaceText.l0] at h
 | k + 1 => by
  have ih0 := impl_PlaceText.mono_l k
  ·
   intro y0 y1 y2 y3 y4 y5 y6
   unfold impl_PlaceText.l0
   repeat' first
   | (with_reducible exact ih0 _ _ _ _ _ _ _)
   | (with_reducible exact impl_PlaceOk.mono _ _ _ _)
   | (with_reducible exact impl_rowText.mono _ _)
   | (with_reducible exact LeO.refl _)
   | (with_reducible exact LeO.none _)
   | (with_reducible refine LeO.ite ?_ ?_)
   | (with_reducible refine LeO.bind ?_ (fun _ => ?_))
   | exact ih0 _ _ _ _ _ _ _
   | exact impl_PlaceOk.mono _ _ _ _
   | exact impl_rowText.mono _ _
   | exact LeO.none _
   | refine LeO.ite ?_ ?_
   | refine LeO.bind ?_ (fun _ => ?_)
theorem impl_PlaceText.mono : ∀ a0 a1 a2 k, LeO (impl_PlaceText.f k a0 a1 a2) (impl_PlaceText.f (k + 1) a0 a1 a2) := by
 intro a0 a1 a2 k
 have ih0 := impl_PlaceText.mono_l k
 unfold impl_PlaceText.f
 repeat' first
   | (with_reducible exact ih0 _ _ _ _ _ _ _)
   | (with_reducible exact impl_PlaceOk.mono _ _ _ _)
   | (with_reducible exact impl_rowText.mono _ _)
   | (with_reducible exact LeO.refl _)
   | (with_reducible exact LeO.none _)
   | (with_reducible refine LeO.ite ?_ ?_)
   | (with_reducible refine LeO.bind ?_ (fun _ => ?_))
   | exact ih0 _ _ _ _ _ _ _
   | exact impl_PlaceOk.mono _ _ _ _
   | exact impl_rowText.mono _ _
   | exact LeO.none _
   | refine LeO.ite ?_ ?_
   | refine LeO.bind ?_ (fun _ => ?_)
def impl_PlaceText.T11 : Bool × List (List Nat × List Nat) := (true, [([], []), ([0], [0]), ([1], [1]), ([2], [2]), ([], []), ([4], [4]), ([5, 2], [5]), ([3, 6], [3, 6]), ([7], [7]), ([], []), ([9], [9]), ([8, 10], [8, 10]), ([11, 6, 0, 1, 2, 3, 4, 5, 6, 7, 8, 9, 10, 11], [11])])
def impl_PlaceText.B11 : List Nat := [0, 1, 3, 7, 0, 16, 55, 127, 255, 0, 512, 2047, 4095]
theorem impl_PlaceText.tab11 : rtab .any (opsOf Tryd.f60 11) = impl_PlaceText.T11 := by kernel_rfl
theorem impl_PlaceText.bits11 : waitsOk impl_PlaceText.T11.2 impl_PlaceText.B11 = true := by kernel_rfl
set_option maxHeartbeats 8000000 in
set_option maxRecDepth 100000 in
theorem impl_PlaceText.calls (k : Nat) (A0_0 : Option Addr) (c0_0 : Nat) (l0_0 : List Int) (a0_1 : Int) (A0_2 : Option Addr) (c0_2 : Nat) (l0_2 : List Int) (r : ByteArray) (w : World) (hr0_0 : Kd.C (Kd.int .i64) w A0_0 l0_0.length l0_0) (hc0_0 : l0_0.length ≤ c0_0) (hr0_2 : Kd.C (Kd.int .i64) w A0_2 l0_2.length l0_2) (hc0_2 : l0_2.length ≤ c0_2) (hG : GWb w) (h : impl_PlaceText.f k l0_0 a0_1 l0_2 = some r) :
  Calls Tryd.prog 60 #[.agg #[.slice A0_0 l0_0.length c0_0, .int .i64 a0_1, .slice A0_2 l0_2.length c0_2]] w fun e w' => e = .returned (.string r) ∧ Below w.heap.size w w' := by
 have HG := Aside0.mk hG
 clear hG
 have hu25 := Tryd.underlying25
 have HR0_0 := Aside0.mk hr0_0
 have HC0_0 := Aside0.mk hc0_0
 clear hr0_0 hc0_0
 have HR0_2 := Aside0.mk hr0_2
 have HC0_2 := Aside0.mk hc0_2
 clear hr0_2 hc0_2
 have HB := Aside0.mk (Below.refl w.heap.size w)
 have H : ((impl_PlaceOk.f k l0_0 a0_1 l0_2).bind fun t288 => (if t288 = true then (impl_PlaceText.l0 k (([] : List Int)) l0_2 (l0_2.length : Int) 0 l0_0 a0_1 l0_2) else (some (⟨#[]⟩ : ByteArray)))) = some r := h
 clear h
 replace H := Option.bind_eq_some_iff.mp H
 obtain ⟨t288, A20, H⟩ := H
 replace H : (if t288 = true then (impl_PlaceText.l0 k (([] : List Int)) l0_2 (l0_2.length : Int) 0 l0_0 a0_1 l0_2) else (some (⟨#[]⟩ : ByteArray))) = some r := H
 have A2 := Aside0.mk A20
 clear A20
 by_cases c3 : t288 = true
 ·
  subst c3
  have H1 : (impl_PlaceText.l0 k (([] : List Int)) l0_2 (l0_2.length : Int) 0 l0_0 a0_1 l0_2) = some r := by rw [if_pos rfl] at H; exact H
  clear H
  have H := H1
  clear H1
  obtain ⟨y289, hy289⟩ : ∃ y_ : List Int, y_ = (([] : List Int)) := ⟨_, rfl⟩
  replace H : (impl_PlaceText.l0 k y289 l0_2 (l0_2.length : Int) 0 l0_0 a0_1 l0_2) = some r := by first | (rw [hy289]; with_reducible exact H) | (have H2_ := (Option.bind_some _ _).symm.trans H; rw [hy289]; with_reducible exact H2_) | (have H2_ := (Option.bind_some _ _).symm.trans H; with_reducible exact H2_) | with_reducible exact H | (rw [hy289]; exact H) | exact H
  have Ny289 := Aside0.mk hy289
  clear hy289
  have H' := Aside0.mk H
  clear H
  go_enter Tryd.func60, Tryd.ntmps60
  go_wp2_with (first | ((with_reducible refine gate_dst (N := 1) rfl ?_); refine box_event ?hg (N := 1) ?hd (cs := #[.slice A0_0 l0_0.length c0_0, .int .i64 a0_1, .slice A0_2 l0_2.length c0_2]) (t := 25) ?hr ?_; (case hd => rfl); (case hg => rfl); (case hr => first | (go_simp; done) | (go_simp; rfl)); intro gb287 hg w4 hbox hb; have n0_ := Aside0.mk (below_step (tb_ HB.out) hb); have n1_ := Aside0.mk (hbox); have n2_ := Aside0.mk ((by rw [hg]; exact (below_size (tb_ HB.out)) : w.heap.size ≤ gb287)); have n3_ := Aside0.mk ((by rw [hg]; exact (below_size (tb_ HB.out)) : w.heap.size ≤ gb287)); clear HB; have HB := n0_; have BK287 := n1_; have GW287 := n2_; have GE287 := n3_; clear n0_ n1_ n2_ n3_ hb hbox hg; have hcz5_0 : w4.cell? ⟨gb287, 0, none⟩ = some (.slice A0_0 l0_0.length c0_0) := (blk_cell BK287.out 0).trans rfl; have hcz5_1 : w4.cell? ⟨gb287, 1, none⟩ = some (.int .i64 a0_1) := (blk_cell BK287.out 1).trans rfl; have hcz5_2 : w4.cell? ⟨gb287, 2, none⟩ = some (.slice A0_2 l0_2.length c0_2) := (blk_cell BK287.out 2).trans rfl; have hfz5_0 := blk_frozen BK287.out 0; have hfz5_1 := blk_frozen BK287.out 1; have hfz5_2 := blk_frozen BK287.out 2) | ((with_reducible refine gate_callee (f := 63) rfl ?_); refine goesL_ (some 7) rfl rfl Tryd.func63 (by kernel_rfl) rfl #[.agg #[.slice A0_0 l0_0.length c0_0, .int .i64 a0_1, .slice A0_2 l0_2.length c0_2]] rfl tz_ ?_; (with_reducible refine (impl_PlaceOk.calls k _ _ l0_0 a0_1 _ _ l0_2 true _ ?side1 ?side2 ?side3 ?side4 A2.out).mono ?_); (case side1 => exact tD_); (case side2 => exact HC0_0.out); (case side3 => exact tD_); (case side4 => exact HC0_2.out); rintro e w6 ⟨rfl, hb⟩; refine ⟨_, rfl, ?_⟩; have n0_ := Aside0.mk (blk_below (g := gb287) (o := .cells #[.slice A0_0 l0_0.length c0_0, .int .i64 a0_1, .slice A0_2 l0_2.length c0_2] 25 (0, 0)) (tk_ BK287.out) hb); have n1_ := Aside0.mk (below_step (tb_ HB.out) hb); clear BK287 HB; have BK287 := n0_; have HB := n1_; clear n0_ n1_; (try clear hb); (try clear hb2); (try clear hk); (try clear hi)) | ((with_reducible refine gate_dst (N := 9) rfl ?_); refine Kd.R_lit (Kd.int .u8) _ 5 ?hg (N := 9) ?hd (xs := ([] : List Int)) (inner := []) (ok := fun _ => True) (okp := fun _ => True) ?hr ?hp (fun _ hk => hk) trivial (Below.refl _ _) (Nat.le_refl _) (by simp) ?_; (case hd => rfl); (case hg => rfl); (case hr => first | (go_simp; done) | (go_simp; rfl)); (case hp => exact (Reps.none _ _)); intro v290 w7 ho8 hb hg_ hnew_; clear hg_ hnew_; (first | rw [← Ny289.out] at ho8 | (simp only [Int.reduceToNat] at ho8; rw [← Ny289.out] at ho8)); have n0_ := Aside0.mk (Kd.R_lower ho8 (below_size (tb_ HB.out))); have n1_ := Aside0.mk (blk_below (g := gb287) (o := .cells #[.slice A0_0 l0_0.length c0_0, .int .i64 a0_1, .slice A0_2 l0_2.length c0_2] 25 (0, 0)) (tk_ BK287.out) hb); have n2_ := Aside0.mk (below_step (tb_ HB.out) hb); clear BK287 HB; have HO291 := n0_; have BK287 := n1_; have HB := n2_; clear n0_ n1_ n2_ hb ho8; have hcz9_0 : w7.cell? ⟨gb287, 0, none⟩ = some (.slice A0_0 l0_0.length c0_0) := (blk_cell BK287.out 0).trans rfl; have hcz9_1 : w7.cell? ⟨gb287, 1, none⟩ = some (.int .i64 a0_1) := (blk_cell BK287.out 1).trans rfl; have hcz9_2 : w7.cell? ⟨gb287, 2, none⟩ = some (.slice A0_2 l0_2.length c0_2) := (blk_cell BK287.out 2).trans rfl; have hfz9_0 := blk_frozen BK287.out 0; have hfz9_1 := blk_frozen BK287.out 1; have hfz9_2 := blk_frozen BK287.out 2))
  go_loopg [3, 13] k (fun kq v3 v13 w' => ∃ (x3_1 : List Int) (x13_1 : Int), v13 = .int .i64 x13_1 ∧ Aside0 (impl_PlaceText.l0 kq x3_1 l0_2 (l0_2.length : Int) x13_1 l0_0 a0_1 l0_2 = some r) ∧ Aside0 (kq ≤ k) ∧ Aside0 (Kd.R (Kd.int .u8) 5 w' w.heap.size (fun _ => True) v3 x3_1) ∧ Aside0 (w'.heap[gb287]? = some (.cells #[(.slice A0_0 l0_0.length c0_0), .int .i64 a0_1, (.slice A0_2 l0_2.length c0_2)] 25 (0, 0))) ∧ Aside0 (Below w.heap.size w w'))
  case atStart => exact ⟨(y289), (0), tx_, H', ⟨Nat.le_refl _⟩, ⟨rR_ HO291.out⟩, ⟨tk_ BK287.out⟩, ⟨(tb_ HB.out)⟩⟩
  case round =>
   clear H'
   try clear p2
   try clear c3
   try clear c6
   try clear hcz5_0
   try clear hcz5_1
   try clear hcz5_2
   try clear hcz9_0
   try clear hcz9_1
   try clear hcz9_2
   try clear hfz5_0
   try clear hfz5_1
   try clear hfz5_2
   try clear hfz9_0
   try clear hfz9_1
   try clear hfz9_2
   obtain ⟨x3_1, x13_1, rfl, HA, HK1, HO_3, BK287, HB⟩ := hrel
   cases gk with
   | zero => exact absurd HA.out (by simp [impl_PlaceText.l0])
   | succ k1 =>
    have H := HA.out
    clear HA
    simp only [impl_PlaceText.l0] at H
    by_cases c10 : x13_1 < (l0_2.length : Int)
    ·
     rw [if_pos c10] at H
     have c10b0 : decide (x13_1 < (l0_2.length : Int)) = true := decide_eq_true c10
     clear c10
     by_cases c11 : 0 ≤ x13_1
     ·
      rw [if_pos c11] at H
      have c11b0 : decide (0 ≤ x13_1) = true := decide_eq_true c11
      clear c11
      by_cases c12 : x13_1 < (l0_2.length : Int)
      ·
       rw [if_pos c12] at H
       have c12b0 : decide (x13_1 < (l0_2.length : Int)) = true := decide_eq_true c12
       clear c12
       by_cases c13 : x3_1.length < 140737488355328
       ·
        rw [if_pos c13] at H
        have LMc13 := Aside0.mk c13
        clear c13
        obtain ⟨y293, hy293⟩ : ∃ y_ : List Int, y_ = (x3_1 ++ [(wrap64 (97 + (rd l0_2 x13_1))) % 256]) := ⟨_, rfl⟩
        replace H : (impl_PlaceText.l0 k1 y293 l0_2 (l0_2.length : Int) (wrap64 (x13_1 + 1)) l0_0 a0_1 l0_2) = some r := by first | (rw [hy293]; with_reducible exact H) | (have H2_ := (Option.bind_some _ _).symm.trans H; rw [hy293]; with_reducible exact H2_) | (have H2_ := (Option.bind_some _ _).symm.trans H; with_reducible exact H2_) | with_reducible exact H | (rw [hy293]; exact H) | exact H
        have Ny293 := Aside0.mk hy293
        clear hy293
        have H' := Aside0.mk H
        clear H
        have p292 : 0 ≤ (x13_1 : Int) := od_
        have q292 : x13_1 < (l0_2.length : Int) := od_
        obtain ⟨ad292, e292, hx292_0⟩ := Kd.at_int HR0_2.out x13_1 p292 q292
        cases e292
        replace hx292_0 := (HB.out.cell (World.block_lt_of_cell? w _ hx292_0)).trans hx292_0
        replace p292 := eq_true p292
        replace q292 := eq_true q292
        go_wp2_with (first | ((with_reducible refine gate_builtin (b := .append) (xs := #[.tmp 17, .tmp 21]) rfl ?_); at_builtin; refine Kd.R_append (Kd.int .u8) (w0 := w) w.heap.size rfl (.tmp 17) (.tmp 21) 22 5 (.int .u8 0) 1 rfl Tryd.underlying22 info5 rfl (by decide) (by omega) u3 x3_1 ((wrap64 (97 + (rd l0_2 x13_1))) % 256) [.int .u8 ((wrap64 (97 + (rd l0_2 x13_1))) % 256)] (fun _ => True) (fun _ => False) rfl rfl ?aP (fun _ hk => hk.elim) ?aF ?aO ?aB ?aS ?aL ?_; (case aP => exact rfl); (case aB => exact (tb_ HB.out)); (case aF => exact (fun _ _ => trivial)); (case aO => exact (rR_ HO_3.out)); (case aS => exact (below_size (tb_ HB.out))); (case aL => have := LMc13.out; omega); intro v294 w14 ho hb hg hat; rw [← Ny293.out] at ho; have n0_ := Aside0.mk (blk_grown (g := gb287) (o := .cells #[.slice A0_0 l0_0.length c0_0, .int .i64 a0_1, .slice (some ad292) l0_2.length c0_2] 25 (0, 0)) (tk_ BK287.out) hg (Kd.R_ne HO_3.out BK287.out (by decide))); have n1_ := Aside0.mk (hb); have n2_ := Aside0.mk (ho); clear BK287 HB HO_3; have BK287 := n0_; have HB := n1_; have HO295 := n2_; clear n0_ n1_ n2_ ho hb hg hat))
        go_roundg k1
        case measure => have := HK1.out; omega
        case rel => exact ⟨(y293), (wrap64 (x13_1 + 1)), tx_, H', ⟨by have := HK1.out; omega⟩, ⟨rR_ HO295.out⟩, ⟨tk_ BK287.out⟩, ⟨(tb_ HB.out)⟩⟩
       ·
        rw [if_neg c13] at H
        exact absurd H (by simp)
      ·
       rw [if_neg c12] at H
       exact absurd H (by simp)
     ·
      rw [if_neg c11] at H
      exact absurd H (by simp)
    ·
     rw [if_neg c10] at H
     have c10b0 : decide (x13_1 < (l0_2.length : Int)) = false := decide_eq_false c10
     clear c10
     by_cases c15 : (x3_1.length : Int) = 0
     ·
      rw [if_pos c15] at H
      have c15b0 : ((x3_1.length : Int) == 0) = true := beq_iff_eq.mpr c15
      have c15b1 : ((x3_1.length : Int) != 0) = false := bne_eq_false_iff_eq.mpr c15
      clear c15
      by_cases c16 : x3_1.length < 140737488355328
      ·
       rw [if_pos c16] at H
       have LMc16 := Aside0.mk c16
       clear c16
       obtain ⟨y296, hy296⟩ : ∃ y_ : List Int, y_ = (x3_1 ++ [46]) := ⟨_, rfl⟩
       replace H : ((impl_rowText.f k1 l0_0).bind fun t299 => (if t299.size + 1 ≤ 9223372036854775807 then ((strconv_Itoa.f a0_1).bind fun t300 => (if (t299 ++ (⟨#[32]⟩ : ByteArray)).size + t300.size ≤ 9223372036854775807 then (if ((t299 ++ (⟨#[32]⟩ : ByteArray)) ++ t300).size + 1 ≤ 9223372036854775807 then (if (((t299 ++ (⟨#[32]⟩ : ByteArray)) ++ t300) ++ (⟨#[32]⟩ : ByteArray)).size + (strOfNums y296).size ≤ 9223372036854775807 then (some ((((t299 ++ (⟨#[32]⟩ : ByteArray)) ++ t300) ++ (⟨#[32]⟩ : ByteArray)) ++ (strOfNums y296))) else (none)) else (none)) else (none))) else (none))) = some r := by first | (rw [hy296]; with_reducible exact H) | (have H2_ := (Option.bind_some _ _).symm.trans H; rw [hy296]; with_reducible exact H2_) | (have H2_ := (Option.bind_some _ _).symm.trans H; with_reducible exact H2_) | with_reducible exact H | (rw [hy296]; exact H) | exact H
       have Ny296 := Aside0.mk hy296
       clear hy296
       replace H := Option.bind_eq_some_iff.mp H
       obtain ⟨t299, A170, H⟩ := H
       replace H : (if t299.size + 1 ≤ 9223372036854775807 then ((strconv_Itoa.f a0_1).bind fun t300 => (if (t299 ++ (⟨#[32]⟩ : ByteArray)).size + t300.size ≤ 9223372036854775807 then (if ((t299 ++ (⟨#[32]⟩ : ByteArray)) ++ t300).size + 1 ≤ 9223372036854775807 then (if (((t299 ++ (⟨#[32]⟩ : ByteArray)) ++ t300) ++ (⟨#[32]⟩ : ByteArray)).size + (strOfNums y296).size ≤ 9223372036854775807 then (some ((((t299 ++ (⟨#[32]⟩ : ByteArray)) ++ t300) ++ (⟨#[32]⟩ : ByteArray)) ++ (strOfNums y296))) else (none)) else (none)) else (none))) else (none)) = some r := H
       have A17 := Aside0.mk A170
       clear A170
       by_cases c18 : t299.size + 1 ≤ 9223372036854775807
       ·
        rw [if_pos c18] at H
        have c18b0 := eq_true c18
        have c18b1 : decide (t299.size + 1 ≤ 9223372036854775807) = true := decide_eq_true c18
        try have c18b2 : (9223372036854775807 < t299.size + 1) = False := eq_false (Nat.not_lt.2 c18)
        replace H := Option.bind_eq_some_iff.mp H
        obtain ⟨t300, A190, H⟩ := H
        replace H : (if (t299 ++ (⟨#[32]⟩ : ByteArray)).size + t300.size ≤ 9223372036854775807 then (if ((t299 ++ (⟨#[32]⟩ : ByteArray)) ++ t300).size + 1 ≤ 9223372036854775807 then (if (((t299 ++ (⟨#[32]⟩ : ByteArray)) ++ t300) ++ (⟨#[32]⟩ : ByteArray)).size + (strOfNums y296).size ≤ 9223372036854775807 then (some ((((t299 ++ (⟨#[32]⟩ : ByteArray)) ++ t300) ++ (⟨#[32]⟩ : ByteArray)) ++ (strOfNums y296))) else (none)) else (none)) else (none)) = some r := H
        have A19 := Aside0.mk A190
        clear A190
        by_cases c20 : (t299 ++ (⟨#[32]⟩ : ByteArray)).size + t300.size ≤ 9223372036854775807
        ·
         rw [if_pos c20] at H
         have c20b0 := eq_true c20
         have c20b1 : decide ((t299 ++ (⟨#[32]⟩ : ByteArray)).size + t300.size ≤ 9223372036854775807) = true := decide_eq_true c20
         try have c20b2 : (9223372036854775807 < (t299 ++ (⟨#[32]⟩ : ByteArray)).size + t300.size) = False := eq_false (Nat.not_lt.2 c20)
         try have c20b3 : (9223372036854775807 < t299.size + 1 + t300.size) = False := eq_false (by have h := c20; simp only [ByteArray.size_append] at h; simp only [ByteArray.size] at h ⊢; simp at h ⊢; omega)
         by_cases c21 : ((t299 ++ (⟨#[32]⟩ : ByteArray)) ++ t300).size + 1 ≤ 9223372036854775807
         ·
          rw [if_pos c21] at H
          have c21b0 := eq_true c21
          have c21b1 : decide (((t299 ++ (⟨#[32]⟩ : ByteArray)) ++ t300).size + 1 ≤ 9223372036854775807) = true := decide_eq_true c21
          try have c21b2 : (9223372036854775807 < ((t299 ++ (⟨#[32]⟩ : ByteArray)) ++ t300).size + 1) = False := eq_false (Nat.not_lt.2 c21)
          try have c21b3 : (9223372036854775807 < t299.size + 1 + t300.size + 1) = False := eq_false (by have h := c21; simp only [ByteArray.size_append] at h; simp only [ByteArray.size] at h ⊢; simp at h ⊢; omega)
          by_cases c22 : (((t299 ++ (⟨#[32]⟩ : ByteArray)) ++ t300) ++ (⟨#[32]⟩ : ByteArray)).size + (strOfNums y296).size ≤ 9223372036854775807
          ·
           rw [if_pos c22] at H
           have c22b0 := eq_true c22
           have c22b1 : decide ((((t299 ++ (⟨#[32]⟩ : ByteArray)) ++ t300) ++ (⟨#[32]⟩ : ByteArray)).size + (strOfNums y296).size ≤ 9223372036854775807) = true := decide_eq_true c22
           try have c22b2 : (9223372036854775807 < (((t299 ++ (⟨#[32]⟩ : ByteArray)) ++ t300) ++ (⟨#[32]⟩ : ByteArray)).size + (strOfNums y296).size) = False := eq_false (Nat.not_lt.2 c22)
           try have c22b3 : (9223372036854775807 < t299.size + 1 + t300.size + 1 + (strOfNums y296).size) = False := eq_false (by have h := c22; simp only [ByteArray.size_append] at h; simp only [ByteArray.size] at h ⊢; simp at h ⊢; omega)
           obtain rfl := Option.some.inj H
           obtain ⟨Ao23, co23, eo23⟩ := Kd.R_slice HO_3.out
           subst eo23
           try go_wp2_with (first | ((with_reducible refine gate_builtin (b := .append) (xs := #[.tmp 27, .tmp 28]) rfl ?_); at_builtin; refine Kd.R_append (Kd.int .u8) (w0 := w) w.heap.size rfl (.tmp 27) (.tmp 28) 22 5 (.int .u8 0) 1 rfl Tryd.underlying22 info5 rfl (by decide) (by omega) (.slice Ao23 x3_1.length co23) x3_1 46 [.int .u8 46] (fun _ => True) (fun _ => False) rfl rfl ?aP (fun _ hk => hk.elim) ?aF ?aO ?aB ?aS ?aL ?_; (case aP => exact rfl); (case aB => exact (tb_ HB.out)); (case aF => exact (fun _ _ => trivial)); (case aO => exact (rR_ HO_3.out)); (case aS => exact (below_size (tb_ HB.out))); (case aL => have := LMc16.out; omega); intro v297 w24 ho hb hg hat; rw [← Ny296.out] at ho; have n0_ := Aside0.mk (blk_grown (g := gb287) (o := .cells #[.slice A0_0 l0_0.length c0_0, .int .i64 a0_1, .slice A0_2 l0_2.length c0_2] 25 (0, 0)) (tk_ BK287.out) hg (Kd.R_ne HO_3.out BK287.out (by decide))); have n1_ := Aside0.mk (hb); have n2_ := Aside0.mk (ho); clear BK287 HB HO_3; have BK287 := n0_; have HB := n1_; have HO298 := n2_; clear n0_ n1_ n2_ ho hb hg hat))
           have n0_ := Aside0.mk (Kd.R_drew HO298.out)
           have n1_ := Aside0.mk (blk_drew BK287.out)
           have n2_ := Aside0.mk (ld_ HB.out)
           clear HO298
           clear BK287
           clear HB
           have HO298 := n0_
           have BK287 := n1_
           have HB := n2_
           clear n0_ n1_ n2_
           refine start_ (n := 13) (S := fun w' => w'.cell? ⟨gb287, 0, none⟩ = some (.slice A0_0 l0_0.length c0_0) ∧ w'.cell? ⟨gb287, 1, none⟩ = some (.int .i64 a0_1) ∧ w'.cell? ⟨gb287, 2, none⟩ = some (.slice A0_2 l0_2.length c0_2) ∧ (convert 22 9 v297).run Tryd.prog w' = .ok (.string (strOfNums y296)) w') (ds := []) #[false, false, false, false, false, false, false, false, false, false, false, false, false] (by kernel_rfl) rfl rfl ⟨(blk_cell BK287.out 0).trans rfl, (blk_cell BK287.out 1).trans rfl, (blk_cell BK287.out 2).trans rfl, own_string (P := Tryd.prog) Tryd.underlying22 Tryd.underlying5 Tryd.underlying9 (Kd.own_of_R HO298.out)⟩ (fun hHeld => ?_); refine with_tabW impl_PlaceText.tab11 impl_PlaceText.bits11 (fun HT_ HW_ => ?_)
           generalize w24.drew = w25 at HO298 BK287 HB hHeld ⊢
           refine pure_ (i := 0) (N := some 30) (v := ?_) (a' := ?_) #[true, false, false, false, false, false, false, false, false, false, false, false, false] rfl rfl (any_of HT_.out (by kernel_rfl)) (fun _ _ _ h => h) (Or.inl ⟨by rfl, ?_⟩) ?_ ?_
           rotate_left
           ·
            intro w'
            go_simp
            first | with_reducible rfl | (rw [if_neg (by omega)]; done)
           rotate_left
           ·
            simp only [Act.put, sa_, sb_, sc_, i64_w, i32_w]
            rfl
           refine pure_ (i := 4) (N := some 34) (v := ?_) (a' := ?_) #[true, false, false, false, true, false, false, false, false, false, false, false, false] rfl rfl (any_of HT_.out (by kernel_rfl)) (fun _ _ _ h => h) (Or.inl ⟨by rfl, ?_⟩) ?_ ?_
           rotate_left
           ·
            intro w'
            go_simp
            first | with_reducible rfl | (rw [if_neg (by omega)]; done)
           rotate_left
           ·
            simp only [Act.put, sa_, sb_, sc_, i64_w, i32_w]
            rfl
           refine pure_ (i := 9) (N := some 39) (v := ?_) (a' := ?_) #[true, false, false, false, true, false, false, false, false, true, false, false, false] rfl rfl (any_of HT_.out (by kernel_rfl)) (fun _ _ _ h => h) (Or.inl ⟨by rfl, ?_⟩) ?_ ?_
           rotate_left
           ·
            intro w'
            go_simp
            first | with_reducible rfl | (rw [if_neg (by omega)]; done)
           rotate_left
           ·
            simp only [Act.put, sa_, sb_, sc_, i64_w, i32_w]
            rfl
           refine take_ (i := 1) (N := some 31) (v := ?_) (a' := ?_) #[true, true, false, false, true, false, false, false, false, true, false, false, false] rfl rfl (take_ofW HT_.out HW_.out (by kernel_rfl)) (fun _ _ _ h => h) (Or.inl ⟨by rfl, ?_⟩) hHeld ?_ ?_
           rotate_left
           ·
            rintro w' ⟨s0, s1, s2, s3⟩
            go_simp
            first | with_reducible rfl | (rw [if_neg (by omega)]; done)
           rotate_left
           ·
            simp only [Act.put, sa_, sb_, sc_, i64_w, i32_w]
            rfl
           refine take_ (i := 5) (N := some 35) (v := ?_) (a' := ?_) #[true, true, false, false, true, true, false, false, false, true, false, false, false] rfl rfl (take_ofW HT_.out HW_.out (by kernel_rfl)) (fun _ _ _ h => h) (Or.inl ⟨by rfl, ?_⟩) hHeld ?_ ?_
           rotate_left
           ·
            rintro w' ⟨s0, s1, s2, s3⟩
            go_simp
            first | with_reducible rfl | (rw [if_neg (by omega)]; done)
           rotate_left
           ·
            simp only [Act.put, sa_, sb_, sc_, i64_w, i32_w]
            rfl
           refine take_ (i := 10) (N := some 40) (v := ?_) (a' := ?_) #[true, true, false, false, true, true, false, false, false, true, true, false, false] rfl rfl (take_ofW HT_.out HW_.out (by kernel_rfl)) (fun _ _ _ h => h) (Or.inl ⟨by rfl, ?_⟩) hHeld ?_ ?_
           rotate_left
           ·
            rintro w' ⟨s0, s1, s2, s3⟩
            go_simp
            first | with_reducible rfl | (rw [if_neg (by omega)]; done)
           rotate_left
           ·
            simp only [Act.put, sa_, sb_, sc_, i64_w, i32_w]
            rfl
           refine one_ (i := 2) (N := some 32) #[true, true, true, false, true, true, false, false, false, true, true, false, false] rfl rfl (one_of HT_.out (by kernel_rfl)) (by decide) (fun K hK => ?_)
           refine goes_ Tryd.func109 (by kernel_rfl) rfl #[.slice A0_0 l0_0.length c0_0] (by rfl) rfl rfl tz_ ?_
           with_reducible refine (impl_rowText.calls k1 _ _ l0_0 t299 _ ?side1 ?side2 ?side3 A17.out).mono ?_
           (case side1 => exact tD_)
           (case side2 => exact HC0_0.out)
           (case side3 => exact GWb.below HG.out (tb_ HB.out))
           rintro e w26 ⟨rfl, hb⟩
           refine ⟨_, rfl, ?_⟩
           have n0_ := Aside0.mk (Kd.R_below (rR_ HO298.out) hb)
           have n1_ := Aside0.mk (blk_below (g := gb287) (o := .cells #[.slice A0_0 l0_0.length c0_0, .int .i64 a0_1, .slice A0_2 l0_2.length c0_2] 25 (0, 0)) (tk_ BK287.out) hb)
           have n2_ := Aside0.mk (below_step (tb_ HB.out) hb)
           clear HO298
           clear BK287
           clear HB
           have HO298 := n0_
           have BK287 := n1_
           have HB := n2_
           clear n0_ n1_ n2_
           (try clear hb)
           (try clear hb2)
           (try clear hk)
           (try clear hi)
           refine hK.out _ _ ⟨(blk_cell BK287.out 0).trans rfl, (blk_cell BK287.out 1).trans rfl, (blk_cell BK287.out 2).trans rfl, own_string (P := Tryd.prog) Tryd.underlying22 Tryd.underlying5 Tryd.underlying9 (Kd.own_of_R HO298.out)⟩ (fun hHeld => ?_)
           clear hK K
           refine norm_ (a' := ?_) ?_ ?_
           rotate_left
           ·
            show Act.put _ (some 32) _ = _
            simp only [Act.put, sa_, sb_, sc_, i64_w, i32_w]
            rfl
           refine pure_ (i := 3) (N := some 33) (v := ?_) (a' := ?_) #[true, true, true, true, true, true, false, false, false, true, true, false, false] rfl rfl (any_of HT_.out (by kernel_rfl)) (fun _ _ _ h => h) (Or.inl ⟨by rfl, ?_⟩) ?_ ?_
           rotate_left
           ·
            intro w'
            go_simp
            first | with_reducible rfl | (rw [if_neg (by omega)]; done)
           rotate_left
           ·
            simp only [Act.put, sa_, sb_, sc_, i64_w, i32_w]
            rfl
           refine one_ (i := 6) (N := some 36) #[true, true, true, true, true, true, true, false, false, true, true, false, false] rfl rfl (one_of HT_.out (by kernel_rfl)) (by decide) (fun K hK => ?_)
           refine goes_ Tryd.func98 (by kernel_rfl) rfl #[.int .i64 a0_1] (by rfl) rfl rfl tz_ ?_
           with_reducible refine (strconv_Itoa.calls a0_1 t300 _ ?side1 A19.out).mono ?_
           (case side1 => exact GWb.below HG.out (tb_ HB.out))
           rintro e w27 ⟨rfl, hb⟩
           refine ⟨_, rfl, ?_⟩
           have n0_ := Aside0.mk (Kd.R_below (rR_ HO298.out) hb)
           have n1_ := Aside0.mk (blk_below (g := gb287) (o := .cells #[.slice A0_0 l0_0.length c0_0, .int .i64 a0_1, .slice A0_2 l0_2.length c0_2] 25 (0, 0)) (tk_ BK287.out) hb)
           have n2_ := Aside0.mk (below_step (tb_ HB.out) hb)
           clear HO298
           clear BK287
           clear HB
           have HO298 := n0_
           have BK287 := n1_
           have HB := n2_
           clear n0_ n1_ n2_
           (try clear hb)
           (try clear hb2)
           (try clear hk)
           (try clear hi)
           refine hK.out _ _ ⟨(blk_cell BK287.out 0).trans rfl, (blk_cell BK287.out 1).trans rfl, (blk_cell BK287.out 2).trans rfl, own_string (P := Tryd.prog) Tryd.underlying22 Tryd.underlying5 Tryd.underlying9 (Kd.own_of_R HO298.out)⟩ (fun hHeld => ?_)
           clear hK K
           refine norm_ (a' := ?_) ?_ ?_
           rotate_left
           ·
            show Act.put _ (some 36) _ = _
            simp only [Act.put, sa_, sb_, sc_, i64_w, i32_w]
            rfl
           refine pure_ (i := 7) (N := some 37) (v := ?_) (a' := ?_) #[true, true, true, true, true, true, true, true, false, true, true, false, false] rfl rfl (any_of HT_.out (by kernel_rfl)) (fun _ _ _ h => h) (Or.inl ⟨by rfl, ?_⟩) ?_ ?_
           rotate_left
           ·
            intro w'
            go_simp
            first | with_reducible rfl | (rw [if_neg (by omega)]; done)
           rotate_left
           ·
            simp only [Act.put, sa_, sb_, sc_, i64_w, i32_w]
            rfl
           refine pure_ (i := 8) (N := some 38) (v := ?_) (a' := ?_) #[true, true, true, true, true, true, true, true, true, true, true, false, false] rfl rfl (any_of HT_.out (by kernel_rfl)) (fun _ _ _ h => h) (Or.inl ⟨by rfl, ?_⟩) ?_ ?_
           rotate_left
           ·
            intro w'
            go_simp
            first | with_reducible rfl | (rw [if_neg (by omega)]; done)
           rotate_left
           ·
            simp only [Act.put, sa_, sb_, sc_, i64_w, i32_w]
            rfl
           refine pure_ (i := 11) (N := some 41) (v := ?_) (a' := ?_) #[true, true, true, true, true, true, true, true, true, true, true, true, false] rfl rfl (any_of HT_.out (by kernel_rfl)) (fun _ _ _ h => h) (Or.inl ⟨by rfl, ?_⟩) ?_ ?_
           rotate_left
           ·
            intro w'
            go_simp
            first | with_reducible rfl | (rw [if_neg (by omega)]; done)
           rotate_left
           ·
            simp only [Act.put, sa_, sb_, sc_, i64_w, i32_w]
            rfl
           refine pure_ (i := 12) (N := some 2) (v := ?_) (a' := ?_) #[true, true, true, true, true, true, true, true, true, true, true, true, true] rfl rfl (any_of HT_.out (by kernel_rfl)) (fun _ _ _ h => h) (Or.inl ⟨by rfl, ?_⟩) ?_ ?_
           rotate_left
           ·
            intro w'
            go_simp
            first | with_reducible rfl | (rw [if_neg (by omega)]; done)
           rotate_left
           ·
            simp only [Act.put, sa_, sb_, sc_, i64_w, i32_w]
            rfl
           refine done_ (done_of HT_.out (by kernel_rfl)) ?_
           try go_wp2
           go_ret
           exact ⟨by first | rfl | (simp [errW_none, errW_some, Option.map_none, Option.map_some] <;> rfl) | (simp [*, errW_none, errW_some] <;> rfl), (tb_ HB.out)⟩
          ·
           rw [if_neg c22] at H
           exact absurd H (by simp)
         ·
          rw [if_neg c21] at H
          exact absurd H (by simp)
        ·
         rw [if_neg c20] at H
         exact absurd H (by simp)
       ·
        rw [if_neg c18] at H
        exact absurd H (by simp)
      ·
       rw [if_neg c16] at H
       exact absurd H (by simp)
     ·
      rw [if_neg c15] at H
      have c15b0 : ((x3_1.length : Int) == 0) = false := beq_eq_false_iff_ne.mpr c15
      have c15b1 : ((x3_1.length : Int) != 0) = true := bne_iff_ne.mpr c15
      have c15b2 : ¬ (x3_1 = []) := fun h_ => c15 (by rw [h_]; rfl)
      replace H := Option.bind_eq_some_iff.mp H
      obtain ⟨t301, A290, H⟩ := H
      replace H : (if t301.size + 1 ≤ 9223372036854775807 then ((strconv_Itoa.f a0_1).bind fun t302 => (if (t301 ++ (⟨#[32]⟩ : ByteArray)).size + t302.size ≤ 9223372036854775807 then (if ((t301 ++ (⟨#[32]⟩ : ByteArray)) ++ t302).size + 1 ≤ 9223372036854775807 then (if (((t301 ++ (⟨#[32]⟩ : ByteArray)) ++ t302) ++ (⟨#[32]⟩ : ByteArray)).size + (strOfNums x3_1).size ≤ 9223372036854775807 then (some ((((t301 ++ (⟨#[32]⟩ : ByteArray)) ++ t302) ++ (⟨#[32]⟩ : ByteArray)) ++ (strOfNums x3_1))) else (none)) else (none)) else (none))) else (none)) = some r := H
      have A29 := Aside0.mk A290
      clear A290
      by_cases c30 : t301.size + 1 ≤ 9223372036854775807
      ·
       rw [if_pos c30] at H
       have c30b0 := eq_true c30
       have c30b1 : decide (t301.size + 1 ≤ 9223372036854775807) = true := decide_eq_true c30
       try have c30b2 : (9223372036854775807 < t301.size + 1) = False := eq_false (Nat.not_lt.2 c30)
       replace H := Option.bind_eq_some_iff.mp H
       obtain ⟨t302, A310, H⟩ := H
       replace H : (if (t301 ++ (⟨#[32]⟩ : ByteArray)).size + t302.size ≤ 9223372036854775807 then (if ((t301 ++ (⟨#[32]⟩ : ByteArray)) ++ t302).size + 1 ≤ 9223372036854775807 then (if (((t301 ++ (⟨#[32]⟩ : ByteArray)) ++ t302) ++ (⟨#[32]⟩ : ByteArray)).size + (strOfNums x3_1).size ≤ 9223372036854775807 then (some ((((t301 ++ (⟨#[32]⟩ : ByteArray)) ++ t302) ++ (⟨#[32]⟩ : ByteArray)) ++ (strOfNums x3_1))) else (none)) else (none)) else (none)) = some r := H
       have A31 := Aside0.mk A310
       clear A310
       by_cases c32 : (t301 ++ (⟨#[32]⟩ : ByteArray)).size + t302.size ≤ 9223372036854775807
       ·
        rw [if_pos c32] at H
        have c32b0 := eq_true c32
        have c32b1 : decide ((t301 ++ (⟨#[32]⟩ : ByteArray)).size + t302.size ≤ 9223372036854775807) = true := decide_eq_true c32
        try have c32b2 : (9223372036854775807 < (t301 ++ (⟨#[32]⟩ : ByteArray)).size + t302.size) = False := eq_false (Nat.not_lt.2 c32)
        try have c32b3 : (9223372036854775807 < t301.size + 1 + t302.size) = False := eq_false (by have h := c32; simp only [ByteArray.size_append] at h; simp only [ByteArray.size] at h ⊢; simp at h ⊢; omega)
        by_cases c33 : ((t301 ++ (⟨#[32]⟩ : ByteArray)) ++ t302).size + 1 ≤ 9223372036854775807
        ·
         rw [if_pos c33] at H
         have c33b0 := eq_true c33
         have c33b1 : decide (((t301 ++ (⟨#[32]⟩ : ByteArray)) ++ t302).size + 1 ≤ 9223372036854775807) = true := decide_eq_true c33
         try have c33b2 : (9223372036854775807 < ((t301 ++ (⟨#[32]⟩ : ByteArray)) ++ t302).size + 1) = False := eq_false (Nat.not_lt.2 c33)
         try have c33b3 : (9223372036854775807 < t301.size + 1 + t302.size + 1) = False := eq_false (by have h := c33; simp only [ByteArray.size_append] at h; simp only [ByteArray.size] at h ⊢; simp at h ⊢; omega)
         by_cases c34 : (((t301 ++ (⟨#[32]⟩ : ByteArray)) ++ t302) ++ (⟨#[32]⟩ : ByteArray)).size + (strOfNums x3_1).size ≤ 9223372036854775807
         ·
          rw [if_pos c34] at H
          have c34b0 := eq_true c34
          have c34b1 : decide ((((t301 ++ (⟨#[32]⟩ : ByteArray)) ++ t302) ++ (⟨#[32]⟩ : ByteArray)).size + (strOfNums x3_1).size ≤ 9223372036854775807) = true := decide_eq_true c34
          try have c34b2 : (9223372036854775807 < (((t301 ++ (⟨#[32]⟩ : ByteArray)) ++ t302) ++ (⟨#[32]⟩ : ByteArray)).size + (strOfNums x3_1).size) = False := eq_false (Nat.not_lt.2 c34)
          try have c34b3 : (9223372036854775807 < t301.size + 1 + t302.size + 1 + (strOfNums x3_1).size) = False := eq_false (by have h := c34; simp only [ByteArray.size_append] at h; simp only [ByteArray.size] at h ⊢; simp at h ⊢; omega)
          obtain rfl := Option.some.inj H
          obtain ⟨Ao35, co35, eo35⟩ := Kd.R_slice HO_3.out
          subst eo35
          try go_wp2
          have n0_ := Aside0.mk (Kd.R_drew HO_3.out)
          have n1_ := Aside0.mk (blk_drew BK287.out)
          have n2_ := Aside0.mk (ld_ HB.out)
          clear HO_3
          clear BK287
          clear HB
          have HO_3 := n0_
          have BK287 := n1_
          have HB := n2_
          clear n0_ n1_ n2_
          refine start_ (n := 13) (S := fun w' => w'.cell? ⟨gb287, 0, none⟩ = some (.slice A0_0 l0_0.length c0_0) ∧ w'.cell? ⟨gb287, 1, none⟩ = some (.int .i64 a0_1) ∧ w'.cell? ⟨gb287, 2, none⟩ = some (.slice A0_2 l0_2.length c0_2) ∧ (convert 22 9 (.slice Ao35 x3_1.length co35)).run Tryd.prog w' = .ok (.string (strOfNums x3_1)) w') (ds := []) #[false, false, false, false, false, false, false, false, false, false, false, false, false] (by kernel_rfl) rfl rfl ⟨(blk_cell BK287.out 0).trans rfl, (blk_cell BK287.out 1).trans rfl, (blk_cell BK287.out 2).trans rfl, own_string (P := Tryd.prog) Tryd.underlying22 Tryd.underlying5 Tryd.underlying9 (Kd.own_of_R HO_3.out)⟩ (fun hHeld => ?_); refine with_tabW impl_PlaceText.tab11 impl_PlaceText.bits11 (fun HT_ HW_ => ?_)
          generalize wr.drew = w36 at HO_3 BK287 HB hHeld ⊢
          refine pure_ (i := 0) (N := some 30) (v := ?_) (a' := ?_) #[true, false, false, false, false, false, false, false, false, false, false, false, false] rfl rfl (any_of HT_.out (by kernel_rfl)) (fun _ _ _ h => h) (Or.inl ⟨by rfl, ?_⟩) ?_ ?_
          rotate_left
          ·
           intro w'
           go_simp
           first | with_reducible rfl | (rw [if_neg (by omega)]; done)
          rotate_left
          ·
           simp only [Act.put, sa_, sb_, sc_, i64_w, i32_w]
           rfl
          refine pure_ (i := 4) (N := some 34) (v := ?_) (a' := ?_) #[true, false, false, false, true, false, false, false, false, false, false, false, false] rfl rfl (any_of HT_.out (by kernel_rfl)) (fun _ _ _ h => h) (Or.inl ⟨by rfl, ?_⟩) ?_ ?_
          rotate_left
          ·
           intro w'
           go_simp
           first | with_reducible rfl | (rw [if_neg (by omega)]; done)
          rotate_left
          ·
           simp only [Act.put, sa_, sb_, sc_, i64_w, i32_w]
           rfl
          refine pure_ (i := 9) (N := some 39) (v := ?_) (a' := ?_) #[true, false, false, false, true, false, false, false, false, true, false, false, false] rfl rfl (any_of HT_.out (by kernel_rfl)) (fun _ _ _ h => h) (Or.inl ⟨by rfl, ?_⟩) ?_ ?_
          rotate_left
          ·
           intro w'
           go_simp
           first | with_reducible rfl | (rw [if_neg (by omega)]; done)
          rotate_left
          ·
           simp only [Act.put, sa_, sb_, sc_, i64_w, i32_w]
           rfl
          refine take_ (i := 1) (N := some 31) (v := ?_) (a' := ?_) #[true, true, false, false, true, false, false, false, false, true, false, false, false] rfl rfl (take_ofW HT_.out HW_.out (by kernel_rfl)) (fun _ _ _ h => h) (Or.inl ⟨by rfl, ?_⟩) hHeld ?_ ?_
          rotate_left
          ·
           rintro w' ⟨s0, s1, s2, s3⟩
           go_simp
           first | with_reducible rfl | (rw [if_neg (by omega)]; done)
          rotate_left
          ·
           simp only [Act.put, sa_, sb_, sc_, i64_w, i32_w]
           rfl
          refine take_ (i := 5) (N := some 35) (v := ?_) (a' := ?_) #[true, true, false, false, true, true, false, false, false, true, false, false, false] rfl rfl (take_ofW HT_.out HW_.out (by kernel_rfl)) (fun _ _ _ h => h) (Or.inl ⟨by rfl, ?_⟩) hHeld ?_ ?_
          rotate_left
          ·
           rintro w' ⟨s0, s1, s2, s3⟩
           go_simp
           first | with_reducible rfl | (rw [if_neg (by omega)]; done)
          rotate_left
          ·
           simp only [Act.put, sa_, sb_, sc_, i64_w, i32_w]
           rfl
          refine take_ (i := 10) (N := some 40) (v := ?_) (a' := ?_) #[true, true, false, false, true, true, false, false, false, true, true, false, false] rfl rfl (take_ofW HT_.out HW_.out (by kernel_rfl)) (fun _ _ _ h => h) (Or.inl ⟨by rfl, ?_⟩) hHeld ?_ ?_
          rotate_left
          ·
           rintro w' ⟨s0, s1, s2, s3⟩
           go_simp
           first | with_reducible rfl | (rw [if_neg (by omega)]; done)
          rotate_left
          ·
           simp only [Act.put, sa_, sb_, sc_, i64_w, i32_w]
           rfl
          refine one_ (i := 2) (N := some 32) #[true, true, true, false, true, true, false, false, false, true, true, false, false] rfl rfl (one_of HT_.out (by kernel_rfl)) (by decide) (fun K hK => ?_)
          refine goes_ Tryd.func109 (by kernel_rfl) rfl #[.slice A0_0 l0_0.length c0_0] (by rfl) rfl rfl tz_ ?_
          with_reducible refine (impl_rowText.calls k1 _ _ l0_0 t301 _ ?side1 ?side2 ?side3 A29.out).mono ?_
          (case side1 => exact tD_)
          (case side2 => exact HC0_0.out)
          (case side3 => exact GWb.below HG.out (tb_ HB.out))
          rintro e w37 ⟨rfl, hb⟩
          refine ⟨_, rfl, ?_⟩
          have n0_ := Aside0.mk (Kd.R_below (rR_ HO_3.out) hb)
          have n1_ := Aside0.mk (blk_below (g := gb287) (o := .cells #[.slice A0_0 l0_0.length c0_0, .int .i64 a0_1, .slice A0_2 l0_2.length c0_2] 25 (0, 0)) (tk_ BK287.out) hb)
          have n2_ := Aside0.mk (below_step (tb_ HB.out) hb)
          clear HO_3
          clear BK287
          clear HB
          have HO_3 := n0_
          have BK287 := n1_
          have HB := n2_
          clear n0_ n1_ n2_
          (try clear hb)
          (try clear hb2)
          (try clear hk)
          (try clear hi)
          refine hK.out _ _ ⟨(blk_cell BK287.out 0).trans rfl, (blk_cell BK287.out 1).trans rfl, (blk_cell BK287.out 2).trans rfl, own_string (P := Tryd.prog) Tryd.underlying22 Tryd.underlying5 Tryd.underlying9 (Kd.own_of_R HO_3.out)⟩ (fun hHeld => ?_)
          clear hK K
          refine norm_ (a' := ?_) ?_ ?_
          rotate_left
          ·
           show Act.put _ (some 32) _ = _
           simp only [Act.put, sa_, sb_, sc_, i64_w, i32_w]
           rfl
          refine pure_ (i := 3) (N := some 33) (v := ?_) (a' := ?_) #[true, true, true, true, true, true, false, false, false, true, true, false, false] rfl rfl (any_of HT_.out (by kernel_rfl)) (fun _ _ _ h => h) (Or.inl ⟨by rfl, ?_⟩) ?_ ?_
          rotate_left
          ·
           intro w'
           go_simp
           first | with_reducible rfl | (rw [if_neg (by omega)]; done)
          rotate_left
          ·
           simp only [Act.put, sa_, sb_, sc_, i64_w, i32_w]
           rfl
          refine one_ (i := 6) (N := some 36) #[true, true, true, true, true, true, true, false, false, true, true, false, false] rfl rfl (one_of HT_.out (by kernel_rfl)) (by decide) (fun K hK => ?_)
          refine goes_ Tryd.func98 (by kernel_rfl) rfl #[.int .i64 a0_1] (by rfl) rfl rfl tz_ ?_
          with_reducible refine (strconv_Itoa.calls a0_1 t302 _ ?side1 A31.out).mono ?_
          (case side1 => exact GWb.below HG.out (tb_ HB.out))
          rintro e w38 ⟨rfl, hb⟩
          refine ⟨_, rfl, ?_⟩
          have n0_ := Aside0.mk (Kd.R_below (rR_ HO_3.out) hb)
          have n1_ := Aside0.mk (blk_below (g := gb287) (o := .cells #[.slice A0_0 l0_0.length c0_0, .int .i64 a0_1, .slice A0_2 l0_2.length c0_2] 25 (0, 0)) (tk_ BK287.out) hb)
          have n2_ := Aside0.mk (below_step (tb_ HB.out) hb)
          clear HO_3
          clear BK287
          clear HB
          have HO_3 := n0_
          have BK287 := n1_
          have HB := n2_
          clear n0_ n1_ n2_
          (try clear hb)
          (try clear hb2)
          (try clear hk)
          (try clear hi)
          refine hK.out _ _ ⟨(blk_cell BK287.out 0).trans rfl, (blk_cell BK287.out 1).trans rfl, (blk_cell BK287.out 2).trans rfl, own_string (P := Tryd.prog) Tryd.underlying22 Tryd.underlying5 Tryd.underlying9 (Kd.own_of_R HO_3.out)⟩ (fun hHeld => ?_)
          clear hK K
          refine norm_ (a' := ?_) ?_ ?_
          rotate_left
          ·
           show Act.put _ (some 36) _ = _
           simp only [Act.put, sa_, sb_, sc_, i64_w, i32_w]
           rfl
          refine pure_ (i := 7) (N := some 37) (v := ?_) (a' := ?_) #[true, true, true, true, true, true, true, true, false, true, true, false, false] rfl rfl (any_of HT_.out (by kernel_rfl)) (fun _ _ _ h => h) (Or.inl ⟨by rfl, ?_⟩) ?_ ?_
          rotate_left
          ·
           intro w'
           go_simp
           first | with_reducible rfl | (rw [if_neg (by omega)]; done)
          rotate_left
          ·
           simp only [Act.put, sa_, sb_, sc_, i64_w, i32_w]
           rfl
          refine pure_ (i := 8) (N := some 38) (v := ?_) (a' := ?_) #[true, true, true, true, true, true, true, true, true, true, true, false, false] rfl rfl (any_of HT_.out (by kernel_rfl)) (fun _ _ _ h => h) (Or.inl ⟨by rfl, ?_⟩) ?_ ?_
          rotate_left
          ·
           intro w'
           go_simp
           first | with_reducible rfl | (rw [if_neg (by omega)]; done)
          rotate_left
          ·
           simp only [Act.put, sa_, sb_, sc_, i64_w, i32_w]
           rfl
          refine pure_ (i := 11) (N := some 41) (v := ?_) (a' := ?_) #[true, true, true, true, true, true, true, true, true, true, true, true, false] rfl rfl (any_of HT_.out (by kernel_rfl)) (fun _ _ _ h => h) (Or.inl ⟨by rfl, ?_⟩) ?_ ?_
          rotate_left
          ·
           intro w'
           go_simp
           first | with_reducible rfl | (rw [if_neg (by omega)]; done)
          rotate_left
          ·
           simp only [Act.put, sa_, sb_, sc_, i64_w, i32_w]
           rfl
          refine pure_ (i := 12) (N := some 2) (v := ?_) (a' := ?_) #[true, true, true, true, true, true, true, true, true, true, true, true, true] rfl rfl (any_of HT_.out (by kernel_rfl)) (fun _ _ _ h => h) (Or.inl ⟨by rfl, ?_⟩) ?_ ?_
          rotate_left
          ·
           intro w'
           go_simp
           first | with_reducible rfl | (rw [if_neg (by omega)]; done)
          rotate_left
          ·
           simp only [Act.put, sa_, sb_, sc_, i64_w, i32_w]
           rfl
          refine done_ (done_of HT_.out (by kernel_rfl)) ?_
          try go_wp2
          go_ret
          exact ⟨by first | rfl | (simp [errW_none, errW_some, Option.map_none, Option.map_some] <;> rfl) | (simp [*, errW_none, errW_some] <;> rfl), (tb_ HB.out)⟩
         ·
          rw [if_neg c34] at H
          exact absurd H (by simp)
        ·
         rw [if_neg c33] at H
         exact absurd H (by simp)
       ·
        rw [if_neg c32] at H
        exact absurd H (by simp)
      ·
       rw [if_neg c30] at H
       exact absurd H (by simp)
 ·
  replace c3 := Bool.eq_false_iff.mpr c3
  subst c3
  have H1 : (some (⟨#[]⟩ : ByteArray)) = some r := by rw [if_neg (show ¬ (false = true) by decide)] at H; exact H
  clear H
  have H := H1
  clear H1
  obtain rfl := Option.some.inj H
  go_enter Tryd.func60, Tryd.ntmps60
  go_wp2_with (first | ((with_reducible refine gate_dst (N := 1) rfl ?_); refine box_event ?hg (N := 1) ?hd (cs := #[.slice A0_0 l0_0.length c0_0, .int .i64 a0_1, .slice A0_2 l0_2.length c0_2]) (t := 25) ?hr ?_; (case hd => rfl); (case hg => rfl); (case hr => first | (go_simp; done) | (go_simp; rfl)); intro gb287 hg w40 hbox hb; have n0_ := Aside0.mk (below_step (tb_ HB.out) hb); have n1_ := Aside0.mk (hbox); have n2_ := Aside0.mk ((by rw [hg]; exact (below_size (tb_ HB.out)) : w.heap.size ≤ gb287)); have n3_ := Aside0.mk ((by rw [hg]; exact (below_size (tb_ HB.out)) : w.heap.size ≤ gb287)); clear HB; have HB := n0_; have BK287 := n1_; have GW287 := n2_; have GE287 := n3_; clear n0_ n1_ n2_ n3_ hb hbox hg; have hcz41_0 : w40.cell? ⟨gb287, 0, none⟩ = some (.slice A0_0 l0_0.length c0_0) := (blk_cell BK287.out 0).trans rfl; have hcz41_1 : w40.cell? ⟨gb287, 1, none⟩ = some (.int .i64 a0_1) := (blk_cell BK287.out 1).trans rfl; have hcz41_2 : w40.cell? ⟨gb287, 2, none⟩ = some (.slice A0_2 l0_2.length c0_2) := (blk_cell BK287.out 2).trans rfl; have hfz41_0 := blk_frozen BK287.out 0; have hfz41_1 := blk_frozen BK287.out 1; have hfz41_2 := blk_frozen BK287.out 2) | ((with_reducible refine gate_callee (f := 63) rfl ?_); refine goesL_ (some 7) rfl rfl Tryd.func63 (by kernel_rfl) rfl #[.agg #[.slice A0_0 l0_0.length c0_0, .int .i64 a0_1, .slice A0_2 l0_2.length c0_2]] rfl tz_ ?_; (with_reducible refine (impl_PlaceOk.calls k _ _ l0_0 a0_1 _ _ l0_2 false _ ?side1 ?side2 ?side3 ?side4 A2.out).mono ?_); (case side1 => exact tD_); (case side2 => exact HC0_0.out); (case side3 => exact tD_); (case side4 => exact HC0_2.out); rintro e w42 ⟨rfl, hb⟩; refine ⟨_, rfl, ?_⟩; have n0_ := Aside0.mk (blk_below (g := gb287) (o := .cells #[.slice A0_0 l0_0.length c0_0, .int .i64 a0_1, .slice A0_2 l0_2.length c0_2] 25 (0, 0)) (tk_ BK287.out) hb); have n1_ := Aside0.mk (below_step (tb_ HB.out) hb); clear BK287 HB; have BK287 := n0_; have HB := n1_; clear n0_ n1_; (try clear hb); (try clear hb2); (try clear hk); (try clear hi)))
  go_ret
  exact ⟨by first | rfl | (simp [errW_none, errW_some, Option.map_none, Option.map_some] <;> rfl) | (simp [*, errW_none, errW_some] <;> rfl), (tb_ HB.out)⟩

/-! ### strings_Split: function 93 -/
def strings_Split.f (a0 : ByteArray) (a1 : ByteArray) : Option (List ByteArray) := if a0.size < 4294967281 ∧ 1 ≤ a1.size then some (Lib.splitB a1 0 (Lib.countB a0 a1) a0) else none
theorem strings_Split.calls (a0 : ByteArray) (a1 : ByteArray) (r : List ByteArray) (w : World) (hG : GWb w) (h : strings_Split.f a0 a1 = some r) :
  Calls Tryd.prog 93 #[.string a0, .string a1] w fun e w' => ∃ v0_ : Value, e = .returned (v0_) ∧ Kd.R Kd.string 9 w' w.heap.size (fun _ => True) v0_ r ∧ Below w.heap.size w w' := by
 unfold strings_Split.f at h
 split at h
 ·
  rename_i hb
  obtain rfl := Option.some.inj h
  refine (Sh.Tryd.strings_Split_shaped a0 a1 w hG.shape hb.1 hb.2).mono fun e w' ⟨he, hw⟩ => ?_
  have hl : (Lib.splitB a1 0 (Lib.countB a0 a1) a0).length = Lib.countB a0 a1 + 1 := Lib.splitB_all a1 hb.2 0 _ a0 rfl
  have hle := Lib.countB_le a1 hb.2 a0.size a0 (Nat.le_refl _)
  have ho := own_lit_of (enc := Value.string) w w.heap.size 9 (Lib.splitB a1 0 (Lib.countB a0 a1) a0) (Nat.le_refl _) (by rw [hl]; omega)
  refine ⟨_, he, ?_, ?_⟩
  ·
   rw [hw]
   rw [hl] at ho
   exact Kd.R_of_own (by rw [hl]; exact ho) (fun _ _ => trivial)
  ·
   rw [hw]
   exact (Below.refl _ _).alloc (Nat.le_refl _) _
 ·
  cases h

/-! ### strconv_Atoi: function 95 -/
def strconv_Atoi.f (a0 : ByteArray) : Option (Int × Option Int) := if a0.size ≤ 140737488355328 then some (match Lib.atoiAll a0.data.toList with | .ok v => (v, none) | Lib.NumEnd.syntax => (0, some 0) | .range => (Lib.atoiSat a0.data.toList, some 0)) else none
theorem strconv_Atoi.calls (a0 : ByteArray) (r1 : Int) (r2 : Option Int) (w : World) (hG : GWb w) (h : strconv_Atoi.f a0 = some (r1, r2)) :
  Calls Tryd.prog 95 #[.string a0] w fun e w' => ∃ N_ : Int, e = .returned (.tuple #[.int .i64 r1, errW (r2.map fun _ => N_)]) ∧ Below w.heap.size w w' := by
 unfold strconv_Atoi.f at h
 split at h
 ·
  rename_i hb
  rcases ha : Lib.atoiAll a0.data.toList with v | _ | _
  ·
   simp only [ha, Option.some.injEq, Prod.mk.injEq] at h
   obtain ⟨rfl, rfl⟩ := h
   exact (Sh.Tryd.strconv_Atoi_ok a0 (by omega) v ha w).mono fun e w' ⟨he, hw⟩ => ⟨0, he, atoi_below hw⟩
  ·
   simp only [ha, Option.some.injEq, Prod.mk.injEq] at h
   obtain ⟨rfl, rfl⟩ := h
   obtain ⟨t, p, hv⟩ := hG.esyn
   exact (Sh.Tryd.strconv_Atoi_syntax_var a0 (by omega) ha t p w hv).mono fun e w' ⟨N, he, _, _, hw⟩ => ⟨(N : Int), he, hw⟩
  ·
   simp only [ha, Option.some.injEq, Prod.mk.injEq] at h
   obtain ⟨rfl, rfl⟩ := h
   obtain ⟨t, p, hv⟩ := hG.erng
   exact (Sh.Tryd.strconv_Atoi_range_var a0 (by omega) ha t p w hv).mono fun e w' ⟨N, he, _, _, hw⟩ => ⟨(N : Int), he, hw⟩
 ·
  cases h

end Go.Proofs.YtlhiienanbpdlaaDoor.MFnReadPlace
