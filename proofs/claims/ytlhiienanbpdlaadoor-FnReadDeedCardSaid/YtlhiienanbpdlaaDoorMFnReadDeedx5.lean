/- For the law FnReadDeed: walks of the functions that it reaches: each call returns what the plain function beside it tells. The conditions stand in each statement. -/
import Derived.Test.YtlhiienanbpdlaaDoorV
import Derived.Test.YtlhiienanbpdlaaDoorMFnReadDeedx0
import Derived.Test.YtlhiienanbpdlaaDoorMFnReadDeedx4
namespace Go.Proofs.YtlhiienanbpdlaaDoor.MFnReadDeed
open Go.RowKit Go.Proofs.YtlhiienanbpdlaaDoorW.PrintWords Go.Proofs.YtlhiienanbpdlaaDoorW.PrintLast Go.Proofs.YtlhiienanbpdlaaDoorW.PrintMore
attribute [local go_sem] max2_int min2_int max_two min_two max_three min_three max_four min_four   -- for this text's walks alone
set_option linter.unusedVariables false
set_option linter.unusedSimpArgs false

/-! ### impl_DeedText: function 46 -/
def impl_DeedText.j0 : Nat → Bool → Int → Int → Int → Option (ByteArray)
 | 0, _, _, _, _ => none
 | k + 1, x21, x166000, x166001, x166002 => if x21 = true then (some (⟨#[]⟩ : ByteArray)) else ((strconv_Itoa.f x166001).bind fun t166 => (if 1 + t166.size ≤ 9223372036854775807 then (if x166000 = 0 then (if 3 + ((⟨#[32]⟩ : ByteArray) ++ t166).size ≤ 9223372036854775807 then (if ((⟨#[112, 117, 116]⟩ : ByteArray) ++ ((⟨#[32]⟩ : ByteArray) ++ t166)).size + 1 ≤ 9223372036854775807 then ((strconv_Itoa.f x166002).bind fun t167 => (if (((⟨#[112, 117, 116]⟩ : ByteArray) ++ ((⟨#[32]⟩ : ByteArray) ++ t166)) ++ (⟨#[32]⟩ : ByteArray)).size + t167.size ≤ 9223372036854775807 then (some ((((⟨#[112, 117, 116]⟩ : ByteArray) ++ ((⟨#[32]⟩ : ByteArray) ++ t166)) ++ (⟨#[32]⟩ : ByteArray)) ++ t167)) else (none))) else (none)) else (none)) else (if x166002 = 0 then (if x166000 = 1 then (if 4 + ((⟨#[32]⟩ : ByteArray) ++ t166).size ≤ 9223372036854775807 then (some ((⟨#[115, 116, 101, 112]⟩ : ByteArray) ++ ((⟨#[32]⟩ : ByteArray) ++ t166))) else (none)) else (if x166000 = 2 then (if 4 + ((⟨#[32]⟩ : ByteArray) ++ t166).size ≤ 9223372036854775807 then (some ((⟨#[100, 114, 97, 119]⟩ : ByteArray) ++ ((⟨#[32]⟩ : ByteArray) ++ t166))) else (none)) else (if x166001 = 0 then (if x166000 = 3 then (some (⟨#[97, 103, 97, 105, 110]⟩ : ByteArray)) else (if x166000 = 4 then (some (⟨#[98, 97, 99, 107]⟩ : ByteArray)) else (some (⟨#[]⟩ : ByteArray)))) else (some (⟨#[]⟩ : ByteArray))))) else (some (⟨#[]⟩ : ByteArray)))) else (none)))
def impl_DeedText.f (k : Nat) (a0_0 : Int) (a0_1 : Int) (a0_2 : Int) : Option (ByteArray) := if a0_1 < (-99) then (impl_DeedText.j0 k true a0_0 a0_1 a0_2) else (if a0_1 > 99 then (impl_DeedText.j0 k true a0_0 a0_1 a0_2) else (if a0_2 < (-99) then (impl_DeedText.j0 k true a0_0 a0_1 a0_2) else (impl_DeedText.j0 k (decide (a0_2 > 99)) a0_0 a0_1 a0_2)))
theorem impl_DeedText.mono_l : ∀ k, (∀ y0 y1 y2 y3, LeO (impl_DeedText.j0 k y0 y1 y2 y3) (impl_DeedText.j0 (k + 1) y0 y1 y2 y3))
 | 0 => fun _ _ _ _ r h => by simp [impl_DeedText.j0] at h
 | k + 1 => by
  have ih0 := impl_DeedText.mono_l k
  ·
   intro y0 y1 y2 y3
   unfold impl_DeedText.j0
   repeat' first
   | (with_reducible exact ih0 _ _ _ _)
   | (with_reducible exact LeO.refl _)
   | (with_reducible exact LeO.none _)
   | (with_reducible refine LeO.ite ?_ ?_)
   | (with_reducible refine LeO.bind ?_ (fun _ => ?_))
   | exact ih0 _ _ _ _
   | exact LeO.none _
   | refine LeO.ite ?_ ?_
   | refine LeO.bind ?_ (fun _ => ?_)
theorem impl_DeedText.mono : ∀ a0 a1 a2 k, LeO (impl_DeedText.f k a0 a1 a2) (impl_DeedText.f (k + 1) a0 a1 a2) := by
 intro a0 a1 a2 k
 have ih0 := impl_DeedText.mono_l k
 unfold impl_DeedText.f
 repeat' first
   | (with_reducible exact ih0 _ _ _ _)
   | (with_reducible exact LeO.refl _)
   | (with_reducible exact LeO.none _)
   | (with_reducible refine LeO.ite ?_ ?_)
   | (with_reducible refine LeO.bind ?_ (fun _ => ?_))
   | exact ih0 _ _ _ _
   | exact LeO.none _
   | refine LeO.ite ?_ ?_
   | refine LeO.bind ?_ (fun _ => ?_)
set_option maxHeartbeats 8000000 in
set_option maxRecDepth 100000 in
theorem impl_DeedText.calls (k : Nat) (a0_0 : Int) (a0_1 : Int) (a0_2 : Int) (r : ByteArray) (w : World) (hG : GWb w) (h : impl_DeedText.f k a0_0 a0_1 a0_2 = some r) :
  Calls Tryd.prog 46 #[.agg #[.int .i64 a0_0, .int .i64 a0_1, .int .i64 a0_2]] w fun e w' => e = .returned (.string r) ∧ Below w.heap.size w w' := by
 have HG := Aside0.mk hG
 clear hG
 have hu30 := Tryd.underlying30
 have HB := Aside0.mk (Below.refl w.heap.size w)
 have H : (if a0_1 < (-99) then (impl_DeedText.j0 k true a0_0 a0_1 a0_2) else (if a0_1 > 99 then (impl_DeedText.j0 k true a0_0 a0_1 a0_2) else (if a0_2 < (-99) then (impl_DeedText.j0 k true a0_0 a0_1 a0_2) else (impl_DeedText.j0 k (decide (a0_2 > 99)) a0_0 a0_1 a0_2)))) = some r := h
 clear h
 have HC2 := Aside0.mk H
 clear H
 go_enter Tryd.func46, Tryd.ntmps46
 go_upto_region 1 with (first | ((with_reducible refine gate_dst (N := 1) rfl ?_); refine box_event ?hg (N := 1) ?hd (cs := #[.int .i64 a0_0, .int .i64 a0_1, .int .i64 a0_2]) (t := 30) ?hr ?_; (case hd => rfl); (case hg => rfl); (case hr => first | (go_simp; done) | (go_simp; rfl)); intro gb165 hg w3 hbox hb; have n0_ := Aside0.mk (below_step (tb_ HB.out) hb); have n1_ := Aside0.mk (hbox); have n2_ := Aside0.mk ((by rw [hg]; exact (below_size (tb_ HB.out)) : w.heap.size ≤ gb165)); have n3_ := Aside0.mk ((by rw [hg]; exact (below_size (tb_ HB.out)) : w.heap.size ≤ gb165)); clear HB; have HB := n0_; have BK165 := n1_; have GW165 := n2_; have GE165 := n3_; clear n0_ n1_ n2_ n3_ hb hbox hg))
 (try simp only [Act.put, sa_, sb_, sc_])
 go_cut [21] (fun v21 wc => ∃ (kq : Nat) (x21_1 : Bool), v21 = .bool x21_1 ∧ Aside0 (impl_DeedText.j0 kq x21_1 a0_0 a0_1 a0_2 = some r) ∧ Aside0 (kq ≤ k) ∧ Aside0 (wc.heap[gb165]? = some (.cells #[.int .i64 a0_0, .int .i64 a0_1, .int .i64 a0_2] 30 (0, 0))) ∧ Aside0 (Below w.heap.size w wc))
 case first =>
  have H := HC2.out
  clear HC2
  by_cases c4 : a0_1 < (-99)
  ·
   rw [if_pos c4] at H
   have c4b0 : decide (a0_1 < (-99)) = true := decide_eq_true c4
   clear c4
   (first | rw [c4b0] | (simp only [i64_w, i32_w]; rw [c4b0]) | skip)
   have H' := Aside0.mk H
   clear H
   have hcz5_0 : w3.cell? ⟨gb165, 0, none⟩ = some (.int .i64 a0_0) := (blk_cell BK165.out 0).trans rfl
   have hcz5_1 : w3.cell? ⟨gb165, 1, none⟩ = some (.int .i64 a0_1) := (blk_cell BK165.out 1).trans rfl
   have hcz5_2 : w3.cell? ⟨gb165, 2, none⟩ = some (.int .i64 a0_2) := (blk_cell BK165.out 2).trans rfl
   have hfz5_0 := blk_frozen BK165.out 0
   have hfz5_1 := blk_frozen BK165.out 1
   have hfz5_2 := blk_frozen BK165.out 2
   go_wp2
   go_meet
   case rel => exact ⟨_, (true), tx_, H', ⟨by first | omega | exact Nat.le_refl _⟩, ⟨tk_ BK165.out⟩, ⟨(tb_ HB.out)⟩⟩
  ·
   rw [if_neg c4] at H
   have c4b0 : decide (a0_1 < (-99)) = false := decide_eq_false c4
   clear c4
   (first | rw [c4b0] | (simp only [i64_w, i32_w]; rw [c4b0]) | skip)
   by_cases c6 : a0_1 > 99
   ·
    rw [if_pos c6] at H
    have c6b0 : decide (99 < a0_1) = true := decide_eq_true c6
    clear c6
    have H' := Aside0.mk H
    clear H
    have hcz7_0 : w3.cell? ⟨gb165, 0, none⟩ = some (.int .i64 a0_0) := (blk_cell BK165.out 0).trans rfl
    have hcz7_1 : w3.cell? ⟨gb165, 1, none⟩ = some (.int .i64 a0_1) := (blk_cell BK165.out 1).trans rfl
    have hcz7_2 : w3.cell? ⟨gb165, 2, none⟩ = some (.int .i64 a0_2) := (blk_cell BK165.out 2).trans rfl
    have hfz7_0 := blk_frozen BK165.out 0
    have hfz7_1 := blk_frozen BK165.out 1
    have hfz7_2 := blk_frozen BK165.out 2
    go_wp2
    go_meet
    case rel => exact ⟨_, (true), tx_, H', ⟨by first | omega | exact Nat.le_refl _⟩, ⟨tk_ BK165.out⟩, ⟨(tb_ HB.out)⟩⟩
   ·
    rw [if_neg c6] at H
    have c6b0 : decide (99 < a0_1) = false := decide_eq_false c6
    clear c6
    by_cases c8 : a0_2 < (-99)
    ·
     rw [if_pos c8] at H
     have c8b0 : decide (a0_2 < (-99)) = true := decide_eq_true c8
     clear c8
     have H' := Aside0.mk H
     clear H
     have hcz9_0 : w3.cell? ⟨gb165, 0, none⟩ = some (.int .i64 a0_0) := (blk_cell BK165.out 0).trans rfl
     have hcz9_1 : w3.cell? ⟨gb165, 1, none⟩ = some (.int .i64 a0_1) := (blk_cell BK165.out 1).trans rfl
     have hcz9_2 : w3.cell? ⟨gb165, 2, none⟩ = some (.int .i64 a0_2) := (blk_cell BK165.out 2).trans rfl
     have hfz9_0 := blk_frozen BK165.out 0
     have hfz9_1 := blk_frozen BK165.out 1
     have hfz9_2 := blk_frozen BK165.out 2
     go_wp2
     go_meet
     case rel => exact ⟨_, (true), tx_, H', ⟨by first | omega | exact Nat.le_refl _⟩, ⟨tk_ BK165.out⟩, ⟨(tb_ HB.out)⟩⟩
    ·
     rw [if_neg c8] at H
     have c8b0 : decide (a0_2 < (-99)) = false := decide_eq_false c8
     clear c8
     have H' := Aside0.mk H
     clear H
     have hcz10_0 : w3.cell? ⟨gb165, 0, none⟩ = some (.int .i64 a0_0) := (blk_cell BK165.out 0).trans rfl
     have hcz10_1 : w3.cell? ⟨gb165, 1, none⟩ = some (.int .i64 a0_1) := (blk_cell BK165.out 1).trans rfl
     have hcz10_2 : w3.cell? ⟨gb165, 2, none⟩ = some (.int .i64 a0_2) := (blk_cell BK165.out 2).trans rfl
     have hfz10_0 := blk_frozen BK165.out 0
     have hfz10_1 := blk_frozen BK165.out 1
     have hfz10_2 := blk_frozen BK165.out 2
     go_wp2
     go_meet
     case rel => exact ⟨_, (decide (a0_2 > 99)), tx_, H', ⟨by first | omega | exact Nat.le_refl _⟩, ⟨tk_ BK165.out⟩, ⟨(tb_ HB.out)⟩⟩
 case rest =>
  clear HC2
  try clear p2
  try clear c4
  try clear c4b0
  try clear c6
  try clear c6b0
  try clear c8
  try clear c8b0
  try clear hcz10_0
  try clear hcz10_1
  try clear hcz10_2
  try clear hcz5_0
  try clear hcz5_1
  try clear hcz5_2
  try clear hcz7_0
  try clear hcz7_1
  try clear hcz7_2
  try clear hcz9_0
  try clear hcz9_1
  try clear hcz9_2
  try clear hfz10_0
  try clear hfz10_1
  try clear hfz10_2
  try clear hfz5_0
  try clear hfz5_1
  try clear hfz5_2
  try clear hfz7_0
  try clear hfz7_1
  try clear hfz7_2
  try clear hfz9_0
  try clear hfz9_1
  try clear hfz9_2
  obtain ⟨kq, x21_1, rfl, HA, HJ1, BK165, HB⟩ := hcut
  cases kq with
  | zero => exact absurd HA.out (by simp [impl_DeedText.j0])
  | succ kj1 =>
   have H := HA.out
   clear HA
   simp only [impl_DeedText.j0] at H
   by_cases c11 : x21_1 = true
   ·
    subst c11
    have H1 : (some (⟨#[]⟩ : ByteArray)) = some r := by rw [if_pos rfl] at H; exact H
    clear H
    have H := H1
    clear H1
    obtain rfl := Option.some.inj H
    go_wp2
    go_ret
    exact ⟨by first | rfl | (simp [errW_none, errW_some, Option.map_none, Option.map_some] <;> rfl) | (simp [*, errW_none, errW_some] <;> rfl), (tb_ HB.out)⟩
   ·
    replace c11 := Bool.eq_false_iff.mpr c11
    subst c11
    have H1 : ((strconv_Itoa.f a0_1).bind fun t166 => (if 1 + t166.size ≤ 9223372036854775807 then (if a0_0 = 0 then (if 3 + ((⟨#[32]⟩ : ByteArray) ++ t166).size ≤ 9223372036854775807 then (if ((⟨#[112, 117, 116]⟩ : ByteArray) ++ ((⟨#[32]⟩ : ByteArray) ++ t166)).size + 1 ≤ 9223372036854775807 then ((strconv_Itoa.f a0_2).bind fun t167 => (if (((⟨#[112, 117, 116]⟩ : ByteArray) ++ ((⟨#[32]⟩ : ByteArray) ++ t166)) ++ (⟨#[32]⟩ : ByteArray)).size + t167.size ≤ 9223372036854775807 then (some ((((⟨#[112, 117, 116]⟩ : ByteArray) ++ ((⟨#[32]⟩ : ByteArray) ++ t166)) ++ (⟨#[32]⟩ : ByteArray)) ++ t167)) else (none))) else (none)) else (none)) else (if a0_2 = 0 then (if a0_0 = 1 then (if 4 + ((⟨#[32]⟩ : ByteArray) ++ t166).size ≤ 9223372036854775807 then (some ((⟨#[115, 116, 101, 112]⟩ : ByteArray) ++ ((⟨#[32]⟩ : ByteArray) ++ t166))) else (none)) else (if a0_0 = 2 then (if 4 + ((⟨#[32]⟩ : ByteArray) ++ t166).size ≤ 9223372036854775807 then (some ((⟨#[100, 114, 97, 119]⟩ : ByteArray) ++ ((⟨#[32]⟩ : ByteArray) ++ t166))) else (none)) else (if a0_1 = 0 then (if a0_0 = 3 then (some (⟨#[97, 103, 97, 105, 110]⟩ : ByteArray)) else (if a0_0 = 4 then (some (⟨#[98, 97, 99, 107]⟩ : ByteArray)) else (some (⟨#[]⟩ : ByteArray)))) else (some (⟨#[]⟩ : ByteArray))))) else (some (⟨#[]⟩ : ByteArray)))) else (none))) = some r := by rw [if_neg (show ¬ (false = true) by decide)] at H; exact H
    clear H
    have H := H1
    clear H1
    replace H := Option.bind_eq_some_iff.mp H
    obtain ⟨t166, A120, H⟩ := H
    replace H : (if 1 + t166.size ≤ 9223372036854775807 then (if a0_0 = 0 then (if 3 + ((⟨#[32]⟩ : ByteArray) ++ t166).size ≤ 9223372036854775807 then (if ((⟨#[112, 117, 116]⟩ : ByteArray) ++ ((⟨#[32]⟩ : ByteArray) ++ t166)).size + 1 ≤ 9223372036854775807 then ((strconv_Itoa.f a0_2).bind fun t167 => (if (((⟨#[112, 117, 116]⟩ : ByteArray) ++ ((⟨#[32]⟩ : ByteArray) ++ t166)) ++ (⟨#[32]⟩ : ByteArray)).size + t167.size ≤ 9223372036854775807 then (some ((((⟨#[112, 117, 116]⟩ : ByteArray) ++ ((⟨#[32]⟩ : ByteArray) ++ t166)) ++ (⟨#[32]⟩ : ByteArray)) ++ t167)) else (none))) else (none)) else (none)) else (if a0_2 = 0 then (if a0_0 = 1 then (if 4 + ((⟨#[32]⟩ : ByteArray) ++ t166).size ≤ 9223372036854775807 then (some ((⟨#[115, 116, 101, 112]⟩ : ByteArray) ++ ((⟨#[32]⟩ : ByteArray) ++ t166))) else (none)) else (if a0_0 = 2 then (if 4 + ((⟨#[32]⟩ : ByteArray) ++ t166).size ≤ 9223372036854775807 then (some ((⟨#[100, 114, 97, 119]⟩ : ByteArray) ++ ((⟨#[32]⟩ : ByteArray) ++ t166))) else (none)) else (if a0_1 = 0 then (if a0_0 = 3 then (some (⟨#[97, 103, 97, 105, 110]⟩ : ByteArray)) else (if a0_0 = 4 then (some (⟨#[98, 97, 99, 107]⟩ : ByteArray)) else (some (⟨#[]⟩ : ByteArray)))) else (some (⟨#[]⟩ : ByteArray))))) else (some (⟨#[]⟩ : ByteArray)))) else (none)) = some r := H
    have A12 := Aside0.mk A120
    clear A120
    by_cases c13 : 1 + t166.size ≤ 9223372036854775807
    ·
     rw [if_pos c13] at H
     have c13b0 := eq_true c13
     have c13b1 : decide (1 + t166.size ≤ 9223372036854775807) = true := decide_eq_true c13
     try have c13b2 : (9223372036854775807 < 1 + t166.size) = False := eq_false (Nat.not_lt.2 c13)
     by_cases c14 : a0_0 = 0
     ·
      rw [if_pos c14] at H
      have c14b0 : (a0_0 == 0) = true := beq_iff_eq.mpr c14
      have c14b1 : (a0_0 != 0) = false := bne_eq_false_iff_eq.mpr c14
      clear c14
      by_cases c15 : 3 + ((⟨#[32]⟩ : ByteArray) ++ t166).size ≤ 9223372036854775807
      ·
       rw [if_pos c15] at H
       have c15b0 := eq_true c15
       have c15b1 : decide (3 + ((⟨#[32]⟩ : ByteArray) ++ t166).size ≤ 9223372036854775807) = true := decide_eq_true c15
       try have c15b2 : (9223372036854775807 < 3 + ((⟨#[32]⟩ : ByteArray) ++ t166).size) = False := eq_false (Nat.not_lt.2 c15)
       try have c15b3 : (9223372036854775807 < 3 + (1 + t166.size)) = False := eq_false (by have h := c15; simp only [ByteArray.size_append] at h; simp only [ByteArray.size] at h ⊢; simp at h ⊢; omega)
       by_cases c16 : ((⟨#[112, 117, 116]⟩ : ByteArray) ++ ((⟨#[32]⟩ : ByteArray) ++ t166)).size + 1 ≤ 9223372036854775807
       ·
        rw [if_pos c16] at H
        have c16b0 := eq_true c16
        have c16b1 : decide (((⟨#[112, 117, 116]⟩ : ByteArray) ++ ((⟨#[32]⟩ : ByteArray) ++ t166)).size + 1 ≤ 9223372036854775807) = true := decide_eq_true c16
        try have c16b2 : (9223372036854775807 < ((⟨#[112, 117, 116]⟩ : ByteArray) ++ ((⟨#[32]⟩ : ByteArray) ++ t166)).size + 1) = False := eq_false (Nat.not_lt.2 c16)
        try have c16b3 : (9223372036854775807 < 3 + (1 + t166.size) + 1) = False := eq_false (by have h := c16; simp only [ByteArray.size_append] at h; simp only [ByteArray.size] at h ⊢; simp at h ⊢; omega)
        replace H := Option.bind_eq_some_iff.mp H
        obtain ⟨t167, A170, H⟩ := H
        replace H : (if (((⟨#[112, 117, 116]⟩ : ByteArray) ++ ((⟨#[32]⟩ : ByteArray) ++ t166)) ++ (⟨#[32]⟩ : ByteArray)).size + t167.size ≤ 9223372036854775807 then (some ((((⟨#[112, 117, 116]⟩ : ByteArray) ++ ((⟨#[32]⟩ : ByteArray) ++ t166)) ++ (⟨#[32]⟩ : ByteArray)) ++ t167)) else (none)) = some r := H
        have A17 := Aside0.mk A170
        clear A170
        by_cases c18 : (((⟨#[112, 117, 116]⟩ : ByteArray) ++ ((⟨#[32]⟩ : ByteArray) ++ t166)) ++ (⟨#[32]⟩ : ByteArray)).size + t167.size ≤ 9223372036854775807
        ·
         rw [if_pos c18] at H
         have c18b0 := eq_true c18
         have c18b1 : decide ((((⟨#[112, 117, 116]⟩ : ByteArray) ++ ((⟨#[32]⟩ : ByteArray) ++ t166)) ++ (⟨#[32]⟩ : ByteArray)).size + t167.size ≤ 9223372036854775807) = true := decide_eq_true c18
         try have c18b2 : (9223372036854775807 < (((⟨#[112, 117, 116]⟩ : ByteArray) ++ ((⟨#[32]⟩ : ByteArray) ++ t166)) ++ (⟨#[32]⟩ : ByteArray)).size + t167.size) = False := eq_false (Nat.not_lt.2 c18)
         try have c18b3 : (9223372036854775807 < 3 + (1 + t166.size) + 1 + t167.size) = False := eq_false (by have h := c18; simp only [ByteArray.size_append] at h; simp only [ByteArray.size] at h ⊢; simp at h ⊢; omega)
         obtain rfl := Option.some.inj H
         have hcz19_0 : wc.cell? ⟨gb165, 0, none⟩ = some (.int .i64 a0_0) := (blk_cell BK165.out 0).trans rfl
         have hcz19_1 : wc.cell? ⟨gb165, 1, none⟩ = some (.int .i64 a0_1) := (blk_cell BK165.out 1).trans rfl
         have hcz19_2 : wc.cell? ⟨gb165, 2, none⟩ = some (.int .i64 a0_2) := (blk_cell BK165.out 2).trans rfl
         have hfz19_0 := blk_frozen BK165.out 0
         have hfz19_1 := blk_frozen BK165.out 1
         have hfz19_2 := blk_frozen BK165.out 2
         go_wp2_with (first | ((with_reducible refine gate_callee (f := 98) rfl ?_); refine goesL_ (some 24) rfl rfl Tryd.func98 (by kernel_rfl) rfl #[.int .i64 a0_1] rfl tz_ ?_; (with_reducible refine (strconv_Itoa.calls a0_1 t166 _ ?side1 A12.out).mono ?_); (case side1 => exact GWb.below HG.out (tb_ HB.out)); rintro e w20 ⟨rfl, hb⟩; refine ⟨_, rfl, ?_⟩; have n0_ := Aside0.mk (blk_below (g := gb165) (o := .cells #[.int .i64 a0_0, .int .i64 a0_1, .int .i64 a0_2] 30 (0, 0)) (tk_ BK165.out) hb); have n1_ := Aside0.mk (below_step (tb_ HB.out) hb); clear BK165 HB; have BK165 := n0_; have HB := n1_; clear n0_ n1_; (try clear hb); (try clear hb2); (try clear hk); (try clear hi); have hcz21_0 : w20.cell? ⟨gb165, 0, none⟩ = some (.int .i64 a0_0) := (blk_cell BK165.out 0).trans rfl; have hcz21_1 : w20.cell? ⟨gb165, 1, none⟩ = some (.int .i64 a0_1) := (blk_cell BK165.out 1).trans rfl; have hcz21_2 : w20.cell? ⟨gb165, 2, none⟩ = some (.int .i64 a0_2) := (blk_cell BK165.out 2).trans rfl; have hfz21_0 := blk_frozen BK165.out 0; have hfz21_1 := blk_frozen BK165.out 1; have hfz21_2 := blk_frozen BK165.out 2) | ((with_reducible refine gate_callee (f := 98) rfl ?_); refine goesL_ (some 35) rfl rfl Tryd.func98 (by kernel_rfl) rfl #[.int .i64 a0_2] rfl tz_ ?_; (with_reducible refine (strconv_Itoa.calls a0_2 t167 _ ?side1 A17.out).mono ?_); (case side1 => exact GWb.below HG.out (tb_ HB.out)); rintro e w22 ⟨rfl, hb⟩; refine ⟨_, rfl, ?_⟩; have n0_ := Aside0.mk (blk_below (g := gb165) (o := .cells #[.int .i64 a0_0, .int .i64 a0_1, .int .i64 a0_2] 30 (0, 0)) (tk_ BK165.out) hb); have n1_ := Aside0.mk (below_step (tb_ HB.out) hb); clear BK165 HB; have BK165 := n0_; have HB := n1_; clear n0_ n1_; (try clear hb); (try clear hb2); (try clear hk); (try clear hi)))
         go_ret
         exact ⟨by first | rfl | (simp [errW_none, errW_some, Option.map_none, Option.map_some] <;> rfl) | (simp [*, errW_none, errW_some] <;> rfl), (tb_ HB.out)⟩
        ·
         rw [if_neg c18] at H
         exact absurd H (by simp)
       ·
        rw [if_neg c16] at H
        exact absurd H (by simp)
      ·
       rw [if_neg c15] at H
       exact absurd H (by simp)
     ·
      rw [if_neg c14] at H
      have c14b0 : (a0_0 == 0) = false := beq_eq_false_iff_ne.mpr c14
      have c14b1 : (a0_0 != 0) = true := bne_iff_ne.mpr c14
      by_cases c23 : a0_2 = 0
      ·
       rw [if_pos c23] at H
       have c23b0 : (a0_2 == 0) = true := beq_iff_eq.mpr c23
       have c23b1 : (a0_2 != 0) = false := bne_eq_false_iff_eq.mpr c23
       clear c23
       by_cases c24 : a0_0 = 1
       ·
        rw [if_pos c24] at H
        have c24b0 : (a0_0 == 1) = true := beq_iff_eq.mpr c24
        have c24b1 : (a0_0 != 1) = false := bne_eq_false_iff_eq.mpr c24
        clear c24
        by_cases c25 : 4 + ((⟨#[32]⟩ : ByteArray) ++ t166).size ≤ 9223372036854775807
        ·
         rw [if_pos c25] at H
         have c25b0 := eq_true c25
         have c25b1 : decide (4 + ((⟨#[32]⟩ : ByteArray) ++ t166).size ≤ 9223372036854775807) = true := decide_eq_true c25
         try have c25b2 : (9223372036854775807 < 4 + ((⟨#[32]⟩ : ByteArray) ++ t166).size) = False := eq_false (Nat.not_lt.2 c25)
         try have c25b3 : (9223372036854775807 < 4 + (1 + t166.size)) = False := eq_false (by have h := c25; simp only [ByteArray.size_append] at h; simp only [ByteArray.size] at h ⊢; simp at h ⊢; omega)
         obtain rfl := Option.some.inj H
         have hcz26_0 : wc.cell? ⟨gb165, 0, none⟩ = some (.int .i64 a0_0) := (blk_cell BK165.out 0).trans rfl
         have hcz26_1 : wc.cell? ⟨gb165, 1, none⟩ = some (.int .i64 a0_1) := (blk_cell BK165.out 1).trans rfl
         have hcz26_2 : wc.cell? ⟨gb165, 2, none⟩ = some (.int .i64 a0_2) := (blk_cell BK165.out 2).trans rfl
         have hfz26_0 := blk_frozen BK165.out 0
         have hfz26_1 := blk_frozen BK165.out 1
         have hfz26_2 := blk_frozen BK165.out 2
         go_wp2_with (first | ((with_reducible refine gate_callee (f := 98) rfl ?_); refine goesL_ (some 24) rfl rfl Tryd.func98 (by kernel_rfl) rfl #[.int .i64 a0_1] rfl tz_ ?_; (with_reducible refine (strconv_Itoa.calls a0_1 t166 _ ?side1 A12.out).mono ?_); (case side1 => exact GWb.below HG.out (tb_ HB.out)); rintro e w27 ⟨rfl, hb⟩; refine ⟨_, rfl, ?_⟩; have n0_ := Aside0.mk (blk_below (g := gb165) (o := .cells #[.int .i64 a0_0, .int .i64 a0_1, .int .i64 a0_2] 30 (0, 0)) (tk_ BK165.out) hb); have n1_ := Aside0.mk (below_step (tb_ HB.out) hb); clear BK165 HB; have BK165 := n0_; have HB := n1_; clear n0_ n1_; (try clear hb); (try clear hb2); (try clear hk); (try clear hi); have hcz28_0 : w27.cell? ⟨gb165, 0, none⟩ = some (.int .i64 a0_0) := (blk_cell BK165.out 0).trans rfl; have hcz28_1 : w27.cell? ⟨gb165, 1, none⟩ = some (.int .i64 a0_1) := (blk_cell BK165.out 1).trans rfl; have hcz28_2 : w27.cell? ⟨gb165, 2, none⟩ = some (.int .i64 a0_2) := (blk_cell BK165.out 2).trans rfl; have hfz28_0 := blk_frozen BK165.out 0; have hfz28_1 := blk_frozen BK165.out 1; have hfz28_2 := blk_frozen BK165.out 2))
         go_ret
         exact ⟨by first | rfl | (simp [errW_none, errW_some, Option.map_none, Option.map_some] <;> rfl) | (simp [*, errW_none, errW_some] <;> rfl), (tb_ HB.out)⟩
        ·
         rw [if_neg c25] at H
         exact absurd H (by simp)
       ·
        rw [if_neg c24] at H
        have c24b0 : (a0_0 == 1) = false := beq_eq_false_iff_ne.mpr c24
        have c24b1 : (a0_0 != 1) = true := bne_iff_ne.mpr c24
        by_cases c29 : a0_0 = 2
        ·
         rw [if_pos c29] at H
         have c29b0 : (a0_0 == 2) = true := beq_iff_eq.mpr c29
         have c29b1 : (a0_0 != 2) = false := bne_eq_false_iff_eq.mpr c29
         clear c29
         by_cases c30 : 4 + ((⟨#[32]⟩ : ByteArray) ++ t166).size ≤ 9223372036854775807
         ·
          rw [if_pos c30] at H
          have c30b0 := eq_true c30
          have c30b1 : decide (4 + ((⟨#[32]⟩ : ByteArray) ++ t166).size ≤ 9223372036854775807) = true := decide_eq_true c30
          try have c30b2 : (9223372036854775807 < 4 + ((⟨#[32]⟩ : ByteArray) ++ t166).size) = False := eq_false (Nat.not_lt.2 c30)
          try have c30b3 : (9223372036854775807 < 4 + (1 + t166.size)) = False := eq_false (by have h := c30; simp only [ByteArray.size_append] at h; simp only [ByteArray.size] at h ⊢; simp at h ⊢; omega)
          obtain rfl := Option.some.inj H
          have hcz31_0 : wc.cell? ⟨gb165, 0, none⟩ = some (.int .i64 a0_0) := (blk_cell BK165.out 0).trans rfl
          have hcz31_1 : wc.cell? ⟨gb165, 1, none⟩ = some (.int .i64 a0_1) := (blk_cell BK165.out 1).trans rfl
          have hcz31_2 : wc.cell? ⟨gb165, 2, none⟩ = some (.int .i64 a0_2) := (blk_cell BK165.out 2).trans rfl
          have hfz31_0 := blk_frozen BK165.out 0
          have hfz31_1 := blk_frozen BK165.out 1
          have hfz31_2 := blk_frozen BK165.out 2
          go_wp2_with (first | ((with_reducible refine gate_callee (f := 98) rfl ?_); refine goesL_ (some 24) rfl rfl Tryd.func98 (by kernel_rfl) rfl #[.int .i64 a0_1] rfl tz_ ?_; (with_reducible refine (strconv_Itoa.calls a0_1 t166 _ ?side1 A12.out).mono ?_); (case side1 => exact GWb.below HG.out (tb_ HB.out)); rintro e w32 ⟨rfl, hb⟩; refine ⟨_, rfl, ?_⟩; have n0_ := Aside0.mk (blk_below (g := gb165) (o := .cells #[.int .i64 a0_0, .int .i64 a0_1, .int .i64 a0_2] 30 (0, 0)) (tk_ BK165.out) hb); have n1_ := Aside0.mk (below_step (tb_ HB.out) hb); clear BK165 HB; have BK165 := n0_; have HB := n1_; clear n0_ n1_; (try clear hb); (try clear hb2); (try clear hk); (try clear hi); have hcz33_0 : w32.cell? ⟨gb165, 0, none⟩ = some (.int .i64 a0_0) := (blk_cell BK165.out 0).trans rfl; have hcz33_1 : w32.cell? ⟨gb165, 1, none⟩ = some (.int .i64 a0_1) := (blk_cell BK165.out 1).trans rfl; have hcz33_2 : w32.cell? ⟨gb165, 2, none⟩ = some (.int .i64 a0_2) := (blk_cell BK165.out 2).trans rfl; have hfz33_0 := blk_frozen BK165.out 0; have hfz33_1 := blk_frozen BK165.out 1; have hfz33_2 := blk_frozen BK165.out 2))
          go_ret
          exact ⟨by first | rfl | (simp [errW_none, errW_some, Option.map_none, Option.map_some] <;> rfl) | (simp [*, errW_none, errW_some] <;> rfl), (tb_ HB.out)⟩
         ·
          rw [if_neg c30] at H
          exact absurd H (by simp)
        ·
         rw [if_neg c29] at H
         have c29b0 : (a0_0 == 2) = false := beq_eq_false_iff_ne.mpr c29
         have c29b1 : (a0_0 != 2) = true := bne_iff_ne.mpr c29
         by_cases c34 : a0_1 = 0
         ·
          rw [if_pos c34] at H
          have c34b0 : (a0_1 == 0) = true := beq_iff_eq.mpr c34
          have c34b1 : (a0_1 != 0) = false := bne_eq_false_iff_eq.mpr c34
          clear c34
          by_cases c35 : a0_0 = 3
          ·
           rw [if_pos c35] at H
           have c35b0 : (a0_0 == 3) = true := beq_iff_eq.mpr c35
           have c35b1 : (a0_0 != 3) = false := bne_eq_false_iff_eq.mpr c35
           clear c35
           obtain rfl := Option.some.inj H
           have hcz36_0 : wc.cell? ⟨gb165, 0, none⟩ = some (.int .i64 a0_0) := (blk_cell BK165.out 0).trans rfl
           have hcz36_1 : wc.cell? ⟨gb165, 1, none⟩ = some (.int .i64 a0_1) := (blk_cell BK165.out 1).trans rfl
           have hcz36_2 : wc.cell? ⟨gb165, 2, none⟩ = some (.int .i64 a0_2) := (blk_cell BK165.out 2).trans rfl
           have hfz36_0 := blk_frozen BK165.out 0
           have hfz36_1 := blk_frozen BK165.out 1
           have hfz36_2 := blk_frozen BK165.out 2
           go_wp2_with (first | ((with_reducible refine gate_callee (f := 98) rfl ?_); refine goesL_ (some 24) rfl rfl Tryd.func98 (by kernel_rfl) rfl #[.int .i64 a0_1] rfl tz_ ?_; (with_reducible refine (strconv_Itoa.calls a0_1 t166 _ ?side1 A12.out).mono ?_); (case side1 => exact GWb.below HG.out (tb_ HB.out)); rintro e w37 ⟨rfl, hb⟩; refine ⟨_, rfl, ?_⟩; have n0_ := Aside0.mk (blk_below (g := gb165) (o := .cells #[.int .i64 a0_0, .int .i64 a0_1, .int .i64 a0_2] 30 (0, 0)) (tk_ BK165.out) hb); have n1_ := Aside0.mk (below_step (tb_ HB.out) hb); clear BK165 HB; have BK165 := n0_; have HB := n1_; clear n0_ n1_; (try clear hb); (try clear hb2); (try clear hk); (try clear hi); have hcz38_0 : w37.cell? ⟨gb165, 0, none⟩ = some (.int .i64 a0_0) := (blk_cell BK165.out 0).trans rfl; have hcz38_1 : w37.cell? ⟨gb165, 1, none⟩ = some (.int .i64 a0_1) := (blk_cell BK165.out 1).trans rfl; have hcz38_2 : w37.cell? ⟨gb165, 2, none⟩ = some (.int .i64 a0_2) := (blk_cell BK165.out 2).trans rfl; have hfz38_0 := blk_frozen BK165.out 0; have hfz38_1 := blk_frozen BK165.out 1; have hfz38_2 := blk_frozen BK165.out 2))
           go_ret
           exact ⟨by first | rfl | (simp [errW_none, errW_some, Option.map_none, Option.map_some] <;> rfl) | (simp [*, errW_none, errW_some] <;> rfl), (tb_ HB.out)⟩
          ·
           rw [if_neg c35] at H
           have c35b0 : (a0_0 == 3) = false := beq_eq_false_iff_ne.mpr c35
           have c35b1 : (a0_0 != 3) = true := bne_iff_ne.mpr c35
           by_cases c39 : a0_0 = 4
           ·
            rw [if_pos c39] at H
            have c39b0 : (a0_0 == 4) = true := beq_iff_eq.mpr c39
            have c39b1 : (a0_0 != 4) = false := bne_eq_false_iff_eq.mpr c39
            clear c39
            obtain rfl := Option.some.inj H
            have hcz40_0 : wc.cell? ⟨gb165, 0, none⟩ = some (.int .i64 a0_0) := (blk_cell BK165.out 0).trans rfl
            have hcz40_1 : wc.cell? ⟨gb165, 1, none⟩ = some (.int .i64 a0_1) := (blk_cell BK165.out 1).trans rfl
            have hcz40_2 : wc.cell? ⟨gb165, 2, none⟩ = some (.int .i64 a0_2) := (blk_cell BK165.out 2).trans rfl
            have hfz40_0 := blk_frozen BK165.out 0
            have hfz40_1 := blk_frozen BK165.out 1
            have hfz40_2 := blk_frozen BK165.out 2
            go_wp2_with (first | ((with_reducible refine gate_callee (f := 98) rfl ?_); refine goesL_ (some 24) rfl rfl Tryd.func98 (by kernel_rfl) rfl #[.int .i64 a0_1] rfl tz_ ?_; (with_reducible refine (strconv_Itoa.calls a0_1 t166 _ ?side1 A12.out).mono ?_); (case side1 => exact GWb.below HG.out (tb_ HB.out)); rintro e w41 ⟨rfl, hb⟩; refine ⟨_, rfl, ?_⟩; have n0_ := Aside0.mk (blk_below (g := gb165) (o := .cells #[.int .i64 a0_0, .int .i64 a0_1, .int .i64 a0_2] 30 (0, 0)) (tk_ BK165.out) hb); have n1_ := Aside0.mk (below_step (tb_ HB.out) hb); clear BK165 HB; have BK165 := n0_; have HB := n1_; clear n0_ n1_; (try clear hb); (try clear hb2); (try clear hk); (try clear hi); have hcz42_0 : w41.cell? ⟨gb165, 0, none⟩ = some (.int .i64 a0_0) := (blk_cell BK165.out 0).trans rfl; have hcz42_1 : w41.cell? ⟨gb165, 1, none⟩ = some (.int .i64 a0_1) := (blk_cell BK165.out 1).trans rfl; have hcz42_2 : w41.cell? ⟨gb165, 2, none⟩ = some (.int .i64 a0_2) := (blk_cell BK165.out 2).trans rfl; have hfz42_0 := blk_frozen BK165.out 0; have hfz42_1 := blk_frozen BK165.out 1; have hfz42_2 := blk_frozen BK165.out 2))
            go_ret
            exact ⟨by first | rfl | (simp [errW_none, errW_some, Option.map_none, Option.map_some] <;> rfl) | (simp [*, errW_none, errW_some] <;> rfl), (tb_ HB.out)⟩
           ·
            rw [if_neg c39] at H
            have c39b0 : (a0_0 == 4) = false := beq_eq_false_iff_ne.mpr c39
            have c39b1 : (a0_0 != 4) = true := bne_iff_ne.mpr c39
            obtain rfl := Option.some.inj H
            have hcz43_0 : wc.cell? ⟨gb165, 0, none⟩ = some (.int .i64 a0_0) := (blk_cell BK165.out 0).trans rfl
            have hcz43_1 : wc.cell? ⟨gb165, 1, none⟩ = some (.int .i64 a0_1) := (blk_cell BK165.out 1).trans rfl
            have hcz43_2 : wc.cell? ⟨gb165, 2, none⟩ = some (.int .i64 a0_2) := (blk_cell BK165.out 2).trans rfl
            have hfz43_0 := blk_frozen BK165.out 0
            have hfz43_1 := blk_frozen BK165.out 1
            have hfz43_2 := blk_frozen BK165.out 2
            go_wp2_with (first | ((with_reducible refine gate_callee (f := 98) rfl ?_); refine goesL_ (some 24) rfl rfl Tryd.func98 (by kernel_rfl) rfl #[.int .i64 a0_1] rfl tz_ ?_; (with_reducible refine (strconv_Itoa.calls a0_1 t166 _ ?side1 A12.out).mono ?_); (case side1 => exact GWb.below HG.out (tb_ HB.out)); rintro e w44 ⟨rfl, hb⟩; refine ⟨_, rfl, ?_⟩; have n0_ := Aside0.mk (blk_below (g := gb165) (o := .cells #[.int .i64 a0_0, .int .i64 a0_1, .int .i64 a0_2] 30 (0, 0)) (tk_ BK165.out) hb); have n1_ := Aside0.mk (below_step (tb_ HB.out) hb); clear BK165 HB; have BK165 := n0_; have HB := n1_; clear n0_ n1_; (try clear hb); (try clear hb2); (try clear hk); (try clear hi); have hcz45_0 : w44.cell? ⟨gb165, 0, none⟩ = some (.int .i64 a0_0) := (blk_cell BK165.out 0).trans rfl; have hcz45_1 : w44.cell? ⟨gb165, 1, none⟩ = some (.int .i64 a0_1) := (blk_cell BK165.out 1).trans rfl; have hcz45_2 : w44.cell? ⟨gb165, 2, none⟩ = some (.int .i64 a0_2) := (blk_cell BK165.out 2).trans rfl; have hfz45_0 := blk_frozen BK165.out 0; have hfz45_1 := blk_frozen BK165.out 1; have hfz45_2 := blk_frozen BK165.out 2))
            go_ret
            exact ⟨by first | rfl | (simp [errW_none, errW_some, Option.map_none, Option.map_some] <;> rfl) | (simp [*, errW_none, errW_some] <;> rfl), (tb_ HB.out)⟩
         ·
          rw [if_neg c34] at H
          have c34b0 : (a0_1 == 0) = false := beq_eq_false_iff_ne.mpr c34
          have c34b1 : (a0_1 != 0) = true := bne_iff_ne.mpr c34
          obtain rfl := Option.some.inj H
          have hcz46_0 : wc.cell? ⟨gb165, 0, none⟩ = some (.int .i64 a0_0) := (blk_cell BK165.out 0).trans rfl
          have hcz46_1 : wc.cell? ⟨gb165, 1, none⟩ = some (.int .i64 a0_1) := (blk_cell BK165.out 1).trans rfl
          have hcz46_2 : wc.cell? ⟨gb165, 2, none⟩ = some (.int .i64 a0_2) := (blk_cell BK165.out 2).trans rfl
          have hfz46_0 := blk_frozen BK165.out 0
          have hfz46_1 := blk_frozen BK165.out 1
          have hfz46_2 := blk_frozen BK165.out 2
          go_wp2_with (first | ((with_reducible refine gate_callee (f := 98) rfl ?_); refine goesL_ (some 24) rfl rfl Tryd.func98 (by kernel_rfl) rfl #[.int .i64 a0_1] rfl tz_ ?_; (with_reducible refine (strconv_Itoa.calls a0_1 t166 _ ?side1 A12.out).mono ?_); (case side1 => exact GWb.below HG.out (tb_ HB.out)); rintro e w47 ⟨rfl, hb⟩; refine ⟨_, rfl, ?_⟩; have n0_ := Aside0.mk (blk_below (g := gb165) (o := .cells #[.int .i64 a0_0, .int .i64 a0_1, .int .i64 a0_2] 30 (0, 0)) (tk_ BK165.out) hb); have n1_ := Aside0.mk (below_step (tb_ HB.out) hb); clear BK165 HB; have BK165 := n0_; have HB := n1_; clear n0_ n1_; (try clear hb); (try clear hb2); (try clear hk); (try clear hi); have hcz48_0 : w47.cell? ⟨gb165, 0, none⟩ = some (.int .i64 a0_0) := (blk_cell BK165.out 0).trans rfl; have hcz48_1 : w47.cell? ⟨gb165, 1, none⟩ = some (.int .i64 a0_1) := (blk_cell BK165.out 1).trans rfl; have hcz48_2 : w47.cell? ⟨gb165, 2, none⟩ = some (.int .i64 a0_2) := (blk_cell BK165.out 2).trans rfl; have hfz48_0 := blk_frozen BK165.out 0; have hfz48_1 := blk_frozen BK165.out 1; have hfz48_2 := blk_frozen BK165.out 2))
          go_ret
          exact ⟨by first | rfl | (simp [errW_none, errW_some, Option.map_none, Option.map_some] <;> rfl) | (simp [*, errW_none, errW_some] <;> rfl), (tb_ HB.out)⟩
      ·
       rw [if_neg c23] at H
       have c23b0 : (a0_2 == 0) = false := beq_eq_false_iff_ne.mpr c23
       have c23b1 : (a0_2 != 0) = true := bne_iff_ne.mpr c23
       obtain rfl := Option.some.inj H
       have hcz49_0 : wc.cell? ⟨gb165, 0, none⟩ = some (.int .i64 a0_0) := (blk_cell BK165.out 0).trans rfl
       have hcz49_1 : wc.cell? ⟨gb165, 1, none⟩ = some (.int .i64 a0_1) := (blk_cell BK165.out 1).trans rfl
       have hcz49_2 : wc.cell? ⟨gb165, 2, none⟩ = some (.int .i64 a0_2) := (blk_cell BK165.out 2).trans rfl
       have hfz49_0 := blk_frozen BK165.out 0
       have hfz49_1 := blk_frozen BK165.out 1
       have hfz49_2 := blk_frozen BK165.out 2
       go_wp2_with (first | ((with_reducible refine gate_callee (f := 98) rfl ?_); refine goesL_ (some 24) rfl rfl Tryd.func98 (by kernel_rfl) rfl #[.int .i64 a0_1] rfl tz_ ?_; (with_reducible refine (strconv_Itoa.calls a0_1 t166 _ ?side1 A12.out).mono ?_); (case side1 => exact GWb.below HG.out (tb_ HB.out)); rintro e w50 ⟨rfl, hb⟩; refine ⟨_, rfl, ?_⟩; have n0_ := Aside0.mk (blk_below (g := gb165) (o := .cells #[.int .i64 a0_0, .int .i64 a0_1, .int .i64 a0_2] 30 (0, 0)) (tk_ BK165.out) hb); have n1_ := Aside0.mk (below_step (tb_ HB.out) hb); clear BK165 HB; have BK165 := n0_; have HB := n1_; clear n0_ n1_; (try clear hb); (try clear hb2); (try clear hk); (try clear hi); have hcz51_0 : w50.cell? ⟨gb165, 0, none⟩ = some (.int .i64 a0_0) := (blk_cell BK165.out 0).trans rfl; have hcz51_1 : w50.cell? ⟨gb165, 1, none⟩ = some (.int .i64 a0_1) := (blk_cell BK165.out 1).trans rfl; have hcz51_2 : w50.cell? ⟨gb165, 2, none⟩ = some (.int .i64 a0_2) := (blk_cell BK165.out 2).trans rfl; have hfz51_0 := blk_frozen BK165.out 0; have hfz51_1 := blk_frozen BK165.out 1; have hfz51_2 := blk_frozen BK165.out 2))
       go_ret
       exact ⟨by first | rfl | (simp [errW_none, errW_some, Option.map_none, Option.map_some] <;> rfl) | (simp [*, errW_none, errW_some] <;> rfl), (tb_ HB.out)⟩
    ·
     rw [if_neg c13] at H
     exact absurd H (by simp)

/-! ### strings_Split: function 93 -/
def strings_Split.f (a0 : ByteArray) (a1 : ByteArray) : Option (List ByteArray) := if a0.size < 4294967281 ∧ 1 ≤ a1.size then some (Lib.splitB a1 0 (Lib.countB a0 a1) a0) else none
theorem strings_Split.calls (a0 : ByteArray) (a1 : ByteArray) (r : List ByteArray) (w : World) (hG : GWb w) (h : strings_Split.f a0 a1 = some r) :
  Calls Tryd.prog 93 #[.string a0, .string a1] w fun e w' => ∃ v0_ : Value, e = .returned (v0_) ∧ Kd.R Kd.string 9 w' w.heap.size (fun _ => True) v0_ r ∧ Below w.heap.size w w' := by
 unfold strings_Split.f at h
 split at h
 ·
  rename_i hb
  obtain rfl := Option.some.inj h
  refine (Sh.Tryd.strings_Split_shaped a0 a1 w hG.shape hb.1 hb.2).mono fun e w' ⟨he, hw⟩ => ?_
  have hl : (Lib.splitB a1 0 (Lib.countB a0 a1) a0).length = Lib.countB a0 a1 + 1 := Lib.splitB_all a1 hb.2 0 _ a0 rfl
  have hle := Lib.countB_le a1 hb.2 a0.size a0 (Nat.le_refl _)
  have ho := own_lit_of (enc := Value.string) w w.heap.size 9 (Lib.splitB a1 0 (Lib.countB a0 a1) a0) (Nat.le_refl _) (by rw [hl]; omega)
  refine ⟨_, he, ?_, ?_⟩
  ·
   rw [hw]
   rw [hl] at ho
   exact Kd.R_of_own (by rw [hl]; exact ho) (fun _ _ => trivial)
  ·
   rw [hw]
   exact (Below.refl _ _).alloc (Nat.le_refl _) _
 ·
  cases h

/-! ### slices_Index_string_string: function 94 -/
def slices_Index_string_string.l0 : Nat → List ByteArray → ByteArray → Int → Int → Option (Int)
 | 0, _, _, _, _ => none
 | k + 1, x0, x1, x7, x8 => if x8 < x7 then (if 0 ≤ x8 then (if x8 < (x0.length : Int) then (if x1.toList = (rdOf ByteArray.empty x0 x8).toList then (some x8) else (slices_Index_string_string.l0 k x0 x1 x7 (wrap64 (x8 + 1)))) else (none)) else (none)) else (some (-1))
def slices_Index_string_string.f (k : Nat) (l0 : List ByteArray) (a1 : ByteArray) : Option (Int) := slices_Index_string_string.l0 k l0 a1 (l0.length : Int) 0
theorem slices_Index_string_string.mono_l : ∀ k, (∀ y0 y1 y2 y3, LeO (slices_Index_string_string.l0 k y0 y1 y2 y3) (slices_Index_string_string.l0 (k + 1) y0 y1 y2 y3))
 | 0 => fun _ _ _ _ r h => by simp [slices_Index_string_string.l0] at h
 | k + 1 => by
  have ih0 := slices_Index_string_string.mono_l k
  ·
   intro y0 y1 y2 y3
   unfold slices_Index_string_string.l0
   repeat' first
   | (with_reducible exact ih0 _ _ _ _)
   | (with_reducible exact LeO.refl _)
   | (with_reducible exact LeO.none _)
   | (with_reducible refine LeO.ite ?_ ?_)
   | (with_reducible refine LeO.bind ?_ (fun _ => ?_))
   | exact ih0 _ _ _ _
   | exact LeO.none _
   | refine LeO.ite ?_ ?_
   | refine LeO.bind ?_ (fun _ => ?_)
theorem slices_Index_string_string.mono : ∀ a0 a1 k, LeO (slices_Index_string_string.f k a0 a1) (slices_Index_string_string.f (k + 1) a0 a1) := by
 intro a0 a1 k
 have ih0 := slices_Index_string_string.mono_l k
 unfold slices_Index_string_string.f
 repeat' first
   | (with_reducible exact ih0 _ _ _ _)
   | (with_reducible exact LeO.refl _)
   | (with_reducible exact LeO.none _)
   | (with_reducible refine LeO.ite ?_ ?_)
   | (with_reducible refine LeO.bind ?_ (fun _ => ?_))
   | exact ih0 _ _ _ _
   | exact LeO.none _
   | refine LeO.ite ?_ ?_
   | refine LeO.bind ?_ (fun _ => ?_)
set_option maxHeartbeats 8000000 in
set_option maxRecDepth 100000 in
theorem slices_Index_string_string.calls (k : Nat) (A0 : Option Addr) (c0 : Nat) (l0 : List ByteArray) (a1 : ByteArray) (r : Int) (w : World) (hr0 : Kd.C Kd.string w A0 l0.length l0) (hc0 : l0.length ≤ c0) (h : slices_Index_string_string.f k l0 a1 = some r) :
  Calls Tryd.prog 94 #[.slice A0 l0.length c0, .string a1] w fun e w' => e = .returned (.int .i64 r) ∧ Drawn0 w w' := by
 have HR0 := Aside0.mk hr0
 have HC0 := Aside0.mk hc0
 clear hr0 hc0
 have H : (slices_Index_string_string.l0 k l0 a1 (l0.length : Int) 0) = some r := h
 clear h
 have H' := Aside0.mk H
 clear H
 go_enter Tryd.func94, Tryd.ntmps94
 go_wp2
 go_loopg [8] k (fun kq v8 w' => ∃ (x8_1 : Int), v8 = .int .i64 x8_1 ∧ Aside0 (slices_Index_string_string.l0 kq l0 a1 (l0.length : Int) x8_1 = some r) ∧ Aside0 (kq ≤ k) ∧ Drawn0 w w')
 case atStart => exact ⟨(0), tx_, H', ⟨Nat.le_refl _⟩, by repeat (first | exact Drawn0.refl _ | apply Drawn0.step)⟩
 case round =>
  clear H'
  try clear p2
  obtain ⟨x8_1, rfl, HA, HK1, ⟨m1, rfl⟩⟩ := hrel
  cases gk with
  | zero => exact absurd HA.out (by simp [slices_Index_string_string.l0])
  | succ k1 =>
   have H := HA.out
   clear HA
   simp only [slices_Index_string_string.l0] at H
   by_cases c3 : x8_1 < (l0.length : Int)
   ·
    rw [if_pos c3] at H
    have c3b0 : decide (x8_1 < (l0.length : Int)) = true := decide_eq_true c3
    clear c3
    by_cases c4 : 0 ≤ x8_1
    ·
     rw [if_pos c4] at H
     have c4b0 : decide (0 ≤ x8_1) = true := decide_eq_true c4
     clear c4
     by_cases c5 : x8_1 < (l0.length : Int)
     ·
      rw [if_pos c5] at H
      have c5b0 : decide (x8_1 < (l0.length : Int)) = true := decide_eq_true c5
      clear c5
      by_cases c6 : a1.toList = (rdOf ByteArray.empty l0 x8_1).toList
      ·
       rw [if_pos c6] at H
       have c6b0 : (a1.toList == (rdOf ByteArray.empty l0 x8_1).toList) = true := beq_iff_eq.mpr c6
       have c6b1 : (a1.toList != (rdOf ByteArray.empty l0 x8_1).toList) = false := bne_eq_false_iff_eq.mpr c6
       clear c6
       obtain rfl := Option.some.inj H
       have p168 : 0 ≤ (x8_1 : Int) := od_
       have q168 : x8_1 < (l0.length : Int) := od_
       obtain ⟨ad168, e168, hx168_0⟩ := Kd.at_string HR0.out x8_1 p168 q168
       cases e168
       replace p168 := eq_true p168
       replace q168 := eq_true q168
       go_wp2
       go_ret
       exact ⟨tx_, by repeat (first | exact Drawn0.refl _ | apply Drawn0.step)⟩
      ·
       rw [if_neg c6] at H
       have c6b0 : (a1.toList == (rdOf ByteArray.empty l0 x8_1).toList) = false := beq_eq_false_iff_ne.mpr c6
       have c6b1 : (a1.toList != (rdOf ByteArray.empty l0 x8_1).toList) = true := bne_iff_ne.mpr c6
       have H' := Aside0.mk H
       clear H
       have p168 : 0 ≤ (x8_1 : Int) := od_
       have q168 : x8_1 < (l0.length : Int) := od_
       obtain ⟨ad168, e168, hx168_0⟩ := Kd.at_string HR0.out x8_1 p168 q168
       cases e168
       replace p168 := eq_true p168
       replace q168 := eq_true q168
       go_wp2
       go_roundg k1
       case measure => have := HK1.out; omega
       case rel => exact ⟨(wrap64 (x8_1 + 1)), tx_, H', ⟨by have := HK1.out; omega⟩, by repeat (first | exact Drawn0.refl _ | apply Drawn0.step)⟩
     ·
      rw [if_neg c5] at H
      exact absurd H (by simp)
    ·
     rw [if_neg c4] at H
     exact absurd H (by simp)
   ·
    rw [if_neg c3] at H
    have c3b0 : decide (x8_1 < (l0.length : Int)) = false := decide_eq_false c3
    clear c3
    obtain rfl := Option.some.inj H
    go_wp2
    go_ret
    exact ⟨tx_, by repeat (first | exact Drawn0.refl _ | apply Drawn0.step)⟩

/-! ### strconv_Atoi: function 95 -/
def strconv_Atoi.f (a0 : ByteArray) : Option (Int × Option Int) := if a0.size ≤ 140737488355328 then some (match Lib.atoiAll a0.data.toList with | .ok v => (v, none) | Lib.NumEnd.syntax => (0, some 0) | .range => (Lib.atoiSat a0.data.toList, some 0)) else none
theorem strconv_Atoi.calls (a0 : ByteArray) (r1 : Int) (r2 : Option Int) (w : World) (hG : GWb w) (h : strconv_Atoi.f a0 = some (r1, r2)) :
  Calls Tryd.prog 95 #[.string a0] w fun e w' => ∃ N_ : Int, e = .returned (.tuple #[.int .i64 r1, errW (r2.map fun _ => N_)]) ∧ Below w.heap.size w w' := by
 unfold strconv_Atoi.f at h
 split at h
 ·
  rename_i hb
  rcases ha : Lib.atoiAll a0.data.toList with v | _ | _
  ·
   simp only [ha, Option.some.injEq, Prod.mk.injEq] at h
   obtain ⟨rfl, rfl⟩ := h
   exact (Sh.Tryd.strconv_Atoi_ok a0 (by omega) v ha w).mono fun e w' ⟨he, hw⟩ => ⟨0, he, atoi_below hw⟩
  ·
   simp only [ha, Option.some.injEq, Prod.mk.injEq] at h
   obtain ⟨rfl, rfl⟩ := h
   obtain ⟨t, p, hv⟩ := hG.esyn
   exact (Sh.Tryd.strconv_Atoi_syntax_var a0 (by omega) ha t p w hv).mono fun e w' ⟨N, he, _, _, hw⟩ => ⟨(N : Int), he, hw⟩
  ·
   simp only [ha, Option.some.injEq, Prod.mk.injEq] at h
   obtain ⟨rfl, rfl⟩ := h
   obtain ⟨t, p, hv⟩ := hG.erng
   exact (Sh.Tryd.strconv_Atoi_range_var a0 (by omega) ha t p w hv).mono fun e w' ⟨N, he, _, _, hw⟩ => ⟨(N : Int), he, hw⟩
 ·
  cases h

end Go.Proofs.YtlhiienanbpdlaaDoor.MFnReadDeed
