/- For the law FnOneRound: for every code the drawn order is one round by the program just if it is one by the reference; a round of two or more has no match; and as many orders as there must be are one round. The conditions: the bytes or numbers that come in are of their kinds, as the statement says. -/
import Derived.Test.YtnajepeajjbhcaaMFnOneRoundx4
import Derived.Test.YtnajepeajjbhcaaBase
namespace Go.Proofs.Ytnajepeajjbhcaa.Pure
open Go.RowKit Go.Proofs.Ytnajepeajjbhcaa.MFnOneRound Go.Proofs.YtnajepeajjbhcaaW.PrintWords Go.Proofs.YtnajepeajjbhcaaW.PrintLast Go.Proofs.Ytnajepeajjbhcaa.Base
namespace FnOneRound_parts
def hatsB (l : List Int) : Bool := decide (l.length ≤ 6) && (l.all (fun x => decide (0 ≤ x) && decide (x < (l.length : Int))) && decide l.Nodup)
theorem hatsB_iff (l : List Int) : hatsB l = true ↔ l.length ≤ 6 ∧ (∀ x ∈ l, 0 ≤ x ∧ x < (l.length : Int)) ∧ l.Nodup := by simp [hatsB]
theorem hatsB_no {l : List Int} (h : ¬ (l.length ≤ 6 ∧ (∀ x ∈ l, 0 ≤ x ∧ x < (l.length : Int)) ∧ l.Nodup)) : hatsB l = false := by
  cases e : hatsB l with
  | false => rfl
  | true => exact absurd ((hatsB_iff l).1 e) h
theorem index_ev (l : List Int) (a : Int) (hl : (l.length : Int) ≤ 1000000000000) : ∀ (suf pre : List Int), l = pre ++ suf → ∃ r, Ev (fun k => slices_Index_int_int.l0 k l a (l.length : Int) (pre.length : Int)) r ∧ (0 ≤ r ↔ a ∈ suf) := by
  intro suf
  induction suf with
  | nil =>
    intro pre h
    have e : l.length = pre.length := by rw [h]; simp
    refine ⟨-1, ev_suc ?_, by simp⟩
    simp (disch := omega) only [slices_Index_int_int.l0, if_neg]
    exact Ev.now _
  | cons x t ih =>
    intro pre h
    have e : l.length = pre.length + (t.length + 1) := by rw [h]; simp
    have hx : rd l (pre.length : Int) = x := by rw [h]; exact rd_at _ _ _
    by_cases hax : a = x
    · refine ⟨(pre.length : Int), ev_suc ?_, by simp [hax]⟩
      simp (disch := omega) only [slices_Index_int_int.l0, hx, if_pos]
      exact Ev.now _
    · obtain ⟨r, hr, hr'⟩ := ih (pre ++ [x]) (by rw [h]; simp)
      refine ⟨r, ev_suc ?_, by rw [hr']; simp [hax]⟩
      simp (disch := omega) only [slices_Index_int_int.l0, hx, if_pos, if_neg hax, w64]
      rw [len_at pre x]
      exact hr
theorem contains_ev (l : List Int) (a : Int) (hl : (l.length : Int) ≤ 1000000000000) : Ev (fun k => slices_Contains_int_int.f k l a) (decide (a ∈ l)) := by
  obtain ⟨r, hr, hr'⟩ := index_ev l a hl l [] rfl
  simp only [slices_Contains_int_int.f, slices_Index_int_int.f]
  refine ev_bind hr (ev_now ?_)
  simp only [ge_iff_le, hr']
theorem implHats_ev (l : List Int) (hl : (l.length : Int) ≤ 1000000000000) : ∀ (suf pre : List Int), l = pre ++ suf → (∀ x ∈ pre, 0 ≤ x ∧ x < (l.length : Int)) → pre.Nodup →
    Ev (fun k => impl_HatsOk.l0 k l l (l.length : Int) (pre.length : Int)) (hatsB l) := by
  intro suf
  induction suf with
  | nil =>
    intro pre h hr hd
    have e : l.length = pre.length := by rw [h]; simp
    refine ev_suc ?_
    simp (disch := omega) only [impl_HatsOk.l0, if_neg]
    refine ev_now ?_
    rw [List.append_nil] at h
    subst h
    by_cases h6 : l.length ≤ 6
    · rw [(hatsB_iff l).2 ⟨h6, hr, hd⟩]; exact decide_eq_true (by omega)
    · rw [hatsB_no (fun h => h6 h.1)]; exact decide_eq_false (by omega)
  | cons x t ih =>
    intro pre h hr hd
    have e : l.length = pre.length + (t.length + 1) := by rw [h]; simp
    have hx : rd l (pre.length : Int) = x := by rw [h]; exact rd_at _ _ _
    have hxl : x ∈ l := by rw [h]; simp
    refine ev_suc ?_
    simp (disch := omega) only [impl_HatsOk.l0, hx, if_pos]
    by_cases h1 : x < 0
    · refine ev_pos h1 (ev_now ?_)
      rw [hatsB_no]; intro hh; have := hh.2.1 x hxl; omega
    · refine ev_neg h1 ?_
      by_cases h2 : x ≥ (l.length : Int)
      · refine ev_pos h2 (ev_now ?_)
        rw [hatsB_no]; intro hh; have := hh.2.1 x hxl; omega
      · refine ev_neg h2 ?_
        have ht : l.take ((pre.length : Int)).toNat = pre := by rw [h]; simp
        rw [ht]
        refine ev_bind (contains_ev pre x (by omega)) ?_
        by_cases h3 : x ∈ pre
        · refine ev_pos (by simp [h3]) (ev_now ?_)
          rw [hatsB_no]
          intro hh
          have := hh.2.2
          rw [h, List.nodup_append] at this
          exact this.2.2 x h3 x (by simp) rfl
        · refine ev_neg (by simp [h3]) ?_
          rw [w64 (by omega) (by omega), len_at pre x]
          refine ih (pre ++ [x]) (by rw [h]; simp) ?_ ?_
          · intro y hy
            rcases List.mem_append.1 hy with hy | hy
            · exact hr y hy
            · rw [List.mem_singleton] at hy; subst hy; omega
          · rw [List.nodup_append]
            refine ⟨hd, by simp, ?_⟩
            intro y hy z hz
            rw [List.mem_singleton] at hz
            subst hz
            rintro rfl
            exact h3 hy
theorem implHatsOk_ev (l : List Int) (hl : (l.length : Int) ≤ 1000000000000) : Ev (fun k => impl_HatsOk.f k l) (hatsB l) := by
  simp only [impl_HatsOk.f]
  exact implHats_ev l hl l [] rfl (by simp) (by simp)
theorem mask_step : ∀ s : Fin 64, ∀ x : Fin 6, (0 ≤ Go.bits .or .i64 ((s.val : Nat) : Int) (shl .i64 1 ((x.val : Nat) : Int)) ∧ Go.bits .or .i64 ((s.val : Nat) : Int) (shl .i64 1 ((x.val : Nat) : Int)) < 64) ∧
    ∀ j : Fin 6, decide (Int.tmod (shr .i64 (Go.bits .or .i64 ((s.val : Nat) : Int) (shl .i64 1 ((x.val : Nat) : Int))) ((j.val : Nat) : Int)) 2 = 1) = (decide (j = x) || decide (Int.tmod (shr .i64 ((s.val : Nat) : Int) ((j.val : Nat) : Int)) 2 = 1)) := by
  decide +kernel
theorem mask_zero : ∀ j : Fin 6, ¬ (Int.tmod (shr .i64 0 ((j.val : Nat) : Int)) 2 = 1) := by decide +kernel
/-- The bits that are set are the numbers that were seen. -/
def Mask (s : Int) (pre : List Int) : Prop := 0 ≤ s ∧ s < 64 ∧ ∀ j : Int, 0 ≤ j → j < 6 → (Int.tmod (shr .i64 s j) 2 = 1 ↔ j ∈ pre)
theorem Mask.none : Mask 0 [] := ⟨by omega, by omega, fun j h0 h1 => by
  have := mask_zero ⟨j.toNat, by omega⟩
  have e : ((j.toNat : Nat) : Int) = j := by omega
  simp only [e] at this
  simpa using this⟩
theorem Mask.snoc {s x : Int} {pre : List Int} (h : Mask s pre) (h0 : 0 ≤ x) (h1 : x < 6) : Mask (Go.bits .or .i64 s (shl .i64 1 x)) (pre ++ [x]) := by
  obtain ⟨a, b, c⟩ := h
  have k := mask_step ⟨s.toNat, by omega⟩ ⟨x.toNat, by omega⟩
  have es : ((s.toNat : Nat) : Int) = s := by omega
  have ex : ((x.toNat : Nat) : Int) = x := by omega
  simp only [es, ex] at k
  refine ⟨k.1.1, k.1.2, fun j j0 j1 => ?_⟩
  have kj := k.2 ⟨j.toNat, by omega⟩
  have ej : ((j.toNat : Nat) : Int) = j := by omega
  simp only [ej] at kj
  have cj := c j j0 j1
  have e : (⟨j.toNat, by omega⟩ : Fin 6) = ⟨x.toNat, by omega⟩ ↔ j = x := by rw [Fin.mk.injEq]; omega
  rw [Bool.eq_iff_iff] at kj
  simp only [decide_eq_true_eq, Bool.or_eq_true] at kj
  rw [kj, e, cj]
  simp [or_comm]
theorem specHats_ev (l : List Int) (hl : (l.length : Int) ≤ 1000000000000) : ∀ (suf pre : List Int) (s : Int), l = pre ++ suf → Mask s pre → (∀ x ∈ pre, 0 ≤ x ∧ x < (l.length : Int)) → pre.Nodup →
    Ev (fun k => spec_HatsOk.l0 k l s (pre.length : Int)) (hatsB l) := by
  intro suf
  induction suf with
  | nil =>
    intro pre s h hs hr hd
    have e : l.length = pre.length := by rw [h]; simp
    refine ev_suc ?_
    simp (disch := omega) only [spec_HatsOk.l0, if_neg]
    refine ev_now ?_
    rw [List.append_nil] at h
    subst h
    by_cases h6 : l.length ≤ 6
    · rw [(hatsB_iff l).2 ⟨h6, hr, hd⟩]; exact decide_eq_true (by omega)
    · rw [hatsB_no (fun h => h6 h.1)]; exact decide_eq_false (by omega)
  | cons x t ih =>
    intro pre s h hs hr hd
    have e : l.length = pre.length + (t.length + 1) := by rw [h]; simp
    have hx : rd l (pre.length : Int) = x := by rw [h]; exact rd_at _ _ _
    have hxl : x ∈ l := by rw [h]; simp
    refine ev_suc ?_
    simp (disch := omega) only [spec_HatsOk.l0, hx, if_pos]
    by_cases h1 : x < 0
    · refine ev_pos h1 (ev_now ?_)
      rw [hatsB_no]; intro hh; have := hh.2.1 x hxl; omega
    · refine ev_neg h1 ?_
      by_cases h2 : x ≥ (l.length : Int)
      · refine ev_pos h2 (ev_now ?_)
        rw [hatsB_no]; intro hh; have := hh.2.1 x hxl; omega
      · refine ev_neg h2 ?_
        by_cases h4 : x ≥ 6
        · refine ev_pos h4 (ev_now ?_)
          rw [hatsB_no]; intro hh; omega
        · refine ev_neg h4 ?_
          have hm := hs.2.2 x (by omega) (by omega)
          by_cases h3 : x ∈ pre
          · refine ev_pos (hm.2 h3) (ev_now ?_)
            rw [hatsB_no]
            intro hh
            have := hh.2.2
            rw [h, List.nodup_append] at this
            exact this.2.2 x h3 x (by simp) rfl
          · refine ev_neg (fun q => h3 (hm.1 q)) ?_
            rw [w64 (by omega) (by omega), len_at pre x]
            refine ih (pre ++ [x]) _ (by rw [h]; simp) (hs.snoc (by omega) (by omega)) ?_ ?_
            · intro y hy
              rcases List.mem_append.1 hy with hy | hy
              · exact hr y hy
              · rw [List.mem_singleton] at hy; subst hy; omega
            · rw [List.nodup_append]
              refine ⟨hd, by simp, ?_⟩
              intro y hy z hz
              rw [List.mem_singleton] at hz
              subst hz
              rintro rfl
              exact h3 hy
theorem specHatsOk_ev (l : List Int) (hl : (l.length : Int) ≤ 1000000000000) : Ev (fun k => spec_HatsOk.f k l) (hatsB l) := by
  simp only [spec_HatsOk.f]
  exact specHats_ev l hl l [] 0 rfl Mask.none (by simp) (by simp)
def cnt (i : Int) : List Int → Int
  | [] => 0
  | a :: t => (if i = a then 1 else 0) + cnt (i + 1) t
theorem cnt_le (l : List Int) : ∀ i, 0 ≤ cnt i l ∧ cnt i l ≤ l.length := by
  induction l with
  | nil => intro i; simp [cnt]
  | cons a t ih =>
    intro i
    have := ih (i + 1)
    simp only [cnt, List.length_cons]
    split <;> omega
def matchesM (l : List Int) : Int := if hatsB l = true then cnt 0 l else -1
theorem implCount_ev (l : List Int) (hl : (l.length : Int) ≤ 1000000) : ∀ (suf pre : List Int) (n : Int), l = pre ++ suf → 0 ≤ n → n ≤ pre.length →
    Ev (fun k => impl_MatchesOf.l0 k n l (l.length : Int) (pre.length : Int)) (n + cnt (pre.length : Int) suf) := by
  intro suf
  induction suf with
  | nil =>
    intro pre n h h0 h1
    have e : l.length = pre.length := by rw [h]; simp
    refine ev_suc ?_
    simp (disch := omega) only [impl_MatchesOf.l0, if_neg, cnt]
    exact ev_now (by omega)
  | cons x t ih =>
    intro pre n h h0 h1
    have e : l.length = pre.length + (t.length + 1) := by rw [h]; simp
    have hx : rd l (pre.length : Int) = x := by rw [h]; exact rd_at _ _ _
    have hp : ((pre ++ [x]).length : Int) = (pre.length : Int) + 1 := (len_at pre x).symm
    refine ev_suc ?_
    simp (disch := omega) only [impl_MatchesOf.l0, hx, if_pos, w64]
    by_cases hxi : (pre.length : Int) = x
    · refine ev_pos hxi ?_
      have := ih (pre ++ [x]) (n + 1) (by rw [h]; simp) (by omega) (by omega)
      rw [hp] at this
      refine ev_eq this ?_
      simp only [cnt, if_pos hxi]; omega
    · refine ev_neg hxi ?_
      have := ih (pre ++ [x]) n (by rw [h]; simp) (by omega) (by omega)
      rw [hp] at this
      refine ev_eq this ?_
      simp only [cnt, if_neg hxi]; omega
theorem implMatches_ev (l : List Int) (hl : (l.length : Int) ≤ 1000000000000) : Ev (fun k => impl_MatchesOf.f k l) (matchesM l) := by
  simp only [impl_MatchesOf.f]
  refine ev_bind (implHatsOk_ev l hl) ?_
  unfold matchesM
  by_cases h : hatsB l = true
  · rw [if_pos h]
    refine ev_pos h ?_
    have h6 := ((hatsB_iff l).1 h).1
    exact ev_eq (implCount_ev l (by omega) l [] 0 rfl (by omega) (by omega)) (by simp)
  · rw [if_neg h]
    exact ev_neg h (Ev.now _)
/-- All rows of so many different numbers below n. -/
def rowsOf (n : Nat) : Nat → List (List Int)
  | 0 => [[]]
  | m + 1 => (rowsOf n m).flatMap fun l => ((List.range n).map fun (i : Nat) => (i : Int)).flatMap fun i => if i ∈ l then [] else [i :: l]
theorem mem_rowsOf (n : Nat) : ∀ l : List Int, (∀ x ∈ l, 0 ≤ x ∧ x < (n : Int)) → l.Nodup → l ∈ rowsOf n l.length := by
  intro l
  induction l with
  | nil => intro _ _; simp [rowsOf]
  | cons a t ih =>
    intro h hd
    rw [List.nodup_cons] at hd
    have ht := ih (fun x hx => h x (by simp [hx])) hd.2
    have ha := h a (by simp)
    simp only [List.length_cons, rowsOf, List.mem_flatMap, List.mem_map, List.mem_range]
    exact ⟨t, ht, a, ⟨a.toNat, by omega, by omega⟩, by rw [if_neg hd.1]; simp⟩
def allHats : List (List Int) := rowsOf 0 0 ++ rowsOf 1 1 ++ rowsOf 2 2 ++ rowsOf 3 3 ++ rowsOf 4 4 ++ rowsOf 5 5 ++ rowsOf 6 6
theorem mem_allHats {l : List Int} (h : hatsB l = true) : l ∈ allHats := by
  obtain ⟨h6, hr, hd⟩ := (hatsB_iff l).1 h
  have := mem_rowsOf l.length l hr hd
  unfold allHats
  have hc : l.length = 0 ∨ l.length = 1 ∨ l.length = 2 ∨ l.length = 3 ∨ l.length = 4 ∨ l.length = 5 ∨ l.length = 6 := by omega
  rcases hc with e | e | e | e | e | e | e <;> rw [e] at this <;> simp [this]
theorem all_hats {P : List Int → Bool} (hP : allHats.all P = true) {l : List Int} (h : hatsB l = true) : P l = true := List.all_eq_true.1 hP l (mem_allHats h)
theorem xor_nn {x y : Int} (hx : 0 ≤ x) (hx' : x < 9223372036854775808) (hy : 0 ≤ y) (hy' : y < 9223372036854775808) : 0 ≤ Go.bits .xor .i64 x y := by
  obtain ⟨a, rfl⟩ := Int.eq_ofNat_of_zero_le hx
  obtain ⟨b, rfl⟩ := Int.eq_ofNat_of_zero_le hy
  have ha : a < 2 ^ 63 := by omega
  have hb : b < 2 ^ 63 := by omega
  have hc : a ^^^ b < 2 ^ 63 := Nat.xor_lt_two_pow ha hb
  have h1 : (BitVec.ofInt 64 (a : Int)).toNat = a := by
    rw [BitVec.ofInt_natCast, BitVec.toNat_ofNat]; exact Nat.mod_eq_of_lt (by omega)
  have h2 : (BitVec.ofInt 64 (b : Int)).toNat = b := by
    rw [BitVec.ofInt_natCast, BitVec.toNat_ofNat]; exact Nat.mod_eq_of_lt (by omega)
  show 0 ≤ IntKind.i64.wrap ((BitVec.ofInt 64 (a : Int) ^^^ BitVec.ofInt 64 (b : Int)).toNat : Int)
  rw [BitVec.toNat_xor, h1, h2, IntKind.wrap_i64]
  omega
def BytesOk (b : List Int) : Prop := (∀ x ∈ b, 0 ≤ x ∧ x ≤ 255) ∧ b.length ≤ 2000
theorem pick_ev {b : List Int} (hb : BytesOk b) (p n : Int) (h0 : 0 ≤ p) (hp : p ≤ 1000000000000) (hn : n ≤ 1000000000000) :
    ∃ r, Ev (fun k => spec_l20Rd_pick.f k b p n) (r, p + 1) ∧ 0 ≤ r ∧ (1 ≤ n → r < n) ∧ (n < 1 → r = 0) := by
  obtain ⟨hb, hl⟩ := hb
  by_cases hn1 : n < 1
  · refine ⟨0, ?_, by omega, by omega, fun _ => rfl⟩
    simp only [spec_l20Rd_pick.f]
    refine ev_pos hn1 (ev_suc ?_)
    simp (disch := omega) only [spec_l20Rd_pick.j0, if_true, w64]
    exact Ev.now _
  · have key : ∀ (x : Int), 0 ≤ x → 0 ≤ Int.tmod x n ∧ (1 ≤ n → Int.tmod x n < n) ∧ (n < 1 → Int.tmod x n = 0) := by
      intro x hx
      rw [Int.tmod_eq_emod_of_nonneg hx]
      have h1 := Int.emod_nonneg x (b := n) (by omega)
      have h2 := Int.emod_lt_of_pos x (b := n) (by omega)
      exact ⟨h1, fun _ => h2, fun h => absurd h hn1⟩
    by_cases hl0 : b.length = 0
    · refine ⟨0, ?_, by omega, by omega, fun _ => rfl⟩
      simp only [spec_l20Rd_pick.f]
      refine ev_neg hn1 (ev_suc ?_)
      have e : ((b.length : Int) == 0) = true := by simp [hl0]
      simp (disch := omega) only [spec_l20Rd_pick.j0, e, if_true, w64]
      exact Ev.now _
    · have e : ((b.length : Int) == 0) = false := by rw [beq_eq_false_iff_ne]; omega
      by_cases hlt : p < (b.length : Int)
      · have hm := hb _ (rd_mem h0 hlt)
        obtain ⟨k1, k2, k3⟩ := key (rd b p) hm.1
        refine ⟨Int.tmod (rd b p) n, ?_, k1, k2, k3⟩
        simp only [spec_l20Rd_pick.f]
        refine ev_neg hn1 (ev_suc ?_)
        have e1 : wrap64 (wrap64 (p + 1) - 1) = p := by rw [w64 (n := p + 1) (by omega) (by omega), w64 (by omega) (by omega)]; omega
        have e2 : wrap64 (rd b p) = rd b p := w64 (by omega) (by omega)
        simp only [spec_l20Rd_pick.j0, e, e1, e2, Bool.false_eq_true, if_false]
        refine ev_pos hlt (ev_pos h0 (ev_neg (by omega) (ev_now ?_)))
        rw [w64 (by omega) (by omega)]
      · have hL : 0 < (b.length : Int) := by omega
        have m1a := Int.emod_nonneg p (b := (b.length : Int)) (by omega)
        have m1b := Int.emod_lt_of_pos p (b := (b.length : Int)) hL
        have m2a := Int.emod_nonneg (p * 7 + 3) (b := (b.length : Int)) (by omega)
        have m2b := Int.emod_lt_of_pos (p * 7 + 3) (b := (b.length : Int)) hL
        have r1 := hb _ (rd_mem m1a m1b)
        have r2 := hb _ (rd_mem m2a m2b)
        have d1 : 0 ≤ p / (b.length : Int) := Int.ediv_nonneg h0 (by omega)
        have d2 : p / (b.length : Int) ≤ p := Int.ediv_le_self _ h0
        have e1 : wrap64 (wrap64 (p + 1) - 1) = p := by rw [w64 (n := p + 1) (by omega) (by omega), w64 (by omega) (by omega)]; omega
        have e1' : wrap64 (p + 1 - 1) = p := by rw [w64 (by omega) (by omega)]; omega
        have e3 : Int.tmod p (b.length : Int) = p % (b.length : Int) := Int.tmod_eq_emod_of_nonneg h0
        have e4 : Int.tmod (p * 7 + 3) (b.length : Int) = (p * 7 + 3) % (b.length : Int) := Int.tmod_eq_emod_of_nonneg (by omega)
        have e5 : Int.tdiv p (b.length : Int) = p / (b.length : Int) := Int.tdiv_eq_ediv_of_nonneg h0
        generalize hu : rd b (p % (b.length : Int)) = u at r1
        generalize hv : rd b ((p * 7 + 3) % (b.length : Int)) = v at r2
        generalize hd : p / (b.length : Int) = d at d1 d2
        have hx0 : 0 ≤ u * 131 + v * 1117 + p * 29 + d * 53 := by omega
        have e6 : Int.tdiv (u * 131 + v * 1117 + p * 29 + d * 53) 64 = (u * 131 + v * 1117 + p * 29 + d * 53) / 64 := Int.tdiv_eq_ediv_of_nonneg hx0
        obtain ⟨k1, k2, k3⟩ := key (Go.bits .xor .i64 (u * 131 + v * 1117 + p * 29 + d * 53) ((u * 131 + v * 1117 + p * 29 + d * 53) / 64)) (xor_nn (by omega) (by omega) (by omega) (by omega))
        refine ⟨_, ?_, k1, k2, k3⟩
        simp only [spec_l20Rd_pick.f]
        refine ev_neg hn1 (ev_suc ?_)
        have f1 : wrap64 (p * 7) = p * 7 := w64 (by omega) (by omega)
        have f2 : wrap64 (p * 7 + 3) = p * 7 + 3 := w64 (by omega) (by omega)
        have f3 : wrap64 u = u := w64 (by omega) (by omega)
        have f4 : wrap64 v = v := w64 (by omega) (by omega)
        have f5 : wrap64 (u * 131) = u * 131 := w64 (by omega) (by omega)
        have f6 : wrap64 (v * 1117) = v * 1117 := w64 (by omega) (by omega)
        have f7 : wrap64 (u * 131 + v * 1117) = u * 131 + v * 1117 := w64 (by omega) (by omega)
        have f8 : wrap64 (p * 29) = p * 29 := w64 (by omega) (by omega)
        have f9 : wrap64 (u * 131 + v * 1117 + p * 29) = u * 131 + v * 1117 + p * 29 := w64 (by omega) (by omega)
        have f10 : wrap64 d = d := w64 (by omega) (by omega)
        have f11 : wrap64 (d * 53) = d * 53 := w64 (by omega) (by omega)
        have f12 : wrap64 (u * 131 + v * 1117 + p * 29 + d * 53) = u * 131 + v * 1117 + p * 29 + d * 53 := w64 (by omega) (by omega)
        have f13 : wrap64 ((u * 131 + v * 1117 + p * 29 + d * 53) / 64) = (u * 131 + v * 1117 + p * 29 + d * 53) / 64 := w64 (by omega) (by omega)
        have f14 : wrap64 (p + 1) = p + 1 := w64 (by omega) (by omega)
        simp only [spec_l20Rd_pick.j0, e, e1, f14, e1', f1, f2, e3, e4, e5, hu, hv, hd, f3, f4, f5, f6, f7, f8, f9, f10, f11, f12, e6, f13, Bool.false_eq_true, if_false]
        exact ev_neg hlt (ev_neg (by omega) (ev_pos m1a (ev_pos m1b (ev_pos m2a (ev_pos m2b (ev_neg (by omega) (Ev.now _)))))))
theorem open_ev {l : List Int} (hl : ∀ x ∈ l, (Lit.int .u8 x).wf = true) : ∃ b, spec_l20Open.f l = some (b, 0) ∧ BytesOk b := by
  have hw : ∀ x ∈ l, 0 ≤ x ∧ x ≤ 255 := fun x hx => by
    have := hl x hx
    simp [Lit.wf, IntKind.min, IntKind.max, IntKind.bits, IntKind.signed] at this
    omega
  by_cases h : (l.length : Int) > 2000
  · exact ⟨l.take 2000, by simp (disch := omega) only [spec_l20Open.f, if_pos], fun x hx => hw x (List.mem_of_mem_take hx), by rw [List.length_take]; omega⟩
  · exact ⟨l, by simp (disch := omega) only [spec_l20Open.f, if_neg], hw, by omega⟩
theorem odd_ev {b : List Int} (hb : BytesOk b) (p n : Int) (h0 : 0 ≤ p) (hp : p ≤ 1000000000000) (hn : n ≤ 1000000000000) (hn' : 1 ≤ n) :
    ∃ r, Ev (fun k => spec_l20Rd_odd.f k b p n) (r, p + 1) := by
  obtain ⟨r, hr, h1, h2, h3⟩ := pick_ev hb p n h0 hp hn
  refine ⟨r == wrap64 (n - 1), ?_⟩
  simp only [spec_l20Rd_odd.f]
  exact ev_pos (by omega) (ev_bind hr (Ev.now _))
theorem drawHats_loop {b : List Int} (hb : BytesOk b) : ∀ (d : Nat) (l : List Int) (p : Int), (l.length : Int) + d = 6 → 0 ≤ p → p ≤ 1000 + 2 * (l.length : Int) → ∃ o, Ev (fun k => spec_DrawHatsOk.l0 k l (l.length : Int) b p) o ∧ o.length ≤ 7 := by
  intro d
  induction d with
  | zero =>
    intro l p hd h0 hp
    obtain ⟨r, hr, r0, r1, _⟩ := pick_ev hb p 7 h0 (by omega) (by omega)
    obtain ⟨q, hq⟩ := odd_ev hb (p + 1) 4 (by omega) (by omega) (by omega) (by omega)
    obtain ⟨u, hu, u0, u1, _⟩ := pick_ev hb (p + 1 + 1) 7 (by omega) (by omega) (by omega)
    have hr1 := r1 (by omega)
    cases q with
    | true =>
      refine ⟨l ++ [wrap64 (u - 1)], ev_suc ?_, by simp; omega⟩
      simp only [spec_DrawHatsOk.l0]
      refine ev_bind hr (ev_neg (by simp only []; omega) (ev_bind hq (ev_pos rfl (ev_bind hu (ev_pos (by omega) (Ev.now _))))))
    | false =>
      refine ⟨l, ev_suc ?_, by omega⟩
      simp only [spec_DrawHatsOk.l0]
      exact ev_bind hr (ev_neg (by simp only []; omega) (ev_bind hq (ev_neg (by simp) (Ev.now _))))
  | succ d ih =>
    intro l p hd h0 hp
    obtain ⟨r, hr, r0, r1, _⟩ := pick_ev hb p 7 h0 (by omega) (by omega)
    by_cases hlt : (l.length : Int) < r
    · obtain ⟨a, ha, a0, a1, _⟩ := pick_ev hb (p + 1) ((l.length : Int) + 1) (by omega) (by omega) (by omega)
      have ha1 := a1 (by omega)
      have hlen : ((l.take a.toNat ++ [(l.length : Int)] ++ l.drop a.toNat).length : Int) = (l.length : Int) + 1 := by simp; omega
      obtain ⟨o, ho, ho'⟩ := ih (l.take a.toNat ++ [(l.length : Int)] ++ l.drop a.toNat) (p + 1 + 1) (by omega) (by omega) (by omega)
      refine ⟨o, ev_suc ?_, ho'⟩
      simp only [spec_DrawHatsOk.l0]
      refine ev_bind hr (ev_pos hlt ?_)
      rw [w64 (n := (l.length : Int) + 1) (by omega) (by omega)]
      refine ev_bind ha (ev_bind (Ev.now _) (ev_pos a0 (ev_pos (by simp only []; omega) (ev_bind (Ev.now _) (ev_pos (by simp; omega) (ev_bind (Ev.now _) (ev_pos (by simp; omega) (ev_bind (Ev.now _) (ev_bind (Ev.now _) (ev_pos (by simp; omega) ?_))))))))))
      rw [hlen] at ho
      simpa using ho
    · obtain ⟨q, hq⟩ := odd_ev hb (p + 1) 4 (by omega) (by omega) (by omega) (by omega)
      obtain ⟨u, hu, u0, u1, _⟩ := pick_ev hb (p + 1 + 1) 7 (by omega) (by omega) (by omega)
      cases q with
      | true =>
        refine ⟨l ++ [wrap64 (u - 1)], ev_suc ?_, by simp; omega⟩
        simp only [spec_DrawHatsOk.l0]
        refine ev_bind hr (ev_neg hlt (ev_bind hq (ev_pos rfl (ev_bind hu (ev_pos (by omega) (Ev.now _))))))
      | false =>
        refine ⟨l, ev_suc ?_, by omega⟩
        simp only [spec_DrawHatsOk.l0]
        exact ev_bind hr (ev_neg hlt (ev_bind hq (ev_neg (by simp) (Ev.now _))))
theorem drawHats_ev {l : List Int} (hl : ∀ x ∈ l, (Lit.int .u8 x).wf = true) : ∃ o, Ev (fun k => spec_DrawHatsOk.f k l) o ∧ o.length ≤ 7 := by
  obtain ⟨b, hb, hB⟩ := open_ev hl
  obtain ⟨o, ho, ho'⟩ := drawHats_loop hB 6 [] 0 rfl (by omega) (by simp)
  refine ⟨o, ?_, ho'⟩
  simp only [spec_DrawHatsOk.f, hb]
  exact ho
theorem alive_ev : Ev (fun k => laws_alive.f k) true := Ev.of laws_alive.mono (k := 5) (by decide +kernel)
theorem round_all : allHats.all (fun l => decide (l = []) || (decide (impl_OneRound.l0 9 l 1 (rd l 0) = spec_OneRound.l0 9 l 1 (rd l 0)) && (decide (impl_OneRound.l0 9 l 1 (rd l 0) = some false) || (decide (impl_OneRound.l0 9 l 1 (rd l 0) = some true) && (decide (l.length < 2) || decide (cnt 0 l = 0)))))) = true := by decide +kernel
/-- Whether the order of a number is one round. -/
def rnd (n i : Nat) : Option Bool := (laws_orderOf.f 20 (n : Int) (i : Int)).bind fun o => impl_OneRound.f 20 o
def fac (n : Nat) : Nat := match n with | 0 => 1 | n + 1 => (n + 1) * fac n
theorem rnd_all : ∀ n : Fin 7, n.val = 0 ∨ ((List.range (fac n.val)).all (fun i => (rnd n.val i).isSome) = true ∧ ((List.range (fac n.val)).filter (fun i => rnd n.val i == some true)).length * n.val = fac n.val) := by decide +kernel
theorem fac_ev : ∀ n : Fin 7, laws_factorial.f 20 (n.val : Int) = some (fac n.val : Int) := by decide +kernel
theorem filter_range_succ (p : Nat → Bool) (i : Nat) : ((List.range (i + 1)).filter p).length = ((List.range i).filter p).length + (if p i = true then 1 else 0) := by
  rw [List.range_succ, List.filter_append, List.length_append]
  by_cases h : p i = true <;> simp [h]
theorem rounds_loop (l : List Int) (ok : Bool) (r : Bool) (hl : l.length ≤ 6) (hall : (List.range (fac l.length)).all (fun i => (rnd l.length i).isSome) = true)
    (hend : Ev (fun k => laws_FnOneRound.l0 k l ok ((((List.range (fac l.length)).filter (fun i => rnd l.length i == some true)).length : Nat) : Int) ((fac l.length : Nat) : Int)) r) :
    ∀ (d i : Nat), i + d = fac l.length → Ev (fun k => laws_FnOneRound.l0 k l ok ((((List.range i).filter (fun i => rnd l.length i == some true)).length : Nat) : Int) (i : Int)) r := by
  have hf : fac l.length ≤ 720 := by
    have : ∀ n : Fin 7, fac n.val ≤ 720 := by decide
    exact this ⟨l.length, by omega⟩
  have hfe : Ev (fun k => laws_factorial.f k (l.length : Int)) ((fac l.length : Nat) : Int) := Ev.of (fun k => laws_factorial.mono _ k) (fac_ev ⟨l.length, by omega⟩)
  intro d
  induction d with
  | zero =>
    intro i hi
    have : i = fac l.length := by omega
    subst this
    exact hend
  | succ d ih =>
    intro i hi
    have hi' : (rnd l.length i).isSome = true := List.all_eq_true.1 hall i (by simp; omega)
    have hc : ((List.range i).filter (fun i => rnd l.length i == some true)).length ≤ i := by
      have := List.length_filter_le (fun i => rnd l.length i == some true) (List.range i)
      simpa using this
    have hs := filter_range_succ (fun i => rnd l.length i == some true) i
    have hnext := ih (i + 1) (by omega)
    refine ev_suc ?_
    simp only [laws_FnOneRound.l0]
    refine ev_bind hfe (ev_pos (by omega) ?_)
    cases e : laws_orderOf.f 20 (l.length : Int) (i : Int) with
    | none => simp [rnd, e] at hi'
    | some o =>
      refine ev_bind (Ev.of (fun k => laws_orderOf.mono _ _ k) e) ?_
      cases e2 : impl_OneRound.f 20 o with
      | none => simp [rnd, e, e2] at hi'
      | some v =>
        refine ev_bind (Ev.of (fun k => impl_OneRound.mono _ k) e2) ?_
        have ev : rnd l.length i = some v := by simp [rnd, e, e2]
        cases v with
        | true =>
          refine ev_pos (by simp) ?_
          rw [w64 (n := (i : Int) + 1) (by omega) (by omega), w64 (by omega) (by omega)]
          rw [hs, if_pos (by simp [ev])] at hnext
          simpa using hnext
        | false =>
          refine ev_neg (by simp) ?_
          rw [w64 (n := (i : Int) + 1) (by omega) (by omega)]
          rw [hs, if_neg (by simp [ev])] at hnext
          simpa using hnext
end FnOneRound_parts
open FnOneRound_parts
theorem FnOneRound : laws_FnOneRound.Pure := by
  intro l _ hl2 hw
  refine Ev.rounds ?_
  simp only [laws_FnOneRound.f]
  by_cases h : (l.length : Int) > 1048576
  · exact ev_pos h (Ev.now _)
  · refine ev_neg h ?_
    obtain ⟨o, ho, ho7⟩ := drawHats_ev hw
    simp only [spec_DrawOneRound.f]
    refine ev_bind (ev_bind ho (Ev.now _)) ?_
    by_cases hh : hatsB o = true
    · have h6 := ((hatsB_iff o).1 hh).1
      by_cases hn : o = []
      · subst hn
        refine ev_bind (a := false) (Ev.of (fun k => impl_OneRound.mono _ k) (k := 9) (by decide +kernel)) (ev_bind (a := false) (Ev.of (fun k => spec_OneRound.mono _ k) (k := 9) (by decide +kernel)) (ev_neg (by simp) (ev_bind (specHatsOk_ev [] (by simp)) (ev_pos (by decide) (ev_suc ?_)))))
        simp only [laws_FnOneRound.j0]
        refine ev_pos (by simp) (ev_neg (by simp) (ev_bind alive_ev (Ev.now _)))
      · have hlen : o.length ≠ 0 := fun e => hn (List.eq_nil_of_length_eq_zero e)
        have hz : ((o.length : Int) == 0) = false := by simp; omega
        have hall := all_hats round_all hh
        simp only [hn, decide_false, Bool.false_or, Bool.and_eq_true, decide_eq_true_eq, Bool.or_eq_true] at hall
        obtain ⟨hsame, hval⟩ := hall
        obtain ⟨v, hv, hvok⟩ : ∃ v, impl_OneRound.l0 9 o 1 (rd o 0) = some v ∧ (v = true → o.length < 2 ∨ cnt 0 o = 0) := by
          rcases hval with hval | ⟨hval, h2⟩
          · exact ⟨false, hval, by simp⟩
          · exact ⟨true, hval, fun _ => h2⟩
        have hi : Ev (fun k => impl_OneRound.f k o) v := by
          simp only [impl_OneRound.f]
          refine ev_bind (implHatsOk_ev o (by omega)) (ev_pos hh (ev_suc ?_))
          simp only [impl_OneRound.j0, hz]
          exact ev_neg (by simp) (ev_pos (by omega) (Ev.of (fun k => (impl_OneRound.mono_l k).2 _ _ _) hv))
        have hs : Ev (fun k => spec_OneRound.f k o) v := by
          simp only [spec_OneRound.f]
          refine ev_bind (specHatsOk_ev o (by omega)) (ev_pos hh (ev_suc ?_))
          simp only [spec_OneRound.j0, hz]
          exact ev_neg (by simp) (ev_pos (by omega) (Ev.of (fun k => (spec_OneRound.mono_l k).2 _ _ _) (hsame ▸ hv)))
        refine ev_bind hi (ev_bind hs (ev_neg (by simp) (ev_bind (specHatsOk_ev o (by omega)) (ev_pos hh (ev_suc ?_)))))
        simp only [laws_FnOneRound.j0, hz]
        refine ev_neg (by simp) ?_
        obtain ⟨hr1, hr2⟩ := (rnd_all ⟨o.length, by omega⟩).resolve_left hlen
        simp only [] at hr1 hr2
        have hf : fac o.length ≤ 720 := by
          have : ∀ n : Fin 7, fac n.val ≤ 720 := by decide
          exact this ⟨o.length, by omega⟩
        have hfe : Ev (fun k => laws_factorial.f k (o.length : Int)) ((fac o.length : Nat) : Int) := Ev.of (fun k => laws_factorial.mono _ k) (fac_ev ⟨o.length, by omega⟩)
        refine rounds_loop o v true h6 hr1 ?_ (fac o.length) 0 (by omega)
        refine ev_suc ?_
        simp only [laws_FnOneRound.l0]
        refine ev_bind hfe (ev_neg (by omega) (ev_bind hfe (ev_pos ?_ ?_)))
        · have e : ((((List.range (fac o.length)).filter (fun i => rnd o.length i == some true)).length : Nat) : Int) * (o.length : Int) = ((fac o.length : Nat) : Int) := by
            rw [← Int.natCast_mul, hr2]
          rw [e]
          exact w64 (by omega) (by omega)
        · cases v with
          | false => exact ev_neg (by simp) (Ev.now _)
          | true =>
            refine ev_pos (by simp) ?_
            by_cases h2 : (o.length : Int) < 2
            · exact ev_pos h2 (Ev.now _)
            · refine ev_neg h2 (ev_bind (implMatches_ev o (by omega)) (ev_now ?_))
              have := (hvok rfl).resolve_left (by omega)
              unfold matchesM
              rw [if_pos hh, this]
              rfl
    · have hi : Ev (fun k => impl_OneRound.f k o) false := by
        simp only [impl_OneRound.f]
        refine ev_bind (implHatsOk_ev o (by omega)) (ev_neg hh (ev_suc ?_))
        simp only [impl_OneRound.j0]
        exact ev_pos (by simp) (Ev.now _)
      have hs : Ev (fun k => spec_OneRound.f k o) false := by
        simp only [spec_OneRound.f]
        refine ev_bind (specHatsOk_ev o (by omega)) (ev_neg hh (ev_suc ?_))
        simp only [spec_OneRound.j0]
        exact ev_pos (by simp) (Ev.now _)
      refine ev_bind hi (ev_bind hs (ev_neg (by simp) (ev_bind (specHatsOk_ev o (by omega)) (ev_neg hh (ev_suc ?_)))))
      simp only [laws_FnOneRound.j0]
      exact ev_pos (by simp) (ev_neg (by simp) (ev_bind alive_ev (Ev.now _)))
end Go.Proofs.Ytnajepeajjbhcaa.Pure
