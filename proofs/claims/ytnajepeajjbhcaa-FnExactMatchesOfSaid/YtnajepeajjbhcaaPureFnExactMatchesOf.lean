/- For the law FnExactMatchesOf: MatchesOf of the program returns for every order of at most 1048576 numbers what MatchesOf of the reference returns, and leaves the order as it is. The conditions: the bytes or numbers that come in are of their kinds, as the statement says. -/
import Derived.Test.YtnajepeajjbhcaaMFnExactMatchesOfx2
import Derived.Test.YtnajepeajjbhcaaBase
namespace Go.Proofs.Ytnajepeajjbhcaa.Pure
open Go.RowKit Go.Proofs.Ytnajepeajjbhcaa.MFnExactMatchesOf Go.Proofs.YtnajepeajjbhcaaW.PrintWords Go.Proofs.YtnajepeajjbhcaaW.PrintLast Go.Proofs.Ytnajepeajjbhcaa.Base
namespace FnExactMatchesOf_parts
def hatsB (l : List Int) : Bool := decide (l.length ≤ 6) && (l.all (fun x => decide (0 ≤ x) && decide (x < (l.length : Int))) && decide l.Nodup)
theorem hatsB_iff (l : List Int) : hatsB l = true ↔ l.length ≤ 6 ∧ (∀ x ∈ l, 0 ≤ x ∧ x < (l.length : Int)) ∧ l.Nodup := by simp [hatsB]
theorem hatsB_no {l : List Int} (h : ¬ (l.length ≤ 6 ∧ (∀ x ∈ l, 0 ≤ x ∧ x < (l.length : Int)) ∧ l.Nodup)) : hatsB l = false := by
  cases e : hatsB l with
  | false => rfl
  | true => exact absurd ((hatsB_iff l).1 e) h
theorem index_ev (l : List Int) (a : Int) (hl : (l.length : Int) ≤ 1000000000000) : ∀ (suf pre : List Int), l = pre ++ suf → ∃ r, Ev (fun k => slices_Index_int_int.l0 k l a (l.length : Int) (pre.length : Int)) r ∧ (0 ≤ r ↔ a ∈ suf) := by
  intro suf
  induction suf with
  | nil =>
    intro pre h
    have e : l.length = pre.length := by rw [h]; simp
    refine ⟨-1, ev_suc ?_, by simp⟩
    simp (disch := omega) only [slices_Index_int_int.l0, if_neg]
    exact Ev.now _
  | cons x t ih =>
    intro pre h
    have e : l.length = pre.length + (t.length + 1) := by rw [h]; simp
    have hx : rd l (pre.length : Int) = x := by rw [h]; exact rd_at _ _ _
    by_cases hax : a = x
    · refine ⟨(pre.length : Int), ev_suc ?_, by simp [hax]⟩
      simp (disch := omega) only [slices_Index_int_int.l0, hx, if_pos]
      exact Ev.now _
    · obtain ⟨r, hr, hr'⟩ := ih (pre ++ [x]) (by rw [h]; simp)
      refine ⟨r, ev_suc ?_, by rw [hr']; simp [hax]⟩
      simp (disch := omega) only [slices_Index_int_int.l0, hx, if_pos, if_neg hax, w64]
      rw [len_at pre x]
      exact hr
theorem contains_ev (l : List Int) (a : Int) (hl : (l.length : Int) ≤ 1000000000000) : Ev (fun k => slices_Contains_int_int.f k l a) (decide (a ∈ l)) := by
  obtain ⟨r, hr, hr'⟩ := index_ev l a hl l [] rfl
  simp only [slices_Contains_int_int.f, slices_Index_int_int.f]
  refine ev_bind hr (ev_now ?_)
  simp only [ge_iff_le, hr']
theorem implHats_ev (l : List Int) (hl : (l.length : Int) ≤ 1000000000000) : ∀ (suf pre : List Int), l = pre ++ suf → (∀ x ∈ pre, 0 ≤ x ∧ x < (l.length : Int)) → pre.Nodup →
    Ev (fun k => impl_HatsOk.l0 k l l (l.length : Int) (pre.length : Int)) (hatsB l) := by
  intro suf
  induction suf with
  | nil =>
    intro pre h hr hd
    have e : l.length = pre.length := by rw [h]; simp
    refine ev_suc ?_
    simp (disch := omega) only [impl_HatsOk.l0, if_neg]
    refine ev_now ?_
    rw [List.append_nil] at h
    subst h
    by_cases h6 : l.length ≤ 6
    · rw [(hatsB_iff l).2 ⟨h6, hr, hd⟩]; exact decide_eq_true (by omega)
    · rw [hatsB_no (fun h => h6 h.1)]; exact decide_eq_false (by omega)
  | cons x t ih =>
    intro pre h hr hd
    have e : l.length = pre.length + (t.length + 1) := by rw [h]; simp
    have hx : rd l (pre.length : Int) = x := by rw [h]; exact rd_at _ _ _
    have hxl : x ∈ l := by rw [h]; simp
    refine ev_suc ?_
    simp (disch := omega) only [impl_HatsOk.l0, hx, if_pos]
    by_cases h1 : x < 0
    · refine ev_pos h1 (ev_now ?_)
      rw [hatsB_no]; intro hh; have := hh.2.1 x hxl; omega
    · refine ev_neg h1 ?_
      by_cases h2 : x ≥ (l.length : Int)
      · refine ev_pos h2 (ev_now ?_)
        rw [hatsB_no]; intro hh; have := hh.2.1 x hxl; omega
      · refine ev_neg h2 ?_
        have ht : l.take ((pre.length : Int)).toNat = pre := by rw [h]; simp
        rw [ht]
        refine ev_bind (contains_ev pre x (by omega)) ?_
        by_cases h3 : x ∈ pre
        · refine ev_pos (by simp [h3]) (ev_now ?_)
          rw [hatsB_no]
          intro hh
          have := hh.2.2
          rw [h, List.nodup_append] at this
          exact this.2.2 x h3 x (by simp) rfl
        · refine ev_neg (by simp [h3]) ?_
          rw [w64 (by omega) (by omega), len_at pre x]
          refine ih (pre ++ [x]) (by rw [h]; simp) ?_ ?_
          · intro y hy
            rcases List.mem_append.1 hy with hy | hy
            · exact hr y hy
            · rw [List.mem_singleton] at hy; subst hy; omega
          · rw [List.nodup_append]
            refine ⟨hd, by simp, ?_⟩
            intro y hy z hz
            rw [List.mem_singleton] at hz
            subst hz
            rintro rfl
            exact h3 hy
theorem implHatsOk_ev (l : List Int) (hl : (l.length : Int) ≤ 1000000000000) : Ev (fun k => impl_HatsOk.f k l) (hatsB l) := by
  simp only [impl_HatsOk.f]
  exact implHats_ev l hl l [] rfl (by simp) (by simp)
theorem mask_step : ∀ s : Fin 64, ∀ x : Fin 6, (0 ≤ Go.bits .or .i64 ((s.val : Nat) : Int) (shl .i64 1 ((x.val : Nat) : Int)) ∧ Go.bits .or .i64 ((s.val : Nat) : Int) (shl .i64 1 ((x.val : Nat) : Int)) < 64) ∧
    ∀ j : Fin 6, decide (Int.tmod (shr .i64 (Go.bits .or .i64 ((s.val : Nat) : Int) (shl .i64 1 ((x.val : Nat) : Int))) ((j.val : Nat) : Int)) 2 = 1) = (decide (j = x) || decide (Int.tmod (shr .i64 ((s.val : Nat) : Int) ((j.val : Nat) : Int)) 2 = 1)) := by
  decide +kernel
theorem mask_zero : ∀ j : Fin 6, ¬ (Int.tmod (shr .i64 0 ((j.val : Nat) : Int)) 2 = 1) := by decide +kernel
/-- The bits that are set are the numbers that were seen. -/
def Mask (s : Int) (pre : List Int) : Prop := 0 ≤ s ∧ s < 64 ∧ ∀ j : Int, 0 ≤ j → j < 6 → (Int.tmod (shr .i64 s j) 2 = 1 ↔ j ∈ pre)
theorem Mask.none : Mask 0 [] := ⟨by omega, by omega, fun j h0 h1 => by
  have := mask_zero ⟨j.toNat, by omega⟩
  have e : ((j.toNat : Nat) : Int) = j := by omega
  simp only [e] at this
  simpa using this⟩
theorem Mask.snoc {s x : Int} {pre : List Int} (h : Mask s pre) (h0 : 0 ≤ x) (h1 : x < 6) : Mask (Go.bits .or .i64 s (shl .i64 1 x)) (pre ++ [x]) := by
  obtain ⟨a, b, c⟩ := h
  have k := mask_step ⟨s.toNat, by omega⟩ ⟨x.toNat, by omega⟩
  have es : ((s.toNat : Nat) : Int) = s := by omega
  have ex : ((x.toNat : Nat) : Int) = x := by omega
  simp only [es, ex] at k
  refine ⟨k.1.1, k.1.2, fun j j0 j1 => ?_⟩
  have kj := k.2 ⟨j.toNat, by omega⟩
  have ej : ((j.toNat : Nat) : Int) = j := by omega
  simp only [ej] at kj
  have cj := c j j0 j1
  have e : (⟨j.toNat, by omega⟩ : Fin 6) = ⟨x.toNat, by omega⟩ ↔ j = x := by rw [Fin.mk.injEq]; omega
  rw [Bool.eq_iff_iff] at kj
  simp only [decide_eq_true_eq, Bool.or_eq_true] at kj
  rw [kj, e, cj]
  simp [or_comm]
theorem specHats_ev (l : List Int) (hl : (l.length : Int) ≤ 1000000000000) : ∀ (suf pre : List Int) (s : Int), l = pre ++ suf → Mask s pre → (∀ x ∈ pre, 0 ≤ x ∧ x < (l.length : Int)) → pre.Nodup →
    Ev (fun k => spec_HatsOk.l0 k l s (pre.length : Int)) (hatsB l) := by
  intro suf
  induction suf with
  | nil =>
    intro pre s h hs hr hd
    have e : l.length = pre.length := by rw [h]; simp
    refine ev_suc ?_
    simp (disch := omega) only [spec_HatsOk.l0, if_neg]
    refine ev_now ?_
    rw [List.append_nil] at h
    subst h
    by_cases h6 : l.length ≤ 6
    · rw [(hatsB_iff l).2 ⟨h6, hr, hd⟩]; exact decide_eq_true (by omega)
    · rw [hatsB_no (fun h => h6 h.1)]; exact decide_eq_false (by omega)
  | cons x t ih =>
    intro pre s h hs hr hd
    have e : l.length = pre.length + (t.length + 1) := by rw [h]; simp
    have hx : rd l (pre.length : Int) = x := by rw [h]; exact rd_at _ _ _
    have hxl : x ∈ l := by rw [h]; simp
    refine ev_suc ?_
    simp (disch := omega) only [spec_HatsOk.l0, hx, if_pos]
    by_cases h1 : x < 0
    · refine ev_pos h1 (ev_now ?_)
      rw [hatsB_no]; intro hh; have := hh.2.1 x hxl; omega
    · refine ev_neg h1 ?_
      by_cases h2 : x ≥ (l.length : Int)
      · refine ev_pos h2 (ev_now ?_)
        rw [hatsB_no]; intro hh; have := hh.2.1 x hxl; omega
      · refine ev_neg h2 ?_
        by_cases h4 : x ≥ 6
        · refine ev_pos h4 (ev_now ?_)
          rw [hatsB_no]; intro hh; omega
        · refine ev_neg h4 ?_
          have hm := hs.2.2 x (by omega) (by omega)
          by_cases h3 : x ∈ pre
          · refine ev_pos (hm.2 h3) (ev_now ?_)
            rw [hatsB_no]
            intro hh
            have := hh.2.2
            rw [h, List.nodup_append] at this
            exact this.2.2 x h3 x (by simp) rfl
          · refine ev_neg (fun q => h3 (hm.1 q)) ?_
            rw [w64 (by omega) (by omega), len_at pre x]
            refine ih (pre ++ [x]) _ (by rw [h]; simp) (hs.snoc (by omega) (by omega)) ?_ ?_
            · intro y hy
              rcases List.mem_append.1 hy with hy | hy
              · exact hr y hy
              · rw [List.mem_singleton] at hy; subst hy; omega
            · rw [List.nodup_append]
              refine ⟨hd, by simp, ?_⟩
              intro y hy z hz
              rw [List.mem_singleton] at hz
              subst hz
              rintro rfl
              exact h3 hy
theorem specHatsOk_ev (l : List Int) (hl : (l.length : Int) ≤ 1000000000000) : Ev (fun k => spec_HatsOk.f k l) (hatsB l) := by
  simp only [spec_HatsOk.f]
  exact specHats_ev l hl l [] 0 rfl Mask.none (by simp) (by simp)
def cnt (i : Int) : List Int → Int
  | [] => 0
  | a :: t => (if i = a then 1 else 0) + cnt (i + 1) t
theorem cnt_le (l : List Int) : ∀ i, 0 ≤ cnt i l ∧ cnt i l ≤ l.length := by
  induction l with
  | nil => intro i; simp [cnt]
  | cons a t ih =>
    intro i
    have := ih (i + 1)
    simp only [cnt, List.length_cons]
    split <;> omega
def matchesM (l : List Int) : Int := if hatsB l = true then cnt 0 l else -1
theorem implCount_ev (l : List Int) (hl : (l.length : Int) ≤ 1000000) : ∀ (suf pre : List Int) (n : Int), l = pre ++ suf → 0 ≤ n → n ≤ pre.length →
    Ev (fun k => impl_MatchesOf.l0 k n l (l.length : Int) (pre.length : Int)) (n + cnt (pre.length : Int) suf) := by
  intro suf
  induction suf with
  | nil =>
    intro pre n h h0 h1
    have e : l.length = pre.length := by rw [h]; simp
    refine ev_suc ?_
    simp (disch := omega) only [impl_MatchesOf.l0, if_neg, cnt]
    exact ev_now (by omega)
  | cons x t ih =>
    intro pre n h h0 h1
    have e : l.length = pre.length + (t.length + 1) := by rw [h]; simp
    have hx : rd l (pre.length : Int) = x := by rw [h]; exact rd_at _ _ _
    have hp : ((pre ++ [x]).length : Int) = (pre.length : Int) + 1 := (len_at pre x).symm
    refine ev_suc ?_
    simp (disch := omega) only [impl_MatchesOf.l0, hx, if_pos, w64]
    by_cases hxi : (pre.length : Int) = x
    · refine ev_pos hxi ?_
      have := ih (pre ++ [x]) (n + 1) (by rw [h]; simp) (by omega) (by omega)
      rw [hp] at this
      refine ev_eq this ?_
      simp only [cnt, if_pos hxi]; omega
    · refine ev_neg hxi ?_
      have := ih (pre ++ [x]) n (by rw [h]; simp) (by omega) (by omega)
      rw [hp] at this
      refine ev_eq this ?_
      simp only [cnt, if_neg hxi]; omega
theorem implMatches_ev (l : List Int) (hl : (l.length : Int) ≤ 1000000000000) : Ev (fun k => impl_MatchesOf.f k l) (matchesM l) := by
  simp only [impl_MatchesOf.f]
  refine ev_bind (implHatsOk_ev l hl) ?_
  unfold matchesM
  by_cases h : hatsB l = true
  · rw [if_pos h]
    refine ev_pos h ?_
    have h6 := ((hatsB_iff l).1 h).1
    exact ev_eq (implCount_ev l (by omega) l [] 0 rfl (by omega) (by omega)) (by simp)
  · rw [if_neg h]
    exact ev_neg h (Ev.now _)
theorem specCount_ev (l : List Int) (hl : (l.length : Int) ≤ 1000000) : ∀ (suf pre : List Int) (n : Int), l = pre ++ suf → 0 ≤ n → n ≤ pre.length →
    Ev (fun k => spec_MatchesOf.l0 k l n (pre.length : Int)) (n + cnt (pre.length : Int) suf) := by
  intro suf
  induction suf with
  | nil =>
    intro pre n h h0 h1
    have e : l.length = pre.length := by rw [h]; simp
    refine ev_suc ?_
    simp (disch := omega) only [spec_MatchesOf.l0, if_neg, cnt]
    exact ev_now (by omega)
  | cons x t ih =>
    intro pre n h h0 h1
    have e : l.length = pre.length + (t.length + 1) := by rw [h]; simp
    have hx : rd l (pre.length : Int) = x := by rw [h]; exact rd_at _ _ _
    have hp : ((pre ++ [x]).length : Int) = (pre.length : Int) + 1 := (len_at pre x).symm
    refine ev_suc ?_
    simp (disch := omega) only [spec_MatchesOf.l0, hx, if_pos, w64]
    by_cases hxi : x = (pre.length : Int)
    · refine ev_pos hxi ?_
      have := ih (pre ++ [x]) (n + 1) (by rw [h]; simp) (by omega) (by omega)
      rw [hp] at this
      refine ev_eq this ?_
      simp only [cnt, if_pos hxi.symm]; omega
    · refine ev_neg hxi ?_
      have := ih (pre ++ [x]) n (by rw [h]; simp) (by omega) (by omega)
      rw [hp] at this
      refine ev_eq this ?_
      simp only [cnt, if_neg (Ne.symm hxi)]; omega
theorem specMatches_ev (l : List Int) (hl : (l.length : Int) ≤ 1000000000000) : Ev (fun k => spec_MatchesOf.f k l) (matchesM l) := by
  simp only [spec_MatchesOf.f]
  refine ev_bind (specHatsOk_ev l hl) ?_
  unfold matchesM
  by_cases h : hatsB l = true
  · rw [if_pos h]
    refine ev_pos h ?_
    have h6 := ((hatsB_iff l).1 h).1
    exact ev_eq (specCount_ev l (by omega) l [] 0 rfl (by omega) (by omega)) (by simp)
  · rw [if_neg h]
    exact ev_neg h (Ev.now _)
theorem toIntS_loop (l : List Int) (hl : (l.length : Int) ≤ 1000000000000) : ∀ (suf pre : List Int), l = pre ++ suf →
    Ev (fun k => laws_toIntS.l0 k l (pre ++ List.replicate suf.length 0) (pre.length : Int)) l := by
  intro suf
  induction suf with
  | nil =>
    intro pre h
    have e : l.length = pre.length := by rw [h]; simp
    refine ev_suc ?_
    simp (disch := omega) only [laws_toIntS.l0, if_neg]
    exact ev_now (by rw [h]; simp)
  | cons x t ih =>
    intro pre h
    have e : l.length = pre.length + (t.length + 1) := by rw [h]; simp
    have hx : rd l (pre.length : Int) = x := by rw [h]; exact rd_at _ _ _
    have hs : ((pre ++ List.replicate (t.length + 1) (0 : Int)).length : Int) = (pre.length : Int) + (t.length + 1) := by simp
    refine ev_suc ?_
    simp (disch := omega) only [laws_toIntS.l0, List.length_cons, hs, hx, if_pos, w64, Int.toNat_natCast]
    rw [List.replicate_succ, set_at, len_at pre x]
    have := ih (pre ++ [x]) (by rw [h]; simp)
    simpa using this
theorem toIntS_ev (l : List Int) (hl : (l.length : Int) ≤ 1000000000000) : Ev (fun k => laws_toIntS.f k l) l := by
  simp (disch := omega) only [laws_toIntS.f, if_pos, Int.toNat_natCast]
  exact toIntS_loop l hl l [] rfl
theorem eqIntS_loop (a b : List Int) (hl : (a.length : Int) ≤ 1000000000000) (hab : a.length = b.length) : ∀ (s t p : List Int), a = p ++ s → b = p ++ t →
    Ev (fun k => laws_eqIntS.l0 k a b (p.length : Int)) (decide (s = t)) := by
  intro s
  induction s with
  | nil =>
    intro t p h h'
    have e : a.length = p.length := by rw [h]; simp
    have e' : b.length = p.length + t.length := by rw [h']; simp
    have : t = [] := List.eq_nil_of_length_eq_zero (by omega)
    subst this
    refine ev_suc ?_
    simp (disch := omega) only [laws_eqIntS.l0, if_neg]
    exact ev_now (by simp)
  | cons x s ih =>
    intro t p h h'
    have e : a.length = p.length + (s.length + 1) := by rw [h]; simp
    have e' : b.length = p.length + t.length := by rw [h']; simp
    cases t with
    | nil => simp at e'; omega
    | cons y t =>
      have hx : rd a (p.length : Int) = x := by rw [h]; exact rd_at _ _ _
      have hy : rd b (p.length : Int) = y := by rw [h']; exact rd_at _ _ _
      refine ev_suc ?_
      simp (disch := omega) only [laws_eqIntS.l0, hx, hy, if_pos, w64]
      by_cases hxy : x = y
      · refine ev_pos hxy ?_
        subst hxy
        rw [len_at p x]
        exact ev_eq (ih t (p ++ [x]) (by rw [h]; simp) (by rw [h']; simp)) (by simp)
      · exact ev_neg hxy (ev_now (by simp [hxy]))
theorem eqIntS_ev (a b : List Int) (hl : (a.length : Int) ≤ 1000000000000) : Ev (fun k => laws_eqIntS.f k a b) (decide (a = b)) := by
  simp only [laws_eqIntS.f]
  by_cases h : (a.length : Int) = (b.length : Int)
  · exact ev_pos h (eqIntS_loop a b hl (by omega) a b [] rfl rfl)
  · refine ev_neg h (ev_now ?_)
    have : a ≠ b := by rintro rfl; exact h rfl
    simp [this]

end FnExactMatchesOf_parts
open FnExactMatchesOf_parts
theorem FnExactMatchesOf : laws_FnExactMatchesOf.Pure := by
  intro l hl1 hl2 _
  refine Ev.rounds ?_
  have hl : (l.length : Int) ≤ 1000000000000000 := by omega
  simp only [laws_FnExactMatchesOf.f]
  by_cases h : (l.length : Int) > 1048576
  · exact ev_pos h (Ev.now _)
  · refine ev_neg h ?_
    have hb : (l.length : Int) ≤ 1000000000000 := by omega
    refine ev_bind (toIntS_ev l hb) (ev_bind (specMatches_ev l hb) (ev_bind (toIntS_ev l hb) (ev_bind (implMatches_ev l hb) (ev_pos rfl (ev_bind (toIntS_ev l hb) (ev_bind (eqIntS_ev l l hb) ?_))))))
    simp only [decide_true, if_true]
    exact Ev.now _
end Go.Proofs.Ytnajepeajjbhcaa.Pure
