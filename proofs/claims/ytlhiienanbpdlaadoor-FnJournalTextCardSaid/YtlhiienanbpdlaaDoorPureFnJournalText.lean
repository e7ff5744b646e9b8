/- For the law FnJournalText: for every code the journal of drawn deeds is that of the reference; and if there is one, these deeds are read from it, and all of it. The conditions: the bytes or numbers that come in are of their kinds, as the statement says. -/
import Derived.Test.YtlhiienanbpdlaaDoorMFnJournalTextx11
import Derived.Test.YtlhiienanbpdlaaDoorBase
import Derived.Test.YtlhiienanbpdlaaDoorMath
import Derived.Test.YtlhiienanbpdlaaDoorDeed
import Derived.Test.YtlhiienanbpdlaaDoorText
namespace Go.Proofs.YtlhiienanbpdlaaDoor.Pure
open Go.RowKit Go.Proofs.YtlhiienanbpdlaaDoor.MFnJournalText Go.Proofs.YtlhiienanbpdlaaDoorW.PrintWords Go.Proofs.YtlhiienanbpdlaaDoorW.PrintLast Go.Proofs.YtlhiienanbpdlaaDoor.Base
namespace FnJournalText_parts
theorem l15Step_ev {n : Int} (h0 : -99 ≤ n) (h1 : n ≤ 99) : Ev (fun k => spec_l15Step.f k n) (ba (numT n)) := by
  have := small_all (p := fun n => decide (spec_l15Step.f 5 n = some (ba (numT n)))) (by decide +kernel) h0 h1
  exact Ev.of (fun k => spec_l15Step.mono _ _) (of_decide_eq_true this)
theorem litb (l : Tx) : (⟨⟨l⟩⟩ : ByteArray) = ba l := rfl
theorem l1Number_ev {n : Int} (h0 : 0 ≤ n) (h1 : n ≤ 99) : Ev (fun k => spec_l1Number.f k n) (ba (numT n)) := by
  have := small_all (p := fun n => decide (n < 0) || decide (spec_l1Number.f 5 n = some (ba (numT n)))) (by decide +kernel) (n := n) (by omega) h1
  rw [decide_eq_false (by omega), Bool.false_or] at this
  exact Ev.of (fun k => spec_l1Number.mono _ _) (of_decide_eq_true this)
theorem specIn_ev (a b c : Int) : spec_l1In.f a b c = some (decide (b ≤ a ∧ a ≤ c)) := by
  unfold spec_l1In.f
  split <;> simp <;> omega
theorem sdeed_far (k a b : Int) : Ev (fun n => spec_DeedText.j0 n true k a b) (ba []) := ev_suc (by simp only [spec_DeedText.j0]; exact ev_pos trivial (Ev.now _))
theorem sdeed_ev (k a b : Int) : Ev (fun n => spec_DeedText.f n k a b) (ba (deedT k a b)) := by
  unfold deedT spec_DeedText.f
  simp only [specIn_ev, Option.bind_some, decide_eq_true_eq]
  by_cases ha : -99 ≤ a ∧ a ≤ 99
  case neg => rw [if_neg (fun h => ha h.1)]; exact ev_neg ha (sdeed_far k a b)
  by_cases hb : -99 ≤ b ∧ b ≤ 99
  case neg =>
    rw [if_neg (fun h => hb h.2)]
    refine ev_pos ha ?_
    rw [decide_eq_false hb]
    exact sdeed_far k a b
  rw [if_pos ⟨ha, hb⟩]
  refine ev_pos ha ?_
  rw [decide_eq_true hb]
  refine ev_suc ?_
  simp only [spec_DeedText.j0, Bool.not_true, Bool.false_eq_true, if_false, Bool.and_eq_true, beq_iff_eq]
  obtain ⟨_, l1, l2⟩ := numT_bytes ha.1 ha.2
  obtain ⟨_, m1, m2⟩ := numT_bytes hb.1 hb.2
  split
  · refine ev_bind (l15Step_ev ha.1 ha.2) (ev_pos (by rw [ba_size]; omega) (ev_pos (by rw [litb, ba_append, ba_size, List.length_append]; simp; omega) (ev_bind (l15Step_ev hb.1 hb.2) (ev_pos ?_ ?_))))
    · rw [litb, litb, ba_append, ba_append, ba_size, ba_size]; simp; omega
    · rw [litb, litb, ba_append, ba_append, ba_append]
      refine ev_eq (Ev.now _) ?_
      simp [putW]
  split
  · exact ev_bind (l15Step_ev ha.1 ha.2) (ev_pos (by rw [ba_size]; omega) (ev_eq (Ev.now _) (by rw [litb, ba_append]; simp [stepW])))
  split
  · exact ev_bind (l15Step_ev ha.1 ha.2) (ev_pos (by rw [ba_size]; omega) (ev_eq (Ev.now _) (by rw [litb, ba_append]; simp [drawW])))
  split
  · exact Ev.now _
  split
  · exact Ev.now _
  · exact Ev.now _
theorem itoa_ev {n : Int} (h0 : -99 ≤ n) (h1 : n ≤ 99) : strconv_Itoa.f n = some (ba (numT n)) := by
  unfold strconv_Itoa.f
  rw [if_pos ⟨by omega, by omega⟩, itoa_small h0 h1]
  rfl
theorem ideed_far (k a b : Int) : Ev (fun n => impl_DeedText.j0 n true k a b) (ba []) := ev_suc (by simp only [impl_DeedText.j0]; exact ev_pos trivial (Ev.now _))
theorem ideed_ev (k a b : Int) : Ev (fun n => impl_DeedText.f n k a b) (ba (deedT k a b)) := by
  unfold deedT impl_DeedText.f
  by_cases h1 : a < -99
  · rw [if_neg (fun h => by omega)]; exact ev_pos h1 (ideed_far k a b)
  refine ev_neg h1 ?_
  by_cases h2 : a > 99
  · rw [if_neg (fun h => by omega)]; exact ev_pos h2 (ideed_far k a b)
  refine ev_neg h2 ?_
  by_cases h3 : b < -99
  · rw [if_neg (fun h => by omega)]; exact ev_pos h3 (ideed_far k a b)
  refine ev_neg h3 ?_
  by_cases h4 : b > 99
  · rw [if_neg (fun h => by omega), decide_eq_true h4]; exact ideed_far k a b
  rw [if_pos (by omega), decide_eq_false h4]
  have ha : -99 ≤ a ∧ a ≤ 99 := by omega
  have hb : -99 ≤ b ∧ b ≤ 99 := by omega
  refine ev_suc ?_
  simp only [impl_DeedText.j0, Bool.false_eq_true, if_false, Bool.and_eq_true, beq_iff_eq, itoa_ev ha.1 ha.2, itoa_ev hb.1 hb.2, Option.bind_some]
  obtain ⟨_, l1, l2⟩ := numT_bytes ha.1 ha.2
  obtain ⟨_, m1, m2⟩ := numT_bytes hb.1 hb.2
  refine ev_pos (by rw [ba_size]; omega) ?_
  simp only [litb, ba_append, ba_size]
  split
  · rename_i hk
    refine ev_pos (by simp; omega) (ev_pos (by simp; omega) (ev_pos (by simp; omega) (ev_eq (Ev.now _) ?_)))
    simp [putW]
  rename_i hk
  by_cases hb0 : b = 0
  · refine ev_pos hb0 ?_
    simp only [hb0, and_true]
    split
    · exact ev_pos (by simp; omega) (ev_eq (Ev.now _) (by simp [stepW]))
    split
    · exact ev_pos (by simp; omega) (ev_eq (Ev.now _) (by simp [drawW]))
    by_cases ha0 : a = 0
    · refine ev_pos ha0 ?_
      simp only [ha0, and_true]
      split
      · exact Ev.now _
      split
      · exact Ev.now _
      · exact Ev.now _
    · refine ev_neg ha0 ?_
      simp only [ha0, and_false, if_false]
      exact Ev.now _
  · refine ev_neg hb0 ?_
    simp only [hb0, and_false, if_false]
    exact Ev.now _
def triD (x : S30) : Int × Int × Int := (x.f0, x.f1, x.f2)
theorem sjournal_loop (l : List S30) (hl : l.length ≤ 1048576) : ∀ (suf pre : List S30) (acc : Tx), l = pre ++ suf → acc.length ≤ 12 * pre.length →
    Ev (fun k => spec_JournalText.l0 k l (ba acc) (pre.length : Int)) (ba (journalT acc (suf.map triD))) := by
  intro suf
  induction suf with
  | nil =>
    intro pre acc h _
    rw [List.append_nil] at h
    subst h
    refine ev_suc ?_
    simp only [spec_JournalText.l0]
    exact ev_neg (by omega) (Ev.now _)
  | cons x t ih =>
    intro pre acc h ha
    have e : l.length = pre.length + (t.length + 1) := by rw [h]; simp
    have hx : rd_T30 l (pre.length : Int) = x := by rw [h]; simp [rd_T30]
    have hd := deed_len x.f0 x.f1 x.f2
    refine ev_suc ?_
    simp only [spec_JournalText.l0, hx]
    refine ev_pos (by omega) (ev_pos (by omega) (ev_bind (sdeed_ev _ _ _) ?_))
    simp only [toList_ba, List.map_cons, journalT, triD]
    split
    · exact Ev.now _
    · refine ev_bind (sdeed_ev _ _ _) (ev_pos (by rw [ba_size, ba_size]; omega) ?_)
      rw [ba_append, ba_size, List.length_append]
      refine ev_pos (by omega) ?_
      rw [w64 (by omega) (by omega), len_at pre x, litb, ba_append]
      exact ih (pre ++ [x]) _ (by rw [h]; simp) (by simp; omega)
theorem ijournal_loop (l : List S30) (hl : l.length ≤ 1048576) : ∀ (suf pre : List S30) (acc : Tx), l = pre ++ suf → acc.length ≤ 12 * pre.length →
    Ev (fun k => impl_JournalText.l0 k (ba acc) l (l.length : Int) (pre.length : Int)) (ba (journalT acc (suf.map triD))) := by
  intro suf
  induction suf with
  | nil =>
    intro pre acc h _
    rw [List.append_nil] at h
    subst h
    refine ev_suc ?_
    simp only [impl_JournalText.l0]
    exact ev_neg (by omega) (Ev.now _)
  | cons x t ih =>
    intro pre acc h ha
    have e : l.length = pre.length + (t.length + 1) := by rw [h]; simp
    have hx : rd_T30 l (pre.length : Int) = x := by rw [h]; simp [rd_T30]
    have hd := deed_len x.f0 x.f1 x.f2
    refine ev_suc ?_
    simp only [impl_JournalText.l0, hx]
    refine ev_pos (by omega) (ev_pos (by omega) (ev_pos (by omega) (ev_bind (ideed_ev _ _ _) ?_)))
    simp only [toList_ba, List.map_cons, journalT, triD]
    split
    · exact Ev.now _
    · refine ev_pos (by rw [ba_size]; omega) ?_
      rw [litb, ba_append, ba_size, ba_size, List.length_append]
      refine ev_pos (by simp; omega) ?_
      rw [w64 (by omega) (by omega), len_at pre x, ba_append]
      refine ev_eq (ih (pre ++ [x]) _ (by rw [h]; simp) (by simp; omega)) ?_
      simp
theorem sjournal_ev (l : List S30) (hl : l.length ≤ 1048576) : Ev (fun k => spec_JournalText.f k l) (ba (journalT [] (l.map triD))) := by
  unfold spec_JournalText.f
  exact sjournal_loop l hl l [] [] rfl (by simp)
theorem ijournal_ev (l : List S30) (hl : l.length ≤ 1048576) : Ev (fun k => impl_JournalText.f k l) (ba (journalT [] (l.map triD))) := by
  unfold impl_JournalText.f
  exact ijournal_loop l hl l [] [] rfl (by simp)
theorem isplit_ev (c : UInt8) (l : Tx) (hl : l.length ≤ 4000000000) : strings_Split.f (ba l) (ba [c]) = some ((cutA c [] l).map ba) := by
  unfold strings_Split.f
  rw [if_pos ⟨by rw [ba_size]; omega, by simp⟩, split_cut]
theorem rdOf_map (l : List Tx) (i : Int) : rdOf ByteArray.empty (l.map ba) i = ba (l.getD i.toNat []) := by
  unfold rdOf
  rw [List.getD_eq_getElem?_getD, List.getD_eq_getElem?_getD, List.getElem?_map]
  cases l[i.toNat]? <;> rfl
theorem words_small (x : Tx) (hx : x.length ≤ 1048576) : ∀ i, ((cutA 32 [] x).getD i []).length ≤ 1048576 := by
  have : ∀ (l acc : Tx) (p : Tx), p ∈ cutA 32 acc l → p.length ≤ acc.length + l.length := by
    intro l
    induction l with
    | nil => intro acc p hp; simp [cutA] at hp; subst hp; simp
    | cons b l ih =>
      intro acc p hp
      unfold cutA at hp
      split at hp
      · rcases List.mem_cons.1 hp with rfl | hp
        · simp
        · have := ih [] p hp; simp at this ⊢; omega
      · have := ih _ p hp; simp at this ⊢; omega
  intro i
  rw [List.getD_eq_getElem?_getD]
  cases hg : (cutA 32 [] x)[i]? with
  | none => simp
  | some p =>
    have := this x [] p (List.mem_of_getElem? hg)
    simp at this ⊢; omega
/-- The numbers that the library reads. -/
def numA (w : Tx) : Int := match Lib.atoiAll w with | .ok v => v | Lib.NumEnd.syntax => 0 | .range => Lib.atoiSat w
theorem atoi_ev (w : Tx) (h : w.length ≤ 1048576) : ∃ e, strconv_Atoi.f (ba w) = some (numA w, e) := by
  unfold strconv_Atoi.f numA
  rw [if_pos (by rw [ba_size]; omega)]
  simp only [ba_list]
  cases Lib.atoiAll w <;> exact ⟨_, rfl⟩
theorem numA_numT {n : Int} (h0 : -99 ≤ n) (h1 : n ≤ 99) : numA (numT n) = n := by unfold numA; rw [atoi_numT h0 h1]
/-- The word's number among the five. -/
def kindOf (w : Tx) : Int := if w = putW then 0 else if w = stepW then 1 else if w = drawW then 2 else if w = againW then 3 else if w = backW then 4 else -1
theorem kind_ev (w : Tx) : Ev (fun k => slices_Index_string_string.f k [ba putW, ba stepW, ba drawW, ba againW, ba backW] (ba w)) (kindOf w) := by
  unfold slices_Index_string_string.f kindOf
  refine ev_suc ?_
  simp only [slices_Index_string_string.l0]
  refine ev_pos (by decide) (ev_pos (by decide) (ev_pos (by decide) ?_))
  simp only [rdOf, toList_ba, List.length_cons, List.length_nil, Int.toNat_zero, List.getD_cons_zero, w64 (n := 0 + 1) (by decide) (by decide)]
  split
  · exact Ev.now _
  refine ev_suc ?_
  simp only [slices_Index_string_string.l0]
  refine ev_pos (by decide) (ev_pos (by decide) (ev_pos (by decide) ?_))
  have t1 : (0 + 1 : Int).toNat = 1 := rfl
  simp only [rdOf, toList_ba, t1, List.getD_cons_zero, List.getD_cons_succ, w64 (n := 0 + 1 + 1) (by decide) (by decide)]
  split
  · exact Ev.now _
  refine ev_suc ?_
  simp only [slices_Index_string_string.l0]
  refine ev_pos (by decide) (ev_pos (by decide) (ev_pos (by decide) ?_))
  have t2 : (0 + 1 + 1 : Int).toNat = 2 := rfl
  simp only [rdOf, toList_ba, t2, List.getD_cons_zero, List.getD_cons_succ, w64 (n := 0 + 1 + 1 + 1) (by decide) (by decide)]
  split
  · exact Ev.now _
  refine ev_suc ?_
  simp only [slices_Index_string_string.l0]
  refine ev_pos (by decide) (ev_pos (by decide) (ev_pos (by decide) ?_))
  have t3 : (0 + 1 + 1 + 1 : Int).toNat = 3 := rfl
  simp only [rdOf, toList_ba, t3, List.getD_cons_zero, List.getD_cons_succ, w64 (n := 0 + 1 + 1 + 1 + 1) (by decide) (by decide)]
  split
  · exact Ev.now _
  refine ev_suc ?_
  simp only [slices_Index_string_string.l0]
  refine ev_pos (by decide) (ev_pos (by decide) (ev_pos (by decide) ?_))
  have t4 : (0 + 1 + 1 + 1 + 1 : Int).toNat = 4 := rfl
  simp only [rdOf, toList_ba, t4, List.getD_cons_zero, List.getD_cons_succ, w64 (n := 0 + 1 + 1 + 1 + 1 + 1) (by decide) (by decide)]
  split
  · exact Ev.now _
  refine ev_suc ?_
  simp only [slices_Index_string_string.l0]
  exact ev_neg (by decide) (Ev.now _)
theorem kindOf_lt (w : Tx) : kindOf w < 5 := by unfold kindOf; repeat' split <;> try omega
theorem iread_end (x : Tx) (k a b : Int) (hd : ∀ k' a' b', deedT k' a' b' = x → x ≠ [] → (k, a, b) = (k', a', b')) (hx : x ≠ []) :
    (if (ba (deedT k a b)).toList = (ba x).toList then some (k, a, b, true) else some (0, 0, 0, false)) = some (readD x) := by
  simp only [toList_ba]
  split
  · rename_i h; rw [readD_of h hx]
  · rename_i h
    rw [readD_not fun k' a' b' h' => ?_]
    by_cases h0 : x = []
    · exact h0
    · have := hd k' a' b' h' h0
      simp only [Prod.mk.injEq] at this
      obtain ⟨rfl, rfl, rfl⟩ := this
      exact absurd h' h
theorem iread_ev (x : Tx) (hx : x.length ≤ 1048576) : Ev (fun k => impl_ReadDeed.f k (ba x)) (readD x) := by
  have hw := words_small x hx
  unfold impl_ReadDeed.f
  have hs := isplit_ev 32 x (by omega)
  have e32 : (⟨#[32]⟩ : ByteArray) = ba [32] := rfl
  simp only [e32, hs, Option.bind_some, List.length_map, rdOf_map]
  have hp := cutA_pos 32 x []
  have hcut : ∀ {k a b : Int}, deedT k a b = x → x ≠ [] → _ := fun {k a b} h h2 => deed_cases (k := k) (a := a) (b := b) (by rw [h]; exact h2)
  refine ev_pos (by omega) (ev_bind (kind_ev _) ?_)
  have t0 : (0 : Int).toNat = 0 := rfl
  rw [t0]
  by_cases hk : kindOf ((cutA 32 [] x).getD 0 []) < 0
  · refine ev_pos hk (ev_suc ?_)
    simp only [impl_ReadDeed.j0]
    refine ev_pos trivial ?_
    rw [readD_not fun k a b e => ?_]
    · exact Ev.now _
    by_cases h0 : x = []
    · exact h0
    obtain ⟨_, c⟩ := hcut e h0
    rw [e] at c
    exfalso
    rcases c with ⟨_, _, c⟩ | ⟨_, _, _, c⟩ | ⟨_, _, _, c⟩ | ⟨_, _, _, _, c⟩ | ⟨_, _, _, _, c⟩ <;> rw [c, List.getD_cons_zero] at hk <;> exact absurd hk (by decide)
  refine ev_neg hk ?_
  have hx0 : x ≠ [] := by rintro rfl; exact hk (by decide)
  by_cases h3 : ((cutA 32 [] x).length : Int) > 3
  · rw [decide_eq_true h3]
    refine ev_suc ?_
    simp only [impl_ReadDeed.j0]
    refine ev_pos trivial ?_
    rw [readD_not fun k a b e => ?_]
    · exact Ev.now _
    obtain ⟨_, c⟩ := hcut e hx0
    rw [e] at c
    exfalso
    rcases c with ⟨_, _, c⟩ | ⟨_, _, _, c⟩ | ⟨_, _, _, c⟩ | ⟨_, _, _, _, c⟩ | ⟨_, _, _, _, c⟩ <;> rw [c] at h3 <;> simp at h3
  rw [decide_eq_false h3]
  refine ev_suc ?_
  simp only [impl_ReadDeed.j0, Bool.false_eq_true, if_false, Option.bind_some, List.length_map, rdOf_map, List.length_cons, List.length_nil]
  have hk5 := kindOf_lt ((cutA 32 [] x).getD 0 [])
  have hrd : rd [0, 1, 2, 3, 4] (kindOf ((cutA 32 [] x).getD 0 [])) = kindOf ((cutA 32 [] x).getD 0 []) := by
    generalize kindOf ((cutA 32 [] x).getD 0 []) = n at hk hk5
    obtain ⟨m, rfl⟩ := Int.eq_ofNat_of_zero_le (Int.not_lt.1 hk)
    have : m = 0 ∨ m = 1 ∨ m = 2 ∨ m = 3 ∨ m = 4 := by omega
    rcases this with rfl | rfl | rfl | rfl | rfl <;> rfl
  refine ev_pos (by omega) (ev_pos (by simpa using hk5) ?_)
  rw [hrd]
  obtain ⟨e1, h1⟩ := atoi_ev _ (hw 1)
  obtain ⟨e2, h2⟩ := atoi_ev _ (hw 2)
  have t1 : (1 : Int).toNat = 1 := rfl
  have t2 : (2 : Int).toNat = 2 := rfl
  rw [t1, h1]
  by_cases hl1 : ((cutA 32 [] x).length : Int) > 1
  · refine ev_pos hl1 (ev_pos (by omega) ?_)
    simp only [Option.bind_some]
    refine ev_suc ?_
    simp only [impl_ReadDeed.j1, List.length_map, rdOf_map, t2, h2, Option.bind_some]
    by_cases hl2 : ((cutA 32 [] x).length : Int) > 2
    · refine ev_pos hl2 (ev_pos (by omega) (ev_bind (ideed_ev _ _ _) ?_))
      refine Ev.congr (fun _ => iread_end x _ _ _ (fun k a b e h0 => ?_) hx0) (Ev.now _)
      obtain ⟨⟨⟨r1, r2⟩, r3, r4⟩, c⟩ := hcut e h0
      rw [e] at c
      rcases c with ⟨rfl, _, c⟩ | ⟨_, _, _, c⟩ | ⟨_, _, _, c⟩ | ⟨_, _, _, _, c⟩ | ⟨_, _, _, _, c⟩ <;> rw [c] at hl2 ⊢ <;> simp at hl2
      simp [numA_numT r1 r2, numA_numT r3 r4, kindOf]
    · refine ev_neg hl2 (ev_bind (ideed_ev _ _ _) ?_)
      refine Ev.congr (fun _ => iread_end x _ _ _ (fun k a b e h0 => ?_) hx0) (Ev.now _)
      obtain ⟨⟨⟨r1, r2⟩, r3, r4⟩, c⟩ := hcut e h0
      rw [e] at c
      rcases c with ⟨rfl, _, c⟩ | ⟨rfl, rfl, _, c⟩ | ⟨rfl, rfl, _, c⟩ | ⟨_, _, _, _, c⟩ | ⟨_, _, _, _, c⟩ <;> rw [c] at hl1 hl2 ⊢ <;> simp at hl1 hl2
      · simp [numA_numT r1 r2, kindOf, putW, stepW]
      · simp [numA_numT r1 r2, kindOf, putW, stepW, drawW]
  · refine ev_neg hl1 (ev_suc ?_)
    simp only [impl_ReadDeed.j1, List.length_map]
    refine ev_neg (by omega) (ev_bind (ideed_ev _ _ _) ?_)
    refine Ev.congr (fun _ => iread_end x _ _ _ (fun k a b e h0 => ?_) hx0) (Ev.now _)
    obtain ⟨_, c⟩ := hcut e h0
    rw [e] at c
    rcases c with ⟨rfl, _, c⟩ | ⟨rfl, rfl, _, c⟩ | ⟨rfl, rfl, _, c⟩ | ⟨rfl, rfl, rfl, _, c⟩ | ⟨rfl, rfl, rfl, _, c⟩ <;> rw [c] at hl1 ⊢ <;> simp at hl1
    · simp [kindOf, putW, stepW, drawW, againW]
    · simp [kindOf, putW, stepW, drawW, againW, backW]
def mkD (d : Int × Int × Int) : S30 := ⟨d.1, d.2.1, d.2.2⟩
theorem cut_one (s : Tx) : (Lib.cut s [10] = (s, [], false) ∧ (10 : UInt8) ∉ s) ∨ ∃ l r, s = l ++ 10 :: r ∧ (10 : UInt8) ∉ l ∧ Lib.cut s [10] = (l, r, true) := by
  rcases index_one 10 s with ⟨h1, h2⟩ | ⟨l, r, rfl, h2, h3⟩
  · exact Or.inl ⟨by simp [Lib.cut, h1], h2⟩
  · refine Or.inr ⟨l, r, rfl, h2, ?_⟩
    have : ¬ ((l.length : Int) = -1) := by omega
    simp [Lib.cut, h3, this]
theorem ireadj_loop (x : Tx) (hx : x.length ≤ 1048576) : ∀ (n : Nat) (s pre : Tx) (ds : List (Int × Int × Int)), s.length ≤ n → x = pre ++ s → ds.length ≤ pre.length →
    Ev (fun k => impl_ReadJournal.l0 k (ba x) (ds.map mkD) (pre.length : Int)) ((rjL (cutA 10 [] s) ds pre.length).1.map mkD, ((rjL (cutA 10 [] s) ds pre.length).2 : Int)) := by
  intro n
  induction n with
  | zero =>
    intro s pre ds hs h hd
    obtain rfl := List.eq_nil_of_length_eq_zero (Nat.le_zero.1 hs)
    have e : x.length = pre.length := by rw [h]; simp
    refine ev_suc ?_
    simp only [impl_ReadJournal.l0]
    refine ev_pos (by omega) (ev_pos (by rw [ba_size]; omega) ?_)
    have e2 : (ba x).extract (pre.length : Int).toNat (ba x).size = ba [] := by rw [ba_extract]; congr 1; rw [h]; simp
    simp only [e2, strings_Cut.f]
    refine ev_bind (Ev.now _) ?_
    refine ev_bind (iread_ev [] (by simp)) ?_
    refine ev_neg (by decide) ?_
    simp only [cutA, rjL]
    exact Ev.now _
  | succ n ih =>
    intro s pre ds hs h hd
    have e : x.length = pre.length + s.length := by rw [h]; simp
    refine ev_suc ?_
    simp only [impl_ReadJournal.l0]
    refine ev_pos (by omega) (ev_pos (by rw [ba_size]; omega) ?_)
    have e2 : (ba x).extract (pre.length : Int).toNat (ba x).size = ba s := by rw [ba_extract]; congr 1; rw [h, ba_size]; simp
    have e3 : (⟨#[10]⟩ : ByteArray) = ba [10] := rfl
    simp only [e2, e3, strings_Cut.f]
    simp only [ba_size, ba_list]
    rw [if_pos (by omega)]
    simp only [Option.bind_some]
    rcases cut_one s with ⟨h1, h2⟩ | ⟨l, r, rfl, h2, h3⟩
    · rw [h1]
      refine ev_bind (iread_ev s (by omega)) (ev_neg (by simp) ?_)
      rw [cutA_none s [] h2]
      simp only [rjL]
      exact Ev.now _
    · rw [h3]
      have el : (l ++ 10 :: r).length = l.length + (r.length + 1) := by simp
      refine ev_bind (iread_ev l (by omega)) (ev_pos rfl ?_)
      rw [cutA_hit l [] r h2, List.nil_append, rjL_cut]
      by_cases ho : (readD l).2.2.2 = true
      · refine ev_pos ho (ev_pos (by rw [List.length_map]; omega) ?_)
        rw [if_pos ho]
        have e4 : (⟨l.toArray⟩ : ByteArray).size = l.length := ba_size l
        rw [e4, w64 (n := (l.length : Int) + 1) (by omega) (by omega), w64 (by omega) (by omega)]
        have := ih r (pre ++ l ++ [10]) (ds ++ [((readD l).1, (readD l).2.1, (readD l).2.2.1)]) (by omega) (by rw [h]; simp) (by simp; omega)
        have e5 : (pre ++ l ++ [10]).length = pre.length + l.length + 1 := by simp; omega
        rw [e5] at this
        simp only [List.map_append, List.map_cons, List.map_nil, mkD] at this
        have e6 : (pre.length : Int) + ((l.length : Int) + 1) = ((pre.length + l.length + 1 : Nat) : Int) := by omega
        rw [e6]
        exact this
      · refine ev_neg ho ?_
        rw [if_neg ho]
        exact Ev.now _
theorem ireadj_ev (x : Tx) (hx : x.length ≤ 1048576) : Ev (fun k => impl_ReadJournal.f k (ba x)) ((readJ x).1.map mkD, ((readJ x).2 : Int)) := by
  unfold impl_ReadJournal.f readJ
  exact ireadj_loop x hx _ x [] [] (Nat.le_refl _) rfl (Nat.le_refl _)
theorem rjL_len : ∀ (ps : List Tx) (ds : List (Int × Int × Int)) (n : Nat), (rjL ps ds n).1.length ≤ ds.length + ps.length
  | p :: q :: t, ds, n => by
    rw [rjL]
    split
    · have := rjL_len (q :: t) (ds ++ [((readD p).1, (readD p).2.1, (readD p).2.2.1)]) (n + p.length + 1)
      simp at this ⊢; omega
    · simp
  | [_], ds, n => by simp [rjL]
  | [], ds, n => by simp [rjL]
theorem readJ_len (x : Tx) : (readJ x).1.length ≤ x.length + 1 := by
  have h1 := rjL_len (cutA 10 [] x) [] 0
  have h2 := cutA_len 10 x []
  unfold readJ
  simp at h1; omega
theorem readD_cases (x : Tx) : (∃ k a b, readD x = (k, a, b, true) ∧ deedT k a b = x ∧ x ≠ []) ∨ readD x = (0, 0, 0, false) := by
  by_cases h : ∃ k a b, deedT k a b = x ∧ x ≠ []
  · obtain ⟨k, a, b, h1, h2⟩ := h
    exact Or.inl ⟨k, a, b, readD_of h1 h2, h1, h2⟩
  · exact Or.inr (readD_not fun k a b h1 => Classical.byContradiction fun h2 => h ⟨k, a, b, h1, h2⟩)
theorem cutA_sp (c : UInt8) : ∀ (x acc : Tx), cutA c acc (x ++ [c]) = cutA c acc x ++ [[]]
  | [], acc => by simp [cutA]
  | b :: l, acc => by
    rw [List.cons_append, cutA, cutA]
    split
    · rw [cutA_sp c l []]; rfl
    · rw [cutA_sp c l (acc ++ [b])]
theorem readD_sp (x : Tx) : readD (x ++ [32]) = (0, 0, 0, false) := readD_not fun k a b h => by
  exfalso
  have hne : deedT k a b ≠ [] := by rw [h]; simp
  obtain ⟨⟨⟨r1, r2⟩, r3, r4⟩, c⟩ := deed_cases hne
  have hm : ([] : Tx) ∈ cutA 32 [] (deedT k a b) := by rw [h, cutA_sp]; simp
  have ha := (numT_bytes r1 r2).2.1
  have hb := (numT_bytes r3 r4).2.1
  have ea : ([] : Tx) ≠ numT a := by intro e; rw [← e] at ha; simp at ha
  have eb : ([] : Tx) ≠ numT b := by intro e; rw [← e] at hb; simp at hb
  rcases c with ⟨_, _, c⟩ | ⟨_, _, _, c⟩ | ⟨_, _, _, c⟩ | ⟨_, _, _, _, c⟩ | ⟨_, _, _, _, c⟩ <;> rw [c] at hm <;> simp [putW, stepW, drawW, againW, backW, ea, eb] at hm
theorem deed_no10 {k a b : Int} (h : deedT k a b ≠ []) : (10 : UInt8) ∉ deedT k a b := by
  obtain ⟨⟨⟨r1, r2⟩, r3, r4⟩, c⟩ := deed_cases h
  have ca := (numT_clean r1 r2).2
  have cb := (numT_clean r3 r4).2
  rcases c with ⟨_, c, _⟩ | ⟨_, _, c, _⟩ | ⟨_, _, c, _⟩ | ⟨_, _, _, c, _⟩ | ⟨_, _, _, c, _⟩ <;> rw [c] <;> simp [putW, stepW, drawW, againW, backW, ca, cb]
def bodyT : List (Int × Int × Int) → Tx
  | [] => []
  | d :: t => deedT d.1 d.2.1 d.2.2 ++ 10 :: bodyT t
theorem journalT_all : ∀ (ds : List (Int × Int × Int)) (acc : Tx), (∀ d ∈ ds, deedT d.1 d.2.1 d.2.2 ≠ []) → journalT acc ds = acc ++ bodyT ds
  | [], acc, _ => by simp [journalT, bodyT]
  | d :: t, acc, h => by
    rw [journalT, if_neg (h d (by simp)), journalT_all t _ (fun e he => h e (by simp [he]))]
    simp [bodyT]
theorem journalT_none : ∀ (ds : List (Int × Int × Int)) (acc : Tx), (¬ ∀ d ∈ ds, deedT d.1 d.2.1 d.2.2 ≠ []) → journalT acc ds = []
  | [], acc, h => absurd (fun d hd => by cases hd) h
  | d :: t, acc, h => by
    rw [journalT]
    split
    · rfl
    · rename_i hd
      exact journalT_none t _ fun ht => h fun e he => by
        rcases List.mem_cons.1 he with rfl | he
        · exact hd
        · exact ht e he
theorem rjL_body : ∀ (ds es : List (Int × Int × Int)) (n : Nat), (∀ d ∈ ds, deedT d.1 d.2.1 d.2.2 ≠ []) → rjL (cutA 10 [] (bodyT ds)) es n = (es ++ ds, n + (bodyT ds).length)
  | [], es, n, _ => by simp [bodyT, cutA, rjL]
  | d :: t, es, n, h => by
    have hd := h d (by simp)
    rw [bodyT, cutA_hit _ [] _ (deed_no10 hd), List.nil_append, rjL_cut, readD_of rfl hd, if_pos rfl, rjL_body t _ _ (fun e he => h e (by simp [he]))]
    simp
    omega
theorem readJ_journal (ds : List (Int × Int × Int)) (h : journalT [] ds ≠ []) : readJ (journalT [] ds) = (ds, (journalT [] ds).length) := by
  by_cases ha : ∀ d ∈ ds, deedT d.1 d.2.1 d.2.2 ≠ []
  · rw [journalT_all ds [] ha, List.nil_append]
    unfold readJ
    rw [rjL_body ds [] 0 ha]
    simp
  · exact absurd (journalT_none ds [] ha) h
theorem bodyT_len : ∀ (ds : List (Int × Int × Int)), (bodyT ds).length ≤ 12 * ds.length
  | [] => by simp [bodyT]
  | d :: t => by
    have h1 := deed_len d.1 d.2.1 d.2.2
    have h2 := bodyT_len t
    simp [bodyT]; omega
theorem journalT_len (ds : List (Int × Int × Int)) : (journalT [] ds).length ≤ 12 * ds.length := by
  by_cases ha : ∀ d ∈ ds, deedT d.1 d.2.1 d.2.2 ≠ []
  · rw [journalT_all ds [] ha]
    exact bodyT_len ds
  · rw [journalT_none ds [] ha]; simp
theorem sameDeeds_loop (l : List S30) (hl : l.length ≤ 1048577) : ∀ (suf pre : List S30), l = pre ++ suf → Ev (fun k => laws_sameDeeds.l0 k l l (pre.length : Int)) true := by
  intro suf
  induction suf with
  | nil =>
    intro pre h
    rw [List.append_nil] at h
    subst h
    refine ev_suc ?_
    simp only [laws_sameDeeds.l0]
    exact ev_neg (by omega) (Ev.now _)
  | cons x t ih =>
    intro pre h
    have e : l.length = pre.length + (t.length + 1) := by rw [h]; simp
    refine ev_suc ?_
    simp only [laws_sameDeeds.l0]
    refine ev_pos (by omega) (ev_pos (by omega) (ev_pos (by omega) (ev_neg (by simp) ?_)))
    rw [w64 (by omega) (by omega), len_at pre x]
    exact ih (pre ++ [x]) (by rw [h]; simp)
theorem sameDeeds_ev (l : List S30) (hl : l.length ≤ 1048577) : Ev (fun k => laws_sameDeeds.f k l l) true := by
  unfold laws_sameDeeds.f
  exact ev_pos rfl (sameDeeds_loop l hl l [] rfl)
theorem xor_nn {x y : Int} (hx : 0 ≤ x) (hx' : x < 9223372036854775808) (hy : 0 ≤ y) (hy' : y < 9223372036854775808) : 0 ≤ Go.bits .xor .i64 x y := by
  obtain ⟨a, rfl⟩ := Int.eq_ofNat_of_zero_le hx
  obtain ⟨b, rfl⟩ := Int.eq_ofNat_of_zero_le hy
  have ha : a < 2 ^ 63 := by omega
  have hb : b < 2 ^ 63 := by omega
  have hc : a ^^^ b < 2 ^ 63 := Nat.xor_lt_two_pow ha hb
  have h1 : (BitVec.ofInt 64 (a : Int)).toNat = a := by
    rw [BitVec.ofInt_natCast, BitVec.toNat_ofNat]; exact Nat.mod_eq_of_lt (by omega)
  have h2 : (BitVec.ofInt 64 (b : Int)).toNat = b := by
    rw [BitVec.ofInt_natCast, BitVec.toNat_ofNat]; exact Nat.mod_eq_of_lt (by omega)
  show 0 ≤ IntKind.i64.wrap ((BitVec.ofInt 64 (a : Int) ^^^ BitVec.ofInt 64 (b : Int)).toNat : Int)
  rw [BitVec.toNat_xor, h1, h2, IntKind.wrap_i64]
  omega
def BytesOk (b : List Int) : Prop := (∀ x ∈ b, 0 ≤ x ∧ x ≤ 255) ∧ b.length ≤ 2000
theorem pick_ev {b : List Int} (hb : BytesOk b) (p n : Int) (h0 : 0 ≤ p) (hp : p ≤ 1000000000000) (hn : n ≤ 1000000000000) :
    ∃ r, Ev (fun k => spec_l20Rd_pick.f k b p n) (r, p + 1) ∧ 0 ≤ r ∧ (1 ≤ n → r < n) ∧ (n < 1 → r = 0) := by
  obtain ⟨hb, hl⟩ := hb
  by_cases hn1 : n < 1
  · refine ⟨0, ?_, by omega, by omega, fun _ => rfl⟩
    simp only [spec_l20Rd_pick.f]
    refine ev_pos hn1 (ev_suc ?_)
    simp (disch := omega) only [spec_l20Rd_pick.j0, if_true, w64]
    exact Ev.now _
  · have key : ∀ (x : Int), 0 ≤ x → 0 ≤ Int.tmod x n ∧ (1 ≤ n → Int.tmod x n < n) ∧ (n < 1 → Int.tmod x n = 0) := by
      intro x hx
      rw [Int.tmod_eq_emod_of_nonneg hx]
      have h1 := Int.emod_nonneg x (b := n) (by omega)
      have h2 := Int.emod_lt_of_pos x (b := n) (by omega)
      exact ⟨h1, fun _ => h2, fun h => absurd h hn1⟩
    by_cases hl0 : b.length = 0
    · refine ⟨0, ?_, by omega, by omega, fun _ => rfl⟩
      simp only [spec_l20Rd_pick.f]
      refine ev_neg hn1 (ev_suc ?_)
      have e : ((b.length : Int) == 0) = true := by simp [hl0]
      simp (disch := omega) only [spec_l20Rd_pick.j0, e, if_true, w64]
      exact Ev.now _
    · have e : ((b.length : Int) == 0) = false := by rw [beq_eq_false_iff_ne]; omega
      by_cases hlt : p < (b.length : Int)
      · have hm := hb _ (rd_mem h0 hlt)
        obtain ⟨k1, k2, k3⟩ := key (rd b p) hm.1
        refine ⟨Int.tmod (rd b p) n, ?_, k1, k2, k3⟩
        simp only [spec_l20Rd_pick.f]
        refine ev_neg hn1 (ev_suc ?_)
        have e1 : wrap64 (wrap64 (p + 1) - 1) = p := by rw [w64 (n := p + 1) (by omega) (by omega), w64 (by omega) (by omega)]; omega
        have e2 : wrap64 (rd b p) = rd b p := w64 (by omega) (by omega)
        simp only [spec_l20Rd_pick.j0, e, e1, e2, Bool.false_eq_true, if_false]
        refine ev_pos hlt (ev_pos h0 (ev_neg (by omega) (ev_now ?_)))
        rw [w64 (by omega) (by omega)]
      · have hL : 0 < (b.length : Int) := by omega
        have m1a := Int.emod_nonneg p (b := (b.length : Int)) (by omega)
        have m1b := Int.emod_lt_of_pos p (b := (b.length : Int)) hL
        have m2a := Int.emod_nonneg (p * 7 + 3) (b := (b.length : Int)) (by omega)
        have m2b := Int.emod_lt_of_pos (p * 7 + 3) (b := (b.length : Int)) hL
        have r1 := hb _ (rd_mem m1a m1b)
        have r2 := hb _ (rd_mem m2a m2b)
        have d1 : 0 ≤ p / (b.length : Int) := Int.ediv_nonneg h0 (by omega)
        have d2 : p / (b.length : Int) ≤ p := Int.ediv_le_self _ h0
        have e1 : wrap64 (wrap64 (p + 1) - 1) = p := by rw [w64 (n := p + 1) (by omega) (by omega), w64 (by omega) (by omega)]; omega
        have e1' : wrap64 (p + 1 - 1) = p := by rw [w64 (by omega) (by omega)]; omega
        have e3 : Int.tmod p (b.length : Int) = p % (b.length : Int) := Int.tmod_eq_emod_of_nonneg h0
        have e4 : Int.tmod (p * 7 + 3) (b.length : Int) = (p * 7 + 3) % (b.length : Int) := Int.tmod_eq_emod_of_nonneg (by omega)
        have e5 : Int.tdiv p (b.length : Int) = p / (b.length : Int) := Int.tdiv_eq_ediv_of_nonneg h0
        generalize hu : rd b (p % (b.length : Int)) = u at r1
        generalize hv : rd b ((p * 7 + 3) % (b.length : Int)) = v at r2
        generalize hd : p / (b.length : Int) = d at d1 d2
        have hx0 : 0 ≤ u * 131 + v * 1117 + p * 29 + d * 53 := by omega
        have e6 : Int.tdiv (u * 131 + v * 1117 + p * 29 + d * 53) 64 = (u * 131 + v * 1117 + p * 29 + d * 53) / 64 := Int.tdiv_eq_ediv_of_nonneg hx0
        obtain ⟨k1, k2, k3⟩ := key (Go.bits .xor .i64 (u * 131 + v * 1117 + p * 29 + d * 53) ((u * 131 + v * 1117 + p * 29 + d * 53) / 64)) (xor_nn (by omega) (by omega) (by omega) (by omega))
        refine ⟨_, ?_, k1, k2, k3⟩
        simp only [spec_l20Rd_pick.f]
        refine ev_neg hn1 (ev_suc ?_)
        have f1 : wrap64 (p * 7) = p * 7 := w64 (by omega) (by omega)
        have f2 : wrap64 (p * 7 + 3) = p * 7 + 3 := w64 (by omega) (by omega)
        have f3 : wrap64 u = u := w64 (by omega) (by omega)
        have f4 : wrap64 v = v := w64 (by omega) (by omega)
        have f5 : wrap64 (u * 131) = u * 131 := w64 (by omega) (by omega)
        have f6 : wrap64 (v * 1117) = v * 1117 := w64 (by omega) (by omega)
        have f7 : wrap64 (u * 131 + v * 1117) = u * 131 + v * 1117 := w64 (by omega) (by omega)
        have f8 : wrap64 (p * 29) = p * 29 := w64 (by omega) (by omega)
        have f9 : wrap64 (u * 131 + v * 1117 + p * 29) = u * 131 + v * 1117 + p * 29 := w64 (by omega) (by omega)
        have f10 : wrap64 d = d := w64 (by omega) (by omega)
        have f11 : wrap64 (d * 53) = d * 53 := w64 (by omega) (by omega)
        have f12 : wrap64 (u * 131 + v * 1117 + p * 29 + d * 53) = u * 131 + v * 1117 + p * 29 + d * 53 := w64 (by omega) (by omega)
        have f13 : wrap64 ((u * 131 + v * 1117 + p * 29 + d * 53) / 64) = (u * 131 + v * 1117 + p * 29 + d * 53) / 64 := w64 (by omega) (by omega)
        have f14 : wrap64 (p + 1) = p + 1 := w64 (by omega) (by omega)
        simp only [spec_l20Rd_pick.j0, e, e1, f14, e1', f1, f2, e3, e4, e5, hu, hv, hd, f3, f4, f5, f6, f7, f8, f9, f10, f11, f12, e6, f13, Bool.false_eq_true, if_false]
        exact ev_neg hlt (ev_neg (by omega) (ev_pos m1a (ev_pos m1b (ev_pos m2a (ev_pos m2b (ev_neg (by omega) (Ev.now _)))))))
theorem open_ev {l : List Int} (hl : ∀ x ∈ l, (Lit.int .u8 x).wf = true) : ∃ b, spec_l20Open.f l = some (b, 0) ∧ BytesOk b := by
  have hw : ∀ x ∈ l, 0 ≤ x ∧ x ≤ 255 := fun x hx => by
    have := hl x hx
    simp [Lit.wf, IntKind.min, IntKind.max, IntKind.bits, IntKind.signed] at this
    omega
  by_cases h : (l.length : Int) > 2000
  · exact ⟨l.take 2000, by simp (disch := omega) only [spec_l20Open.f, if_pos], fun x hx => hw x (List.mem_of_mem_take hx), by rw [List.length_take]; omega⟩
  · exact ⟨l, by simp (disch := omega) only [spec_l20Open.f, if_neg], hw, by omega⟩
theorem odd_ev {b : List Int} (hb : BytesOk b) (p n : Int) (h0 : 0 ≤ p) (hp : p ≤ 1000000000000) (hn : n ≤ 1000000000000) (hn' : 1 ≤ n) :
    ∃ r, Ev (fun k => spec_l20Rd_odd.f k b p n) (r, p + 1) := by
  obtain ⟨r, hr, h1, h2, h3⟩ := pick_ev hb p n h0 hp hn
  refine ⟨r == wrap64 (n - 1), ?_⟩
  simp only [spec_l20Rd_odd.f]
  exact ev_pos (by omega) (ev_bind hr (Ev.now _))
theorem drawDeedj_ev {b : List Int} (hb : BytesOk b) (p : Int) (h0 : 0 ≤ p) (hp : p ≤ 100000000) (x y z : Int) : ∃ d, Ev (fun k => spec_l20Deed.j0 k b p x y z) d ∧ p ≤ d.2.2.2 ∧ d.2.2.2 ≤ p + 3 := by
  obtain ⟨r, hr⟩ := odd_ev hb p 40 h0 (by omega) (by omega) (by omega)
  cases r with
  | false =>
    refine ⟨(x, y, z, p + 1), ev_suc ?_, by simp only; omega, by simp only; omega⟩
    simp only [spec_l20Deed.j0]
    exact ev_bind hr (ev_neg (by simp) (Ev.now _))
  | true =>
    obtain ⟨v, hv, v0, v1, _⟩ := pick_ev hb (p + 1) 2 (by omega) (by omega) (by omega)
    by_cases hz : v = 0
    · obtain ⟨q, hq, q0, q1, _⟩ := pick_ev hb (p + 1 + 1) 2 (by omega) (by omega) (by omega)
      refine ⟨(x, rd [-100, 100] q, z, p + 1 + 1 + 1), ev_suc ?_, by simp only; omega, by simp only; omega⟩
      simp only [spec_l20Deed.j0]
      exact ev_bind hr (ev_pos rfl (ev_bind hv (ev_pos hz (ev_bind (Ev.now _) (ev_bind hq (ev_pos q0 (ev_pos (by have := q1 (by omega); simp; omega) (Ev.now _))))))))
    · refine ⟨(x, y, 99, p + 1 + 1), ev_suc ?_, by simp only; omega, by simp only; omega⟩
      simp only [spec_l20Deed.j0]
      exact ev_bind hr (ev_pos rfl (ev_bind hv (ev_neg hz (Ev.now _))))
theorem drawDeed_ev {b : List Int} (hb : BytesOk b) (p : Int) (h0 : 0 ≤ p) (hp : p ≤ 10000000) (u : List Int) (s : Int) (w : List Int) (hu : u.length ≤ 3) : ∃ d, Ev (fun k => spec_l20Deed.f k b p u s w) d ∧ p ≤ d.2.2.2 ∧ d.2.2.2 ≤ p + 7 := by
  obtain ⟨i, hi, i0, i1, _⟩ := pick_ev hb p 8 h0 (by omega) (by omega)
  obtain ⟨j, hj, j0, j1, _⟩ := pick_ev hb (p + 1) 60 (by omega) (by omega) (by omega)
  have hm : mx (u.length : Int) 1 ≤ 3 := by unfold mx; split <;> omega
  obtain ⟨c, hc, _⟩ := pick_ev hb (p + 1 + 1) (mx (u.length : Int) 1) (by omega) (by omega) (by omega)
  obtain ⟨e, he, _⟩ := pick_ev hb (p + 1 + 1 + 1) 7 (by omega) (by omega) (by omega)
  obtain ⟨f, hf, _⟩ := pick_ev hb (p + 1 + 1) 5 (by omega) (by omega) (by omega)
  have hi8 := i1 (by omega)
  simp only [spec_l20Deed.f]
  by_cases k0 : wrap64 ((rd [0, 1, 2, 2, 2, 2, 3, 4] i) + (wrap64 ((wrap64 (Int.tdiv j 59)) * 5))) = 0
  · obtain ⟨d, hd, q1, q2⟩ := drawDeedj_ev hb (p + 1 + 1 + 1 + 1) (by omega) (by omega) (wrap64 ((rd [0, 1, 2, 2, 2, 2, 3, 4] i) + (wrap64 ((wrap64 (Int.tdiv j 59)) * 5)))) c (wrap64 (e - 3))
    exact ⟨d, ev_bind (Ev.now _) (ev_bind hi (ev_pos i0 (ev_pos (by simp; omega) (ev_bind hj (ev_pos k0 (ev_bind hc (ev_bind he hd))))))), by omega, by omega⟩
  by_cases k1 : wrap64 ((rd [0, 1, 2, 2, 2, 2, 3, 4] i) + (wrap64 ((wrap64 (Int.tdiv j 59)) * 5))) = 1
  · obtain ⟨d, hd, q1, q2⟩ := drawDeedj_ev hb (p + 1 + 1 + 1) (by omega) (by omega) (wrap64 ((rd [0, 1, 2, 2, 2, 2, 3, 4] i) + (wrap64 ((wrap64 (Int.tdiv j 59)) * 5)))) (wrap64 (f - 1)) 0
    exact ⟨d, ev_bind (Ev.now _) (ev_bind hi (ev_pos i0 (ev_pos (by simp; omega) (ev_bind hj (ev_neg k0 (ev_pos k1 (ev_bind hf hd))))))), by omega, by omega⟩
  by_cases k2 : wrap64 ((rd [0, 1, 2, 2, 2, 2, 3, 4] i) + (wrap64 ((wrap64 (Int.tdiv j 59)) * 5))) = 2
  · obtain ⟨d, hd, q1, q2⟩ := drawDeedj_ev hb (p + 1 + 1 + 1) (by omega) (by omega) (wrap64 ((rd [0, 1, 2, 2, 2, 2, 3, 4] i) + (wrap64 ((wrap64 (Int.tdiv j 59)) * 5)))) c 0
    exact ⟨d, ev_bind (Ev.now _) (ev_bind hi (ev_pos i0 (ev_pos (by simp; omega) (ev_bind hj (ev_neg k0 (ev_neg k1 (ev_pos k2 (ev_bind hc hd)))))))), by omega, by omega⟩
  · obtain ⟨d, hd, q1, q2⟩ := drawDeedj_ev hb (p + 1 + 1) (by omega) (by omega) (wrap64 ((rd [0, 1, 2, 2, 2, 2, 3, 4] i) + (wrap64 ((wrap64 (Int.tdiv j 59)) * 5)))) 0 0
    exact ⟨d, ev_bind (Ev.now _) (ev_bind hi (ev_pos i0 (ev_pos (by simp; omega) (ev_bind hj (ev_neg k0 (ev_neg k1 (ev_neg k2 hd))))))), by omega, by omega⟩
theorem drawDeeds_loop {b : List Int} (hb : BytesOk b) (u : List Int) (s : Int) (w : List Int) (hu : u.length ≤ 3) : ∀ (d : Nat) (acc : List S30) (p : Int), acc.length + d ≤ 100 → 0 ≤ p → p + 7 * (d : Int) ≤ 1000000 →
    ∃ ds q, Ev (fun k => spec_l20Deeds.l0 k acc (d : Int) b p u s w) (ds, q) ∧ ds.length = acc.length + d ∧ p ≤ q ∧ q ≤ p + 7 * d := by
  intro d
  induction d with
  | zero =>
    intro acc p _ h0 hp
    refine ⟨acc, p, ev_suc ?_, by simp, by omega, by omega⟩
    simp only [spec_l20Deeds.l0]
    exact ev_neg (by omega) (Ev.now _)
  | succ d ih =>
    intro acc p hl h0 hp
    obtain ⟨⟨k, x, y, q⟩, he, q1, q2⟩ := drawDeed_ev hb p h0 (by omega) u s w hu
    simp only at q1 q2
    obtain ⟨ds, q', hd, h1, h2, h3⟩ := ih (acc ++ [⟨k, x, y⟩]) q (by simp; omega) (by omega) (by omega)
    refine ⟨ds, q', ev_suc ?_, by rw [h1]; simp; omega, by omega, by omega⟩
    simp only [spec_l20Deeds.l0]
    refine ev_pos (by omega) (ev_bind he (ev_pos (by omega) ?_))
    rw [w64 (by omega) (by omega), show ((d + 1 : Nat) : Int) - 1 = (d : Int) from by omega]
    exact hd
theorem drawDeeds_ev {b : List Int} (hb : BytesOk b) (u : List Int) (s : Int) (w : List Int) (hu : u.length ≤ 3) (p : Int) (h0 : 0 ≤ p) (hp : p ≤ 100000) :
    ∃ ds q, Ev (fun k => spec_l20Deeds.f k b p u s w) (ds, q) ∧ ds.length ≤ 5 ∧ p ≤ q ∧ q ≤ p + 50 := by
  obtain ⟨r, hr, r0, r1, _⟩ := pick_ev hb p 6 h0 (by omega) (by omega)
  have hr6 := r1 (by omega)
  obtain ⟨m, rfl⟩ := Int.eq_ofNat_of_zero_le r0
  obtain ⟨ds, q, hd, h1, h2, h3⟩ := drawDeeds_loop hb u s w hu m [] (p + 1) (by simp; omega) (by omega) (by omega)
  refine ⟨ds, q, ?_, by rw [h1]; simp; omega, by omega, by omega⟩
  simp only [spec_l20Deeds.f]
  exact ev_bind hr hd
theorem odd0 (b : List Int) (p : Int) : ∀ k, spec_l20Rd_odd.f k b p 0 = some (false, p) := fun k => by simp [spec_l20Rd_odd.f]
theorem odd0_ev (b : List Int) (p : Int) : Ev (fun k => spec_l20Rd_odd.f k b p 0) (false, p) := Ev.congr (odd0 b p) (Ev.now _)
theorem l1In_eq (a b c : Int) : spec_l1In.f a b c = some (decide (b ≤ a) && decide (a ≤ c)) := by
  unfold spec_l1In.f
  by_cases h : a ≥ b
  · rw [if_pos h]; simp; omega
  · rw [if_neg h]; simp; omega
theorem urnB_no' {u : List Int} {x : Int} (hx : x ∈ u) (h : ¬ (0 ≤ x ∧ x ≤ 40)) : urnB u = false := by
  cases e : urnB u with
  | false => rfl
  | true => exact absurd (((urnB_iff u).1 e).1 x hx) h
theorem specUrn_loop (l : List Int) (hl : (l.length : Int) ≤ 1000000000000) : ∀ (suf pre : List Int), l = pre ++ suf → (∀ x ∈ pre, 0 ≤ x ∧ x ≤ 40) →
    Ev (fun k => spec_UrnOk.l0 k l (pre.length : Int)) (urnB l) := by
  intro suf
  induction suf with
  | nil =>
    intro pre h hr
    have e : l.length = pre.length := by rw [h]; simp
    refine ev_suc ?_
    simp (disch := omega) only [spec_UrnOk.l0, if_neg, l1In_eq]
    refine ev_now ?_
    rw [List.append_nil] at h
    subst h
    rw [Bool.eq_iff_iff, urnB_iff]
    simp only [Bool.and_eq_true, decide_eq_true_eq]
    exact ⟨fun h => ⟨hr, by omega, by omega⟩, fun h => ⟨by omega, by omega⟩⟩
  | cons x t ih =>
    intro pre h hr
    have e : l.length = pre.length + (t.length + 1) := by rw [h]; simp
    have hx : rd l (pre.length : Int) = x := by rw [h]; exact rd_at _ _ _
    have hxl : x ∈ l := by rw [h]; simp
    refine ev_suc ?_
    simp (disch := omega) only [spec_UrnOk.l0, hx, if_pos, l1In_eq, Option.bind_some]
    by_cases h1 : 0 ≤ x ∧ x ≤ 40
    · refine ev_pos (by simp [h1]) ?_
      rw [w64 (by omega) (by omega), len_at pre x]
      refine ih (pre ++ [x]) (by rw [h]; simp) ?_
      intro y hy
      rcases List.mem_append.1 hy with hy | hy
      · exact hr y hy
      · rw [List.mem_singleton] at hy; subst hy; exact h1
    · exact ev_neg (by simp only [Bool.and_eq_true, decide_eq_true_eq]; exact h1) (ev_now (urnB_no' hxl h1).symm)
theorem specUrnOk_ev (l : List Int) (hl : (l.length : Int) ≤ 1000000000000) : Ev (fun k => spec_UrnOk.f k l) (urnB l) := by
  simp only [spec_UrnOk.f]
  exact specUrn_loop l hl l [] rfl (by simp)
theorem specStart_loop (l : List Int) (hl : (l.length : Int) ≤ 1000000000000) : ∀ (suf pre : List Int), l = pre ++ suf → (∀ x ∈ pre, x ≤ 10) →
    Ev (fun k => spec_StartOk.l0 k l (pre.length : Int)) (startB l) := by
  intro suf
  induction suf with
  | nil =>
    intro pre h hr
    have e : l.length = pre.length := by rw [h]; simp
    refine ev_suc ?_
    simp (disch := omega) only [spec_StartOk.l0, if_neg]
    refine ev_bind (specUrnOk_ev l hl) (ev_now ?_)
    rw [List.append_nil] at h
    subst h
    have : (l.all fun x => decide (x ≤ 10)) = true := by simpa using hr
    simp [startB, this]
  | cons x t ih =>
    intro pre h hr
    have e : l.length = pre.length + (t.length + 1) := by rw [h]; simp
    have hx : rd l (pre.length : Int) = x := by rw [h]; exact rd_at _ _ _
    have hxl : x ∈ l := by rw [h]; simp
    refine ev_suc ?_
    simp (disch := omega) only [spec_StartOk.l0, hx, if_pos]
    by_cases h1 : x > 10
    · refine ev_pos h1 (ev_now ?_)
      cases e : startB l with
      | false => rfl
      | true => have := ((startB_iff l).1 e).1 x hxl; omega
    · refine ev_neg h1 ?_
      rw [w64 (by omega) (by omega), len_at pre x]
      refine ih (pre ++ [x]) (by rw [h]; simp) ?_
      intro y hy
      rcases List.mem_append.1 hy with hy | hy
      · exact hr y hy
      · rw [List.mem_singleton] at hy; subst hy; omega
theorem specStartOk_ev (l : List Int) (hl : (l.length : Int) ≤ 1000000000000) : Ev (fun k => spec_StartOk.f k l) (startB l) := by
  simp only [spec_StartOk.f]
  exact specStart_loop l hl l [] rfl (by simp)
theorem wordB_no' {n : Int} {w : List Int} {x : Int} (hx : x ∈ w) (h : ¬ (0 ≤ x ∧ x < n)) : wordB n w = false := by
  cases e : wordB n w with
  | false => rfl
  | true => exact absurd (((wordB_iff n w).1 e).1 x hx) h
theorem specWord_loop (n : Int) (l : List Int) (hl : (l.length : Int) ≤ 1000000000000) : ∀ (suf pre : List Int), l = pre ++ suf → (∀ x ∈ pre, 0 ≤ x ∧ x < n) →
    Ev (fun k => spec_WordOk.l0 k n l (pre.length : Int)) (wordB n l) := by
  intro suf
  induction suf with
  | nil =>
    intro pre h hr
    have e : l.length = pre.length := by rw [h]; simp
    refine ev_suc ?_
    simp (disch := omega) only [spec_WordOk.l0, if_neg, l1In_eq, Option.bind_some]
    rw [List.append_nil] at h
    subst h
    by_cases hn : 1 ≤ n ∧ n ≤ 3
    · refine ev_pos (by simp [hn]) (ev_now ?_)
      rw [Bool.eq_iff_iff, wordB_iff]
      simp only [decide_eq_true_eq]
      exact ⟨fun h => ⟨hr, by omega, hn⟩, fun h => by omega⟩
    · refine ev_neg (by simp only [Bool.and_eq_true, decide_eq_true_eq]; exact hn) (ev_now ?_)
      cases e : wordB n l with
      | false => rfl
      | true => exact absurd ((wordB_iff n l).1 e).2.2 hn
  | cons x t ih =>
    intro pre h hr
    have e : l.length = pre.length + (t.length + 1) := by rw [h]; simp
    have hx : rd l (pre.length : Int) = x := by rw [h]; exact rd_at _ _ _
    have hxl : x ∈ l := by rw [h]; simp
    refine ev_suc ?_
    simp (disch := omega) only [spec_WordOk.l0, hx, if_pos]
    by_cases h1 : x < 0
    · exact ev_pos h1 (ev_now (wordB_no' hxl (by omega)).symm)
    · refine ev_neg h1 ?_
      by_cases h2 : x ≥ n
      · exact ev_pos h2 (ev_now (wordB_no' hxl (by omega)).symm)
      · refine ev_neg h2 ?_
        rw [w64 (by omega) (by omega), len_at pre x]
        refine ih (pre ++ [x]) (by rw [h]; simp) ?_
        intro y hy
        rcases List.mem_append.1 hy with hy | hy
        · exact hr y hy
        · rw [List.mem_singleton] at hy; subst hy; omega
theorem specWordOk_ev (n : Int) (l : List Int) (hl : (l.length : Int) ≤ 1000000000000) : Ev (fun k => spec_WordOk.f k n l) (wordB n l) := by
  simp only [spec_WordOk.f]
  exact specWord_loop n l hl l [] rfl (by simp)
theorem l4After_loop (u : List Int) (R : List (List Int)) (c : Int) (row : List Int) (hc : 0 ≤ c ∧ c < (R.length : Int)) (hrow : rd_L4 R c = row) (hl : row.length = u.length) (hu : u.length ≤ 3) (hB : Within 1000000000 row) (hA : Within 1000000000 u) : ∀ (su sr pu pr acc : List Int), u = pu ++ su → row = pr ++ sr → pu.length = pr.length → acc.length = pu.length →
    Ev (fun k => spec_l4After.l0 k u R c acc (pu.length : Int)) (acc ++ zipAdd su sr) := by
  intro su
  induction su with
  | nil =>
    intro sr pu pr acc h h' hp ha
    have e : u.length = pu.length := by rw [h]; simp
    have e' : row.length = pr.length + sr.length := by rw [h']; simp
    obtain rfl : sr = [] := List.eq_nil_of_length_eq_zero (by omega)
    refine ev_suc ?_
    simp (disch := omega) only [spec_l4After.l0, if_neg]
    exact ev_now (by simp [zipAdd])
  | cons x t ih =>
    intro sr pu pr acc h h' hp ha
    have e : u.length = pu.length + (t.length + 1) := by rw [h]; simp
    have e' : row.length = pr.length + sr.length := by rw [h']; simp
    cases sr with
    | nil => simp at e'; omega
    | cons y r =>
      have hx : rd u (pu.length : Int) = x := by rw [h]; exact rd_at _ _ _
      have hy : rd row (pu.length : Int) = y := by rw [h', hp]; exact rd_at _ _ _
      have bx := hA x (by rw [h]; simp)
      have bY := hB y (by rw [h']; simp)
      refine ev_suc ?_
      simp (disch := omega) only [spec_l4After.l0, hrow, hl, hx, hy, if_pos, w64]
      rw [len_at pu x]
      have := ih r (pu ++ [x]) (pr ++ [y]) (acc ++ [x + y]) (by rw [h]; simp) (by rw [h']; simp) (by simp [hp]) (by simp [ha])
      simpa [zipAdd] using this
theorem l4After_ev (u : List Int) (s c : Int) (hu : u.length ≤ 3) (hs : -3 ≤ s ∧ s ≤ 3) (hc : 0 ≤ c ∧ c < (u.length : Int)) (hw : Within 1000000 u) :
    Ev (fun k => spec_l4After.f k u (ruleM u.length s) c) (bump s u c) := by
  have er : rd_L4 (ruleM u.length s) c = (List.replicate u.length (0 : Int)).set c.toNat s := ruleM_row hc.1 hc.2
  have hW := within_row (n := u.length) (c := c) hs
  simp only [spec_l4After.f]
  have := l4After_loop u (ruleM u.length s) c _ (by rw [ruleM_len]; exact hc) er (by simp) hu (fun x hx => by have := hW x hx; omega) (fun x hx => by have := hw x hx; omega) u ((List.replicate u.length (0 : Int)).set c.toNat s) [] [] [] rfl (by simp) rfl rfl
  refine ev_eq this ?_
  rw [List.nil_append]
  exact zipAdd_row hu hc.1 hc.2
/-- What AfterWord tells. -/
def afterWordM (s : Int) (u w : List Int) : List Int × Bool := if 0 < waysM s u w then (afterM s u w, true) else ([], false)
theorem afterWord_loop (n : Nat) (s : Int) (hn : n ≤ 3) (hs : -3 ≤ s ∧ s ≤ 3) (w : List Int) (hw : w.length ≤ 100) (hwn : ∀ c ∈ w, 0 ≤ c ∧ c < (n : Int)) : ∀ (suf pre u : List Int) (b : Int), w = pre ++ suf → u.length = n → Within b u → 0 ≤ b → b + 3 * suf.length ≤ 1000000 →
    Ev (fun k => spec_AfterWord.l0 k (ruleM n s) w u (pre.length : Int)) (afterWordM s u suf) := by
  intro suf
  induction suf with
  | nil =>
    intro pre u b h _ _ _ _
    have e : w.length = pre.length := by rw [h]; simp
    refine ev_suc ?_
    simp (disch := omega) only [spec_AfterWord.l0, if_neg]
    exact ev_now (by simp [afterWordM, waysM, afterM])
  | cons x t ih =>
    intro pre u b h hu hb hb0 hb1
    have e : w.length = pre.length + (t.length + 1) := by rw [h]; simp
    have hx : rd w (pre.length : Int) = x := by rw [h]; exact rd_at _ _ _
    have hxn := hwn x (by rw [h]; simp)
    simp only [List.length_cons] at hb1
    refine ev_suc ?_
    simp (disch := omega) only [spec_AfterWord.l0, hx, if_pos]
    subst hu
    have hcp := waysM_cons_pos s u x t
    by_cases h1 : rd u x < 1
    · refine ev_pos h1 (ev_now ?_)
      unfold afterWordM
      rw [if_neg (fun hp => by have := (hcp.1 hp).1; omega)]
    · refine ev_neg h1 (ev_bind (l4After_ev u s x hn hs hxn (fun y hy => by have := hb y hy; omega)) ?_)
      rw [w64 (by omega) (by omega), len_at pre x]
      have := ih (pre ++ [x]) (bump s u x) (b + 3) (by rw [h]; simp) (bump_len _ _ _) (within_bump hb hs x hxn) (by omega) (by omega)
      refine ev_eq this ?_
      unfold afterWordM
      by_cases h2 : 0 < waysM s (bump s u x) t
      · rw [if_pos h2, if_pos (hcp.2 ⟨by omega, h2⟩), afterM_cons]
      · rw [if_neg h2, if_neg (fun hp => h2 (hcp.1 hp).2)]
theorem ruleOk_all : ∀ n : Fin 4, ∀ s : Fin 5, n.val = 0 ∨ spec_RuleOk.f 30 (n.val : Int) (ruleM n.val ((s.val : Int) - 1)) = some true := by decide +kernel
theorem ruleOk_ev (n : Nat) (s : Int) (h1 : 1 ≤ n) (h3 : n ≤ 3) (hs : -1 ≤ s ∧ s ≤ 3) : Ev (fun k => spec_RuleOk.f k (n : Int) (ruleM n s)) true := by
  have h := (ruleOk_all ⟨n, by omega⟩ ⟨(s + 1).toNat, by omega⟩).resolve_left (by simp only []; omega)
  have e : (((s + 1).toNat : Nat) : Int) - 1 = s := by omega
  simp only [e] at h
  exact Ev.of (fun k => spec_RuleOk.mono _ _ k) h
theorem sSameRule_all : ∀ n : Fin 4, ∀ s : Fin 5, n.val = 0 ∨ spec_SameRule.f 20 (n.val : Int) ((s.val : Int) - 1) = some (ruleM n.val ((s.val : Int) - 1)) := by decide +kernel
theorem sSameRule_ev (n : Nat) (s : Int) (h1 : 1 ≤ n) (h3 : n ≤ 3) (hs : -1 ≤ s ∧ s ≤ 3) : Ev (fun k => spec_SameRule.f k (n : Int) s) (ruleM n s) := by
  have h := (sSameRule_all ⟨n, by omega⟩ ⟨(s + 1).toNat, by omega⟩).resolve_left (by simp only []; omega)
  have e : (((s + 1).toNat : Nat) : Int) - 1 = s := by omega
  simp only [e] at h
  exact Ev.of (fun k => spec_SameRule.mono _ _ k) h
theorem afterWord_ev (u : List Int) (s : Int) (w : List Int) (hS : startB u = true) (hs : -1 ≤ s ∧ s ≤ 3) (hw : (w.length : Int) ≤ 1000000000000) :
    Ev (fun k => spec_AfterWord.f k u (ruleM u.length s) w) (if wordB (u.length : Int) w = true then afterWordM s u w else ([], false)) := by
  have hu3 := (startB_iff u).1 hS
  simp only [spec_AfterWord.f]
  refine ev_bind (specStartOk_ev u (by omega)) (ev_pos hS (ev_bind (ruleOk_ev u.length s hu3.2.1 hu3.2.2 hs) (ev_pos rfl (ev_bind (specWordOk_ev (u.length : Int) w hw) (ev_suc ?_)))))
  by_cases hW : wordB (u.length : Int) w = true
  · have hw6 := (wordB_iff _ _).1 hW
    rw [if_pos hW]
    simp only [spec_AfterWord.j0, hW, Bool.not_true]
    refine ev_neg (by simp) (ev_bind (Ev.now _) (ev_pos (by simp; omega) ?_))
    rw [List.nil_append]
    exact afterWord_loop u.length s hu3.2.2 ⟨by omega, by omega⟩ w (by omega) hw6.1 w [] u 10 rfl rfl (fun x hx => by have := hu3.1 x hx; omega) (by omega) (by omega)
  · have hf : wordB (u.length : Int) w = false := by simpa using hW
    rw [if_neg hW]
    simp only [spec_AfterWord.j0, hf, Bool.not_false, if_true]
    exact Ev.now _
theorem specPlace_ev (u : List Int) (s : Int) (w : List Int) (hu : (u.length : Int) ≤ 1000000000000) (hw : (w.length : Int) ≤ 1000000000000) : Ev (fun k => spec_PlaceOk.f k u s w) (placeB u s w) := by
  have hj : ∀ r, r = placeB u s w → r = false → Ev (fun k => spec_PlaceOk.j0 k true u s w) r := by
    rintro r _ rfl
    refine ev_suc ?_
    simp only [spec_PlaceOk.j0, if_true]
    exact Ev.now _
  simp only [spec_PlaceOk.f]
  refine ev_bind (specStartOk_ev u hu) ?_
  by_cases hS : startB u = true
  · refine ev_pos hS ?_
    simp only [l1In_eq, Option.bind_some]
    have hu3 := (startB_iff u).1 hS
    by_cases h1 : -1 ≤ s ∧ s ≤ 3
    · have e : (decide (-1 ≤ s) && decide (s ≤ 3)) = true := by simp [h1]
      refine ev_suc ?_
      simp only [spec_PlaceOk.j0, e, Bool.not_true]
      refine ev_neg (by simp) (ev_bind (sSameRule_ev u.length s hu3.2.1 hu3.2.2 h1) (ev_bind (afterWord_ev u s w hS h1 hw) (ev_now ?_)))
      by_cases hW : wordB (u.length : Int) w = true
      · rw [if_pos hW]
        unfold afterWordM
        by_cases h2 : 0 < waysM s u w
        · rw [if_pos h2]; simp [placeB, hS, hW, h1, h2]
        · rw [if_neg h2]; simp [placeB, hS, hW, h1, h2]
      · rw [if_neg hW]
        have hf : wordB (u.length : Int) w = false := by simpa using hW
        simp [placeB, hf]
    · have e : (decide (-1 ≤ s) && decide (s ≤ 3)) = false := by
        rw [Bool.and_eq_false_iff]; simp only [decide_eq_false_iff_not]; omega
      rw [e]
      refine hj _ rfl ?_
      unfold placeB
      rw [Bool.and_eq_false_iff] at e
      rcases e with e | e <;> simp [e]
  · refine ev_neg hS (hj _ rfl ?_)
    have hf : startB u = false := by simpa using hS
    simp [placeB, hf]
theorem drawUrn_loop {b : List Int} (hb : BytesOk b) : ∀ (d : Nat) (l : List Int) (p : Int), l.length + d ≤ 3 → 1 ≤ l.length + d → (∀ x ∈ l, 0 ≤ x ∧ x ≤ 5) → 0 ≤ p → p + (d : Int) ≤ 1000000000 →
    ∃ o, Ev (fun k => spec_l20Urn.l0 k 0 l (d : Int) b p) (o, p + d) ∧ o.length = l.length + d ∧ ∀ x ∈ o, 0 ≤ x ∧ x ≤ 5 := by
  intro d
  induction d with
  | zero =>
    intro l p hd hd1 hr h0 hp
    refine ⟨l, ev_suc ?_, by simp, hr⟩
    simp only [spec_l20Urn.l0]
    refine ev_neg (by omega) (ev_bind (odd0_ev b p) (ev_neg (by simp) (ev_now (by simp))))
  | succ d ih =>
    intro l p hd hd1 hr h0 hp
    obtain ⟨r, hr1, r0, r1, _⟩ := pick_ev hb p 6 h0 (by omega) (by omega)
    have hr6 := r1 (by omega)
    obtain ⟨o, ho, ho1, ho2⟩ := ih (l ++ [r]) (p + 1) (by simp; omega) (by simp; omega) (by
      intro x hx
      rcases List.mem_append.1 hx with hx | hx
      · exact hr x hx
      · rw [List.mem_singleton] at hx; subst hx; omega) (by omega) (by omega)
    refine ⟨o, ev_suc ?_, by rw [ho1]; simp; omega, ho2⟩
    simp only [spec_l20Urn.l0]
    refine ev_pos (by omega) (ev_bind hr1 (ev_pos (by omega) ?_))
    rw [w64 (by omega) (by omega)]
    have e : ((d + 1 : Nat) : Int) - 1 = (d : Int) := by omega
    simp only [e]
    refine ev_eq ho ?_
    congr 1
    omega
theorem drawUrn_ev {b : List Int} (hb : BytesOk b) (p : Int) (h0 : 0 ≤ p) (hp : p ≤ 100000000) :
    ∃ o p', Ev (fun k => spec_l20Urn.f k b p 0) (o, p') ∧ 1 ≤ o.length ∧ o.length ≤ 3 ∧ (∀ x ∈ o, 0 ≤ x ∧ x ≤ 5) ∧ p ≤ p' ∧ p' ≤ p + 4 := by
  obtain ⟨r, hr, r0, r1, _⟩ := pick_ev hb p 3 h0 (by omega) (by omega)
  have hr3 := r1 (by omega)
  obtain ⟨o, ho, ho1, ho2⟩ := drawUrn_loop hb (1 + r).toNat [] (p + 1) (by simp; omega) (by simp; omega) (by simp) (by omega) (by omega)
  refine ⟨o, p + 1 + ((1 + r).toNat : Int), ?_, by rw [ho1]; simp; omega, by rw [ho1]; simp; omega, ho2, by omega, by omega⟩
  simp only [spec_l20Urn.f]
  refine ev_bind hr ?_
  simp only []
  rw [w64 (by omega) (by omega)]
  have e : ((1 + r).toNat : Int) = 1 + r := by omega
  rw [e] at ho ⊢
  exact ho
theorem drawPlace_loop {b : List Int} (hb : BytesOk b) (n : Int) (hn : 0 ≤ n ∧ n ≤ 1000) (u : List Int) (s : Int) (hu : 1 ≤ u.length ∧ u.length ≤ 3) (hs : -1 ≤ s ∧ s ≤ 3) : ∀ (d : Nat) (w : List Int) (p : Int), d ≤ 4 → w.length + d ≤ 4 → 0 ≤ p → p + (d : Int) ≤ 1000000000 →
    ∃ u' s' w' p', Ev (fun k => spec_l20Place.l0 k n (d : Int) b p u s w) (u', s', w', p') ∧ u'.length ≤ 3 ∧ w'.length ≤ 5 ∧ -1 ≤ s' ∧ s' ≤ 4 ∧ p ≤ p' ∧ p' ≤ p + d + 2 ∧ (n = 0 → u' = u ∧ s' = s) := by
  intro d
  induction d with
  | zero =>
    intro w p hd hd1 h0 hp
    by_cases hn0 : n = 0
    · subst hn0
      refine ⟨u, s, w, p, ev_suc ?_, hu.2, by omega, by omega, by omega, by omega, by omega, fun _ => ⟨rfl, rfl⟩⟩
      simp only [spec_l20Place.l0]
      exact ev_neg (by omega) (ev_bind (odd0_ev b p) (ev_neg (by simp) (Ev.now _)))
    · obtain ⟨q, hq⟩ := odd_ev hb p n (by omega) (by omega) (by omega) (by omega)
      cases q with
      | false =>
        refine ⟨u, s, w, p + 1, ev_suc ?_, hu.2, by omega, by omega, by omega, by omega, by omega, fun h => absurd h hn0⟩
        simp only [spec_l20Place.l0]
        exact ev_neg (by omega) (ev_bind hq (ev_neg (by simp) (Ev.now _)))
      | true =>
        obtain ⟨r, hr, r0, r1, _⟩ := pick_ev hb (p + 1) 3 (by omega) (by omega) (by omega)
        have hr3 := r1 (by omega)
        by_cases e0 : r = 0
        · refine ⟨u, 4, w, p + 1 + 1, ev_suc ?_, hu.2, by omega, by omega, by omega, by omega, by omega, fun h => absurd h hn0⟩
          simp only [spec_l20Place.l0]
          exact ev_neg (by omega) (ev_bind hq (ev_pos rfl (ev_bind hr (ev_pos e0 (Ev.now _)))))
        · by_cases e1 : r = 1
          · refine ⟨u, s, w ++ [3], p + 1 + 1, ev_suc ?_, hu.2, by simp; omega, by omega, by omega, by omega, by omega, fun h => absurd h hn0⟩
            simp only [spec_l20Place.l0]
            exact ev_neg (by omega) (ev_bind hq (ev_pos rfl (ev_bind hr (ev_neg e0 (ev_pos e1 (ev_pos (by omega) (Ev.now _)))))))
          · refine ⟨[], 0, [], p + 1 + 1, ev_suc ?_, by simp, by simp, by omega, by omega, by omega, by omega, fun h => absurd h hn0⟩
            simp only [spec_l20Place.l0]
            exact ev_neg (by omega) (ev_bind hq (ev_pos rfl (ev_bind hr (ev_neg e0 (ev_neg e1 (Ev.now _))))))
  | succ d ih =>
    intro w p hd hd1 h0 hp
    obtain ⟨r, hr, r0, r1, _⟩ := pick_ev hb p (u.length : Int) h0 (by omega) (by omega)
    have e : ((d + 1 : Nat) : Int) - 1 = (d : Int) := by omega
    have hP := specPlace_ev u s (w ++ [r]) (by omega) (by simp; omega)
    by_cases hB : placeB u s (w ++ [r]) = true
    · obtain ⟨u', s', w', p', h, h1, h2, h3, h4, h5, h6, h7⟩ := ih (w ++ [r]) (p + 1) (by omega) (by simp; omega) (by omega) (by omega)
      refine ⟨u', s', w', p', ev_suc ?_, h1, h2, h3, h4, by omega, by omega, h7⟩
      simp only [spec_l20Place.l0]
      refine ev_pos (by omega) (ev_bind (Ev.now _) (ev_pos (by simp; omega) (ev_bind (Ev.now _) (ev_bind hr (ev_pos (by simp; omega) (ev_bind (Ev.now _) ?_))))))
      simp only [List.nil_append]
      refine ev_bind hP (ev_pos hB ?_)
      rw [w64 (by omega) (by omega), e]
      exact h
    · obtain ⟨u', s', w', p', h, h1, h2, h3, h4, h5, h6, h7⟩ := ih w (p + 1) (by omega) (by omega) (by omega) (by omega)
      refine ⟨u', s', w', p', ev_suc ?_, h1, h2, h3, h4, by omega, by omega, h7⟩
      simp only [spec_l20Place.l0]
      refine ev_pos (by omega) (ev_bind (Ev.now _) (ev_pos (by simp; omega) (ev_bind (Ev.now _) (ev_bind hr (ev_pos (by simp; omega) (ev_bind (Ev.now _) ?_))))))
      simp only [List.nil_append]
      refine ev_bind hP (ev_neg hB ?_)
      rw [w64 (by omega) (by omega), e]
      exact h
theorem drawPlace_ev {b : List Int} (hb : BytesOk b) (p n : Int) (hn : 0 ≤ n ∧ n ≤ 1000) (h0 : 0 ≤ p) (hp : p ≤ 10000000) :
    ∃ u s w p', Ev (fun k => spec_l20Place.f k b p n) (u, s, w, p') ∧ u.length ≤ 3 ∧ w.length ≤ 5 ∧ -1 ≤ s ∧ s ≤ 4 ∧ p ≤ p' ∧ p' ≤ p + 12 ∧ (n = 0 → 1 ≤ u.length) := by
  obtain ⟨u, p1, e1, a1, a2, a3, a4, a5⟩ := drawUrn_ev hb p h0 (by omega)
  obtain ⟨r, hr, r0, r1, _⟩ := pick_ev hb p1 5 (by omega) (by omega) (by omega)
  have hr5 := r1 (by omega)
  obtain ⟨q, hq, q0, q1, _⟩ := pick_ev hb (p1 + 1) 5 (by omega) (by omega) (by omega)
  have hq5 := q1 (by omega)
  obtain ⟨u', s', w', p', h, h1, h2, h3, h4, h5, h6, h7⟩ := drawPlace_loop hb n hn u (r - 1) ⟨a1, a2⟩ ⟨by omega, by omega⟩ q.toNat [] (p1 + 1 + 1) (by omega) (by simp; omega) (by omega) (by omega)
  refine ⟨u', s', w', p', ?_, h1, h2, h3, h4, by omega, by omega, fun hz => by rw [(h7 hz).1]; exact a1⟩
  simp only [spec_l20Place.f]
  refine ev_bind e1 (ev_bind hr (ev_bind hq ?_))
  simp only []
  rw [w64 (by omega) (by omega)]
  have e : (q.toNat : Int) = q := by omega
  rw [e] at h
  exact h
theorem drawWritten_loop {b : List Int} (p : Int) (l : List S30) (hl : l.length ≤ 100) : ∀ (suf pre acc : List S30), l = pre ++ suf → acc.length ≤ pre.length →
    ∃ ds, Ev (fun k => spec_l20Written.l0 k acc l (pre.length : Int) b p) (ds, p) ∧ ds.length ≤ acc.length + suf.length := by
  intro suf
  induction suf with
  | nil =>
    intro pre acc h _
    rw [List.append_nil] at h
    subst h
    refine ⟨acc, ev_suc ?_, by simp⟩
    simp only [spec_l20Written.l0]
    exact ev_neg (by omega) (Ev.now _)
  | cons x t ih =>
    intro pre acc h ha
    have e : l.length = pre.length + (t.length + 1) := by rw [h]; simp
    have hx : rd_T30 l (pre.length : Int) = x := by rw [h]; simp [rd_T30]
    by_cases hd : deedT x.f0 x.f1 x.f2 = []
    · obtain ⟨ds, h1, h2⟩ := ih (pre ++ [x]) acc (by rw [h]; simp) (by simp; omega)
      refine ⟨ds, ev_suc ?_, by simp; omega⟩
      simp only [spec_l20Written.l0, hx]
      refine ev_pos (by omega) (ev_pos (by omega) (ev_bind (sdeed_ev _ _ _) (ev_pos (by rw [toList_ba]; exact hd) ?_)))
      rw [w64 (by omega) (by omega), len_at pre x]
      exact h1
    · obtain ⟨ds, h1, h2⟩ := ih (pre ++ [x]) (acc ++ [x]) (by rw [h]; simp) (by simp; omega)
      refine ⟨ds, ev_suc ?_, by simp at h2 ⊢; omega⟩
      simp only [spec_l20Written.l0, hx]
      refine ev_pos (by omega) (ev_pos (by omega) (ev_bind (sdeed_ev _ _ _) (ev_neg (by rw [toList_ba]; exact hd) (ev_pos (by omega) ?_))))
      rw [w64 (by omega) (by omega), len_at pre x]
      exact h1
theorem drawWritten_ev {b : List Int} (hb : BytesOk b) (p : Int) (h0 : 0 ≤ p) (hp : p ≤ 1000) :
    ∃ ds q, Ev (fun k => spec_l20Written.f k b p) (ds, q) ∧ ds.length ≤ 5 ∧ p ≤ q ∧ q ≤ p + 100 := by
  obtain ⟨u, s, w, p', hd, h1, h2, h3, h4, h5, h6, _⟩ := drawPlace_ev hb p 0 ⟨by omega, by omega⟩ h0 (by omega)
  obtain ⟨l, q, hl, l1, l2, l3⟩ := drawDeeds_ev hb u s w (by omega) p' (by omega) (by omega)
  obtain ⟨ds, he, e1⟩ := drawWritten_loop (b := b) q l (by omega) l [] [] rfl (by simp)
  refine ⟨ds, q, ?_, by simp at e1; omega, by omega, by omega⟩
  simp only [spec_l20Written.f]
  exact ev_bind hd (ev_bind hl he)
theorem alive_ev : Ev (fun k => laws_alive.f k) true := Ev.of laws_alive.mono (k := 5) (by decide +kernel)
theorem drawJT_ev {l : List Int} (hw : ∀ x ∈ l, (Lit.int .u8 x).wf = true) : ∃ ds, Ev (fun k => spec_DrawJournalText.f k l) ds ∧ ds.length ≤ 6 := by
  obtain ⟨b, hb, hB⟩ := open_ev hw
  obtain ⟨ds, q, hd, d1, d2, d3⟩ := drawWritten_ev hB 0 (by omega) (by omega)
  obtain ⟨r, hr⟩ := odd_ev hB q 12 (by omega) (by omega) (by omega) (by omega)
  cases r with
  | true =>
    refine ⟨ds ++ [⟨9, 0, 0⟩], ?_, by simp; omega⟩
    simp only [spec_DrawJournalText.f, hb]
    exact ev_bind (Ev.now _) (ev_bind hd (ev_bind hr (ev_pos rfl (ev_pos (by simp only; omega) (Ev.now _)))))
  | false =>
    refine ⟨ds, ?_, by omega⟩
    simp only [spec_DrawJournalText.f, hb]
    exact ev_bind (Ev.now _) (ev_bind hd (ev_bind hr (ev_neg (by simp) (Ev.now _))))
end FnJournalText_parts
open FnJournalText_parts
theorem FnJournalText : laws_FnJournalText.Pure := by
  intro l _ hl2 hw
  refine Ev.rounds ?_
  simp only [laws_FnJournalText.f]
  by_cases h : (l.length : Int) > 1048576
  · exact ev_pos h (Ev.now _)
  refine ev_neg h ?_
  obtain ⟨ds, hd, hl⟩ := drawJT_ev hw
  refine ev_bind hd (ev_bind (ijournal_ev ds (by omega)) (ev_bind (sjournal_ev ds (by omega)) (ev_pos rfl ?_)))
  simp only [toList_ba]
  have hj := journalT_len (ds.map triD)
  rw [List.length_map] at hj
  by_cases hn : journalT [] (ds.map triD) = []
  · exact ev_pos hn (ev_bind alive_ev (Ev.now _))
  · refine ev_neg hn (ev_bind (ireadj_ev _ (by omega)) ?_)
    rw [readJ_journal _ hn]
    have e : ((ds.map triD).map mkD) = ds := by
      rw [List.map_map]
      conv => rhs; rw [← List.map_id ds]
      exact List.map_congr_left fun x _ => rfl
    simp only [e, ba_size]
    exact ev_bind (sameDeeds_ev ds (by omega)) (ev_pos rfl (ev_now (by simp)))
end Go.Proofs.YtlhiienanbpdlaaDoor.Pure
