/- For the law FnExactJournalText: every row of deeds has the same journal by the program as by the reference, and is left as it was. The conditions: the bytes or numbers that come in are of their kinds, as the statement says. -/
import Derived.Test.YtlnbobpmjbcejaaDoorMFnExactJournalTextx4
import Derived.Test.YtlnbobpmjbcejaaDoorBase
import Derived.Test.YtlnbobpmjbcejaaDoorDeed
import Derived.Test.YtlnbobpmjbcejaaDoorText
namespace Go.Proofs.YtlnbobpmjbcejaaDoor.Pure
open Go.RowKit Go.Proofs.YtlnbobpmjbcejaaDoor.MFnExactJournalText Go.Proofs.YtlnbobpmjbcejaaDoorW.PrintWords Go.Proofs.YtlnbobpmjbcejaaDoorW.PrintLast Go.Proofs.YtlnbobpmjbcejaaDoor.Base
namespace FnExactJournalText_parts
def cvD (x : S23) : S25 := ⟨x.f0, x.f1, x.f2⟩
theorem toDeeds_loop (l : List S23) (hl : l.length ≤ 1048576) : ∀ (suf pre : List S23), l = pre ++ suf → ∀ rest : List S25, rest.length = suf.length →
    Ev (fun k => laws_toDeedS.l0 k l (pre.map cvD ++ rest) (pre.length : Int)) (l.map cvD) := by
  intro suf
  induction suf with
  | nil =>
    intro pre h rest hr
    obtain rfl := List.eq_nil_of_length_eq_zero hr
    rw [List.append_nil] at h
    subst h
    refine ev_suc ?_
    simp only [laws_toDeedS.l0]
    exact ev_neg (by omega) (ev_eq (Ev.now _) (by simp))
  | cons x t ih =>
    intro pre h rest hr
    obtain ⟨y, rest, rfl⟩ : ∃ y r, rest = y :: r := by cases rest with | nil => simp at hr | cons y r => exact ⟨y, r, rfl⟩
    have e : l.length = pre.length + (t.length + 1) := by rw [h]; simp
    have hx : rd_T23 l (pre.length : Int) = x := by rw [h]; simp [rd_T23]
    refine ev_suc ?_
    simp only [laws_toDeedS.l0, laws_toDeed.f, Option.bind_some, hx]
    refine ev_pos (by omega) (ev_pos (by omega) (ev_pos (by simp; omega) ?_))
    rw [w64 (by omega) (by omega), len_at pre x]
    have := ih (pre ++ [x]) (by rw [h]; simp) rest (by simpa using hr)
    have e2 : (pre.map cvD ++ y :: rest).set (pre.length : Int).toNat (⟨x.f0, x.f1, x.f2⟩ : S25) = (pre ++ [x]).map cvD ++ rest := by
      rw [Int.toNat_natCast, show pre.length = (pre.map cvD).length from (List.length_map ..).symm, List.set_append_right _ _ (Nat.le_refl _)]
      simp [cvD]
    rw [e2]
    exact this
theorem toDeeds_ev (l : List S23) (hl : l.length ≤ 1048576) : Ev (fun k => laws_toDeedS.f k l) (l.map cvD) := by
  unfold laws_toDeedS.f
  refine ev_pos (by omega) (ev_pos (by simp; omega) ?_)
  have := toDeeds_loop l hl l [] rfl (List.replicate (l.length : Int).toNat z25) (by simp)
  simpa using this
theorem eqDeeds_loop (l : List S25) (hl : l.length ≤ 1048576) : ∀ (suf pre : List S25), l = pre ++ suf → Ev (fun k => laws_eqDeedS.l0 k l l (pre.length : Int)) true := by
  intro suf
  induction suf with
  | nil =>
    intro pre h
    rw [List.append_nil] at h
    subst h
    refine ev_suc ?_
    simp only [laws_eqDeedS.l0]
    exact ev_neg (by omega) (Ev.now _)
  | cons x t ih =>
    intro pre h
    have e : l.length = pre.length + (t.length + 1) := by rw [h]; simp
    refine ev_suc ?_
    simp only [laws_eqDeedS.l0, laws_eqDeed.f, if_true, Option.bind_some]
    refine ev_pos (by omega) (ev_pos (by omega) (ev_pos (by omega) ?_))
    rw [w64 (by omega) (by omega), len_at pre x]
    exact ih (pre ++ [x]) (by rw [h]; simp)
theorem eqDeeds_ev (l : List S25) (hl : l.length ≤ 1048576) : Ev (fun k => laws_eqDeedS.f k l l) true := by
  unfold laws_eqDeedS.f
  exact ev_pos rfl (eqDeeds_loop l hl l [] rfl)
theorem l15Step_ev {n : Int} (h0 : -99 ≤ n) (h1 : n ≤ 99) : Ev (fun k => spec_l15Step.f k n) (ba (numT n)) := by
  have := small_all (p := fun n => decide (spec_l15Step.f 5 n = some (ba (numT n)))) (by decide +kernel) h0 h1
  exact Ev.of (fun k => spec_l15Step.mono _ _) (of_decide_eq_true this)
theorem specIn_ev (a b c : Int) : spec_l1In.f a b c = some (decide (b ≤ a ∧ a ≤ c)) := by
  unfold spec_l1In.f
  split <;> simp <;> omega
theorem sdeed_far (k a b : Int) : Ev (fun n => spec_DeedText.j0 n true k a b) (ba []) := ev_suc (by simp only [spec_DeedText.j0]; exact ev_pos trivial (Ev.now _))
theorem litb (l : Tx) : (⟨⟨l⟩⟩ : ByteArray) = ba l := rfl
theorem sdeed_ev (k a b : Int) : Ev (fun n => spec_DeedText.f n k a b) (ba (deedT k a b)) := by
  unfold deedT spec_DeedText.f
  simp only [specIn_ev, Option.bind_some, decide_eq_true_eq]
  by_cases ha : -99 ≤ a ∧ a ≤ 99
  case neg => rw [if_neg (fun h => ha h.1)]; exact ev_neg ha (sdeed_far k a b)
  by_cases hb : -99 ≤ b ∧ b ≤ 99
  case neg =>
    rw [if_neg (fun h => hb h.2)]
    refine ev_pos ha ?_
    rw [decide_eq_false hb]
    exact sdeed_far k a b
  rw [if_pos ⟨ha, hb⟩]
  refine ev_pos ha ?_
  rw [decide_eq_true hb]
  refine ev_suc ?_
  simp only [spec_DeedText.j0, Bool.not_true, Bool.false_eq_true, if_false, Bool.and_eq_true, beq_iff_eq]
  obtain ⟨_, l1, l2⟩ := numT_bytes ha.1 ha.2
  obtain ⟨_, m1, m2⟩ := numT_bytes hb.1 hb.2
  split
  · refine ev_bind (l15Step_ev ha.1 ha.2) (ev_pos (by rw [ba_size]; omega) (ev_pos (by rw [litb, ba_append, ba_size, List.length_append]; simp; omega) (ev_bind (l15Step_ev hb.1 hb.2) (ev_pos ?_ ?_))))
    · rw [litb, litb, ba_append, ba_append, ba_size, ba_size]; simp; omega
    · rw [litb, litb, ba_append, ba_append, ba_append]
      refine ev_eq (Ev.now _) ?_
      simp [putW]
  split
  · exact ev_bind (l15Step_ev ha.1 ha.2) (ev_pos (by rw [ba_size]; omega) (ev_eq (Ev.now _) (by rw [litb, ba_append]; simp [stepW])))
  split
  · exact ev_bind (l15Step_ev ha.1 ha.2) (ev_pos (by rw [ba_size]; omega) (ev_eq (Ev.now _) (by rw [litb, ba_append]; simp [drawW])))
  split
  · exact Ev.now _
  split
  · exact Ev.now _
  · exact Ev.now _
theorem itoa_ev {n : Int} (h0 : -99 ≤ n) (h1 : n ≤ 99) : strconv_Itoa.f n = some (ba (numT n)) := by
  unfold strconv_Itoa.f
  rw [if_pos ⟨by omega, by omega⟩, itoa_small h0 h1]
  rfl
theorem ideed_far (k a b : Int) : Ev (fun n => impl_DeedText.j0 n true k a b) (ba []) := ev_suc (by simp only [impl_DeedText.j0]; exact ev_pos trivial (Ev.now _))
theorem ideed_ev (k a b : Int) : Ev (fun n => impl_DeedText.f n k a b) (ba (deedT k a b)) := by
  unfold deedT impl_DeedText.f
  by_cases h1 : a < -99
  · rw [if_neg (fun h => by omega)]; exact ev_pos h1 (ideed_far k a b)
  refine ev_neg h1 ?_
  by_cases h2 : a > 99
  · rw [if_neg (fun h => by omega)]; exact ev_pos h2 (ideed_far k a b)
  refine ev_neg h2 ?_
  by_cases h3 : b < -99
  · rw [if_neg (fun h => by omega)]; exact ev_pos h3 (ideed_far k a b)
  refine ev_neg h3 ?_
  by_cases h4 : b > 99
  · rw [if_neg (fun h => by omega), decide_eq_true h4]; exact ideed_far k a b
  rw [if_pos (by omega), decide_eq_false h4]
  have ha : -99 ≤ a ∧ a ≤ 99 := by omega
  have hb : -99 ≤ b ∧ b ≤ 99 := by omega
  refine ev_suc ?_
  simp only [impl_DeedText.j0, Bool.false_eq_true, if_false, Bool.and_eq_true, beq_iff_eq, itoa_ev ha.1 ha.2, itoa_ev hb.1 hb.2, Option.bind_some]
  obtain ⟨_, l1, l2⟩ := numT_bytes ha.1 ha.2
  obtain ⟨_, m1, m2⟩ := numT_bytes hb.1 hb.2
  refine ev_pos (by rw [ba_size]; omega) ?_
  simp only [litb, ba_append, ba_size]
  split
  · rename_i hk
    refine ev_pos (by simp; omega) (ev_pos (by simp; omega) (ev_pos (by simp; omega) (ev_eq (Ev.now _) ?_)))
    simp [putW]
  rename_i hk
  by_cases hb0 : b = 0
  · refine ev_pos hb0 ?_
    simp only [hb0, and_true]
    split
    · exact ev_pos (by simp; omega) (ev_eq (Ev.now _) (by simp [stepW]))
    split
    · exact ev_pos (by simp; omega) (ev_eq (Ev.now _) (by simp [drawW]))
    by_cases ha0 : a = 0
    · refine ev_pos ha0 ?_
      simp only [ha0, and_true]
      split
      · exact Ev.now _
      split
      · exact Ev.now _
      · exact Ev.now _
    · refine ev_neg ha0 ?_
      simp only [ha0, and_false, if_false]
      exact Ev.now _
  · refine ev_neg hb0 ?_
    simp only [hb0, and_false, if_false]
    exact Ev.now _
def triD (x : S25) : Int × Int × Int := (x.f0, x.f1, x.f2)
theorem sjournal_loop (l : List S25) (hl : l.length ≤ 1048576) : ∀ (suf pre : List S25) (acc : Tx), l = pre ++ suf → acc.length ≤ 12 * pre.length →
    Ev (fun k => spec_JournalText.l0 k l (ba acc) (pre.length : Int)) (ba (journalT acc (suf.map triD))) := by
  intro suf
  induction suf with
  | nil =>
    intro pre acc h _
    rw [List.append_nil] at h
    subst h
    refine ev_suc ?_
    simp only [spec_JournalText.l0]
    exact ev_neg (by omega) (Ev.now _)
  | cons x t ih =>
    intro pre acc h ha
    have e : l.length = pre.length + (t.length + 1) := by rw [h]; simp
    have hx : rd_T25 l (pre.length : Int) = x := by rw [h]; simp [rd_T25]
    have hd := deed_len x.f0 x.f1 x.f2
    refine ev_suc ?_
    simp only [spec_JournalText.l0, hx]
    refine ev_pos (by omega) (ev_pos (by omega) (ev_bind (sdeed_ev _ _ _) ?_))
    simp only [toList_ba, List.map_cons, journalT, triD]
    split
    · exact Ev.now _
    · refine ev_bind (sdeed_ev _ _ _) (ev_pos (by rw [ba_size, ba_size]; omega) ?_)
      rw [ba_append, ba_size, List.length_append]
      refine ev_pos (by omega) ?_
      rw [w64 (by omega) (by omega), len_at pre x, litb, ba_append]
      exact ih (pre ++ [x]) _ (by rw [h]; simp) (by simp; omega)
theorem ijournal_loop (l : List S25) (hl : l.length ≤ 1048576) : ∀ (suf pre : List S25) (acc : Tx), l = pre ++ suf → acc.length ≤ 12 * pre.length →
    Ev (fun k => impl_JournalText.l0 k (ba acc) l (l.length : Int) (pre.length : Int)) (ba (journalT acc (suf.map triD))) := by
  intro suf
  induction suf with
  | nil =>
    intro pre acc h _
    rw [List.append_nil] at h
    subst h
    refine ev_suc ?_
    simp only [impl_JournalText.l0]
    exact ev_neg (by omega) (Ev.now _)
  | cons x t ih =>
    intro pre acc h ha
    have e : l.length = pre.length + (t.length + 1) := by rw [h]; simp
    have hx : rd_T25 l (pre.length : Int) = x := by rw [h]; simp [rd_T25]
    have hd := deed_len x.f0 x.f1 x.f2
    refine ev_suc ?_
    simp only [impl_JournalText.l0, hx]
    refine ev_pos (by omega) (ev_pos (by omega) (ev_pos (by omega) (ev_bind (ideed_ev _ _ _) ?_)))
    simp only [toList_ba, List.map_cons, journalT, triD]
    split
    · exact Ev.now _
    · refine ev_pos (by rw [ba_size]; omega) ?_
      rw [litb, ba_append, ba_size, ba_size, List.length_append]
      refine ev_pos (by simp; omega) ?_
      rw [w64 (by omega) (by omega), len_at pre x, ba_append]
      refine ev_eq (ih (pre ++ [x]) _ (by rw [h]; simp) (by simp; omega)) ?_
      simp
theorem sjournal_ev (l : List S25) (hl : l.length ≤ 1048576) : Ev (fun k => spec_JournalText.f k l) (ba (journalT [] (l.map triD))) := by
  unfold spec_JournalText.f
  exact sjournal_loop l hl l [] [] rfl (by simp)
theorem ijournal_ev (l : List S25) (hl : l.length ≤ 1048576) : Ev (fun k => impl_JournalText.f k l) (ba (journalT [] (l.map triD))) := by
  unfold impl_JournalText.f
  exact ijournal_loop l hl l [] [] rfl (by simp)

end FnExactJournalText_parts
open FnExactJournalText_parts
theorem FnExactJournalText (x0 : List S23) (ok : x0.length ≤ maxLen ∧ ∀ x ∈ x0, (Lit.int .i64 x.f0).wf = true ∧ (Lit.int .i64 x.f1).wf = true ∧ (Lit.int .i64 x.f2).wf = true) : ∃ k, laws_FnExactJournalText.f k x0 = some true := by
  refine Ev.rounds ?_
  have h1 := ok.1
  unfold maxLen at h1
  unfold laws_FnExactJournalText.f laws_szDeedS.f
  rw [w64 (by omega) (by omega)]
  by_cases hl : (1048576 : Int) - (x0.length : Int) < 0
  · rw [if_pos hl]
    simp only [Option.bind_some]
    exact ev_pos (by omega) (Ev.now _)
  rw [if_neg hl]
  simp only [Option.bind_some]
  refine ev_neg hl (ev_bind (toDeeds_ev x0 (by omega)) (ev_bind (sjournal_ev _ (by simp; omega)) (ev_bind (toDeeds_ev x0 (by omega)) (ev_bind (ijournal_ev _ (by simp; omega)) (ev_pos rfl (ev_bind (toDeeds_ev x0 (by omega)) (ev_bind (eqDeeds_ev _ (by simp; omega)) ?_)))))))
  exact ev_pos rfl (Ev.now _)
end Go.Proofs.YtlnbobpmjbcejaaDoor.Pure
