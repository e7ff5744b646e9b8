/- For the law FnExactReadJournal: every text is read as a journal by the program as by the reference; and what is read is of its own. The conditions: the bytes or numbers that come in are of their kinds, as the statement says. -/
import Derived.Test.YtlhiienanbpdlaaDoorMFnExactReadJournalx8
import Derived.Test.YtlhiienanbpdlaaDoorBase
import Derived.Test.YtlhiienanbpdlaaDoorDeed
import Derived.Test.YtlhiienanbpdlaaDoorText
namespace Go.Proofs.YtlhiienanbpdlaaDoor.Pure
open Go.RowKit Go.Proofs.YtlhiienanbpdlaaDoor.MFnExactReadJournal Go.Proofs.YtlhiienanbpdlaaDoorW.PrintWords Go.Proofs.YtlhiienanbpdlaaDoorW.PrintLast Go.Proofs.YtlhiienanbpdlaaDoor.Base
namespace FnExactReadJournal_parts
theorem l15Step_ev {n : Int} (h0 : -99 ≤ n) (h1 : n ≤ 99) : Ev (fun k => spec_l15Step.f k n) (ba (numT n)) := by
  have := small_all (p := fun n => decide (spec_l15Step.f 5 n = some (ba (numT n)))) (by decide +kernel) h0 h1
  exact Ev.of (fun k => spec_l15Step.mono _ _) (of_decide_eq_true this)
theorem specIn_ev (a b c : Int) : spec_l1In.f a b c = some (decide (b ≤ a ∧ a ≤ c)) := by
  unfold spec_l1In.f
  split <;> simp <;> omega
theorem sdeed_far (k a b : Int) : Ev (fun n => spec_DeedText.j0 n true k a b) (ba []) := ev_suc (by simp only [spec_DeedText.j0]; exact ev_pos trivial (Ev.now _))
theorem litb (l : Tx) : (⟨⟨l⟩⟩ : ByteArray) = ba l := rfl
theorem sdeed_ev (k a b : Int) : Ev (fun n => spec_DeedText.f n k a b) (ba (deedT k a b)) := by
  unfold deedT spec_DeedText.f
  simp only [specIn_ev, Option.bind_some, decide_eq_true_eq]
  by_cases ha : -99 ≤ a ∧ a ≤ 99
  case neg => rw [if_neg (fun h => ha h.1)]; exact ev_neg ha (sdeed_far k a b)
  by_cases hb : -99 ≤ b ∧ b ≤ 99
  case neg =>
    rw [if_neg (fun h => hb h.2)]
    refine ev_pos ha ?_
    rw [decide_eq_false hb]
    exact sdeed_far k a b
  rw [if_pos ⟨ha, hb⟩]
  refine ev_pos ha ?_
  rw [decide_eq_true hb]
  refine ev_suc ?_
  simp only [spec_DeedText.j0, Bool.not_true, Bool.false_eq_true, if_false, Bool.and_eq_true, beq_iff_eq]
  obtain ⟨_, l1, l2⟩ := numT_bytes ha.1 ha.2
  obtain ⟨_, m1, m2⟩ := numT_bytes hb.1 hb.2
  split
  · refine ev_bind (l15Step_ev ha.1 ha.2) (ev_pos (by rw [ba_size]; omega) (ev_pos (by rw [litb, ba_append, ba_size, List.length_append]; simp; omega) (ev_bind (l15Step_ev hb.1 hb.2) (ev_pos ?_ ?_))))
    · rw [litb, litb, ba_append, ba_append, ba_size, ba_size]; simp; omega
    · rw [litb, litb, ba_append, ba_append, ba_append]
      refine ev_eq (Ev.now _) ?_
      simp [putW]
  split
  · exact ev_bind (l15Step_ev ha.1 ha.2) (ev_pos (by rw [ba_size]; omega) (ev_eq (Ev.now _) (by rw [litb, ba_append]; simp [stepW])))
  split
  · exact ev_bind (l15Step_ev ha.1 ha.2) (ev_pos (by rw [ba_size]; omega) (ev_eq (Ev.now _) (by rw [litb, ba_append]; simp [drawW])))
  split
  · exact Ev.now _
  split
  · exact Ev.now _
  · exact Ev.now _
theorem itoa_ev {n : Int} (h0 : -99 ≤ n) (h1 : n ≤ 99) : strconv_Itoa.f n = some (ba (numT n)) := by
  unfold strconv_Itoa.f
  rw [if_pos ⟨by omega, by omega⟩, itoa_small h0 h1]
  rfl
theorem ideed_far (k a b : Int) : Ev (fun n => impl_DeedText.j0 n true k a b) (ba []) := ev_suc (by simp only [impl_DeedText.j0]; exact ev_pos trivial (Ev.now _))
theorem ideed_ev (k a b : Int) : Ev (fun n => impl_DeedText.f n k a b) (ba (deedT k a b)) := by
  unfold deedT impl_DeedText.f
  by_cases h1 : a < -99
  · rw [if_neg (fun h => by omega)]; exact ev_pos h1 (ideed_far k a b)
  refine ev_neg h1 ?_
  by_cases h2 : a > 99
  · rw [if_neg (fun h => by omega)]; exact ev_pos h2 (ideed_far k a b)
  refine ev_neg h2 ?_
  by_cases h3 : b < -99
  · rw [if_neg (fun h => by omega)]; exact ev_pos h3 (ideed_far k a b)
  refine ev_neg h3 ?_
  by_cases h4 : b > 99
  · rw [if_neg (fun h => by omega), decide_eq_true h4]; exact ideed_far k a b
  rw [if_pos (by omega), decide_eq_false h4]
  have ha : -99 ≤ a ∧ a ≤ 99 := by omega
  have hb : -99 ≤ b ∧ b ≤ 99 := by omega
  refine ev_suc ?_
  simp only [impl_DeedText.j0, Bool.false_eq_true, if_false, Bool.and_eq_true, beq_iff_eq, itoa_ev ha.1 ha.2, itoa_ev hb.1 hb.2, Option.bind_some]
  obtain ⟨_, l1, l2⟩ := numT_bytes ha.1 ha.2
  obtain ⟨_, m1, m2⟩ := numT_bytes hb.1 hb.2
  refine ev_pos (by rw [ba_size]; omega) ?_
  simp only [litb, ba_append, ba_size]
  split
  · rename_i hk
    refine ev_pos (by simp; omega) (ev_pos (by simp; omega) (ev_pos (by simp; omega) (ev_eq (Ev.now _) ?_)))
    simp [putW]
  rename_i hk
  by_cases hb0 : b = 0
  · refine ev_pos hb0 ?_
    simp only [hb0, and_true]
    split
    · exact ev_pos (by simp; omega) (ev_eq (Ev.now _) (by simp [stepW]))
    split
    · exact ev_pos (by simp; omega) (ev_eq (Ev.now _) (by simp [drawW]))
    by_cases ha0 : a = 0
    · refine ev_pos ha0 ?_
      simp only [ha0, and_true]
      split
      · exact Ev.now _
      split
      · exact Ev.now _
      · exact Ev.now _
    · refine ev_neg ha0 ?_
      simp only [ha0, and_false, if_false]
      exact Ev.now _
  · refine ev_neg hb0 ?_
    simp only [hb0, and_false, if_false]
    exact Ev.now _
theorem cut_loop (c : UInt8) (l : Tx) (hl : l.length ≤ 1000000000000) : ∀ (suf acc pre : Tx) (done : List ByteArray), l = pre ++ (acc ++ suf) → done.length ≤ pre.length →
    Ev (fun k => spec_l1Cut.l0 k (ba l) (c.toNat : Int) done (pre.length : Int) ((pre ++ acc).length : Int)) (done ++ (cutA c acc suf).map ba) := by
  intro suf
  induction suf with
  | nil =>
    intro acc pre done h hd
    have e : l.length = pre.length + acc.length := by rw [h]; simp
    have ha : (pre ++ acc).length = pre.length + acc.length := List.length_append
    refine ev_suc ?_
    simp only [spec_l1Cut.l0]
    refine ev_neg (by rw [ba_size]; omega) (ev_pos (by omega) (ev_pos (by rw [ba_size]; omega) (ev_pos (by omega) (ev_eq (Ev.now _) ?_))))
    rw [ba_extract, ba_size]
    have e2 : (l.drop (pre.length : Int).toNat).take (l.length - (pre.length : Int).toNat) = acc := by
      rw [List.append_nil] at h
      subst h
      simp
    rw [e2]
    rfl
  | cons b t ih =>
    intro acc pre done h hd
    have e : l.length = pre.length + (acc.length + (t.length + 1)) := by rw [h]; simp
    have ha : (pre ++ acc).length = pre.length + acc.length := List.length_append
    have hb : bt (ba l) ((pre ++ acc).length : Int) = (b.toNat : Int) := by rw [h, ← List.append_assoc]; exact bt_ba _ _ _
    refine ev_suc ?_
    simp only [spec_l1Cut.l0]
    refine ev_pos (by rw [ba_size]; omega) (ev_pos (by omega) ?_)
    rw [hb]
    by_cases hc : b = c
    · subst hc
      refine ev_pos rfl (ev_pos (by omega) (ev_pos (by omega) (ev_pos (by rw [ba_size]; omega) (ev_pos (by omega) ?_))))
      rw [ba_extract]
      have e2 : (l.drop (pre.length : Int).toNat).take (((pre ++ acc).length : Int).toNat - (pre.length : Int).toNat) = acc := by
        rw [Int.toNat_natCast, Int.toNat_natCast, ha, Nat.add_sub_cancel_left, h, List.drop_left, List.take_left]
      rw [e2, w64 (by omega) (by omega)]
      have := ih [] (pre ++ acc ++ [b]) (done ++ [ba acc]) (by rw [h]; simp) (by simp; omega)
      have e3 : (((pre ++ acc).length : Int) + 1) = ((pre ++ acc ++ [b]).length : Int) := len_at _ _
      rw [e3]
      rw [List.append_nil] at this
      refine ev_eq this ?_
      rw [cutA, if_pos rfl]
      simp
    · refine ev_neg (fun e => hc (UInt8.toNat_inj.1 (by omega))) ?_
      rw [w64 (by omega) (by omega)]
      have := ih (acc ++ [b]) pre done (by rw [h]; simp) hd
      have e3 : (((pre ++ acc).length : Int) + 1) = ((pre ++ (acc ++ [b])).length : Int) := by rw [← List.append_assoc]; exact len_at _ _
      rw [e3]
      refine ev_eq this ?_
      rw [cutA, if_neg hc]
theorem scut_ev (c : UInt8) (l : Tx) (hl : l.length ≤ 1000000000000) (n : Int) (hn : n = (c.toNat : Int)) : Ev (fun k => spec_l1Cut.f k (ba l) n) ((cutA c [] l).map ba) := by
  subst hn
  have := cut_loop c l hl l [] [] [] rfl (Nat.le_refl _)
  simpa [spec_l1Cut.f] using this
theorem isplit_ev (c : UInt8) (l : Tx) (hl : l.length ≤ 4000000000) : strings_Split.f (ba l) (ba [c]) = some ((cutA c [] l).map ba) := by
  unfold strings_Split.f
  rw [if_pos ⟨by rw [ba_size]; omega, by simp⟩, split_cut]
theorem digits_loop (x : Tx) (hx : x.length ≤ 1000000000000) : ∀ (suf pre : Tx), x = pre ++ suf → ∀ a, ∃ v, Ev (fun k => spec_l1Digits.l0 k (ba x) a (pre.length : Int)) v := by
  intro suf
  induction suf with
  | nil =>
    intro pre h a
    have e : x.length = pre.length := by rw [h]; simp
    exact ⟨a, ev_suc (by simp only [spec_l1Digits.l0]; exact ev_neg (by rw [ba_size]; omega) (Ev.now _))⟩
  | cons b t ih =>
    intro pre h a
    have e : x.length = pre.length + (t.length + 1) := by rw [h]; simp
    have hb : bt (ba x) (pre.length : Int) = (b.toNat : Int) := by rw [h]; exact bt_ba _ _ _
    by_cases h1 : (b.toNat : Int) < 48
    · refine ⟨-1, ev_suc ?_⟩
      simp only [spec_l1Digits.l0, hb]
      exact ev_pos (by rw [ba_size]; omega) (ev_pos (by omega) (ev_pos h1 (Ev.now _)))
    by_cases h2 : (b.toNat : Int) > 57
    · refine ⟨-1, ev_suc ?_⟩
      simp only [spec_l1Digits.l0, hb]
      exact ev_pos (by rw [ba_size]; omega) (ev_pos (by omega) (ev_neg h1 (ev_pos h2 (Ev.now _))))
    obtain ⟨v, hv⟩ := ih (pre ++ [b]) (by rw [h]; simp) (wrap64 ((wrap64 (10 * a)) + (((b.toNat : Int) - 48) % 256)))
    refine ⟨v, ev_suc ?_⟩
    simp only [spec_l1Digits.l0, hb]
    refine ev_pos (by rw [ba_size]; omega) (ev_pos (by omega) (ev_neg h1 (ev_neg h2 ?_)))
    rw [w64 (n := (pre.length : Int) + 1) (by omega) (by omega), len_at pre b]
    exact hv
theorem digits_some (x : Tx) (hx : x.length ≤ 1000000000000) : ∃ v, Ev (fun k => spec_l1Digits.f k (ba x)) v := by
  have hf : ∃ v, Ev (fun k => spec_l1Digits.j0 k (ba x) false) v := by
    obtain ⟨v, hv⟩ := digits_loop x hx x [] rfl 0
    exact ⟨v, ev_suc (by simp only [spec_l1Digits.j0]; exact ev_neg (by decide) hv)⟩
  have ht : ∃ v, Ev (fun k => spec_l1Digits.j0 k (ba x) true) v := ⟨-1, ev_suc (by simp only [spec_l1Digits.j0]; exact ev_pos trivial (Ev.now _))⟩
  have hj : ∀ b, ∃ v, Ev (fun k => spec_l1Digits.j0 k (ba x) b) v := fun b => match b with | false => hf | true => ht
  unfold spec_l1Digits.f
  simp only [specIn_ev, Option.bind_some, decide_eq_true_eq]
  split
  · split
    · obtain ⟨v, hv⟩ := hj ((bt (ba x) 0) == 48)
      exact ⟨v, ev_pos (by omega) hv⟩
    · exact hf
  · exact ht
theorem signed_some (x : Tx) (hx : x.length ≤ 1000000000000) : ∃ v, Ev (fun k => spec_l15Signed.f k (ba x)) v := by
  obtain ⟨d, hd⟩ := digits_some x hx
  have hf : ∃ v, Ev (fun k => spec_l15Signed.j0 k (ba x) false) v := by
    by_cases h : d < 0
    · exact ⟨-100, ev_suc (by simp only [spec_l15Signed.j0]; exact ev_neg (by decide) (ev_bind hd (ev_pos h (Ev.now _))))⟩
    · exact ⟨d, ev_suc (by simp only [spec_l15Signed.j0]; exact ev_neg (by decide) (ev_bind hd (ev_neg h (Ev.now _))))⟩
  unfold spec_l15Signed.f
  split
  · rename_i h1
    rw [ba_size] at h1
    obtain ⟨e, he⟩ := digits_some (x.drop 1) (by rw [List.length_drop]; omega)
    have e1 : (ba x).extract 1 (ba x).size = ba (x.drop 1) := by
      rw [ba_extract, ba_size]
      congr 1
      exact List.take_of_length_le (by simp)
    have ht : ∃ v, Ev (fun k => spec_l15Signed.j0 k (ba x) true) v :=
      ⟨wrap64 (-e), ev_suc (by simp only [spec_l15Signed.j0, e1]; exact ev_pos trivial (ev_pos (by rw [ba_size]; omega) (ev_bind he (Ev.now _))))⟩
    have hj : ∀ b, ∃ v, Ev (fun k => spec_l15Signed.j0 k (ba x) b) v := fun b => match b with | false => hf | true => ht
    simp only [e1]
    split
    · split
      · obtain ⟨v, hv⟩ := hj (decide (e > 0))
        exact ⟨v, ev_pos (by rw [ba_size]; omega) (ev_bind he hv)⟩
      · exact hf
    · rename_i h2; rw [ba_size] at h2; omega
  · exact hf
theorem signed_ev {n : Int} (h0 : -99 ≤ n) (h1 : n ≤ 99) : Ev (fun k => spec_l15Signed.f k (ba (numT n))) n := by
  have := small_all (p := fun n => decide (spec_l15Signed.f 20 (ba (numT n)) = some n)) (by decide +kernel) h0 h1
  exact Ev.of (fun k => spec_l15Signed.mono _ _) (of_decide_eq_true this)
theorem cand_loop (x : Tx) (cs : List S30) (hl : cs.length ≤ 1000) : ∀ (suf pre : List S30), cs = pre ++ suf →
    (∀ k a b, deedT k a b = x → x ≠ [] → (⟨k, a, b⟩ : S30) ∈ suf) → Ev (fun k => spec_ReadDeed.l0 k (ba x) cs (pre.length : Int)) (readD x) := by
  intro suf
  induction suf with
  | nil =>
    intro pre h hd
    have e : cs.length = pre.length := by rw [h]; simp
    refine ev_suc ?_
    simp only [spec_ReadDeed.l0]
    refine ev_neg (by omega) ?_
    rw [readD_not fun k a b h => ?_]
    · exact Ev.now _
    by_cases hx : x = []
    · exact hx
    · exact absurd (hd k a b h hx) (by simp)
  | cons c t ih =>
    intro pre h hd
    have e : cs.length = pre.length + (t.length + 1) := by rw [h]; simp
    have hc : rd_T30 cs (pre.length : Int) = c := by rw [h]; simp [rd_T30]
    refine ev_suc ?_
    simp only [spec_ReadDeed.l0, toList_ba, hc]
    rw [w64 (by omega) (by omega), len_at pre c]
    refine ev_pos (by omega) ?_
    by_cases hx : x = []
    · refine ev_pos hx (ih (pre ++ [c]) (by rw [h]; simp) fun _ _ _ _ h => absurd hx h)
    refine ev_neg hx (ev_pos (by omega) (ev_bind (sdeed_ev _ _ _) ?_))
    simp only [toList_ba]
    by_cases hm : deedT c.f0 c.f1 c.f2 = x
    · refine ev_pos hm ?_
      rw [readD_of hm hx]
      exact Ev.now _
    · refine ev_neg hm (ih (pre ++ [c]) (by rw [h]; simp) fun k a b h1 h2 => ?_)
      rcases List.mem_cons.1 (hd k a b h1 h2) with h3 | h3
      · exact absurd (by rw [← h3]; exact h1) hm
      · exact h3
theorem rdOf_map (l : List Tx) (i : Int) : rdOf ByteArray.empty (l.map ba) i = ba (l.getD i.toNat []) := by
  unfold rdOf
  rw [List.getD_eq_getElem?_getD, List.getD_eq_getElem?_getD, List.getElem?_map]
  cases l[i.toNat]? <;> rfl
theorem words_small (x : Tx) (hx : x.length ≤ 1048576) : ∀ i, ((cutA 32 [] x).getD i []).length ≤ 1048576 := by
  have : ∀ (l acc : Tx) (p : Tx), p ∈ cutA 32 acc l → p.length ≤ acc.length + l.length := by
    intro l
    induction l with
    | nil => intro acc p hp; simp [cutA] at hp; subst hp; simp
    | cons b l ih =>
      intro acc p hp
      unfold cutA at hp
      split at hp
      · rcases List.mem_cons.1 hp with rfl | hp
        · simp
        · have := ih [] p hp; simp at this ⊢; omega
      · have := ih _ p hp; simp at this ⊢; omega
  intro i
  rw [List.getD_eq_getElem?_getD]
  cases hg : (cutA 32 [] x)[i]? with
  | none => simp
  | some p =>
    have := this x [] p (List.mem_of_getElem? hg)
    simp at this ⊢; omega
theorem sread_ev (x : Tx) (hx : x.length ≤ 1048576) : Ev (fun k => spec_ReadDeed.f k (ba x)) (readD x) := by
  unfold spec_ReadDeed.f
  refine ev_bind (scut_ev 32 x (by omega) 32 rfl) ?_
  simp only [Option.bind_some, List.length_map, rdOf_map]
  have hcut : ∀ {k a b : Int}, deedT k a b = x → x ≠ [] → _ := fun {k a b} h h2 => deed_cases (k := k) (a := a) (b := b) (by rw [h]; exact h2)
  have hw := words_small x hx
  obtain ⟨v1, h1⟩ := signed_some _ (Nat.le_trans (hw 1) (by omega))
  obtain ⟨v2, h2⟩ := signed_some _ (Nat.le_trans (hw 2) (by omega))
  have h3 : ∀ cs : List S30, cs.length ≤ 4 → (∀ k a b, deedT k a b = x → x ≠ [] → (⟨k, a, b⟩ : S30) ∈ cs) → Ev (fun k => spec_ReadDeed.j1 k (ba x) cs) (readD x) := fun cs hl hd =>
    ev_suc (by simp only [spec_ReadDeed.j1]; exact cand_loop x cs (by omega) cs [] rfl hd)
  by_cases hl2 : ((cutA 32 [] x).length : Int) = 2
  · refine ev_pos hl2 (ev_pos (by omega) (ev_bind h1 (ev_pos (by simp) (ev_suc ?_))))
    simp only [spec_ReadDeed.j0, List.length_map]
    refine ev_neg (by omega) (h3 _ (by simp) fun k a b e hx0 => ?_)
    obtain ⟨⟨⟨r1, r2⟩, _⟩, c⟩ := hcut e hx0
    rw [e] at c
    rcases c with ⟨_, _, c⟩ | ⟨rfl, rfl, _, c⟩ | ⟨rfl, rfl, _, c⟩ | ⟨rfl, rfl, rfl, _, c⟩ | ⟨rfl, rfl, rfl, _, c⟩ <;> rw [c] at hl2 h1 <;> simp at hl2
    · have : v1 = a := ev_uniq h1 (signed_ev r1 r2)
      subst this; simp
    · have : v1 = a := ev_uniq h1 (signed_ev r1 r2)
      subst this; simp
  refine ev_neg hl2 (ev_suc ?_)
  simp only [spec_ReadDeed.j0, List.length_map, rdOf_map]
  by_cases hl3 : ((cutA 32 [] x).length : Int) = 3
  · refine ev_pos hl3 (ev_pos (by omega) (ev_bind h1 (ev_pos (by omega) (ev_bind h2 (ev_pos (by simp) (h3 _ (by simp) fun k a b e hx0 => ?_))))))
    obtain ⟨⟨⟨r1, r2⟩, r3, r4⟩, c⟩ := hcut e hx0
    rw [e] at c
    rcases c with ⟨rfl, _, c⟩ | ⟨rfl, rfl, _, c⟩ | ⟨rfl, rfl, _, c⟩ | ⟨rfl, rfl, rfl, _, c⟩ | ⟨rfl, rfl, rfl, _, c⟩ <;> rw [c] at hl3 h1 h2 <;> simp at hl3
    have e1 : v1 = a := ev_uniq h1 (signed_ev r1 r2)
    have e2 : v2 = b := ev_uniq h2 (signed_ev r3 r4)
    subst e1; subst e2; simp
  · refine ev_neg hl3 (h3 _ (by simp) fun k a b e hx0 => ?_)
    obtain ⟨_, c⟩ := hcut e hx0
    rw [e] at c
    rcases c with ⟨rfl, _, c⟩ | ⟨rfl, rfl, _, c⟩ | ⟨rfl, rfl, _, c⟩ | ⟨rfl, rfl, rfl, _, c⟩ | ⟨rfl, rfl, rfl, _, c⟩ <;> rw [c] at hl2 hl3 <;> simp at hl2 hl3 ⊢
/-- The word's number among the five. -/
def kindOf (w : Tx) : Int := if w = putW then 0 else if w = stepW then 1 else if w = drawW then 2 else if w = againW then 3 else if w = backW then 4 else -1
theorem kind_ev (w : Tx) : Ev (fun k => slices_Index_string_string.f k [ba putW, ba stepW, ba drawW, ba againW, ba backW] (ba w)) (kindOf w) := by
  unfold slices_Index_string_string.f kindOf
  refine ev_suc ?_
  simp only [slices_Index_string_string.l0]
  refine ev_pos (by decide) (ev_pos (by decide) (ev_pos (by decide) ?_))
  simp only [rdOf, toList_ba, List.length_cons, List.length_nil, Int.toNat_zero, List.getD_cons_zero, w64 (n := 0 + 1) (by decide) (by decide)]
  split
  · exact Ev.now _
  refine ev_suc ?_
  simp only [slices_Index_string_string.l0]
  refine ev_pos (by decide) (ev_pos (by decide) (ev_pos (by decide) ?_))
  have t1 : (0 + 1 : Int).toNat = 1 := rfl
  simp only [rdOf, toList_ba, t1, List.getD_cons_zero, List.getD_cons_succ, w64 (n := 0 + 1 + 1) (by decide) (by decide)]
  split
  · exact Ev.now _
  refine ev_suc ?_
  simp only [slices_Index_string_string.l0]
  refine ev_pos (by decide) (ev_pos (by decide) (ev_pos (by decide) ?_))
  have t2 : (0 + 1 + 1 : Int).toNat = 2 := rfl
  simp only [rdOf, toList_ba, t2, List.getD_cons_zero, List.getD_cons_succ, w64 (n := 0 + 1 + 1 + 1) (by decide) (by decide)]
  split
  · exact Ev.now _
  refine ev_suc ?_
  simp only [slices_Index_string_string.l0]
  refine ev_pos (by decide) (ev_pos (by decide) (ev_pos (by decide) ?_))
  have t3 : (0 + 1 + 1 + 1 : Int).toNat = 3 := rfl
  simp only [rdOf, toList_ba, t3, List.getD_cons_zero, List.getD_cons_succ, w64 (n := 0 + 1 + 1 + 1 + 1) (by decide) (by decide)]
  split
  · exact Ev.now _
  refine ev_suc ?_
  simp only [slices_Index_string_string.l0]
  refine ev_pos (by decide) (ev_pos (by decide) (ev_pos (by decide) ?_))
  have t4 : (0 + 1 + 1 + 1 + 1 : Int).toNat = 4 := rfl
  simp only [rdOf, toList_ba, t4, List.getD_cons_zero, List.getD_cons_succ, w64 (n := 0 + 1 + 1 + 1 + 1 + 1) (by decide) (by decide)]
  split
  · exact Ev.now _
  refine ev_suc ?_
  simp only [slices_Index_string_string.l0]
  exact ev_neg (by decide) (Ev.now _)
theorem kindOf_lt (w : Tx) : kindOf w < 5 := by unfold kindOf; repeat' split <;> try omega
/-- The numbers that the library reads. -/
def numA (w : Tx) : Int := match Lib.atoiAll w with | .ok v => v | Lib.NumEnd.syntax => 0 | .range => Lib.atoiSat w
theorem atoi_ev (w : Tx) (h : w.length ≤ 1048576) : ∃ e, strconv_Atoi.f (ba w) = some (numA w, e) := by
  unfold strconv_Atoi.f numA
  rw [if_pos (by rw [ba_size]; omega)]
  simp only [ba_list]
  cases Lib.atoiAll w <;> exact ⟨_, rfl⟩
theorem numA_numT {n : Int} (h0 : -99 ≤ n) (h1 : n ≤ 99) : numA (numT n) = n := by unfold numA; rw [atoi_numT h0 h1]
theorem iread_end (x : Tx) (k a b : Int) (hd : ∀ k' a' b', deedT k' a' b' = x → x ≠ [] → (k, a, b) = (k', a', b')) (hx : x ≠ []) :
    (if (ba (deedT k a b)).toList = (ba x).toList then some (k, a, b, true) else some (0, 0, 0, false)) = some (readD x) := by
  simp only [toList_ba]
  split
  · rename_i h; rw [readD_of h hx]
  · rename_i h
    rw [readD_not fun k' a' b' h' => ?_]
    by_cases h0 : x = []
    · exact h0
    · have := hd k' a' b' h' h0
      simp only [Prod.mk.injEq] at this
      obtain ⟨rfl, rfl, rfl⟩ := this
      exact absurd h' h
theorem iread_ev (x : Tx) (hx : x.length ≤ 1048576) : Ev (fun k => impl_ReadDeed.f k (ba x)) (readD x) := by
  have hw := words_small x hx
  unfold impl_ReadDeed.f
  have hs := isplit_ev 32 x (by omega)
  have e32 : (⟨#[32]⟩ : ByteArray) = ba [32] := rfl
  simp only [e32, hs, Option.bind_some, List.length_map, rdOf_map]
  have hp := cutA_pos 32 x []
  have hcut : ∀ {k a b : Int}, deedT k a b = x → x ≠ [] → _ := fun {k a b} h h2 => deed_cases (k := k) (a := a) (b := b) (by rw [h]; exact h2)
  refine ev_pos (by omega) (ev_bind (kind_ev _) ?_)
  have t0 : (0 : Int).toNat = 0 := rfl
  rw [t0]
  by_cases hk : kindOf ((cutA 32 [] x).getD 0 []) < 0
  · refine ev_pos hk (ev_suc ?_)
    simp only [impl_ReadDeed.j0]
    refine ev_pos trivial ?_
    rw [readD_not fun k a b e => ?_]
    · exact Ev.now _
    by_cases h0 : x = []
    · exact h0
    obtain ⟨_, c⟩ := hcut e h0
    rw [e] at c
    exfalso
    rcases c with ⟨_, _, c⟩ | ⟨_, _, _, c⟩ | ⟨_, _, _, c⟩ | ⟨_, _, _, _, c⟩ | ⟨_, _, _, _, c⟩ <;> rw [c, List.getD_cons_zero] at hk <;> exact absurd hk (by decide)
  refine ev_neg hk ?_
  have hx0 : x ≠ [] := by rintro rfl; exact hk (by decide)
  by_cases h3 : ((cutA 32 [] x).length : Int) > 3
  · rw [decide_eq_true h3]
    refine ev_suc ?_
    simp only [impl_ReadDeed.j0]
    refine ev_pos trivial ?_
    rw [readD_not fun k a b e => ?_]
    · exact Ev.now _
    obtain ⟨_, c⟩ := hcut e hx0
    rw [e] at c
    exfalso
    rcases c with ⟨_, _, c⟩ | ⟨_, _, _, c⟩ | ⟨_, _, _, c⟩ | ⟨_, _, _, _, c⟩ | ⟨_, _, _, _, c⟩ <;> rw [c] at h3 <;> simp at h3
  rw [decide_eq_false h3]
  refine ev_suc ?_
  simp only [impl_ReadDeed.j0, Bool.false_eq_true, if_false, Option.bind_some, List.length_map, rdOf_map, List.length_cons, List.length_nil]
  have hk5 := kindOf_lt ((cutA 32 [] x).getD 0 [])
  have hrd : rd [0, 1, 2, 3, 4] (kindOf ((cutA 32 [] x).getD 0 [])) = kindOf ((cutA 32 [] x).getD 0 []) := by
    generalize kindOf ((cutA 32 [] x).getD 0 []) = n at hk hk5
    obtain ⟨m, rfl⟩ := Int.eq_ofNat_of_zero_le (Int.not_lt.1 hk)
    have : m = 0 ∨ m = 1 ∨ m = 2 ∨ m = 3 ∨ m = 4 := by omega
    rcases this with rfl | rfl | rfl | rfl | rfl <;> rfl
  refine ev_pos (by omega) (ev_pos (by simpa using hk5) ?_)
  rw [hrd]
  obtain ⟨e1, h1⟩ := atoi_ev _ (hw 1)
  obtain ⟨e2, h2⟩ := atoi_ev _ (hw 2)
  have t1 : (1 : Int).toNat = 1 := rfl
  have t2 : (2 : Int).toNat = 2 := rfl
  rw [t1, h1]
  by_cases hl1 : ((cutA 32 [] x).length : Int) > 1
  · refine ev_pos hl1 (ev_pos (by omega) ?_)
    simp only [Option.bind_some]
    refine ev_suc ?_
    simp only [impl_ReadDeed.j1, List.length_map, rdOf_map, t2, h2, Option.bind_some]
    by_cases hl2 : ((cutA 32 [] x).length : Int) > 2
    · refine ev_pos hl2 (ev_pos (by omega) (ev_bind (ideed_ev _ _ _) ?_))
      refine Ev.congr (fun _ => iread_end x _ _ _ (fun k a b e h0 => ?_) hx0) (Ev.now _)
      obtain ⟨⟨⟨r1, r2⟩, r3, r4⟩, c⟩ := hcut e h0
      rw [e] at c
      rcases c with ⟨rfl, _, c⟩ | ⟨_, _, _, c⟩ | ⟨_, _, _, c⟩ | ⟨_, _, _, _, c⟩ | ⟨_, _, _, _, c⟩ <;> rw [c] at hl2 ⊢ <;> simp at hl2
      simp [numA_numT r1 r2, numA_numT r3 r4, kindOf]
    · refine ev_neg hl2 (ev_bind (ideed_ev _ _ _) ?_)
      refine Ev.congr (fun _ => iread_end x _ _ _ (fun k a b e h0 => ?_) hx0) (Ev.now _)
      obtain ⟨⟨⟨r1, r2⟩, r3, r4⟩, c⟩ := hcut e h0
      rw [e] at c
      rcases c with ⟨rfl, _, c⟩ | ⟨rfl, rfl, _, c⟩ | ⟨rfl, rfl, _, c⟩ | ⟨_, _, _, _, c⟩ | ⟨_, _, _, _, c⟩ <;> rw [c] at hl1 hl2 ⊢ <;> simp at hl1 hl2
      · simp [numA_numT r1 r2, kindOf, putW, stepW]
      · simp [numA_numT r1 r2, kindOf, putW, stepW, drawW]
  · refine ev_neg hl1 (ev_suc ?_)
    simp only [impl_ReadDeed.j1, List.length_map]
    refine ev_neg (by omega) (ev_bind (ideed_ev _ _ _) ?_)
    refine Ev.congr (fun _ => iread_end x _ _ _ (fun k a b e h0 => ?_) hx0) (Ev.now _)
    obtain ⟨_, c⟩ := hcut e h0
    rw [e] at c
    rcases c with ⟨rfl, _, c⟩ | ⟨rfl, rfl, _, c⟩ | ⟨rfl, rfl, _, c⟩ | ⟨rfl, rfl, rfl, _, c⟩ | ⟨rfl, rfl, rfl, _, c⟩ <;> rw [c] at hl1 ⊢ <;> simp at hl1
    · simp [kindOf, putW, stepW, drawW, againW]
    · simp [kindOf, putW, stepW, drawW, againW, backW]
def mkD (d : Int × Int × Int) : S30 := ⟨d.1, d.2.1, d.2.2⟩
theorem sreadj_loop (x : Tx) (hx : x.length ≤ 1048576) : ∀ (suf acc pre : Tx) (ds : List (Int × Int × Int)), x = pre ++ (acc ++ suf) → ds.length ≤ pre.length →
    Ev (fun k => spec_ReadJournal.l0 k (ba x) (ds.map mkD) (pre.length : Int) ((pre ++ acc).length : Int)) ((rjL (cutA 10 acc suf) ds pre.length).1.map mkD, ((rjL (cutA 10 acc suf) ds pre.length).2 : Int)) := by
  intro suf
  induction suf with
  | nil =>
    intro acc pre ds h hd
    have e : x.length = pre.length + acc.length := by rw [h]; simp
    have ha : (pre ++ acc).length = pre.length + acc.length := List.length_append
    refine ev_suc ?_
    simp only [spec_ReadJournal.l0]
    refine ev_neg (by rw [ba_size]; omega) ?_
    simp only [cutA, rjL]
    exact Ev.now _
  | cons b t ih =>
    intro acc pre ds h hd
    have e : x.length = pre.length + (acc.length + (t.length + 1)) := by rw [h]; simp
    have ha : (pre ++ acc).length = pre.length + acc.length := List.length_append
    have hb : bt (ba x) ((pre ++ acc).length : Int) = (b.toNat : Int) := by rw [h, ← List.append_assoc]; exact bt_ba _ _ _
    refine ev_suc ?_
    simp only [spec_ReadJournal.l0]
    refine ev_pos (by rw [ba_size]; omega) (ev_pos (by omega) ?_)
    rw [hb]
    by_cases hc : b = 10
    · subst hc
      refine ev_pos rfl (ev_pos (by omega) (ev_pos (by omega) (ev_pos (by rw [ba_size]; omega) ?_)))
      rw [ba_extract]
      have e2 : (x.drop (pre.length : Int).toNat).take (((pre ++ acc).length : Int).toNat - (pre.length : Int).toNat) = acc := by
        rw [Int.toNat_natCast, Int.toNat_natCast, ha, Nat.add_sub_cancel_left, h, List.drop_left, List.take_left]
      rw [e2]
      refine ev_bind (sread_ev acc (by omega)) ?_
      rw [cutA, if_pos rfl, rjL_cut]
      by_cases ho : (readD acc).2.2.2 = true
      · refine ev_pos ho (ev_pos (by rw [List.length_map]; omega) ?_)
        rw [w64 (by omega) (by omega), if_pos ho]
        have := ih [] (pre ++ acc ++ [10]) (ds ++ [((readD acc).1, (readD acc).2.1, (readD acc).2.2.1)]) (h.trans (by simp [List.append_assoc])) (by simp; omega)
        have e3 : (((pre ++ acc).length : Int) + 1) = ((pre ++ acc ++ [10]).length : Int) := len_at _ _
        have e4 : (pre ++ acc ++ [10]).length = pre.length + acc.length + 1 := by simp; omega
        rw [e3]
        rw [List.append_nil, e4] at this
        simp only [List.map_append, List.map_cons, List.map_nil, mkD] at this
        rw [e4]
        exact this
      · refine ev_neg ho ?_
        rw [if_neg ho]
        exact Ev.now _
    · have h10 : (10 : UInt8).toNat = 10 := rfl
      refine ev_neg (fun e => hc (UInt8.toNat_inj.1 (by omega))) ?_
      rw [w64 (by omega) (by omega)]
      have := ih (acc ++ [b]) pre ds (by rw [h]; simp) hd
      have e3 : (((pre ++ acc).length : Int) + 1) = ((pre ++ (acc ++ [b])).length : Int) := by rw [← List.append_assoc]; exact len_at _ _
      rw [e3, cutA, if_neg hc]
      exact this
theorem sreadj_ev (x : Tx) (hx : x.length ≤ 1048576) : Ev (fun k => spec_ReadJournal.f k (ba x)) ((readJ x).1.map mkD, ((readJ x).2 : Int)) := by
  unfold spec_ReadJournal.f readJ
  exact sreadj_loop x hx x [] [] [] rfl (Nat.le_refl _)
theorem cut_one (s : Tx) : (Lib.cut s [10] = (s, [], false) ∧ (10 : UInt8) ∉ s) ∨ ∃ l r, s = l ++ 10 :: r ∧ (10 : UInt8) ∉ l ∧ Lib.cut s [10] = (l, r, true) := by
  rcases index_one 10 s with ⟨h1, h2⟩ | ⟨l, r, rfl, h2, h3⟩
  · exact Or.inl ⟨by simp [Lib.cut, h1], h2⟩
  · refine Or.inr ⟨l, r, rfl, h2, ?_⟩
    have : ¬ ((l.length : Int) = -1) := by omega
    simp [Lib.cut, h3, this]
theorem ireadj_loop (x : Tx) (hx : x.length ≤ 1048576) : ∀ (n : Nat) (s pre : Tx) (ds : List (Int × Int × Int)), s.length ≤ n → x = pre ++ s → ds.length ≤ pre.length →
    Ev (fun k => impl_ReadJournal.l0 k (ba x) (ds.map mkD) (pre.length : Int)) ((rjL (cutA 10 [] s) ds pre.length).1.map mkD, ((rjL (cutA 10 [] s) ds pre.length).2 : Int)) := by
  intro n
  induction n with
  | zero =>
    intro s pre ds hs h hd
    obtain rfl := List.eq_nil_of_length_eq_zero (Nat.le_zero.1 hs)
    have e : x.length = pre.length := by rw [h]; simp
    refine ev_suc ?_
    simp only [impl_ReadJournal.l0]
    refine ev_pos (by omega) (ev_pos (by rw [ba_size]; omega) ?_)
    have e2 : (ba x).extract (pre.length : Int).toNat (ba x).size = ba [] := by rw [ba_extract]; congr 1; rw [h]; simp
    simp only [e2, strings_Cut.f]
    refine ev_bind (Ev.now _) ?_
    refine ev_bind (iread_ev [] (by simp)) ?_
    refine ev_neg (by decide) ?_
    simp only [cutA, rjL]
    exact Ev.now _
  | succ n ih =>
    intro s pre ds hs h hd
    have e : x.length = pre.length + s.length := by rw [h]; simp
    refine ev_suc ?_
    simp only [impl_ReadJournal.l0]
    refine ev_pos (by omega) (ev_pos (by rw [ba_size]; omega) ?_)
    have e2 : (ba x).extract (pre.length : Int).toNat (ba x).size = ba s := by rw [ba_extract]; congr 1; rw [h, ba_size]; simp
    have e3 : (⟨#[10]⟩ : ByteArray) = ba [10] := rfl
    simp only [e2, e3, strings_Cut.f]
    simp only [ba_size, ba_list]
    rw [if_pos (by omega)]
    simp only [Option.bind_some]
    rcases cut_one s with ⟨h1, h2⟩ | ⟨l, r, rfl, h2, h3⟩
    · rw [h1]
      refine ev_bind (iread_ev s (by omega)) (ev_neg (by simp) ?_)
      rw [cutA_none s [] h2]
      simp only [rjL]
      exact Ev.now _
    · rw [h3]
      have el : (l ++ 10 :: r).length = l.length + (r.length + 1) := by simp
      refine ev_bind (iread_ev l (by omega)) (ev_pos rfl ?_)
      rw [cutA_hit l [] r h2, List.nil_append, rjL_cut]
      by_cases ho : (readD l).2.2.2 = true
      · refine ev_pos ho (ev_pos (by rw [List.length_map]; omega) ?_)
        rw [if_pos ho]
        have e4 : (⟨l.toArray⟩ : ByteArray).size = l.length := ba_size l
        rw [e4, w64 (n := (l.length : Int) + 1) (by omega) (by omega), w64 (by omega) (by omega)]
        have := ih r (pre ++ l ++ [10]) (ds ++ [((readD l).1, (readD l).2.1, (readD l).2.2.1)]) (by omega) (by rw [h]; simp) (by simp; omega)
        have e5 : (pre ++ l ++ [10]).length = pre.length + l.length + 1 := by simp; omega
        rw [e5] at this
        simp only [List.map_append, List.map_cons, List.map_nil, mkD] at this
        have e6 : (pre.length : Int) + ((l.length : Int) + 1) = ((pre.length + l.length + 1 : Nat) : Int) := by omega
        rw [e6]
        exact this
      · refine ev_neg ho ?_
        rw [if_neg ho]
        exact Ev.now _
theorem ireadj_ev (x : Tx) (hx : x.length ≤ 1048576) : Ev (fun k => impl_ReadJournal.f k (ba x)) ((readJ x).1.map mkD, ((readJ x).2 : Int)) := by
  unfold impl_ReadJournal.f readJ
  exact ireadj_loop x hx _ x [] [] (Nat.le_refl _) rfl (Nat.le_refl _)
theorem rjL_len : ∀ (ps : List Tx) (ds : List (Int × Int × Int)) (n : Nat), (rjL ps ds n).1.length ≤ ds.length + ps.length
  | p :: q :: t, ds, n => by
    rw [rjL]
    split
    · have := rjL_len (q :: t) (ds ++ [((readD p).1, (readD p).2.1, (readD p).2.2.1)]) (n + p.length + 1)
      simp at this ⊢; omega
    · simp
  | [_], ds, n => by simp [rjL]
  | [], ds, n => by simp [rjL]
theorem readJ_len (x : Tx) : (readJ x).1.length ≤ x.length + 1 := by
  have h1 := rjL_len (cutA 10 [] x) [] 0
  have h2 := cutA_len 10 x []
  unfold readJ
  simp at h1; omega
def mkAt (i : Nat) : S30 := ⟨3 * (i : Int) + 1, 3 * (i : Int) + 2, 3 * (i : Int) + 3⟩
def marks (n : Nat) : List S30 := (List.range n).map mkAt
theorem rdD_at (p : List S30) (y : S30) (t : List S30) : rd_T30 (p ++ y :: t) (p.length : Int) = y := by simp [rd_T30]
theorem setD_at (p : List S30) (y z : S30) (t : List S30) : (p ++ y :: t).set (p.length : Int).toNat z = p ++ z :: t := by simp
theorem mark_loop (l : List S30) (hl : l.length ≤ 1048577) : ∀ (suf : List S30) (n : Nat), l.length = n + suf.length →
    Ev (fun k => laws_markDeedS.l0 k (marks n ++ suf) (3 * (n : Int) + 1) (n : Int)) (3 * (l.length : Int) + 1, marks l.length) := by
  intro suf
  induction suf with
  | nil =>
    intro n h
    simp at h
    refine ev_suc ?_
    simp only [laws_markDeedS.l0]
    refine ev_neg (by simp [marks]) ?_
    rw [h, List.append_nil]
    exact Ev.now _
  | cons y t ih =>
    intro n h
    simp at h
    have hm : (marks n).length = n := by simp [marks]
    refine ev_suc ?_
    simp only [laws_markDeedS.l0, Option.bind_some]
    refine ev_pos (by simp [marks]; omega) (ev_pos (by omega) ?_)
    have h1 : ∀ y, rd_T30 (marks n ++ y :: t) (n : Int) = y := fun y => by have := rdD_at (marks n) y t; rwa [hm] at this
    have h2 : ∀ y z, (marks n ++ y :: t).set (n : Int).toNat z = marks n ++ z :: t := fun y z => by have := setD_at (marks n) y z t; rwa [hm] at this
    simp only [h1, h2]
    rw [w64 (n := 3 * (n : Int) + 1 + 1) (by omega) (by omega), w64 (n := 3 * (n : Int) + 1 + 1 + 1) (by omega) (by omega), w64 (n := 3 * (n : Int) + 1 + 1 + 1 + 1) (by omega) (by omega), w64 (n := (n : Int) + 1) (by omega) (by omega)]
    have := ih (n + 1) (by omega)
    have e1 : marks (n + 1) = marks n ++ [mkAt n] := by simp [marks, List.range_succ]
    have e2 : (((n + 1 : Nat) : Int)) = (n : Int) + 1 := by omega
    rw [e1, e2, show 3 * ((n : Int) + 1) + 1 = 3 * (n : Int) + 1 + 1 + 1 + 1 from by omega] at this
    rw [show 3 * (n : Int) + 1 + 1 = 3 * (n : Int) + 2 from by omega, show 3 * (n : Int) + 2 + 1 = 3 * (n : Int) + 3 from by omega]
    rw [show 3 * (n : Int) + 1 + 1 + 1 + 1 = 3 * (n : Int) + 3 + 1 from by omega] at this
    simpa [mkAt] using this
theorem mark_ev (l : List S30) (hl : l.length ≤ 1048577) : Ev (fun k => laws_markDeedS.f k l 1) (3 * (l.length : Int) + 1, marks l.length) := by
  unfold laws_markDeedS.f
  have := mark_loop l hl l 0 (by simp)
  simpa [marks] using this
theorem held_loop (m : Nat) (hl : m ≤ 1048577) : ∀ (j n : Nat), m = n + j → Ev (fun k => laws_heldDeedS.l0 k (marks m) (3 * (n : Int) + 1) (n : Int)) (3 * (m : Int) + 1) := by
  intro j
  induction j with
  | zero =>
    intro n h
    refine ev_suc ?_
    simp only [laws_heldDeedS.l0]
    refine ev_neg (by simp [marks]; omega) ?_
    rw [show n = m from by omega]
    exact Ev.now _
  | succ j ih =>
    intro n h
    have hr : rd_T30 (marks m) (n : Int) = mkAt n := by
      unfold rd_T30 marks
      rw [List.getD_eq_getElem?_getD, List.getElem?_map, Int.toNat_natCast, List.getElem?_range (by omega)]
      rfl
    refine ev_suc ?_
    simp only [laws_heldDeedS.l0, hr, mkAt]
    rw [w64 (n := 3 * (n : Int) + 1 + 1) (by omega) (by omega), w64 (n := 3 * (n : Int) + 1 + 1 + 1) (by omega) (by omega), w64 (n := 3 * (n : Int) + 1 + 1 + 1 + 1) (by omega) (by omega), w64 (n := (n : Int) + 1) (by omega) (by omega)]
    refine ev_pos (by simp [marks]; omega) (ev_pos (by omega) (ev_pos trivial (ev_pos (by omega) (ev_pos (by omega) ?_))))
    have := ih (n + 1) (by omega)
    rw [show (((n + 1 : Nat) : Int)) = (n : Int) + 1 from by omega, show 3 * ((n : Int) + 1) + 1 = 3 * (n : Int) + 1 + 1 + 1 + 1 from by omega] at this
    exact this
theorem held_ev (m : Nat) (hl : m ≤ 1048577) : Ev (fun k => laws_heldDeedS.f k (marks m) 1) (3 * (m : Int) + 1) := by
  unfold laws_heldDeedS.f
  have := held_loop m hl m 0 (by omega)
  simpa using this
theorem eqDeeds_loop (l : List S30) (hl : l.length ≤ 1048577) : ∀ (suf pre : List S30), l = pre ++ suf → Ev (fun k => laws_eqDeedS.l0 k l l (pre.length : Int)) true := by
  intro suf
  induction suf with
  | nil =>
    intro pre h
    rw [List.append_nil] at h
    subst h
    refine ev_suc ?_
    simp only [laws_eqDeedS.l0]
    exact ev_neg (by omega) (Ev.now _)
  | cons x t ih =>
    intro pre h
    have e : l.length = pre.length + (t.length + 1) := by rw [h]; simp
    refine ev_suc ?_
    simp only [laws_eqDeedS.l0, laws_eqDeed.f, if_true, Option.bind_some]
    refine ev_pos (by omega) (ev_pos (by omega) (ev_pos (by omega) ?_))
    rw [w64 (by omega) (by omega), len_at pre x]
    exact ih (pre ++ [x]) (by rw [h]; simp)
theorem eqDeeds_ev (l : List S30) (hl : l.length ≤ 1048577) : Ev (fun k => laws_eqDeedS.f k l l) true := by
  unfold laws_eqDeedS.f
  exact ev_pos rfl (eqDeeds_loop l hl l [] rfl)

end FnExactReadJournal_parts
open FnExactReadJournal_parts
theorem FnExactReadJournal : laws_FnExactReadJournal.Pure := by
  intro y _
  obtain ⟨x, rfl⟩ := ba_get y
  refine Ev.rounds ?_
  unfold laws_FnExactReadJournal.f
  by_cases h : ((ba x).size : Int) > 1048576
  · exact ev_pos h (Ev.now _)
  refine ev_neg h ?_
  rw [ba_size] at h
  have hl : ((readJ x).1.map mkD).length ≤ 1048577 := by have := readJ_len x; rw [List.length_map]; omega
  have hE := eqDeeds_ev ((readJ x).1.map mkD) hl
  refine ev_bind (sreadj_ev x (by omega)) (ev_bind (ireadj_ev x (by omega)) (ev_bind hE (ev_pos rfl (ev_suc ?_))))
  simp only [laws_FnExactReadJournal.j0, bne_self_eq_false, Bool.false_eq_true, if_false]
  refine ev_bind (mark_ev _ hl) (ev_bind (held_ev _ hl) (ev_neg (by omega) (ev_pos rfl (ev_bind (ireadj_ev x (by omega)) (ev_bind hE (ev_pos rfl (ev_suc ?_)))))))
  simp only [laws_FnExactReadJournal.j1, bne_self_eq_false, Bool.false_eq_true, if_false]
  exact ev_bind (held_ev _ hl) (ev_neg (by omega) (ev_pos rfl (Ev.now _)))
end Go.Proofs.YtlhiienanbpdlaaDoor.Pure
