/- For the law FnExactDeskNew: every place has the same new desk by the program as by the reference; the place is left as it was, and the desk is of its own. The conditions: the bytes or numbers that come in are of their kinds, as the statement says. -/
import Derived.Test.YtncgleffkbegjaaMFnExactDeskNewx9
import Derived.Test.YtncgleffkbegjaaBase
import Derived.Test.YtncgleffkbegjaaMath
namespace Go.Proofs.Ytncgleffkbegjaa.Pure
open Go.RowKit Go.Proofs.Ytncgleffkbegjaa.MFnExactDeskNew Go.Proofs.YtncgleffkbegjaaW.PrintWords Go.Proofs.YtncgleffkbegjaaW.PrintLast Go.Proofs.Ytncgleffkbegjaa.Base
namespace FnExactDeskNew_parts
theorem toInts_loop (l : List Int) (hl : l.length ≤ 1048576) : ∀ (suf pre : List Int), l = pre ++ suf → ∀ rest : List Int, rest.length = suf.length →
    Ev (fun k => laws_toIntS.l0 k l (pre ++ rest) (pre.length : Int)) l := by
  intro suf
  induction suf with
  | nil =>
    intro pre h rest hr
    obtain rfl := List.eq_nil_of_length_eq_zero hr
    rw [List.append_nil] at h
    subst h
    refine ev_suc ?_
    simp only [laws_toIntS.l0]
    exact ev_neg (by omega) (ev_eq (Ev.now _) (by simp))
  | cons x t ih =>
    intro pre h rest hr
    obtain ⟨y, rest, rfl⟩ : ∃ y r, rest = y :: r := by cases rest with | nil => simp at hr | cons y r => exact ⟨y, r, rfl⟩
    have e : l.length = pre.length + (t.length + 1) := by rw [h]; simp
    have hx : rd l (pre.length : Int) = x := by rw [h]; exact rd_at _ _ _
    refine ev_suc ?_
    simp only [laws_toIntS.l0, hx]
    refine ev_pos (by omega) (ev_pos (by omega) (ev_pos (by simp; omega) ?_))
    rw [w64 (by omega) (by omega), len_at pre x, Int.toNat_natCast, set_at]
    have := ih (pre ++ [x]) (by rw [h]; simp) rest (by simpa using hr)
    simpa using this
theorem toInts_ev (l : List Int) (hl : l.length ≤ 1048576) : Ev (fun k => laws_toIntS.f k l) l := by
  unfold laws_toIntS.f
  refine ev_pos (by omega) (ev_pos (by simp; omega) ?_)
  have := toInts_loop l hl l [] rfl (List.replicate (l.length : Int).toNat 0) (by simp)
  simpa using this
theorem toPlace_ev (u : List Int) (s : Int) (w : List Int) (hu : u.length ≤ 1048576) (hw : w.length ≤ 1048576) : Ev (fun k => laws_toPlace.f k u s w) (u, s, w) := by
  unfold laws_toPlace.f
  exact ev_bind (toInts_ev u hu) (ev_bind (toInts_ev w hw) (Ev.now _))
theorem szInts_eq (u : List Int) (n : Int) (hu : u.length ≤ maxLen) (hn : 0 ≤ n ∧ n ≤ 1048576) : laws_szIntS.f u n = some (if n - (u.length : Int) < 0 then -1 else n - (u.length : Int)) := by
  unfold maxLen at hu
  unfold laws_szIntS.f
  rw [w64 (by omega) (by omega)]
  split <;> rfl
/-- What the count of a place leaves: less than nothing, or its lists are short. -/
theorem szPlace_eq (u : List Int) (s : Int) (w : List Int) (n : Int) (hu : u.length ≤ maxLen) (hw : w.length ≤ maxLen) (hn : 0 ≤ n ∧ n ≤ 1048576) :
    ∃ r, laws_szPlace.f u s w n = some r ∧ (r < 0 ∨ (0 ≤ r ∧ r ≤ 1048576 ∧ u.length ≤ 1048576 ∧ w.length ≤ 1048576)) := by
  unfold laws_szPlace.f
  rw [szInts_eq u n hu hn]
  simp only [Option.bind_some]
  by_cases h : n - (u.length : Int) < 0
  · rw [if_pos h]; exact ⟨-1, rfl, Or.inl (by omega)⟩
  rw [if_neg h, if_neg h, szInts_eq w _ hw (by omega)]
  simp only [Option.bind_some]
  by_cases h2 : n - (u.length : Int) - (w.length : Int) < 0
  · rw [if_pos h2]; exact ⟨-1, rfl, Or.inl (by omega)⟩
  · rw [if_neg h2, if_neg h2]; exact ⟨_, rfl, Or.inr (by omega)⟩
theorem eqInts_loop (l : List Int) (hl : l.length ≤ 1048576) : ∀ (suf pre : List Int), l = pre ++ suf → Ev (fun k => laws_eqIntS.l0 k l l (pre.length : Int)) true := by
  intro suf
  induction suf with
  | nil =>
    intro pre h
    rw [List.append_nil] at h
    subst h
    refine ev_suc ?_
    simp only [laws_eqIntS.l0]
    exact ev_neg (by omega) (Ev.now _)
  | cons x t ih =>
    intro pre h
    have e : l.length = pre.length + (t.length + 1) := by rw [h]; simp
    refine ev_suc ?_
    simp only [laws_eqIntS.l0]
    refine ev_pos (by omega) (ev_pos (by omega) (ev_pos (by omega) (ev_pos trivial ?_)))
    rw [w64 (by omega) (by omega), len_at pre x]
    exact ih (pre ++ [x]) (by rw [h]; simp)
theorem eqInts_ev (l : List Int) (hl : l.length ≤ 1048576) : Ev (fun k => laws_eqIntS.f k l l) true := by
  unfold laws_eqIntS.f
  exact ev_pos rfl (eqInts_loop l hl l [] rfl)
theorem eqPlace_ev (u : List Int) (s : Int) (w : List Int) (hu : u.length ≤ 1048576) (hw : w.length ≤ 1048576) : Ev (fun k => laws_eqPlace.f k u s w u s w) true := by
  unfold laws_eqPlace.f
  exact ev_bind (eqInts_ev u hu) (ev_pos rfl (ev_pos rfl (ev_bind (eqInts_ev w hw) (ev_pos rfl (Ev.now _)))))
def iota (a : Int) (n : Nat) : List Int := (List.range n).map fun i : Nat => a + (i : Int)
theorem markI_loop (a : Int) (ha : 0 ≤ a ∧ a ≤ 1000000000) (l : List Int) (hl : l.length ≤ 1048577) : ∀ (suf : List Int) (n : Nat), l.length = n + suf.length →
    Ev (fun k => laws_markIntS.l0 k (iota a n ++ suf) (a + (n : Int)) (n : Int)) (a + (l.length : Int), iota a l.length) := by
  intro suf
  induction suf with
  | nil =>
    intro n h
    simp at h
    refine ev_suc ?_
    simp only [laws_markIntS.l0]
    refine ev_neg (by simp [iota]) ?_
    rw [h, List.append_nil]
    exact Ev.now _
  | cons y t ih =>
    intro n h
    simp at h
    have hm : (iota a n).length = n := by simp [iota]
    refine ev_suc ?_
    simp only [laws_markIntS.l0]
    refine ev_pos (by simp [iota]; omega) (ev_pos (by omega) ?_)
    have h2 : (iota a n ++ y :: t).set (n : Int).toNat (a + (n : Int)) = iota a n ++ (a + (n : Int)) :: t := by have := set_at (iota a n) y (a + (n : Int)) t; rw [hm] at this; simpa using this
    rw [h2, w64 (n := a + (n : Int) + 1) (by omega) (by omega), w64 (n := (n : Int) + 1) (by omega) (by omega)]
    have := ih (n + 1) (by omega)
    have e1 : iota a (n + 1) = iota a n ++ [a + (n : Int)] := by simp [iota, List.range_succ]
    rw [e1, show (((n + 1 : Nat) : Int)) = (n : Int) + 1 from by omega, show a + ((n : Int) + 1) = a + (n : Int) + 1 from by omega] at this
    simpa using this
theorem markI_ev (a : Int) (ha : 0 ≤ a ∧ a ≤ 1000000000) (l : List Int) (hl : l.length ≤ 1048577) : Ev (fun k => laws_markIntS.f k l a) (a + (l.length : Int), iota a l.length) := by
  unfold laws_markIntS.f
  have := markI_loop a ha l hl l 0 (by simp)
  simpa [iota] using this
theorem heldI_loop (a : Int) (ha : 0 ≤ a ∧ a ≤ 1000000000) (m : Nat) (hl : m ≤ 1048577) : ∀ (j n : Nat), m = n + j → Ev (fun k => laws_heldIntS.l0 k (iota a m) (a + (n : Int)) (n : Int)) (a + (m : Int)) := by
  intro j
  induction j with
  | zero =>
    intro n h
    refine ev_suc ?_
    simp only [laws_heldIntS.l0]
    refine ev_neg (by simp [iota]; omega) ?_
    rw [show n = m from by omega]
    exact Ev.now _
  | succ j ih =>
    intro n h
    have hr : rd (iota a m) (n : Int) = a + (n : Int) := by
      unfold rd iota
      rw [List.getD_eq_getElem?_getD, List.getElem?_map, Int.toNat_natCast, List.getElem?_range (by omega)]
      rfl
    refine ev_suc ?_
    simp only [laws_heldIntS.l0, hr]
    rw [w64 (n := a + (n : Int) + 1) (by omega) (by omega), w64 (n := (n : Int) + 1) (by omega) (by omega)]
    refine ev_pos (by simp [iota]; omega) (ev_pos (by omega) (ev_pos trivial ?_))
    have := ih (n + 1) (by omega)
    rw [show (((n + 1 : Nat) : Int)) = (n : Int) + 1 from by omega, show a + ((n : Int) + 1) = a + (n : Int) + 1 from by omega] at this
    exact this
theorem heldI_ev (a : Int) (ha : 0 ≤ a ∧ a ≤ 1000000000) (m : Nat) (hl : m ≤ 1048577) : Ev (fun k => laws_heldIntS.f k (iota a m) a) (a + (m : Int)) := by
  unfold laws_heldIntS.f
  have := heldI_loop a ha m hl m 0 (by omega)
  simpa using this
theorem markP_ev (u : List Int) (s : Int) (w : List Int) (hu : u.length ≤ 1048576) (hw : w.length ≤ 1048576) : Ev (fun k => laws_markPlace.f k u s w 1) (1 + (u.length : Int) + (w.length : Int), iota 1 u.length, iota (1 + (u.length : Int)) w.length) := by
  unfold laws_markPlace.f
  exact ev_bind (markI_ev 1 (by omega) u (by omega)) (ev_bind (markI_ev _ (by omega) w (by omega)) (Ev.now _))
theorem heldP_ev (m : Nat) (s : Int) (n : Nat) (hu : m ≤ 1048576) (hw : n ≤ 1048576) : Ev (fun k => laws_heldPlace.f k (iota 1 m) s (iota (1 + (m : Int)) n) 1) (1 + (m : Int) + (n : Int)) := by
  unfold laws_heldPlace.f
  exact ev_bind (heldI_ev 1 (by omega) m (by omega)) (ev_neg (by omega) (ev_bind (heldI_ev _ (by omega) n (by omega)) (ev_neg (by omega) (Ev.now _))))
theorem colours_ev (n : Int) : impl_coloursOk.f n = some (decide (1 ≤ n) && decide (n ≤ 3)) := by
  unfold impl_coloursOk.f
  by_cases h : n ≥ 1
  · rw [if_pos h]; simp; omega
  · rw [if_neg h]; simp; omega
theorem urnB_no {u : List Int} {x : Int} (hx : x ∈ u) (h : ¬ (0 ≤ x ∧ x ≤ 40)) : urnB u = false := by
  cases e : urnB u with
  | false => rfl
  | true => exact absurd (((urnB_iff u).1 e).1 x hx) h
theorem implUrn_loop (l : List Int) (hl : (l.length : Int) ≤ 1000000000000) : ∀ (suf pre : List Int), l = pre ++ suf → (∀ x ∈ pre, 0 ≤ x ∧ x ≤ 40) →
    Ev (fun k => impl_UrnOk.l0 k l l (l.length : Int) (pre.length : Int)) (urnB l) := by
  intro suf
  induction suf with
  | nil =>
    intro pre h hr
    have e : l.length = pre.length := by rw [h]; simp
    refine ev_suc ?_
    simp (disch := omega) only [impl_UrnOk.l0, if_neg, colours_ev]
    refine ev_now ?_
    rw [List.append_nil] at h
    subst h
    rw [Bool.eq_iff_iff, urnB_iff]
    simp only [Bool.and_eq_true, decide_eq_true_eq]
    exact ⟨fun h => ⟨hr, by omega, by omega⟩, fun h => ⟨by omega, by omega⟩⟩
  | cons x t ih =>
    intro pre h hr
    have e : l.length = pre.length + (t.length + 1) := by rw [h]; simp
    have hx : rd l (pre.length : Int) = x := by rw [h]; exact rd_at _ _ _
    have hxl : x ∈ l := by rw [h]; simp
    refine ev_suc ?_
    simp (disch := omega) only [impl_UrnOk.l0, hx, if_pos]
    by_cases h1 : x < 0
    · exact ev_pos h1 (ev_now (urnB_no hxl (by omega)).symm)
    · refine ev_neg h1 ?_
      by_cases h2 : x > 40
      · exact ev_pos h2 (ev_now (urnB_no hxl (by omega)).symm)
      · refine ev_neg h2 ?_
        rw [w64 (by omega) (by omega), len_at pre x]
        refine ih (pre ++ [x]) (by rw [h]; simp) ?_
        intro y hy
        rcases List.mem_append.1 hy with hy | hy
        · exact hr y hy
        · rw [List.mem_singleton] at hy; subst hy; omega
theorem implUrnOk_ev (l : List Int) (hl : (l.length : Int) ≤ 1000000000000) : Ev (fun k => impl_UrnOk.f k l) (urnB l) := by
  simp only [impl_UrnOk.f]
  exact implUrn_loop l hl l [] rfl (by simp)
theorem implStart_loop (l : List Int) (hl : (l.length : Int) ≤ 1000000000000) : ∀ (suf pre : List Int), l = pre ++ suf → (∀ x ∈ pre, x ≤ 10) →
    Ev (fun k => impl_StartOk.l0 k l l (l.length : Int) (pre.length : Int)) (startB l) := by
  intro suf
  induction suf with
  | nil =>
    intro pre h hr
    have e : l.length = pre.length := by rw [h]; simp
    refine ev_suc ?_
    simp (disch := omega) only [impl_StartOk.l0, if_neg]
    refine ev_bind (implUrnOk_ev l hl) (ev_now ?_)
    rw [List.append_nil] at h
    subst h
    have : (l.all fun x => decide (x ≤ 10)) = true := by simpa using hr
    simp [startB, this]
  | cons x t ih =>
    intro pre h hr
    have e : l.length = pre.length + (t.length + 1) := by rw [h]; simp
    have hx : rd l (pre.length : Int) = x := by rw [h]; exact rd_at _ _ _
    have hxl : x ∈ l := by rw [h]; simp
    refine ev_suc ?_
    simp (disch := omega) only [impl_StartOk.l0, hx, if_pos]
    by_cases h1 : x > 10
    · refine ev_pos h1 (ev_now ?_)
      cases e : startB l with
      | false => rfl
      | true => have := ((startB_iff l).1 e).1 x hxl; omega
    · refine ev_neg h1 ?_
      rw [w64 (by omega) (by omega), len_at pre x]
      refine ih (pre ++ [x]) (by rw [h]; simp) ?_
      intro y hy
      rcases List.mem_append.1 hy with hy | hy
      · exact hr y hy
      · rw [List.mem_singleton] at hy; subst hy; omega
theorem implStartOk_ev (l : List Int) (hl : (l.length : Int) ≤ 1000000000000) : Ev (fun k => impl_StartOk.f k l) (startB l) := by
  simp only [impl_StartOk.f]
  exact implStart_loop l hl l [] rfl (by simp)
theorem wordB_no {n : Int} {w : List Int} {x : Int} (hx : x ∈ w) (h : ¬ (0 ≤ x ∧ x < n)) : wordB n w = false := by
  cases e : wordB n w with
  | false => rfl
  | true => exact absurd (((wordB_iff n w).1 e).1 x hx) h
theorem implWord_loop (n : Int) (l : List Int) (hl : (l.length : Int) ≤ 1000000000000) : ∀ (suf pre : List Int), l = pre ++ suf → (∀ x ∈ pre, 0 ≤ x ∧ x < n) →
    Ev (fun k => impl_WordOk.l0 k n l l (l.length : Int) (pre.length : Int)) (wordB n l) := by
  intro suf
  induction suf with
  | nil =>
    intro pre h hr
    have e : l.length = pre.length := by rw [h]; simp
    refine ev_suc ?_
    simp (disch := omega) only [impl_WordOk.l0, if_neg, colours_ev, Option.bind_some]
    rw [List.append_nil] at h
    subst h
    by_cases hn : 1 ≤ n ∧ n ≤ 3
    · refine ev_pos (by simp [hn]) (ev_now ?_)
      rw [Bool.eq_iff_iff, wordB_iff]
      simp only [decide_eq_true_eq]
      exact ⟨fun h => ⟨hr, by omega, hn⟩, fun h => by omega⟩
    · refine ev_neg (by simp only [Bool.and_eq_true, decide_eq_true_eq]; exact hn) (ev_now ?_)
      cases e : wordB n l with
      | false => rfl
      | true => exact absurd ((wordB_iff n l).1 e).2.2 hn
  | cons x t ih =>
    intro pre h hr
    have e : l.length = pre.length + (t.length + 1) := by rw [h]; simp
    have hx : rd l (pre.length : Int) = x := by rw [h]; exact rd_at _ _ _
    have hxl : x ∈ l := by rw [h]; simp
    refine ev_suc ?_
    simp (disch := omega) only [impl_WordOk.l0, hx, if_pos]
    by_cases h1 : x < 0
    · exact ev_pos h1 (ev_now (wordB_no hxl (by omega)).symm)
    · refine ev_neg h1 ?_
      by_cases h2 : x ≥ n
      · exact ev_pos h2 (ev_now (wordB_no hxl (by omega)).symm)
      · refine ev_neg h2 ?_
        rw [w64 (by omega) (by omega), len_at pre x]
        refine ih (pre ++ [x]) (by rw [h]; simp) ?_
        intro y hy
        rcases List.mem_append.1 hy with hy | hy
        · exact hr y hy
        · rw [List.mem_singleton] at hy; subst hy; omega
theorem implWordOk_ev (n : Int) (l : List Int) (hl : (l.length : Int) ≤ 1000000000000) : Ev (fun k => impl_WordOk.f k n l) (wordB n l) := by
  simp only [impl_WordOk.f]
  exact implWord_loop n l hl l [] rfl (by simp)
theorem clone_eq (l : List Int) (hl : (l.length : Int) ≤ 1000000000000) : slices_Clone_int_int.f l = some l := by
  unfold slices_Clone_int_int.f
  rw [if_pos (by omega)]
theorem added_loop (b : List Int) (hb : (b.length : Int) ≤ 1000000000) (hB : Within 1000000000 b) : ∀ (bs q p zs : List Int), b = q ++ bs → p.length = q.length → bs.length ≤ zs.length → Within 1000000000 zs →
    Ev (fun k => impl_added.l0 k (p ++ zs) b (b.length : Int) (q.length : Int)) (p ++ zipAdd zs bs) := by
  intro bs
  induction bs with
  | nil =>
    intro q p zs h _ _ _
    have e : b.length = q.length := by rw [h]; simp
    refine ev_suc ?_
    simp (disch := omega) only [impl_added.l0, if_neg]
    exact ev_now (by cases zs <;> simp [zipAdd])
  | cons y t ih =>
    intro q p zs h hpq hle hA
    cases zs with
    | nil => simp at hle
    | cons x zs =>
      have e : b.length = q.length + (t.length + 1) := by rw [h]; simp
      have hy : rd b (q.length : Int) = y := by rw [h]; exact rd_at _ _ _
      have hx : rd (p ++ x :: zs) (q.length : Int) = x := by rw [← hpq]; exact rd_at _ _ _
      have hl : ((p ++ x :: zs).length : Int) = (q.length : Int) + (zs.length + 1) := by simp; omega
      have by_ := hB y (by rw [h]; simp)
      have bx_ := hA x (by simp)
      refine ev_suc ?_
      simp (disch := omega) only [impl_added.l0, hl, hx, hy, if_pos, w64, Int.toNat_natCast]
      have hset : (p ++ x :: zs).set q.length (x + y) = p ++ [x + y] ++ zs := by rw [← hpq, set_at]; simp
      rw [hset, len_at q y]
      have := ih (q ++ [y]) (p ++ [x + y]) zs (by rw [h]; simp) (by simp [hpq]) (by simpa using hle) (fun z hz => hA z (by simp [hz]))
      simpa [zipAdd] using this
theorem added_ev (u : List Int) (s c : Int) (hu : u.length ≤ 3) (hs : -3 ≤ s ∧ s ≤ 3) (hc : 0 ≤ c ∧ c < (u.length : Int)) (hw : Within 1000000 u) :
    Ev (fun k => impl_added.f k u (rd_L1 (ruleM u.length s) c)) (bump s u c) := by
  have er : rd_L1 (ruleM u.length s) c = (List.replicate u.length (0 : Int)).set c.toNat s := ruleM_row hc.1 hc.2
  have hlen : ((List.replicate u.length (0 : Int)).set c.toNat s).length = u.length := by simp
  simp only [impl_added.f, clone_eq u (by omega), er, Option.bind_some]
  have hW := within_row (n := u.length) (c := c) hs
  have := added_loop ((List.replicate u.length (0 : Int)).set c.toNat s) (by omega) (fun x hx => by have := hW x hx; omega) ((List.replicate u.length (0 : Int)).set c.toNat s) [] [] u (by simp) rfl (by omega) (fun x hx => by have := hw x hx; omega)
  refine ev_eq this ?_
  rw [List.nil_append]
  exact zipAdd_row hu hc.1 hc.2
theorem after_loop (n : Nat) (s : Int) (hn : n ≤ 3) (hs : -3 ≤ s ∧ s ≤ 3) (w : List Int) (hw : w.length ≤ 100) (hwn : ∀ c ∈ w, 0 ≤ c ∧ c < (n : Int)) : ∀ (suf pre u : List Int) (b : Int), w = pre ++ suf → u.length = n → Within b u → 0 ≤ b → b + 3 * suf.length ≤ 1000000 →
    Ev (fun k => impl_after.l0 k (ruleM n s) u w (w.length : Int) (pre.length : Int)) (afterM s u suf) := by
  intro suf
  induction suf with
  | nil =>
    intro pre u b h _ _ _ _
    have e : w.length = pre.length := by rw [h]; simp
    refine ev_suc ?_
    simp (disch := omega) only [impl_after.l0, if_neg]
    exact ev_now rfl
  | cons x t ih =>
    intro pre u b h hu hb hb0 hb1
    have e : w.length = pre.length + (t.length + 1) := by rw [h]; simp
    have hx : rd w (pre.length : Int) = x := by rw [h]; exact rd_at _ _ _
    have hxn := hwn x (by rw [h]; simp)
    have hrl := ruleM_len n s
    simp only [List.length_cons] at hb1
    refine ev_suc ?_
    simp (disch := omega) only [impl_after.l0, hx, if_pos, hrl]
    subst hu
    refine ev_bind (added_ev u s x hn hs hxn (fun y hy => by have := hb y hy; omega)) ?_
    rw [w64 (by omega) (by omega), len_at pre x]
    rw [afterM_cons]
    have := ih (pre ++ [x]) (bump s u x) (b + 3) (by rw [h]; simp) (bump_len _ _ _) (within_bump hb hs x hxn) (by omega) (by omega)
    exact this
theorem after_ev (u : List Int) (s : Int) (w : List Int) (hu : u.length ≤ 3) (hs : -3 ≤ s ∧ s ≤ 3) (hw : w.length ≤ 100) (hwn : ∀ c ∈ w, 0 ≤ c ∧ c < (u.length : Int)) (hb : Within 1000 u) :
    Ev (fun k => impl_after.f k u (ruleM u.length s) w) (afterM s u w) := by
  simp only [impl_after.f, clone_eq u (by omega), Option.bind_some]
  exact after_loop u.length s hu hs w hw hwn w [] u 1000 rfl rfl hb (by omega) (by omega)
theorem ruleWays_loop (u : List Int) (s : Int) (w : List Int) (hu : u.length ≤ 3) (hs : -3 ≤ s ∧ s ≤ 3) (hw : w.length ≤ 6) (hwn : ∀ c ∈ w, 0 ≤ c ∧ c < (u.length : Int)) (hb : Within 10 u) : ∀ (suf pre : List Int) (m : Int), w = pre ++ suf → 0 ≤ m → m ≤ pw pre.length →
    Ev (fun k => impl_ruleWays.l0 k u (ruleM u.length s) w m w (w.length : Int) (pre.length : Int)) (m * waysM s (afterM s u pre) suf) := by
  intro suf
  induction suf with
  | nil =>
    intro pre m h h0 h1
    have e : w.length = pre.length := by rw [h]; simp
    refine ev_suc ?_
    simp (disch := omega) only [impl_ruleWays.l0, if_neg]
    exact ev_now (by simp [waysM])
  | cons x t ih =>
    intro pre m h h0 h1
    have e : w.length = pre.length + (t.length + 1) := by rw [h]; simp
    have hx : rd w (pre.length : Int) = x := by rw [h]; exact rd_at _ _ _
    have hxn := hwn x (by rw [h]; simp)
    have hpn : ∀ c ∈ pre, 0 ≤ c ∧ c < (u.length : Int) := fun c hc => hwn c (by rw [h]; simp [hc])
    have htake : w.take ((pre.length : Int)).toNat = pre := by rw [h]; simp
    have hal := afterM_len s pre u
    have hwi := within_after hs pre 10 u hb hpn
    have hv := hwi _ (rd_mem (b := afterM s u pre) (i := x) hxn.1 (by omega))
    have hmx : 0 ≤ mx 0 (rd (afterM s u pre) x) ∧ mx 0 (rd (afterM s u pre) x) ≤ 40 := by unfold mx; split <;> omega
    have hle := mul_le40 (n := pre.length) h0 h1 hmx.1 hmx.2
    have hnn := Int.mul_nonneg h0 hmx.1
    have hpw := pw_le (n := pre.length + 1) (by omega)
    refine ev_suc ?_
    simp (disch := omega) only [impl_ruleWays.l0, hx, if_pos, htake]
    refine ev_bind (after_ev u s pre hu hs (by omega) hpn (fun y hy => by have := hb y hy; omega)) ?_
    simp (disch := omega) only [hal, if_pos, w64]
    simp only [waysM, ← Int.mul_assoc]
    by_cases hz : m * mx 0 (rd (afterM s u pre) x) = 0
    · exact ev_pos hz (ev_now (by rw [hz]; simp))
    · refine ev_neg hz ?_
      rw [len_at pre x]
      have := ih (pre ++ [x]) (m * mx 0 (rd (afterM s u pre) x)) (by rw [h]; simp) hnn (by simpa using hle)
      rw [afterM_snoc] at this
      exact this
theorem ruleWays_ev (u : List Int) (s : Int) (w : List Int) (hu : u.length ≤ 3) (hs : -3 ≤ s ∧ s ≤ 3) (hw : w.length ≤ 6) (hwn : ∀ c ∈ w, 0 ≤ c ∧ c < (u.length : Int)) (hb : Within 10 u) :
    Ev (fun k => impl_ruleWays.f k u (ruleM u.length s) w) (waysM s u w) := by
  simp only [impl_ruleWays.f]
  exact ev_eq (ruleWays_loop u s w hu hs hw hwn hb w [] 1 rfl (by omega) (by decide)) (by simp [afterM])
theorem iSameRule_all : ∀ n : Fin 4, ∀ s : Fin 5, n.val = 0 ∨ impl_SameRule.f 20 (n.val : Int) ((s.val : Int) - 1) = some (ruleM n.val ((s.val : Int) - 1)) := by decide +kernel
theorem iSameRule_ev (n : Nat) (s : Int) (h1 : 1 ≤ n) (h3 : n ≤ 3) (hs : -1 ≤ s ∧ s ≤ 3) : Ev (fun k => impl_SameRule.f k (n : Int) s) (ruleM n s) := by
  have h := (iSameRule_all ⟨n, by omega⟩ ⟨(s + 1).toNat, by omega⟩).resolve_left (by simp only []; omega)
  have e : (((s + 1).toNat : Nat) : Int) - 1 = s := by omega
  simp only [e] at h
  exact Ev.of (fun k => impl_SameRule.mono _ _ k) h
theorem implPlace_ev (u : List Int) (s : Int) (w : List Int) (hu : (u.length : Int) ≤ 1000000000000) (hw : (w.length : Int) ≤ 1000000000000) : Ev (fun k => impl_PlaceOk.f k u s w) (placeB u s w) := by
  have hj : ∀ r, r = placeB u s w → r = false → Ev (fun k => impl_PlaceOk.j0 k true u s w) r := by
    rintro r _ rfl
    refine ev_suc ?_
    simp only [impl_PlaceOk.j0, if_true]
    exact Ev.now _
  simp only [impl_PlaceOk.f]
  refine ev_bind (implStartOk_ev u hu) ?_
  by_cases hS : startB u = true
  · refine ev_pos hS ?_
    by_cases h1 : s < -1
    · refine ev_pos h1 (hj _ rfl ?_)
      unfold placeB; simp; omega
    · refine ev_neg h1 ?_
      by_cases h2 : s > 3
      · refine ev_pos h2 (hj _ rfl ?_)
        unfold placeB; simp; omega
      · refine ev_neg h2 (ev_bind (implWordOk_ev (u.length : Int) w hw) ?_)
        have hu3 := (startB_iff u).1 hS
        by_cases hW : wordB (u.length : Int) w = true
        · have hw6 := (wordB_iff _ _).1 hW
          refine ev_suc ?_
          simp only [impl_PlaceOk.j0, hW, Bool.not_true]
          refine ev_neg (by simp) (ev_bind (iSameRule_ev u.length s hu3.2.1 hu3.2.2 ⟨by omega, by omega⟩) (ev_bind (ruleWays_ev u s w hu3.2.2 ⟨by omega, by omega⟩ hw6.2.1 hw6.1 (fun x hx => by have := hu3.1 x hx; omega)) (ev_now ?_)))
          have e1 : decide (-1 ≤ s) = true := by simp; omega
          have e2 : decide (s ≤ 3) = true := by simp; omega
          simp [placeB, hS, hW, e1, e2]
        · have hf : wordB (u.length : Int) w = false := by simpa using hW
          rw [hf]
          exact hj _ rfl (by simp [placeB, hf])
  · refine ev_neg hS (hj _ rfl ?_)
    have hf : startB u = false := by simpa using hS
    simp [placeB, hf]
theorem l1In_eq (a b c : Int) : spec_l1In.f a b c = some (decide (b ≤ a) && decide (a ≤ c)) := by
  unfold spec_l1In.f
  by_cases h : a ≥ b
  · rw [if_pos h]; simp; omega
  · rw [if_neg h]; simp; omega
theorem urnB_no' {u : List Int} {x : Int} (hx : x ∈ u) (h : ¬ (0 ≤ x ∧ x ≤ 40)) : urnB u = false := by
  cases e : urnB u with
  | false => rfl
  | true => exact absurd (((urnB_iff u).1 e).1 x hx) h
theorem specUrn_loop (l : List Int) (hl : (l.length : Int) ≤ 1000000000000) : ∀ (suf pre : List Int), l = pre ++ suf → (∀ x ∈ pre, 0 ≤ x ∧ x ≤ 40) →
    Ev (fun k => spec_UrnOk.l0 k l (pre.length : Int)) (urnB l) := by
  intro suf
  induction suf with
  | nil =>
    intro pre h hr
    have e : l.length = pre.length := by rw [h]; simp
    refine ev_suc ?_
    simp (disch := omega) only [spec_UrnOk.l0, if_neg, l1In_eq]
    refine ev_now ?_
    rw [List.append_nil] at h
    subst h
    rw [Bool.eq_iff_iff, urnB_iff]
    simp only [Bool.and_eq_true, decide_eq_true_eq]
    exact ⟨fun h => ⟨hr, by omega, by omega⟩, fun h => ⟨by omega, by omega⟩⟩
  | cons x t ih =>
    intro pre h hr
    have e : l.length = pre.length + (t.length + 1) := by rw [h]; simp
    have hx : rd l (pre.length : Int) = x := by rw [h]; exact rd_at _ _ _
    have hxl : x ∈ l := by rw [h]; simp
    refine ev_suc ?_
    simp (disch := omega) only [spec_UrnOk.l0, hx, if_pos, l1In_eq, Option.bind_some]
    by_cases h1 : 0 ≤ x ∧ x ≤ 40
    · refine ev_pos (by simp [h1]) ?_
      rw [w64 (by omega) (by omega), len_at pre x]
      refine ih (pre ++ [x]) (by rw [h]; simp) ?_
      intro y hy
      rcases List.mem_append.1 hy with hy | hy
      · exact hr y hy
      · rw [List.mem_singleton] at hy; subst hy; exact h1
    · exact ev_neg (by simp only [Bool.and_eq_true, decide_eq_true_eq]; exact h1) (ev_now (urnB_no' hxl h1).symm)
theorem specUrnOk_ev (l : List Int) (hl : (l.length : Int) ≤ 1000000000000) : Ev (fun k => spec_UrnOk.f k l) (urnB l) := by
  simp only [spec_UrnOk.f]
  exact specUrn_loop l hl l [] rfl (by simp)
theorem specStart_loop (l : List Int) (hl : (l.length : Int) ≤ 1000000000000) : ∀ (suf pre : List Int), l = pre ++ suf → (∀ x ∈ pre, x ≤ 10) →
    Ev (fun k => spec_StartOk.l0 k l (pre.length : Int)) (startB l) := by
  intro suf
  induction suf with
  | nil =>
    intro pre h hr
    have e : l.length = pre.length := by rw [h]; simp
    refine ev_suc ?_
    simp (disch := omega) only [spec_StartOk.l0, if_neg]
    refine ev_bind (specUrnOk_ev l hl) (ev_now ?_)
    rw [List.append_nil] at h
    subst h
    have : (l.all fun x => decide (x ≤ 10)) = true := by simpa using hr
    simp [startB, this]
  | cons x t ih =>
    intro pre h hr
    have e : l.length = pre.length + (t.length + 1) := by rw [h]; simp
    have hx : rd l (pre.length : Int) = x := by rw [h]; exact rd_at _ _ _
    have hxl : x ∈ l := by rw [h]; simp
    refine ev_suc ?_
    simp (disch := omega) only [spec_StartOk.l0, hx, if_pos]
    by_cases h1 : x > 10
    · refine ev_pos h1 (ev_now ?_)
      cases e : startB l with
      | false => rfl
      | true => have := ((startB_iff l).1 e).1 x hxl; omega
    · refine ev_neg h1 ?_
      rw [w64 (by omega) (by omega), len_at pre x]
      refine ih (pre ++ [x]) (by rw [h]; simp) ?_
      intro y hy
      rcases List.mem_append.1 hy with hy | hy
      · exact hr y hy
      · rw [List.mem_singleton] at hy; subst hy; omega
theorem specStartOk_ev (l : List Int) (hl : (l.length : Int) ≤ 1000000000000) : Ev (fun k => spec_StartOk.f k l) (startB l) := by
  simp only [spec_StartOk.f]
  exact specStart_loop l hl l [] rfl (by simp)
theorem wordB_no' {n : Int} {w : List Int} {x : Int} (hx : x ∈ w) (h : ¬ (0 ≤ x ∧ x < n)) : wordB n w = false := by
  cases e : wordB n w with
  | false => rfl
  | true => exact absurd (((wordB_iff n w).1 e).1 x hx) h
theorem specWord_loop (n : Int) (l : List Int) (hl : (l.length : Int) ≤ 1000000000000) : ∀ (suf pre : List Int), l = pre ++ suf → (∀ x ∈ pre, 0 ≤ x ∧ x < n) →
    Ev (fun k => spec_WordOk.l0 k n l (pre.length : Int)) (wordB n l) := by
  intro suf
  induction suf with
  | nil =>
    intro pre h hr
    have e : l.length = pre.length := by rw [h]; simp
    refine ev_suc ?_
    simp (disch := omega) only [spec_WordOk.l0, if_neg, l1In_eq, Option.bind_some]
    rw [List.append_nil] at h
    subst h
    by_cases hn : 1 ≤ n ∧ n ≤ 3
    · refine ev_pos (by simp [hn]) (ev_now ?_)
      rw [Bool.eq_iff_iff, wordB_iff]
      simp only [decide_eq_true_eq]
      exact ⟨fun h => ⟨hr, by omega, hn⟩, fun h => by omega⟩
    · refine ev_neg (by simp only [Bool.and_eq_true, decide_eq_true_eq]; exact hn) (ev_now ?_)
      cases e : wordB n l with
      | false => rfl
      | true => exact absurd ((wordB_iff n l).1 e).2.2 hn
  | cons x t ih =>
    intro pre h hr
    have e : l.length = pre.length + (t.length + 1) := by rw [h]; simp
    have hx : rd l (pre.length : Int) = x := by rw [h]; exact rd_at _ _ _
    have hxl : x ∈ l := by rw [h]; simp
    refine ev_suc ?_
    simp (disch := omega) only [spec_WordOk.l0, hx, if_pos]
    by_cases h1 : x < 0
    · exact ev_pos h1 (ev_now (wordB_no' hxl (by omega)).symm)
    · refine ev_neg h1 ?_
      by_cases h2 : x ≥ n
      · exact ev_pos h2 (ev_now (wordB_no' hxl (by omega)).symm)
      · refine ev_neg h2 ?_
        rw [w64 (by omega) (by omega), len_at pre x]
        refine ih (pre ++ [x]) (by rw [h]; simp) ?_
        intro y hy
        rcases List.mem_append.1 hy with hy | hy
        · exact hr y hy
        · rw [List.mem_singleton] at hy; subst hy; omega
theorem specWordOk_ev (n : Int) (l : List Int) (hl : (l.length : Int) ≤ 1000000000000) : Ev (fun k => spec_WordOk.f k n l) (wordB n l) := by
  simp only [spec_WordOk.f]
  exact specWord_loop n l hl l [] rfl (by simp)
theorem l4After_loop (u : List Int) (R : List (List Int)) (c : Int) (row : List Int) (hc : 0 ≤ c ∧ c < (R.length : Int)) (hrow : rd_L1 R c = row) (hl : row.length = u.length) (hu : u.length ≤ 3) (hB : Within 1000000000 row) (hA : Within 1000000000 u) : ∀ (su sr pu pr acc : List Int), u = pu ++ su → row = pr ++ sr → pu.length = pr.length → acc.length = pu.length →
    Ev (fun k => spec_l4After.l0 k u R c acc (pu.length : Int)) (acc ++ zipAdd su sr) := by
  intro su
  induction su with
  | nil =>
    intro sr pu pr acc h h' hp ha
    have e : u.length = pu.length := by rw [h]; simp
    have e' : row.length = pr.length + sr.length := by rw [h']; simp
    obtain rfl : sr = [] := List.eq_nil_of_length_eq_zero (by omega)
    refine ev_suc ?_
    simp (disch := omega) only [spec_l4After.l0, if_neg]
    exact ev_now (by simp [zipAdd])
  | cons x t ih =>
    intro sr pu pr acc h h' hp ha
    have e : u.length = pu.length + (t.length + 1) := by rw [h]; simp
    have e' : row.length = pr.length + sr.length := by rw [h']; simp
    cases sr with
    | nil => simp at e'; omega
    | cons y r =>
      have hx : rd u (pu.length : Int) = x := by rw [h]; exact rd_at _ _ _
      have hy : rd row (pu.length : Int) = y := by rw [h', hp]; exact rd_at _ _ _
      have bx := hA x (by rw [h]; simp)
      have bY := hB y (by rw [h']; simp)
      refine ev_suc ?_
      simp (disch := omega) only [spec_l4After.l0, hrow, hl, hx, hy, if_pos, w64]
      rw [len_at pu x]
      have := ih r (pu ++ [x]) (pr ++ [y]) (acc ++ [x + y]) (by rw [h]; simp) (by rw [h']; simp) (by simp [hp]) (by simp [ha])
      simpa [zipAdd] using this
theorem l4After_ev (u : List Int) (s c : Int) (hu : u.length ≤ 3) (hs : -3 ≤ s ∧ s ≤ 3) (hc : 0 ≤ c ∧ c < (u.length : Int)) (hw : Within 1000000 u) :
    Ev (fun k => spec_l4After.f k u (ruleM u.length s) c) (bump s u c) := by
  have er : rd_L1 (ruleM u.length s) c = (List.replicate u.length (0 : Int)).set c.toNat s := ruleM_row hc.1 hc.2
  have hW := within_row (n := u.length) (c := c) hs
  simp only [spec_l4After.f]
  have := l4After_loop u (ruleM u.length s) c _ (by rw [ruleM_len]; exact hc) er (by simp) hu (fun x hx => by have := hW x hx; omega) (fun x hx => by have := hw x hx; omega) u ((List.replicate u.length (0 : Int)).set c.toNat s) [] [] [] rfl (by simp) rfl rfl
  refine ev_eq this ?_
  rw [List.nil_append]
  exact zipAdd_row hu hc.1 hc.2
/-- What AfterWord tells. -/
def afterWordM (s : Int) (u w : List Int) : List Int × Bool := if 0 < waysM s u w then (afterM s u w, true) else ([], false)
theorem afterWord_loop (n : Nat) (s : Int) (hn : n ≤ 3) (hs : -3 ≤ s ∧ s ≤ 3) (w : List Int) (hw : w.length ≤ 100) (hwn : ∀ c ∈ w, 0 ≤ c ∧ c < (n : Int)) : ∀ (suf pre u : List Int) (b : Int), w = pre ++ suf → u.length = n → Within b u → 0 ≤ b → b + 3 * suf.length ≤ 1000000 →
    Ev (fun k => spec_AfterWord.l0 k (ruleM n s) w u (pre.length : Int)) (afterWordM s u suf) := by
  intro suf
  induction suf with
  | nil =>
    intro pre u b h _ _ _ _
    have e : w.length = pre.length := by rw [h]; simp
    refine ev_suc ?_
    simp (disch := omega) only [spec_AfterWord.l0, if_neg]
    exact ev_now (by simp [afterWordM, waysM, afterM])
  | cons x t ih =>
    intro pre u b h hu hb hb0 hb1
    have e : w.length = pre.length + (t.length + 1) := by rw [h]; simp
    have hx : rd w (pre.length : Int) = x := by rw [h]; exact rd_at _ _ _
    have hxn := hwn x (by rw [h]; simp)
    simp only [List.length_cons] at hb1
    refine ev_suc ?_
    simp (disch := omega) only [spec_AfterWord.l0, hx, if_pos]
    subst hu
    have hcp := waysM_cons_pos s u x t
    by_cases h1 : rd u x < 1
    · refine ev_pos h1 (ev_now ?_)
      unfold afterWordM
      rw [if_neg (fun hp => by have := (hcp.1 hp).1; omega)]
    · refine ev_neg h1 (ev_bind (l4After_ev u s x hn hs hxn (fun y hy => by have := hb y hy; omega)) ?_)
      rw [w64 (by omega) (by omega), len_at pre x]
      have := ih (pre ++ [x]) (bump s u x) (b + 3) (by rw [h]; simp) (bump_len _ _ _) (within_bump hb hs x hxn) (by omega) (by omega)
      refine ev_eq this ?_
      unfold afterWordM
      by_cases h2 : 0 < waysM s (bump s u x) t
      · rw [if_pos h2, if_pos (hcp.2 ⟨by omega, h2⟩), afterM_cons]
      · rw [if_neg h2, if_neg (fun hp => h2 (hcp.1 hp).2)]
theorem ruleOk_all : ∀ n : Fin 4, ∀ s : Fin 5, n.val = 0 ∨ spec_RuleOk.f 30 (n.val : Int) (ruleM n.val ((s.val : Int) - 1)) = some true := by decide +kernel
theorem ruleOk_ev (n : Nat) (s : Int) (h1 : 1 ≤ n) (h3 : n ≤ 3) (hs : -1 ≤ s ∧ s ≤ 3) : Ev (fun k => spec_RuleOk.f k (n : Int) (ruleM n s)) true := by
  have h := (ruleOk_all ⟨n, by omega⟩ ⟨(s + 1).toNat, by omega⟩).resolve_left (by simp only []; omega)
  have e : (((s + 1).toNat : Nat) : Int) - 1 = s := by omega
  simp only [e] at h
  exact Ev.of (fun k => spec_RuleOk.mono _ _ k) h
theorem sSameRule_all : ∀ n : Fin 4, ∀ s : Fin 5, n.val = 0 ∨ spec_SameRule.f 20 (n.val : Int) ((s.val : Int) - 1) = some (ruleM n.val ((s.val : Int) - 1)) := by decide +kernel
theorem sSameRule_ev (n : Nat) (s : Int) (h1 : 1 ≤ n) (h3 : n ≤ 3) (hs : -1 ≤ s ∧ s ≤ 3) : Ev (fun k => spec_SameRule.f k (n : Int) s) (ruleM n s) := by
  have h := (sSameRule_all ⟨n, by omega⟩ ⟨(s + 1).toNat, by omega⟩).resolve_left (by simp only []; omega)
  have e : (((s + 1).toNat : Nat) : Int) - 1 = s := by omega
  simp only [e] at h
  exact Ev.of (fun k => spec_SameRule.mono _ _ k) h
theorem afterWord_ev (u : List Int) (s : Int) (w : List Int) (hS : startB u = true) (hs : -1 ≤ s ∧ s ≤ 3) (hw : (w.length : Int) ≤ 1000000000000) :
    Ev (fun k => spec_AfterWord.f k u (ruleM u.length s) w) (if wordB (u.length : Int) w = true then afterWordM s u w else ([], false)) := by
  have hu3 := (startB_iff u).1 hS
  simp only [spec_AfterWord.f]
  refine ev_bind (specStartOk_ev u (by omega)) (ev_pos hS (ev_bind (ruleOk_ev u.length s hu3.2.1 hu3.2.2 hs) (ev_pos rfl (ev_bind (specWordOk_ev (u.length : Int) w hw) (ev_suc ?_)))))
  by_cases hW : wordB (u.length : Int) w = true
  · have hw6 := (wordB_iff _ _).1 hW
    rw [if_pos hW]
    simp only [spec_AfterWord.j0, hW, Bool.not_true]
    refine ev_neg (by simp) (ev_bind (Ev.now _) (ev_pos (by simp; omega) ?_))
    rw [List.nil_append]
    exact afterWord_loop u.length s hu3.2.2 ⟨by omega, by omega⟩ w (by omega) hw6.1 w [] u 10 rfl rfl (fun x hx => by have := hu3.1 x hx; omega) (by omega) (by omega)
  · have hf : wordB (u.length : Int) w = false := by simpa using hW
    rw [if_neg hW]
    simp only [spec_AfterWord.j0, hf, Bool.not_false, if_true]
    exact Ev.now _
theorem specPlace_ev (u : List Int) (s : Int) (w : List Int) (hu : (u.length : Int) ≤ 1000000000000) (hw : (w.length : Int) ≤ 1000000000000) : Ev (fun k => spec_PlaceOk.f k u s w) (placeB u s w) := by
  have hj : ∀ r, r = placeB u s w → r = false → Ev (fun k => spec_PlaceOk.j0 k true u s w) r := by
    rintro r _ rfl
    refine ev_suc ?_
    simp only [spec_PlaceOk.j0, if_true]
    exact Ev.now _
  simp only [spec_PlaceOk.f]
  refine ev_bind (specStartOk_ev u hu) ?_
  by_cases hS : startB u = true
  · refine ev_pos hS ?_
    simp only [l1In_eq, Option.bind_some]
    have hu3 := (startB_iff u).1 hS
    by_cases h1 : -1 ≤ s ∧ s ≤ 3
    · have e : (decide (-1 ≤ s) && decide (s ≤ 3)) = true := by simp [h1]
      refine ev_suc ?_
      simp only [spec_PlaceOk.j0, e, Bool.not_true]
      refine ev_neg (by simp) (ev_bind (sSameRule_ev u.length s hu3.2.1 hu3.2.2 h1) (ev_bind (afterWord_ev u s w hS h1 hw) (ev_now ?_)))
      by_cases hW : wordB (u.length : Int) w = true
      · rw [if_pos hW]
        unfold afterWordM
        by_cases h2 : 0 < waysM s u w
        · rw [if_pos h2]; simp [placeB, hS, hW, h1, h2]
        · rw [if_neg h2]; simp [placeB, hS, hW, h1, h2]
      · rw [if_neg hW]
        have hf : wordB (u.length : Int) w = false := by simpa using hW
        simp [placeB, hf]
    · have e : (decide (-1 ≤ s) && decide (s ≤ 3)) = false := by
        rw [Bool.and_eq_false_iff]; simp only [decide_eq_false_iff_not]; omega
      rw [e]
      refine hj _ rfl ?_
      unfold placeB
      rw [Bool.and_eq_false_iff] at e
      rcases e with e | e <;> simp [e]
  · refine ev_neg hS (hj _ rfl ?_)
    have hf : startB u = false := by simpa using hS
    simp [placeB, hf]
theorem copyPlace_eq (u : List Int) (s : Int) (w : List Int) (hu : (u.length : Int) ≤ 1000000000000) (hw : (w.length : Int) ≤ 1000000000000) : impl_copyPlace.f u s w = some (u, s, w) := by
  simp [impl_copyPlace.f, clone_eq u hu, clone_eq w hw]
theorem l15Place_eq (u : List Int) (s : Int) (w : List Int) (hu : (u.length : Int) ≤ 1000000000000) (hw : (w.length : Int) ≤ 1000000000000) : spec_l15Place.f u s w = some (u, s, w) := by
  unfold spec_l15Place.f
  simp only [Option.bind_some, List.nil_append, List.length_nil]
  rw [if_pos (by omega), if_pos (by omega)]
theorem implNew_ev (u : List Int) (s : Int) (w : List Int) (hu : (u.length : Int) ≤ 1000000000000) (hw : (w.length : Int) ≤ 1000000000000) :
    Ev (fun k => impl_DeskNew.f k u s w) (if placeB u s w = true then (u, s, w, [], true) else ([], 0, [], [], false)) := by
  simp only [impl_DeskNew.f]
  refine ev_bind (implPlace_ev u s w hu hw) ?_
  by_cases h : placeB u s w = true
  · simp only [if_pos h, copyPlace_eq u s w hu hw, Option.bind_some]
    exact Ev.now _
  · simp only [if_neg h]
    exact Ev.now _
theorem specNew_ev (u : List Int) (s : Int) (w : List Int) (hu : (u.length : Int) ≤ 1000000000000) (hw : (w.length : Int) ≤ 1000000000000) :
    Ev (fun k => spec_DeskNew.f k u s w) (if placeB u s w = true then (u, s, w, [], true) else ([], 0, [], [], false)) := by
  simp only [spec_DeskNew.f]
  refine ev_bind (specPlace_ev u s w hu hw) ?_
  by_cases h : placeB u s w = true
  · simp only [if_pos h, l15Place_eq u s w hu hw, Option.bind_some]
    exact Ev.now _
  · simp only [if_neg h]
    exact Ev.now _
theorem eqS0_ev : Ev (fun k => laws_eqPlaceS.f k [] []) true := by
  unfold laws_eqPlaceS.f
  refine ev_pos rfl (ev_suc ?_)
  simp only [laws_eqPlaceS.l0]
  exact ev_neg (by simp) (Ev.now _)
theorem eqDesk0_ev (a : List Int) (b : Int) (c : List Int) (la : a.length ≤ 1048576) (lc : c.length ≤ 1048576) : Ev (fun k => laws_eqDesk.f k a b c [] a b c []) true := by
  unfold laws_eqDesk.f
  exact ev_bind (eqPlace_ev a b c la lc) (ev_pos rfl (ev_bind eqS0_ev (ev_pos rfl (Ev.now _))))
theorem markDesk0_ev (a : List Int) (b : Int) (c : List Int) (la : a.length ≤ 1048576) (lc : c.length ≤ 1048576) :
    Ev (fun k => laws_markDesk.f k a b c [] 1) (1 + (a.length : Int) + (c.length : Int), iota 1 a.length, iota (1 + (a.length : Int)) c.length) := by
  unfold laws_markDesk.f
  refine ev_bind (markP_ev a b c la lc) (ev_bind (a := 1 + (a.length : Int) + (c.length : Int)) ?_ (Ev.now _))
  unfold laws_markPlaceS.f
  refine ev_suc ?_
  simp only [laws_markPlaceS.l0]
  exact ev_neg (by simp) (Ev.now _)
theorem heldDesk0_ev (m : Nat) (b : Int) (n : Nat) (lm : m ≤ 1048576) (ln : n ≤ 1048576) :
    Ev (fun k => laws_heldDesk.f k (iota 1 m) b (iota (1 + (m : Int)) n) [] 1) (1 + (m : Int) + (n : Int)) := by
  unfold laws_heldDesk.f
  refine ev_bind (heldP_ev m b n lm ln) (ev_neg (by omega) (ev_bind (a := 1 + (m : Int) + (n : Int)) ?_ (ev_neg (by omega) (Ev.now _))))
  unfold laws_heldPlaceS.f
  refine ev_suc ?_
  simp only [laws_heldPlaceS.l0]
  exact ev_neg (by simp) (Ev.now _)
end FnExactDeskNew_parts
open FnExactDeskNew_parts
theorem FnExactDeskNew (x0 : List Int) (x1 : Int) (x2 : List Int) (ok : (x0.length ≤ maxLen ∧ ∀ x ∈ x0, (Lit.int .i64 x).wf = true) ∧ (Lit.int .i64 x1).wf = true ∧ x2.length ≤ maxLen ∧ ∀ x ∈ x2, (Lit.int .i64 x).wf = true) : ∃ k, laws_FnExactDeskNew.f k x0 x1 x2 = some true := by
  refine Ev.rounds ?_
  unfold laws_FnExactDeskNew.f
  obtain ⟨r, hr, h⟩ := szPlace_eq x0 x1 x2 1048576 ok.1.1 ok.2.2.1 (by omega)
  rw [hr]
  simp only [Option.bind_some]
  rcases h with h | ⟨h0, _, h1, h2⟩
  · exact ev_pos h (Ev.now _)
  obtain ⟨a, b, c, o, e1, e2, la, lc⟩ : ∃ a b c o, Ev (fun k => spec_DeskNew.f k x0 x1 x2) (a, b, c, [], o) ∧ Ev (fun k => impl_DeskNew.f k x0 x1 x2) (a, b, c, [], o) ∧ a.length ≤ 1048576 ∧ c.length ≤ 1048576 := by
    have i1 := implNew_ev x0 x1 x2 (by omega) (by omega)
    have i2 := specNew_ev x0 x1 x2 (by omega) (by omega)
    by_cases hp : placeB x0 x1 x2 = true
    · rw [if_pos hp] at i1 i2
      exact ⟨_, _, _, _, i2, i1, h1, h2⟩
    · rw [if_neg hp] at i1 i2
      exact ⟨_, _, _, _, i2, i1, by simp, by simp⟩
  refine ev_neg (by omega) (ev_bind (toPlace_ev x0 x1 x2 h1 h2) (ev_bind e1 (ev_bind (toPlace_ev x0 x1 x2 h1 h2) (ev_bind e2 (ev_bind (eqDesk0_ev a b c la lc) (ev_pos rfl (ev_suc ?_)))))))
  simp only [laws_FnExactDeskNew.j0]
  refine ev_neg (by simp) (ev_bind (toPlace_ev x0 x1 x2 h1 h2) (ev_bind (eqPlace_ev x0 x1 x2 h1 h2) (ev_pos rfl (ev_bind (markP_ev x0 x1 x2 h1 h2) (ev_neg (by simp only []; omega) (ev_bind (eqDesk0_ev a b c la lc) (ev_pos rfl (ev_suc ?_))))))))
  simp only [laws_FnExactDeskNew.j1]
  refine ev_neg (by simp) (ev_bind (markDesk0_ev a b c la lc) (ev_bind (heldDesk0_ev a.length b c.length la lc) (ev_neg (by omega) (ev_pos rfl (ev_bind (toPlace_ev x0 x1 x2 h1 h2) (ev_bind e2 (ev_bind (eqDesk0_ev a b c la lc) (ev_pos rfl (ev_suc ?_)))))))))
  simp only [laws_FnExactDeskNew.j2]
  exact ev_neg (by simp) (ev_bind (heldDesk0_ev a.length b c.length la lc) (ev_neg (by omega) (ev_pos rfl (Ev.now _))))
end Go.Proofs.Ytncgleffkbegjaa.Pure
