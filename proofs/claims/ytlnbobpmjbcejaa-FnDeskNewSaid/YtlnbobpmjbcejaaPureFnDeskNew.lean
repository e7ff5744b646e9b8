/- For the law FnDeskNew: for every code the desk of a drawn place is told by the program as by the reference; it is a desk with just this place, without any of before; and of what is no place there is none. The conditions: the bytes or numbers that come in are of their kinds, as the statement says. -/
import Derived.Test.YtlnbobpmjbcejaaMFnDeskNewx11
import Derived.Test.YtlnbobpmjbcejaaBase
import Derived.Test.YtlnbobpmjbcejaaMath
namespace Go.Proofs.Ytlnbobpmjbcejaa.Pure
open Go.RowKit Go.Proofs.Ytlnbobpmjbcejaa.MFnDeskNew Go.Proofs.YtlnbobpmjbcejaaW.PrintWords Go.Proofs.YtlnbobpmjbcejaaW.PrintLast Go.Proofs.Ytlnbobpmjbcejaa.Base
namespace FnDeskNew_parts
theorem colours_ev (n : Int) : impl_coloursOk.f n = some (decide (1 ≤ n) && decide (n ≤ 3)) := by
  unfold impl_coloursOk.f
  by_cases h : n ≥ 1
  · rw [if_pos h]; simp; omega
  · rw [if_neg h]; simp; omega
theorem urnB_no {u : List Int} {x : Int} (hx : x ∈ u) (h : ¬ (0 ≤ x ∧ x ≤ 40)) : urnB u = false := by
  cases e : urnB u with
  | false => rfl
  | true => exact absurd (((urnB_iff u).1 e).1 x hx) h
theorem implUrn_loop (l : List Int) (hl : (l.length : Int) ≤ 1000000000000) : ∀ (suf pre : List Int), l = pre ++ suf → (∀ x ∈ pre, 0 ≤ x ∧ x ≤ 40) →
    Ev (fun k => impl_UrnOk.l0 k l l (l.length : Int) (pre.length : Int)) (urnB l) := by
  intro suf
  induction suf with
  | nil =>
    intro pre h hr
    have e : l.length = pre.length := by rw [h]; simp
    refine ev_suc ?_
    simp (disch := omega) only [impl_UrnOk.l0, if_neg, colours_ev]
    refine ev_now ?_
    rw [List.append_nil] at h
    subst h
    rw [Bool.eq_iff_iff, urnB_iff]
    simp only [Bool.and_eq_true, decide_eq_true_eq]
    exact ⟨fun h => ⟨hr, by omega, by omega⟩, fun h => ⟨by omega, by omega⟩⟩
  | cons x t ih =>
    intro pre h hr
    have e : l.length = pre.length + (t.length + 1) := by rw [h]; simp
    have hx : rd l (pre.length : Int) = x := by rw [h]; exact rd_at _ _ _
    have hxl : x ∈ l := by rw [h]; simp
    refine ev_suc ?_
    simp (disch := omega) only [impl_UrnOk.l0, hx, if_pos]
    by_cases h1 : x < 0
    · exact ev_pos h1 (ev_now (urnB_no hxl (by omega)).symm)
    · refine ev_neg h1 ?_
      by_cases h2 : x > 40
      · exact ev_pos h2 (ev_now (urnB_no hxl (by omega)).symm)
      · refine ev_neg h2 ?_
        rw [w64 (by omega) (by omega), len_at pre x]
        refine ih (pre ++ [x]) (by rw [h]; simp) ?_
        intro y hy
        rcases List.mem_append.1 hy with hy | hy
        · exact hr y hy
        · rw [List.mem_singleton] at hy; subst hy; omega
theorem implUrnOk_ev (l : List Int) (hl : (l.length : Int) ≤ 1000000000000) : Ev (fun k => impl_UrnOk.f k l) (urnB l) := by
  simp only [impl_UrnOk.f]
  exact implUrn_loop l hl l [] rfl (by simp)
theorem implStart_loop (l : List Int) (hl : (l.length : Int) ≤ 1000000000000) : ∀ (suf pre : List Int), l = pre ++ suf → (∀ x ∈ pre, x ≤ 10) →
    Ev (fun k => impl_StartOk.l0 k l l (l.length : Int) (pre.length : Int)) (startB l) := by
  intro suf
  induction suf with
  | nil =>
    intro pre h hr
    have e : l.length = pre.length := by rw [h]; simp
    refine ev_suc ?_
    simp (disch := omega) only [impl_StartOk.l0, if_neg]
    refine ev_bind (implUrnOk_ev l hl) (ev_now ?_)
    rw [List.append_nil] at h
    subst h
    have : (l.all fun x => decide (x ≤ 10)) = true := by simpa using hr
    simp [startB, this]
  | cons x t ih =>
    intro pre h hr
    have e : l.length = pre.length + (t.length + 1) := by rw [h]; simp
    have hx : rd l (pre.length : Int) = x := by rw [h]; exact rd_at _ _ _
    have hxl : x ∈ l := by rw [h]; simp
    refine ev_suc ?_
    simp (disch := omega) only [impl_StartOk.l0, hx, if_pos]
    by_cases h1 : x > 10
    · refine ev_pos h1 (ev_now ?_)
      cases e : startB l with
      | false => rfl
      | true => have := ((startB_iff l).1 e).1 x hxl; omega
    · refine ev_neg h1 ?_
      rw [w64 (by omega) (by omega), len_at pre x]
      refine ih (pre ++ [x]) (by rw [h]; simp) ?_
      intro y hy
      rcases List.mem_append.1 hy with hy | hy
      · exact hr y hy
      · rw [List.mem_singleton] at hy; subst hy; omega
theorem implStartOk_ev (l : List Int) (hl : (l.length : Int) ≤ 1000000000000) : Ev (fun k => impl_StartOk.f k l) (startB l) := by
  simp only [impl_StartOk.f]
  exact implStart_loop l hl l [] rfl (by simp)
theorem wordB_no {n : Int} {w : List Int} {x : Int} (hx : x ∈ w) (h : ¬ (0 ≤ x ∧ x < n)) : wordB n w = false := by
  cases e : wordB n w with
  | false => rfl
  | true => exact absurd (((wordB_iff n w).1 e).1 x hx) h
theorem implWord_loop (n : Int) (l : List Int) (hl : (l.length : Int) ≤ 1000000000000) : ∀ (suf pre : List Int), l = pre ++ suf → (∀ x ∈ pre, 0 ≤ x ∧ x < n) →
    Ev (fun k => impl_WordOk.l0 k n l l (l.length : Int) (pre.length : Int)) (wordB n l) := by
  intro suf
  induction suf with
  | nil =>
    intro pre h hr
    have e : l.length = pre.length := by rw [h]; simp
    refine ev_suc ?_
    simp (disch := omega) only [impl_WordOk.l0, if_neg, colours_ev, Option.bind_some]
    rw [List.append_nil] at h
    subst h
    by_cases hn : 1 ≤ n ∧ n ≤ 3
    · refine ev_pos (by simp [hn]) (ev_now ?_)
      rw [Bool.eq_iff_iff, wordB_iff]
      simp only [decide_eq_true_eq]
      exact ⟨fun h => ⟨hr, by omega, hn⟩, fun h => by omega⟩
    · refine ev_neg (by simp only [Bool.and_eq_true, decide_eq_true_eq]; exact hn) (ev_now ?_)
      cases e : wordB n l with
      | false => rfl
      | true => exact absurd ((wordB_iff n l).1 e).2.2 hn
  | cons x t ih =>
    intro pre h hr
    have e : l.length = pre.length + (t.length + 1) := by rw [h]; simp
    have hx : rd l (pre.length : Int) = x := by rw [h]; exact rd_at _ _ _
    have hxl : x ∈ l := by rw [h]; simp
    refine ev_suc ?_
    simp (disch := omega) only [impl_WordOk.l0, hx, if_pos]
    by_cases h1 : x < 0
    · exact ev_pos h1 (ev_now (wordB_no hxl (by omega)).symm)
    · refine ev_neg h1 ?_
      by_cases h2 : x ≥ n
      · exact ev_pos h2 (ev_now (wordB_no hxl (by omega)).symm)
      · refine ev_neg h2 ?_
        rw [w64 (by omega) (by omega), len_at pre x]
        refine ih (pre ++ [x]) (by rw [h]; simp) ?_
        intro y hy
        rcases List.mem_append.1 hy with hy | hy
        · exact hr y hy
        · rw [List.mem_singleton] at hy; subst hy; omega
theorem implWordOk_ev (n : Int) (l : List Int) (hl : (l.length : Int) ≤ 1000000000000) : Ev (fun k => impl_WordOk.f k n l) (wordB n l) := by
  simp only [impl_WordOk.f]
  exact implWord_loop n l hl l [] rfl (by simp)
theorem clone_eq (l : List Int) (hl : (l.length : Int) ≤ 1000000000000) : slices_Clone_int_int.f l = some l := by
  unfold slices_Clone_int_int.f
  rw [if_pos (by omega)]
theorem added_loop (b : List Int) (hb : (b.length : Int) ≤ 1000000000) (hB : Within 1000000000 b) : ∀ (bs q p zs : List Int), b = q ++ bs → p.length = q.length → bs.length ≤ zs.length → Within 1000000000 zs →
    Ev (fun k => impl_added.l0 k (p ++ zs) b (b.length : Int) (q.length : Int)) (p ++ zipAdd zs bs) := by
  intro bs
  induction bs with
  | nil =>
    intro q p zs h _ _ _
    have e : b.length = q.length := by rw [h]; simp
    refine ev_suc ?_
    simp (disch := omega) only [impl_added.l0, if_neg]
    exact ev_now (by cases zs <;> simp [zipAdd])
  | cons y t ih =>
    intro q p zs h hpq hle hA
    cases zs with
    | nil => simp at hle
    | cons x zs =>
      have e : b.length = q.length + (t.length + 1) := by rw [h]; simp
      have hy : rd b (q.length : Int) = y := by rw [h]; exact rd_at _ _ _
      have hx : rd (p ++ x :: zs) (q.length : Int) = x := by rw [← hpq]; exact rd_at _ _ _
      have hl : ((p ++ x :: zs).length : Int) = (q.length : Int) + (zs.length + 1) := by simp; omega
      have by_ := hB y (by rw [h]; simp)
      have bx_ := hA x (by simp)
      refine ev_suc ?_
      simp (disch := omega) only [impl_added.l0, hl, hx, hy, if_pos, w64, Int.toNat_natCast]
      have hset : (p ++ x :: zs).set q.length (x + y) = p ++ [x + y] ++ zs := by rw [← hpq, set_at]; simp
      rw [hset, len_at q y]
      have := ih (q ++ [y]) (p ++ [x + y]) zs (by rw [h]; simp) (by simp [hpq]) (by simpa using hle) (fun z hz => hA z (by simp [hz]))
      simpa [zipAdd] using this
theorem added_ev (u : List Int) (s c : Int) (hu : u.length ≤ 3) (hs : -3 ≤ s ∧ s ≤ 3) (hc : 0 ≤ c ∧ c < (u.length : Int)) (hw : Within 1000000 u) :
    Ev (fun k => impl_added.f k u (rd_L1 (ruleM u.length s) c)) (bump s u c) := by
  have er : rd_L1 (ruleM u.length s) c = (List.replicate u.length (0 : Int)).set c.toNat s := ruleM_row hc.1 hc.2
  have hlen : ((List.replicate u.length (0 : Int)).set c.toNat s).length = u.length := by simp
  simp only [impl_added.f, clone_eq u (by omega), er, Option.bind_some]
  have hW := within_row (n := u.length) (c := c) hs
  have := added_loop ((List.replicate u.length (0 : Int)).set c.toNat s) (by omega) (fun x hx => by have := hW x hx; omega) ((List.replicate u.length (0 : Int)).set c.toNat s) [] [] u (by simp) rfl (by omega) (fun x hx => by have := hw x hx; omega)
  refine ev_eq this ?_
  rw [List.nil_append]
  exact zipAdd_row hu hc.1 hc.2
theorem after_loop (n : Nat) (s : Int) (hn : n ≤ 3) (hs : -3 ≤ s ∧ s ≤ 3) (w : List Int) (hw : w.length ≤ 100) (hwn : ∀ c ∈ w, 0 ≤ c ∧ c < (n : Int)) : ∀ (suf pre u : List Int) (b : Int), w = pre ++ suf → u.length = n → Within b u → 0 ≤ b → b + 3 * suf.length ≤ 1000000 →
    Ev (fun k => impl_after.l0 k (ruleM n s) u w (w.length : Int) (pre.length : Int)) (afterM s u suf) := by
  intro suf
  induction suf with
  | nil =>
    intro pre u b h _ _ _ _
    have e : w.length = pre.length := by rw [h]; simp
    refine ev_suc ?_
    simp (disch := omega) only [impl_after.l0, if_neg]
    exact ev_now rfl
  | cons x t ih =>
    intro pre u b h hu hb hb0 hb1
    have e : w.length = pre.length + (t.length + 1) := by rw [h]; simp
    have hx : rd w (pre.length : Int) = x := by rw [h]; exact rd_at _ _ _
    have hxn := hwn x (by rw [h]; simp)
    have hrl := ruleM_len n s
    simp only [List.length_cons] at hb1
    refine ev_suc ?_
    simp (disch := omega) only [impl_after.l0, hx, if_pos, hrl]
    subst hu
    refine ev_bind (added_ev u s x hn hs hxn (fun y hy => by have := hb y hy; omega)) ?_
    rw [w64 (by omega) (by omega), len_at pre x]
    rw [afterM_cons]
    have := ih (pre ++ [x]) (bump s u x) (b + 3) (by rw [h]; simp) (bump_len _ _ _) (within_bump hb hs x hxn) (by omega) (by omega)
    exact this
theorem after_ev (u : List Int) (s : Int) (w : List Int) (hu : u.length ≤ 3) (hs : -3 ≤ s ∧ s ≤ 3) (hw : w.length ≤ 100) (hwn : ∀ c ∈ w, 0 ≤ c ∧ c < (u.length : Int)) (hb : Within 1000 u) :
    Ev (fun k => impl_after.f k u (ruleM u.length s) w) (afterM s u w) := by
  simp only [impl_after.f, clone_eq u (by omega), Option.bind_some]
  exact after_loop u.length s hu hs w hw hwn w [] u 1000 rfl rfl hb (by omega) (by omega)
theorem ruleWays_loop (u : List Int) (s : Int) (w : List Int) (hu : u.length ≤ 3) (hs : -3 ≤ s ∧ s ≤ 3) (hw : w.length ≤ 6) (hwn : ∀ c ∈ w, 0 ≤ c ∧ c < (u.length : Int)) (hb : Within 10 u) : ∀ (suf pre : List Int) (m : Int), w = pre ++ suf → 0 ≤ m → m ≤ pw pre.length →
    Ev (fun k => impl_ruleWays.l0 k u (ruleM u.length s) w m w (w.length : Int) (pre.length : Int)) (m * waysM s (afterM s u pre) suf) := by
  intro suf
  induction suf with
  | nil =>
    intro pre m h h0 h1
    have e : w.length = pre.length := by rw [h]; simp
    refine ev_suc ?_
    simp (disch := omega) only [impl_ruleWays.l0, if_neg]
    exact ev_now (by simp [waysM])
  | cons x t ih =>
    intro pre m h h0 h1
    have e : w.length = pre.length + (t.length + 1) := by rw [h]; simp
    have hx : rd w (pre.length : Int) = x := by rw [h]; exact rd_at _ _ _
    have hxn := hwn x (by rw [h]; simp)
    have hpn : ∀ c ∈ pre, 0 ≤ c ∧ c < (u.length : Int) := fun c hc => hwn c (by rw [h]; simp [hc])
    have htake : w.take ((pre.length : Int)).toNat = pre := by rw [h]; simp
    have hal := afterM_len s pre u
    have hwi := within_after hs pre 10 u hb hpn
    have hv := hwi _ (rd_mem (b := afterM s u pre) (i := x) hxn.1 (by omega))
    have hmx : 0 ≤ mx 0 (rd (afterM s u pre) x) ∧ mx 0 (rd (afterM s u pre) x) ≤ 40 := by unfold mx; split <;> omega
    have hle := mul_le40 (n := pre.length) h0 h1 hmx.1 hmx.2
    have hnn := Int.mul_nonneg h0 hmx.1
    have hpw := pw_le (n := pre.length + 1) (by omega)
    refine ev_suc ?_
    simp (disch := omega) only [impl_ruleWays.l0, hx, if_pos, htake]
    refine ev_bind (after_ev u s pre hu hs (by omega) hpn (fun y hy => by have := hb y hy; omega)) ?_
    simp (disch := omega) only [hal, if_pos, w64]
    simp only [waysM, ← Int.mul_assoc]
    by_cases hz : m * mx 0 (rd (afterM s u pre) x) = 0
    · exact ev_pos hz (ev_now (by rw [hz]; simp))
    · refine ev_neg hz ?_
      rw [len_at pre x]
      have := ih (pre ++ [x]) (m * mx 0 (rd (afterM s u pre) x)) (by rw [h]; simp) hnn (by simpa using hle)
      rw [afterM_snoc] at this
      exact this
theorem ruleWays_ev (u : List Int) (s : Int) (w : List Int) (hu : u.length ≤ 3) (hs : -3 ≤ s ∧ s ≤ 3) (hw : w.length ≤ 6) (hwn : ∀ c ∈ w, 0 ≤ c ∧ c < (u.length : Int)) (hb : Within 10 u) :
    Ev (fun k => impl_ruleWays.f k u (ruleM u.length s) w) (waysM s u w) := by
  simp only [impl_ruleWays.f]
  exact ev_eq (ruleWays_loop u s w hu hs hw hwn hb w [] 1 rfl (by omega) (by decide)) (by simp [afterM])
theorem iSameRule_all : ∀ n : Fin 4, ∀ s : Fin 5, n.val = 0 ∨ impl_SameRule.f 20 (n.val : Int) ((s.val : Int) - 1) = some (ruleM n.val ((s.val : Int) - 1)) := by decide +kernel
theorem iSameRule_ev (n : Nat) (s : Int) (h1 : 1 ≤ n) (h3 : n ≤ 3) (hs : -1 ≤ s ∧ s ≤ 3) : Ev (fun k => impl_SameRule.f k (n : Int) s) (ruleM n s) := by
  have h := (iSameRule_all ⟨n, by omega⟩ ⟨(s + 1).toNat, by omega⟩).resolve_left (by simp only []; omega)
  have e : (((s + 1).toNat : Nat) : Int) - 1 = s := by omega
  simp only [e] at h
  exact Ev.of (fun k => impl_SameRule.mono _ _ k) h
theorem implPlace_ev (u : List Int) (s : Int) (w : List Int) (hu : (u.length : Int) ≤ 1000000000000) (hw : (w.length : Int) ≤ 1000000000000) : Ev (fun k => impl_PlaceOk.f k u s w) (placeB u s w) := by
  have hj : ∀ r, r = placeB u s w → r = false → Ev (fun k => impl_PlaceOk.j0 k true u s w) r := by
    rintro r _ rfl
    refine ev_suc ?_
    simp only [impl_PlaceOk.j0, if_true]
    exact Ev.now _
  simp only [impl_PlaceOk.f]
  refine ev_bind (implStartOk_ev u hu) ?_
  by_cases hS : startB u = true
  · refine ev_pos hS ?_
    by_cases h1 : s < -1
    · refine ev_pos h1 (hj _ rfl ?_)
      unfold placeB; simp; omega
    · refine ev_neg h1 ?_
      by_cases h2 : s > 3
      · refine ev_pos h2 (hj _ rfl ?_)
        unfold placeB; simp; omega
      · refine ev_neg h2 (ev_bind (implWordOk_ev (u.length : Int) w hw) ?_)
        have hu3 := (startB_iff u).1 hS
        by_cases hW : wordB (u.length : Int) w = true
        · have hw6 := (wordB_iff _ _).1 hW
          refine ev_suc ?_
          simp only [impl_PlaceOk.j0, hW, Bool.not_true]
          refine ev_neg (by simp) (ev_bind (iSameRule_ev u.length s hu3.2.1 hu3.2.2 ⟨by omega, by omega⟩) (ev_bind (ruleWays_ev u s w hu3.2.2 ⟨by omega, by omega⟩ hw6.2.1 hw6.1 (fun x hx => by have := hu3.1 x hx; omega)) (ev_now ?_)))
          have e1 : decide (-1 ≤ s) = true := by simp; omega
          have e2 : decide (s ≤ 3) = true := by simp; omega
          simp [placeB, hS, hW, e1, e2]
        · have hf : wordB (u.length : Int) w = false := by simpa using hW
          rw [hf]
          exact hj _ rfl (by simp [placeB, hf])
  · refine ev_neg hS (hj _ rfl ?_)
    have hf : startB u = false := by simpa using hS
    simp [placeB, hf]
theorem l1In_eq (a b c : Int) : spec_l1In.f a b c = some (decide (b ≤ a) && decide (a ≤ c)) := by
  unfold spec_l1In.f
  by_cases h : a ≥ b
  · rw [if_pos h]; simp; omega
  · rw [if_neg h]; simp; omega
theorem urnB_no' {u : List Int} {x : Int} (hx : x ∈ u) (h : ¬ (0 ≤ x ∧ x ≤ 40)) : urnB u = false := by
  cases e : urnB u with
  | false => rfl
  | true => exact absurd (((urnB_iff u).1 e).1 x hx) h
theorem specUrn_loop (l : List Int) (hl : (l.length : Int) ≤ 1000000000000) : ∀ (suf pre : List Int), l = pre ++ suf → (∀ x ∈ pre, 0 ≤ x ∧ x ≤ 40) →
    Ev (fun k => spec_UrnOk.l0 k l (pre.length : Int)) (urnB l) := by
  intro suf
  induction suf with
  | nil =>
    intro pre h hr
    have e : l.length = pre.length := by rw [h]; simp
    refine ev_suc ?_
    simp (disch := omega) only [spec_UrnOk.l0, if_neg, l1In_eq]
    refine ev_now ?_
    rw [List.append_nil] at h
    subst h
    rw [Bool.eq_iff_iff, urnB_iff]
    simp only [Bool.and_eq_true, decide_eq_true_eq]
    exact ⟨fun h => ⟨hr, by omega, by omega⟩, fun h => ⟨by omega, by omega⟩⟩
  | cons x t ih =>
    intro pre h hr
    have e : l.length = pre.length + (t.length + 1) := by rw [h]; simp
    have hx : rd l (pre.length : Int) = x := by rw [h]; exact rd_at _ _ _
    have hxl : x ∈ l := by rw [h]; simp
    refine ev_suc ?_
    simp (disch := omega) only [spec_UrnOk.l0, hx, if_pos, l1In_eq, Option.bind_some]
    by_cases h1 : 0 ≤ x ∧ x ≤ 40
    · refine ev_pos (by simp [h1]) ?_
      rw [w64 (by omega) (by omega), len_at pre x]
      refine ih (pre ++ [x]) (by rw [h]; simp) ?_
      intro y hy
      rcases List.mem_append.1 hy with hy | hy
      · exact hr y hy
      · rw [List.mem_singleton] at hy; subst hy; exact h1
    · exact ev_neg (by simp only [Bool.and_eq_true, decide_eq_true_eq]; exact h1) (ev_now (urnB_no' hxl h1).symm)
theorem specUrnOk_ev (l : List Int) (hl : (l.length : Int) ≤ 1000000000000) : Ev (fun k => spec_UrnOk.f k l) (urnB l) := by
  simp only [spec_UrnOk.f]
  exact specUrn_loop l hl l [] rfl (by simp)
theorem specStart_loop (l : List Int) (hl : (l.length : Int) ≤ 1000000000000) : ∀ (suf pre : List Int), l = pre ++ suf → (∀ x ∈ pre, x ≤ 10) →
    Ev (fun k => spec_StartOk.l0 k l (pre.length : Int)) (startB l) := by
  intro suf
  induction suf with
  | nil =>
    intro pre h hr
    have e : l.length = pre.length := by rw [h]; simp
    refine ev_suc ?_
    simp (disch := omega) only [spec_StartOk.l0, if_neg]
    refine ev_bind (specUrnOk_ev l hl) (ev_now ?_)
    rw [List.append_nil] at h
    subst h
    have : (l.all fun x => decide (x ≤ 10)) = true := by simpa using hr
    simp [startB, this]
  | cons x t ih =>
    intro pre h hr
    have e : l.length = pre.length + (t.length + 1) := by rw [h]; simp
    have hx : rd l (pre.length : Int) = x := by rw [h]; exact rd_at _ _ _
    have hxl : x ∈ l := by rw [h]; simp
    refine ev_suc ?_
    simp (disch := omega) only [spec_StartOk.l0, hx, if_pos]
    by_cases h1 : x > 10
    · refine ev_pos h1 (ev_now ?_)
      cases e : startB l with
      | false => rfl
      | true => have := ((startB_iff l).1 e).1 x hxl; omega
    · refine ev_neg h1 ?_
      rw [w64 (by omega) (by omega), len_at pre x]
      refine ih (pre ++ [x]) (by rw [h]; simp) ?_
      intro y hy
      rcases List.mem_append.1 hy with hy | hy
      · exact hr y hy
      · rw [List.mem_singleton] at hy; subst hy; omega
theorem specStartOk_ev (l : List Int) (hl : (l.length : Int) ≤ 1000000000000) : Ev (fun k => spec_StartOk.f k l) (startB l) := by
  simp only [spec_StartOk.f]
  exact specStart_loop l hl l [] rfl (by simp)
theorem wordB_no' {n : Int} {w : List Int} {x : Int} (hx : x ∈ w) (h : ¬ (0 ≤ x ∧ x < n)) : wordB n w = false := by
  cases e : wordB n w with
  | false => rfl
  | true => exact absurd (((wordB_iff n w).1 e).1 x hx) h
theorem specWord_loop (n : Int) (l : List Int) (hl : (l.length : Int) ≤ 1000000000000) : ∀ (suf pre : List Int), l = pre ++ suf → (∀ x ∈ pre, 0 ≤ x ∧ x < n) →
    Ev (fun k => spec_WordOk.l0 k n l (pre.length : Int)) (wordB n l) := by
  intro suf
  induction suf with
  | nil =>
    intro pre h hr
    have e : l.length = pre.length := by rw [h]; simp
    refine ev_suc ?_
    simp (disch := omega) only [spec_WordOk.l0, if_neg, l1In_eq, Option.bind_some]
    rw [List.append_nil] at h
    subst h
    by_cases hn : 1 ≤ n ∧ n ≤ 3
    · refine ev_pos (by simp [hn]) (ev_now ?_)
      rw [Bool.eq_iff_iff, wordB_iff]
      simp only [decide_eq_true_eq]
      exact ⟨fun h => ⟨hr, by omega, hn⟩, fun h => by omega⟩
    · refine ev_neg (by simp only [Bool.and_eq_true, decide_eq_true_eq]; exact hn) (ev_now ?_)
      cases e : wordB n l with
      | false => rfl
      | true => exact absurd ((wordB_iff n l).1 e).2.2 hn
  | cons x t ih =>
    intro pre h hr
    have e : l.length = pre.length + (t.length + 1) := by rw [h]; simp
    have hx : rd l (pre.length : Int) = x := by rw [h]; exact rd_at _ _ _
    have hxl : x ∈ l := by rw [h]; simp
    refine ev_suc ?_
    simp (disch := omega) only [spec_WordOk.l0, hx, if_pos]
    by_cases h1 : x < 0
    · exact ev_pos h1 (ev_now (wordB_no' hxl (by omega)).symm)
    · refine ev_neg h1 ?_
      by_cases h2 : x ≥ n
      · exact ev_pos h2 (ev_now (wordB_no' hxl (by omega)).symm)
      · refine ev_neg h2 ?_
        rw [w64 (by omega) (by omega), len_at pre x]
        refine ih (pre ++ [x]) (by rw [h]; simp) ?_
        intro y hy
        rcases List.mem_append.1 hy with hy | hy
        · exact hr y hy
        · rw [List.mem_singleton] at hy; subst hy; omega
theorem specWordOk_ev (n : Int) (l : List Int) (hl : (l.length : Int) ≤ 1000000000000) : Ev (fun k => spec_WordOk.f k n l) (wordB n l) := by
  simp only [spec_WordOk.f]
  exact specWord_loop n l hl l [] rfl (by simp)
theorem l4After_loop (u : List Int) (R : List (List Int)) (c : Int) (row : List Int) (hc : 0 ≤ c ∧ c < (R.length : Int)) (hrow : rd_L1 R c = row) (hl : row.length = u.length) (hu : u.length ≤ 3) (hB : Within 1000000000 row) (hA : Within 1000000000 u) : ∀ (su sr pu pr acc : List Int), u = pu ++ su → row = pr ++ sr → pu.length = pr.length → acc.length = pu.length →
    Ev (fun k => spec_l4After.l0 k u R c acc (pu.length : Int)) (acc ++ zipAdd su sr) := by
  intro su
  induction su with
  | nil =>
    intro sr pu pr acc h h' hp ha
    have e : u.length = pu.length := by rw [h]; simp
    have e' : row.length = pr.length + sr.length := by rw [h']; simp
    obtain rfl : sr = [] := List.eq_nil_of_length_eq_zero (by omega)
    refine ev_suc ?_
    simp (disch := omega) only [spec_l4After.l0, if_neg]
    exact ev_now (by simp [zipAdd])
  | cons x t ih =>
    intro sr pu pr acc h h' hp ha
    have e : u.length = pu.length + (t.length + 1) := by rw [h]; simp
    have e' : row.length = pr.length + sr.length := by rw [h']; simp
    cases sr with
    | nil => simp at e'; omega
    | cons y r =>
      have hx : rd u (pu.length : Int) = x := by rw [h]; exact rd_at _ _ _
      have hy : rd row (pu.length : Int) = y := by rw [h', hp]; exact rd_at _ _ _
      have bx := hA x (by rw [h]; simp)
      have bY := hB y (by rw [h']; simp)
      refine ev_suc ?_
      simp (disch := omega) only [spec_l4After.l0, hrow, hl, hx, hy, if_pos, w64]
      rw [len_at pu x]
      have := ih r (pu ++ [x]) (pr ++ [y]) (acc ++ [x + y]) (by rw [h]; simp) (by rw [h']; simp) (by simp [hp]) (by simp [ha])
      simpa [zipAdd] using this
theorem l4After_ev (u : List Int) (s c : Int) (hu : u.length ≤ 3) (hs : -3 ≤ s ∧ s ≤ 3) (hc : 0 ≤ c ∧ c < (u.length : Int)) (hw : Within 1000000 u) :
    Ev (fun k => spec_l4After.f k u (ruleM u.length s) c) (bump s u c) := by
  have er : rd_L1 (ruleM u.length s) c = (List.replicate u.length (0 : Int)).set c.toNat s := ruleM_row hc.1 hc.2
  have hW := within_row (n := u.length) (c := c) hs
  simp only [spec_l4After.f]
  have := l4After_loop u (ruleM u.length s) c _ (by rw [ruleM_len]; exact hc) er (by simp) hu (fun x hx => by have := hW x hx; omega) (fun x hx => by have := hw x hx; omega) u ((List.replicate u.length (0 : Int)).set c.toNat s) [] [] [] rfl (by simp) rfl rfl
  refine ev_eq this ?_
  rw [List.nil_append]
  exact zipAdd_row hu hc.1 hc.2
/-- What AfterWord tells. -/
def afterWordM (s : Int) (u w : List Int) : List Int × Bool := if 0 < waysM s u w then (afterM s u w, true) else ([], false)
theorem afterWord_loop (n : Nat) (s : Int) (hn : n ≤ 3) (hs : -3 ≤ s ∧ s ≤ 3) (w : List Int) (hw : w.length ≤ 100) (hwn : ∀ c ∈ w, 0 ≤ c ∧ c < (n : Int)) : ∀ (suf pre u : List Int) (b : Int), w = pre ++ suf → u.length = n → Within b u → 0 ≤ b → b + 3 * suf.length ≤ 1000000 →
    Ev (fun k => spec_AfterWord.l0 k (ruleM n s) w u (pre.length : Int)) (afterWordM s u suf) := by
  intro suf
  induction suf with
  | nil =>
    intro pre u b h _ _ _ _
    have e : w.length = pre.length := by rw [h]; simp
    refine ev_suc ?_
    simp (disch := omega) only [spec_AfterWord.l0, if_neg]
    exact ev_now (by simp [afterWordM, waysM, afterM])
  | cons x t ih =>
    intro pre u b h hu hb hb0 hb1
    have e : w.length = pre.length + (t.length + 1) := by rw [h]; simp
    have hx : rd w (pre.length : Int) = x := by rw [h]; exact rd_at _ _ _
    have hxn := hwn x (by rw [h]; simp)
    simp only [List.length_cons] at hb1
    refine ev_suc ?_
    simp (disch := omega) only [spec_AfterWord.l0, hx, if_pos]
    subst hu
    have hcp := waysM_cons_pos s u x t
    by_cases h1 : rd u x < 1
    · refine ev_pos h1 (ev_now ?_)
      unfold afterWordM
      rw [if_neg (fun hp => by have := (hcp.1 hp).1; omega)]
    · refine ev_neg h1 (ev_bind (l4After_ev u s x hn hs hxn (fun y hy => by have := hb y hy; omega)) ?_)
      rw [w64 (by omega) (by omega), len_at pre x]
      have := ih (pre ++ [x]) (bump s u x) (b + 3) (by rw [h]; simp) (bump_len _ _ _) (within_bump hb hs x hxn) (by omega) (by omega)
      refine ev_eq this ?_
      unfold afterWordM
      by_cases h2 : 0 < waysM s (bump s u x) t
      · rw [if_pos h2, if_pos (hcp.2 ⟨by omega, h2⟩), afterM_cons]
      · rw [if_neg h2, if_neg (fun hp => h2 (hcp.1 hp).2)]
theorem ruleOk_all : ∀ n : Fin 4, ∀ s : Fin 5, n.val = 0 ∨ spec_RuleOk.f 30 (n.val : Int) (ruleM n.val ((s.val : Int) - 1)) = some true := by decide +kernel
theorem ruleOk_ev (n : Nat) (s : Int) (h1 : 1 ≤ n) (h3 : n ≤ 3) (hs : -1 ≤ s ∧ s ≤ 3) : Ev (fun k => spec_RuleOk.f k (n : Int) (ruleM n s)) true := by
  have h := (ruleOk_all ⟨n, by omega⟩ ⟨(s + 1).toNat, by omega⟩).resolve_left (by simp only []; omega)
  have e : (((s + 1).toNat : Nat) : Int) - 1 = s := by omega
  simp only [e] at h
  exact Ev.of (fun k => spec_RuleOk.mono _ _ k) h
theorem sSameRule_all : ∀ n : Fin 4, ∀ s : Fin 5, n.val = 0 ∨ spec_SameRule.f 20 (n.val : Int) ((s.val : Int) - 1) = some (ruleM n.val ((s.val : Int) - 1)) := by decide +kernel
theorem sSameRule_ev (n : Nat) (s : Int) (h1 : 1 ≤ n) (h3 : n ≤ 3) (hs : -1 ≤ s ∧ s ≤ 3) : Ev (fun k => spec_SameRule.f k (n : Int) s) (ruleM n s) := by
  have h := (sSameRule_all ⟨n, by omega⟩ ⟨(s + 1).toNat, by omega⟩).resolve_left (by simp only []; omega)
  have e : (((s + 1).toNat : Nat) : Int) - 1 = s := by omega
  simp only [e] at h
  exact Ev.of (fun k => spec_SameRule.mono _ _ k) h
theorem afterWord_ev (u : List Int) (s : Int) (w : List Int) (hS : startB u = true) (hs : -1 ≤ s ∧ s ≤ 3) (hw : (w.length : Int) ≤ 1000000000000) :
    Ev (fun k => spec_AfterWord.f k u (ruleM u.length s) w) (if wordB (u.length : Int) w = true then afterWordM s u w else ([], false)) := by
  have hu3 := (startB_iff u).1 hS
  simp only [spec_AfterWord.f]
  refine ev_bind (specStartOk_ev u (by omega)) (ev_pos hS (ev_bind (ruleOk_ev u.length s hu3.2.1 hu3.2.2 hs) (ev_pos rfl (ev_bind (specWordOk_ev (u.length : Int) w hw) (ev_suc ?_)))))
  by_cases hW : wordB (u.length : Int) w = true
  · have hw6 := (wordB_iff _ _).1 hW
    rw [if_pos hW]
    simp only [spec_AfterWord.j0, hW, Bool.not_true]
    refine ev_neg (by simp) (ev_bind (Ev.now _) (ev_pos (by simp; omega) ?_))
    rw [List.nil_append]
    exact afterWord_loop u.length s hu3.2.2 ⟨by omega, by omega⟩ w (by omega) hw6.1 w [] u 10 rfl rfl (fun x hx => by have := hu3.1 x hx; omega) (by omega) (by omega)
  · have hf : wordB (u.length : Int) w = false := by simpa using hW
    rw [if_neg hW]
    simp only [spec_AfterWord.j0, hf, Bool.not_false, if_true]
    exact Ev.now _
theorem specPlace_ev (u : List Int) (s : Int) (w : List Int) (hu : (u.length : Int) ≤ 1000000000000) (hw : (w.length : Int) ≤ 1000000000000) : Ev (fun k => spec_PlaceOk.f k u s w) (placeB u s w) := by
  have hj : ∀ r, r = placeB u s w → r = false → Ev (fun k => spec_PlaceOk.j0 k true u s w) r := by
    rintro r _ rfl
    refine ev_suc ?_
    simp only [spec_PlaceOk.j0, if_true]
    exact Ev.now _
  simp only [spec_PlaceOk.f]
  refine ev_bind (specStartOk_ev u hu) ?_
  by_cases hS : startB u = true
  · refine ev_pos hS ?_
    simp only [l1In_eq, Option.bind_some]
    have hu3 := (startB_iff u).1 hS
    by_cases h1 : -1 ≤ s ∧ s ≤ 3
    · have e : (decide (-1 ≤ s) && decide (s ≤ 3)) = true := by simp [h1]
      refine ev_suc ?_
      simp only [spec_PlaceOk.j0, e, Bool.not_true]
      refine ev_neg (by simp) (ev_bind (sSameRule_ev u.length s hu3.2.1 hu3.2.2 h1) (ev_bind (afterWord_ev u s w hS h1 hw) (ev_now ?_)))
      by_cases hW : wordB (u.length : Int) w = true
      · rw [if_pos hW]
        unfold afterWordM
        by_cases h2 : 0 < waysM s u w
        · rw [if_pos h2]; simp [placeB, hS, hW, h1, h2]
        · rw [if_neg h2]; simp [placeB, hS, hW, h1, h2]
      · rw [if_neg hW]
        have hf : wordB (u.length : Int) w = false := by simpa using hW
        simp [placeB, hf]
    · have e : (decide (-1 ≤ s) && decide (s ≤ 3)) = false := by
        rw [Bool.and_eq_false_iff]; simp only [decide_eq_false_iff_not]; omega
      rw [e]
      refine hj _ rfl ?_
      unfold placeB
      rw [Bool.and_eq_false_iff] at e
      rcases e with e | e <;> simp [e]
  · refine ev_neg hS (hj _ rfl ?_)
    have hf : startB u = false := by simpa using hS
    simp [placeB, hf]
theorem sameInts_loop (a b : List Int) (hl : (a.length : Int) ≤ 1000000000000) (hab : a.length = b.length) : ∀ (s t p q : List Int), a = p ++ s → b = q ++ t → p.length = q.length →
    ∃ v, Ev (fun k => laws_sameInts.l0 k a b (p.length : Int)) v ∧ (v = true ↔ s = t) := by
  intro s
  induction s with
  | nil =>
    intro t p q h h' hpq
    have e : a.length = p.length := by rw [h]; simp
    have e' : b.length = q.length + t.length := by rw [h']; simp
    have : t = [] := List.eq_nil_of_length_eq_zero (by omega)
    subst this
    refine ⟨true, ev_suc ?_, by simp⟩
    simp (disch := omega) only [laws_sameInts.l0, if_neg]
    exact Ev.now _
  | cons x s ih =>
    intro t p q h h' hpq
    have e : a.length = p.length + (s.length + 1) := by rw [h]; simp
    have e' : b.length = q.length + t.length := by rw [h']; simp
    cases t with
    | nil => simp at e'; omega
    | cons y t =>
      have hx : rd a (p.length : Int) = x := by rw [h]; exact rd_at _ _ _
      have hy : rd b (p.length : Int) = y := by rw [h', hpq]; exact rd_at _ _ _
      by_cases hxy : x = y
      · obtain ⟨v, hv, hv'⟩ := ih t (p ++ [x]) (q ++ [y]) (by rw [h]; simp) (by rw [h']; simp) (by simp [hpq])
        refine ⟨v, ev_suc ?_, by rw [hv']; simp [hxy]⟩
        simp (disch := omega) only [laws_sameInts.l0, hx, hy, if_pos, w64]
        rw [len_at p x]
        exact hv
      · refine ⟨false, ev_suc ?_, by simp [hxy]⟩
        simp (disch := omega) only [laws_sameInts.l0, hx, hy, if_pos, w64]
        exact ev_neg hxy (Ev.now _)
theorem sameInts_ev (a b : List Int) (hl : (a.length : Int) ≤ 1000000000000) : ∃ v, Ev (fun k => laws_sameInts.f k a b) v ∧ (v = true ↔ a = b) := by
  by_cases h : (a.length : Int) = (b.length : Int)
  · obtain ⟨v, hv, hv'⟩ := sameInts_loop a b hl (by omega) a b [] [] rfl rfl rfl
    refine ⟨v, ?_, hv'⟩
    simp only [laws_sameInts.f]
    exact ev_pos h hv
  · refine ⟨false, ?_, by simp; rintro rfl; exact h rfl⟩
    simp only [laws_sameInts.f]
    exact ev_neg h (Ev.now _)
theorem samePlace_ev (u : List Int) (s : Int) (w u' : List Int) (s' : Int) (w' : List Int) (hu : (u.length : Int) ≤ 1000000000000) (hw : (w.length : Int) ≤ 1000000000000) :
    ∃ v, Ev (fun k => laws_samePlace.f k u s w u' s' w') v ∧ (v = true ↔ u = u' ∧ s = s' ∧ w = w') := by
  obtain ⟨v1, e1, h1⟩ := sameInts_ev u u' hu
  obtain ⟨v2, e2, h2⟩ := sameInts_ev w w' hw
  cases v1 with
  | false =>
    refine ⟨false, ?_, by simp; intro h; exact absurd (h1.2 h) (by simp)⟩
    simp only [laws_samePlace.f]
    exact ev_bind e1 (ev_neg (by simp) (Ev.now _))
  | true =>
    by_cases hs : s = s'
    · refine ⟨v2, ?_, by rw [h2]; simp [hs, h1.1 rfl]⟩
      simp only [laws_samePlace.f]
      exact ev_bind e1 (ev_pos rfl (ev_pos hs (ev_bind e2 (Ev.now _))))
    · refine ⟨false, ?_, by simp [hs]⟩
      simp only [laws_samePlace.f]
      exact ev_bind e1 (ev_pos rfl (ev_neg hs (Ev.now _)))
theorem rdP_at (p : List S27) (a : S27) (t : List S27) : rd_T27 (p ++ a :: t) (p.length : Int) = a := by simp [rd_T27]
/-- A place whose lists aren't too long to be counted. -/
def Sized1 (q : S27) : Prop := (q.f0.length : Int) ≤ 1000000000000 ∧ (q.f2.length : Int) ≤ 1000000000000
theorem sameDesk_loop (u : List Int) (s : Int) (w u' : List Int) (s' : Int) (w' : List Int) (a b : List S27) (hl : (a.length : Int) ≤ 1000000000000) (hA : ∀ q ∈ a, Sized1 q) (hab : a.length = b.length) : ∀ (x y p q : List S27), a = p ++ x → b = q ++ y → p.length = q.length →
    ∃ v, Ev (fun k => laws_sameDesk.l0 k (p.length : Int) u s w a u' s' w' b) v ∧ (v = true ↔ x = y) := by
  intro x
  induction x with
  | nil =>
    intro y p q h h' hpq
    have e : a.length = p.length := by rw [h]; simp
    have e' : b.length = q.length + y.length := by rw [h']; simp
    have : y = [] := List.eq_nil_of_length_eq_zero (by omega)
    subst this
    refine ⟨true, ev_suc ?_, by simp⟩
    simp (disch := omega) only [laws_sameDesk.l0, if_neg]
    exact Ev.now _
  | cons c x ih =>
    intro y p q h h' hpq
    have e : a.length = p.length + (x.length + 1) := by rw [h]; simp
    have e' : b.length = q.length + y.length := by rw [h']; simp
    cases y with
    | nil => simp at e'; omega
    | cons d y =>
      have hx : rd_T27 a (p.length : Int) = c := by rw [h]; exact rdP_at _ _ _
      have hy : rd_T27 b (p.length : Int) = d := by rw [h', hpq]; exact rdP_at _ _ _
      have hc := hA c (by rw [h]; simp)
      obtain ⟨v1, e1, h1⟩ := samePlace_ev c.f0 c.f1 c.f2 d.f0 d.f1 d.f2 hc.1 hc.2
      have hcd : v1 = true ↔ c = d := by
        rw [h1]
        constructor
        · rintro ⟨k1, k2, k3⟩; cases c; cases d; simp_all
        · rintro rfl; exact ⟨rfl, rfl, rfl⟩
      obtain ⟨v, hv, hv'⟩ := ih y (p ++ [c]) (q ++ [d]) (by rw [h]; simp) (by rw [h']; simp) (by simp [hpq])
      cases v1 with
      | true =>
        refine ⟨v, ev_suc ?_, by rw [hv']; simp [hcd.1 rfl]⟩
        simp (disch := omega) only [laws_sameDesk.l0, hx, hy, if_pos, w64]
        refine ev_bind e1 (ev_pos rfl ?_)
        rw [len_at p c]
        exact hv
      | false =>
        refine ⟨false, ev_suc ?_, by simp; intro h; exact absurd (hcd.2 h) (by simp)⟩
        simp (disch := omega) only [laws_sameDesk.l0, hx, hy, if_pos, w64]
        exact ev_bind e1 (ev_neg (by simp) (Ev.now _))
theorem sameDesk_ev (u : List Int) (s : Int) (w : List Int) (a : List S27) (u' : List Int) (s' : Int) (w' : List Int) (b : List S27) (hu : (u.length : Int) ≤ 1000000000000) (hw : (w.length : Int) ≤ 1000000000000) (hl : (a.length : Int) ≤ 1000000000000) (hA : ∀ q ∈ a, Sized1 q) :
    ∃ v, Ev (fun k => laws_sameDesk.f k u s w a u' s' w' b) v ∧ (v = true ↔ (u = u' ∧ s = s' ∧ w = w') ∧ a = b) := by
  obtain ⟨v1, e1, h1⟩ := samePlace_ev u s w u' s' w' hu hw
  cases v1 with
  | false =>
    refine ⟨false, ?_, by simp; intro k1 k2 k3; exact absurd (h1.2 ⟨k1, k2, k3⟩) (by simp)⟩
    simp only [laws_sameDesk.f]
    refine ev_bind e1 (ev_neg (by simp) (ev_suc ?_))
    simp only [laws_sameDesk.j0, if_true]
    exact Ev.now _
  | true =>
    by_cases h : (a.length : Int) = (b.length : Int)
    · obtain ⟨v, hv, hv'⟩ := sameDesk_loop u s w u' s' w' a b hl hA (by omega) a b [] [] rfl rfl rfl
      refine ⟨v, ?_, by rw [hv']; simp [h1.1 rfl]⟩
      simp only [laws_sameDesk.f]
      have e : ((a.length : Int) != (b.length : Int)) = false := by simp [h]
      refine ev_bind e1 (ev_pos rfl (ev_suc ?_))
      simp only [laws_sameDesk.j0, e]
      exact ev_neg (by simp) hv
    · refine ⟨false, ?_, by simp; rintro _ _ _ rfl; exact h rfl⟩
      simp only [laws_sameDesk.f]
      have e : ((a.length : Int) != (b.length : Int)) = true := by simpa [bne_iff_ne] using h
      refine ev_bind e1 (ev_pos rfl (ev_suc ?_))
      simp only [laws_sameDesk.j0, e, if_true]
      exact Ev.now _
theorem copyPlace_eq (u : List Int) (s : Int) (w : List Int) (hu : (u.length : Int) ≤ 1000000000000) (hw : (w.length : Int) ≤ 1000000000000) : impl_copyPlace.f u s w = some (u, s, w) := by
  simp [impl_copyPlace.f, clone_eq u hu, clone_eq w hw]
theorem l15Place_eq (u : List Int) (s : Int) (w : List Int) (hu : (u.length : Int) ≤ 1000000000000) (hw : (w.length : Int) ≤ 1000000000000) : spec_l15Place.f u s w = some (u, s, w) := by
  unfold spec_l15Place.f
  simp only [Option.bind_some, List.nil_append, List.length_nil]
  rw [if_pos (by omega), if_pos (by omega)]
theorem implNew_ev (u : List Int) (s : Int) (w : List Int) (hu : (u.length : Int) ≤ 1000000000000) (hw : (w.length : Int) ≤ 1000000000000) :
    Ev (fun k => impl_DeskNew.f k u s w) (if placeB u s w = true then (u, s, w, [], true) else ([], 0, [], [], false)) := by
  simp only [impl_DeskNew.f]
  refine ev_bind (implPlace_ev u s w hu hw) ?_
  by_cases h : placeB u s w = true
  · simp only [if_pos h, copyPlace_eq u s w hu hw, Option.bind_some]
    exact Ev.now _
  · simp only [if_neg h]
    exact Ev.now _
theorem specNew_ev (u : List Int) (s : Int) (w : List Int) (hu : (u.length : Int) ≤ 1000000000000) (hw : (w.length : Int) ≤ 1000000000000) :
    Ev (fun k => spec_DeskNew.f k u s w) (if placeB u s w = true then (u, s, w, [], true) else ([], 0, [], [], false)) := by
  simp only [spec_DeskNew.f]
  refine ev_bind (specPlace_ev u s w hu hw) ?_
  by_cases h : placeB u s w = true
  · simp only [if_pos h, l15Place_eq u s w hu hw, Option.bind_some]
    exact Ev.now _
  · simp only [if_neg h]
    exact Ev.now _
def deskB (u : List Int) (s : Int) (w : List Int) (a : List S27) : Bool := (a.all fun q => placeB q.f0 q.f1 q.f2) && (placeB u s w && decide (a.length ≤ 8))
theorem deskB_iff (u : List Int) (s : Int) (w : List Int) (a : List S27) : deskB u s w a = true ↔ (∀ q ∈ a, placeB q.f0 q.f1 q.f2 = true) ∧ placeB u s w = true ∧ a.length ≤ 8 := by simp [deskB]
theorem implDesk_loop (u : List Int) (s : Int) (w : List Int) (a : List S27) (hu : (u.length : Int) ≤ 1000000000000) (hw : (w.length : Int) ≤ 1000000000000) (hl : (a.length : Int) ≤ 1000000000000) (hA : ∀ q ∈ a, Sized1 q) : ∀ (x p : List S27), a = p ++ x → (∀ q ∈ p, placeB q.f0 q.f1 q.f2 = true) →
    Ev (fun k => impl_DeskOk.l0 k a (a.length : Int) (p.length : Int) u s w a) (deskB u s w a) := by
  intro x
  induction x with
  | nil =>
    intro p h hp
    have e : a.length = p.length := by rw [h]; simp
    refine ev_suc ?_
    simp (disch := omega) only [impl_DeskOk.l0, if_neg]
    rw [List.append_nil] at h
    subst h
    refine ev_bind (implPlace_ev u s w hu hw) ?_
    have hall : (a.all fun q => placeB q.f0 q.f1 q.f2) = true := by simpa using hp
    by_cases hP : placeB u s w = true
    · refine ev_pos hP (ev_now ?_)
      simp only [deskB, hall, hP, Bool.true_and]
      rw [Bool.eq_iff_iff]; simp only [decide_eq_true_eq]; omega
    · refine ev_neg hP (ev_now ?_)
      have hf : placeB u s w = false := by simpa using hP
      simp [deskB, hf]
  | cons c x ih =>
    intro p h hp
    have e : a.length = p.length + (x.length + 1) := by rw [h]; simp
    have hx : rd_T27 a (p.length : Int) = c := by rw [h]; exact rdP_at _ _ _
    have hca : c ∈ a := by rw [h]; simp
    have hc := hA c hca
    refine ev_suc ?_
    simp (disch := omega) only [impl_DeskOk.l0, hx, if_pos, w64]
    refine ev_bind (implPlace_ev c.f0 c.f1 c.f2 hc.1 hc.2) ?_
    by_cases hP : placeB c.f0 c.f1 c.f2 = true
    · refine ev_pos hP ?_
      rw [len_at p c]
      refine ih (p ++ [c]) (by rw [h]; simp) ?_
      intro q hq
      rcases List.mem_append.1 hq with hq | hq
      · exact hp q hq
      · rw [List.mem_singleton] at hq; subst hq; exact hP
    · refine ev_neg hP (ev_now ?_)
      cases e : deskB u s w a with
      | false => rfl
      | true => exact absurd (((deskB_iff u s w a).1 e).1 c hca) hP
theorem implDesk_ev (u : List Int) (s : Int) (w : List Int) (a : List S27) (hu : (u.length : Int) ≤ 1000000000000) (hw : (w.length : Int) ≤ 1000000000000) (hl : (a.length : Int) ≤ 1000000000000) (hA : ∀ q ∈ a, Sized1 q) :
    Ev (fun k => impl_DeskOk.f k u s w a) (deskB u s w a) := by
  simp only [impl_DeskOk.f]
  exact implDesk_loop u s w a hu hw hl hA a [] rfl (by simp)
theorem xor_nn {x y : Int} (hx : 0 ≤ x) (hx' : x < 9223372036854775808) (hy : 0 ≤ y) (hy' : y < 9223372036854775808) : 0 ≤ Go.bits .xor .i64 x y := by
  obtain ⟨a, rfl⟩ := Int.eq_ofNat_of_zero_le hx
  obtain ⟨b, rfl⟩ := Int.eq_ofNat_of_zero_le hy
  have ha : a < 2 ^ 63 := by omega
  have hb : b < 2 ^ 63 := by omega
  have hc : a ^^^ b < 2 ^ 63 := Nat.xor_lt_two_pow ha hb
  have h1 : (BitVec.ofInt 64 (a : Int)).toNat = a := by
    rw [BitVec.ofInt_natCast, BitVec.toNat_ofNat]; exact Nat.mod_eq_of_lt (by omega)
  have h2 : (BitVec.ofInt 64 (b : Int)).toNat = b := by
    rw [BitVec.ofInt_natCast, BitVec.toNat_ofNat]; exact Nat.mod_eq_of_lt (by omega)
  show 0 ≤ IntKind.i64.wrap ((BitVec.ofInt 64 (a : Int) ^^^ BitVec.ofInt 64 (b : Int)).toNat : Int)
  rw [BitVec.toNat_xor, h1, h2, IntKind.wrap_i64]
  omega
def BytesOk (b : List Int) : Prop := (∀ x ∈ b, 0 ≤ x ∧ x ≤ 255) ∧ b.length ≤ 2000
theorem pick_ev {b : List Int} (hb : BytesOk b) (p n : Int) (h0 : 0 ≤ p) (hp : p ≤ 1000000000000) (hn : n ≤ 1000000000000) :
    ∃ r, Ev (fun k => spec_l20Rd_pick.f k b p n) (r, p + 1) ∧ 0 ≤ r ∧ (1 ≤ n → r < n) ∧ (n < 1 → r = 0) := by
  obtain ⟨hb, hl⟩ := hb
  by_cases hn1 : n < 1
  · refine ⟨0, ?_, by omega, by omega, fun _ => rfl⟩
    simp only [spec_l20Rd_pick.f]
    refine ev_pos hn1 (ev_suc ?_)
    simp (disch := omega) only [spec_l20Rd_pick.j0, if_true, w64]
    exact Ev.now _
  · have key : ∀ (x : Int), 0 ≤ x → 0 ≤ Int.tmod x n ∧ (1 ≤ n → Int.tmod x n < n) ∧ (n < 1 → Int.tmod x n = 0) := by
      intro x hx
      rw [Int.tmod_eq_emod_of_nonneg hx]
      have h1 := Int.emod_nonneg x (b := n) (by omega)
      have h2 := Int.emod_lt_of_pos x (b := n) (by omega)
      exact ⟨h1, fun _ => h2, fun h => absurd h hn1⟩
    by_cases hl0 : b.length = 0
    · refine ⟨0, ?_, by omega, by omega, fun _ => rfl⟩
      simp only [spec_l20Rd_pick.f]
      refine ev_neg hn1 (ev_suc ?_)
      have e : ((b.length : Int) == 0) = true := by simp [hl0]
      simp (disch := omega) only [spec_l20Rd_pick.j0, e, if_true, w64]
      exact Ev.now _
    · have e : ((b.length : Int) == 0) = false := by rw [beq_eq_false_iff_ne]; omega
      by_cases hlt : p < (b.length : Int)
      · have hm := hb _ (rd_mem h0 hlt)
        obtain ⟨k1, k2, k3⟩ := key (rd b p) hm.1
        refine ⟨Int.tmod (rd b p) n, ?_, k1, k2, k3⟩
        simp only [spec_l20Rd_pick.f]
        refine ev_neg hn1 (ev_suc ?_)
        have e1 : wrap64 (wrap64 (p + 1) - 1) = p := by rw [w64 (n := p + 1) (by omega) (by omega), w64 (by omega) (by omega)]; omega
        have e2 : wrap64 (rd b p) = rd b p := w64 (by omega) (by omega)
        simp only [spec_l20Rd_pick.j0, e, e1, e2, Bool.false_eq_true, if_false]
        refine ev_pos hlt (ev_pos h0 (ev_neg (by omega) (ev_now ?_)))
        rw [w64 (by omega) (by omega)]
      · have hL : 0 < (b.length : Int) := by omega
        have m1a := Int.emod_nonneg p (b := (b.length : Int)) (by omega)
        have m1b := Int.emod_lt_of_pos p (b := (b.length : Int)) hL
        have m2a := Int.emod_nonneg (p * 7 + 3) (b := (b.length : Int)) (by omega)
        have m2b := Int.emod_lt_of_pos (p * 7 + 3) (b := (b.length : Int)) hL
        have r1 := hb _ (rd_mem m1a m1b)
        have r2 := hb _ (rd_mem m2a m2b)
        have d1 : 0 ≤ p / (b.length : Int) := Int.ediv_nonneg h0 (by omega)
        have d2 : p / (b.length : Int) ≤ p := Int.ediv_le_self _ h0
        have e1 : wrap64 (wrap64 (p + 1) - 1) = p := by rw [w64 (n := p + 1) (by omega) (by omega), w64 (by omega) (by omega)]; omega
        have e1' : wrap64 (p + 1 - 1) = p := by rw [w64 (by omega) (by omega)]; omega
        have e3 : Int.tmod p (b.length : Int) = p % (b.length : Int) := Int.tmod_eq_emod_of_nonneg h0
        have e4 : Int.tmod (p * 7 + 3) (b.length : Int) = (p * 7 + 3) % (b.length : Int) := Int.tmod_eq_emod_of_nonneg (by omega)
        have e5 : Int.tdiv p (b.length : Int) = p / (b.length : Int) := Int.tdiv_eq_ediv_of_nonneg h0
        generalize hu : rd b (p % (b.length : Int)) = u at r1
        generalize hv : rd b ((p * 7 + 3) % (b.length : Int)) = v at r2
        generalize hd : p / (b.length : Int) = d at d1 d2
        have hx0 : 0 ≤ u * 131 + v * 1117 + p * 29 + d * 53 := by omega
        have e6 : Int.tdiv (u * 131 + v * 1117 + p * 29 + d * 53) 64 = (u * 131 + v * 1117 + p * 29 + d * 53) / 64 := Int.tdiv_eq_ediv_of_nonneg hx0
        obtain ⟨k1, k2, k3⟩ := key (Go.bits .xor .i64 (u * 131 + v * 1117 + p * 29 + d * 53) ((u * 131 + v * 1117 + p * 29 + d * 53) / 64)) (xor_nn (by omega) (by omega) (by omega) (by omega))
        refine ⟨_, ?_, k1, k2, k3⟩
        simp only [spec_l20Rd_pick.f]
        refine ev_neg hn1 (ev_suc ?_)
        have f1 : wrap64 (p * 7) = p * 7 := w64 (by omega) (by omega)
        have f2 : wrap64 (p * 7 + 3) = p * 7 + 3 := w64 (by omega) (by omega)
        have f3 : wrap64 u = u := w64 (by omega) (by omega)
        have f4 : wrap64 v = v := w64 (by omega) (by omega)
        have f5 : wrap64 (u * 131) = u * 131 := w64 (by omega) (by omega)
        have f6 : wrap64 (v * 1117) = v * 1117 := w64 (by omega) (by omega)
        have f7 : wrap64 (u * 131 + v * 1117) = u * 131 + v * 1117 := w64 (by omega) (by omega)
        have f8 : wrap64 (p * 29) = p * 29 := w64 (by omega) (by omega)
        have f9 : wrap64 (u * 131 + v * 1117 + p * 29) = u * 131 + v * 1117 + p * 29 := w64 (by omega) (by omega)
        have f10 : wrap64 d = d := w64 (by omega) (by omega)
        have f11 : wrap64 (d * 53) = d * 53 := w64 (by omega) (by omega)
        have f12 : wrap64 (u * 131 + v * 1117 + p * 29 + d * 53) = u * 131 + v * 1117 + p * 29 + d * 53 := w64 (by omega) (by omega)
        have f13 : wrap64 ((u * 131 + v * 1117 + p * 29 + d * 53) / 64) = (u * 131 + v * 1117 + p * 29 + d * 53) / 64 := w64 (by omega) (by omega)
        have f14 : wrap64 (p + 1) = p + 1 := w64 (by omega) (by omega)
        simp only [spec_l20Rd_pick.j0, e, e1, f14, e1', f1, f2, e3, e4, e5, hu, hv, hd, f3, f4, f5, f6, f7, f8, f9, f10, f11, f12, e6, f13, Bool.false_eq_true, if_false]
        exact ev_neg hlt (ev_neg (by omega) (ev_pos m1a (ev_pos m1b (ev_pos m2a (ev_pos m2b (ev_neg (by omega) (Ev.now _)))))))
theorem open_ev {l : List Int} (hl : ∀ x ∈ l, (Lit.int .u8 x).wf = true) : ∃ b, spec_l20Open.f l = some (b, 0) ∧ BytesOk b := by
  have hw : ∀ x ∈ l, 0 ≤ x ∧ x ≤ 255 := fun x hx => by
    have := hl x hx
    simp [Lit.wf, IntKind.min, IntKind.max, IntKind.bits, IntKind.signed] at this
    omega
  by_cases h : (l.length : Int) > 2000
  · exact ⟨l.take 2000, by simp (disch := omega) only [spec_l20Open.f, if_pos], fun x hx => hw x (List.mem_of_mem_take hx), by rw [List.length_take]; omega⟩
  · exact ⟨l, by simp (disch := omega) only [spec_l20Open.f, if_neg], hw, by omega⟩
theorem odd_ev {b : List Int} (hb : BytesOk b) (p n : Int) (h0 : 0 ≤ p) (hp : p ≤ 1000000000000) (hn : n ≤ 1000000000000) (hn' : 1 ≤ n) :
    ∃ r, Ev (fun k => spec_l20Rd_odd.f k b p n) (r, p + 1) := by
  obtain ⟨r, hr, h1, h2, h3⟩ := pick_ev hb p n h0 hp hn
  refine ⟨r == wrap64 (n - 1), ?_⟩
  simp only [spec_l20Rd_odd.f]
  exact ev_pos (by omega) (ev_bind hr (Ev.now _))
theorem odd0 (b : List Int) (p : Int) : ∀ k, spec_l20Rd_odd.f k b p 0 = some (false, p) := fun k => by simp [spec_l20Rd_odd.f]
theorem odd0_ev (b : List Int) (p : Int) : Ev (fun k => spec_l20Rd_odd.f k b p 0) (false, p) := Ev.congr (odd0 b p) (Ev.now _)
theorem drawUrn_loop {b : List Int} (hb : BytesOk b) : ∀ (d : Nat) (l : List Int) (p : Int), l.length + d ≤ 3 → 1 ≤ l.length + d → (∀ x ∈ l, 0 ≤ x ∧ x ≤ 5) → 0 ≤ p → p + (d : Int) ≤ 1000000000 →
    ∃ o, Ev (fun k => spec_l20Urn.l0 k 0 l (d : Int) b p) (o, p + d) ∧ o.length = l.length + d ∧ ∀ x ∈ o, 0 ≤ x ∧ x ≤ 5 := by
  intro d
  induction d with
  | zero =>
    intro l p hd hd1 hr h0 hp
    refine ⟨l, ev_suc ?_, by simp, hr⟩
    simp only [spec_l20Urn.l0]
    refine ev_neg (by omega) (ev_bind (odd0_ev b p) (ev_neg (by simp) (ev_now (by simp))))
  | succ d ih =>
    intro l p hd hd1 hr h0 hp
    obtain ⟨r, hr1, r0, r1, _⟩ := pick_ev hb p 6 h0 (by omega) (by omega)
    have hr6 := r1 (by omega)
    obtain ⟨o, ho, ho1, ho2⟩ := ih (l ++ [r]) (p + 1) (by simp; omega) (by simp; omega) (by
      intro x hx
      rcases List.mem_append.1 hx with hx | hx
      · exact hr x hx
      · rw [List.mem_singleton] at hx; subst hx; omega) (by omega) (by omega)
    refine ⟨o, ev_suc ?_, by rw [ho1]; simp; omega, ho2⟩
    simp only [spec_l20Urn.l0]
    refine ev_pos (by omega) (ev_bind hr1 (ev_pos (by omega) ?_))
    rw [w64 (by omega) (by omega)]
    have e : ((d + 1 : Nat) : Int) - 1 = (d : Int) := by omega
    simp only [e]
    refine ev_eq ho ?_
    congr 1
    omega
theorem drawUrn_ev {b : List Int} (hb : BytesOk b) (p : Int) (h0 : 0 ≤ p) (hp : p ≤ 100000000) :
    ∃ o p', Ev (fun k => spec_l20Urn.f k b p 0) (o, p') ∧ 1 ≤ o.length ∧ o.length ≤ 3 ∧ (∀ x ∈ o, 0 ≤ x ∧ x ≤ 5) ∧ p ≤ p' ∧ p' ≤ p + 4 := by
  obtain ⟨r, hr, r0, r1, _⟩ := pick_ev hb p 3 h0 (by omega) (by omega)
  have hr3 := r1 (by omega)
  obtain ⟨o, ho, ho1, ho2⟩ := drawUrn_loop hb (1 + r).toNat [] (p + 1) (by simp; omega) (by simp; omega) (by simp) (by omega) (by omega)
  refine ⟨o, p + 1 + ((1 + r).toNat : Int), ?_, by rw [ho1]; simp; omega, by rw [ho1]; simp; omega, ho2, by omega, by omega⟩
  simp only [spec_l20Urn.f]
  refine ev_bind hr ?_
  simp only []
  rw [w64 (by omega) (by omega)]
  have e : ((1 + r).toNat : Int) = 1 + r := by omega
  rw [e] at ho ⊢
  exact ho
theorem drawPlace_loop {b : List Int} (hb : BytesOk b) (n : Int) (hn : 0 ≤ n ∧ n ≤ 1000) (u : List Int) (s : Int) (hu : 1 ≤ u.length ∧ u.length ≤ 3) (hs : -1 ≤ s ∧ s ≤ 3) : ∀ (d : Nat) (w : List Int) (p : Int), d ≤ 4 → w.length + d ≤ 4 → 0 ≤ p → p + (d : Int) ≤ 1000000000 →
    ∃ u' s' w' p', Ev (fun k => spec_l20Place.l0 k n (d : Int) b p u s w) (u', s', w', p') ∧ u'.length ≤ 3 ∧ w'.length ≤ 5 ∧ -1 ≤ s' ∧ s' ≤ 4 ∧ p ≤ p' ∧ p' ≤ p + d + 2 ∧ (n = 0 → u' = u ∧ s' = s) := by
  intro d
  induction d with
  | zero =>
    intro w p hd hd1 h0 hp
    by_cases hn0 : n = 0
    · subst hn0
      refine ⟨u, s, w, p, ev_suc ?_, hu.2, by omega, by omega, by omega, by omega, by omega, fun _ => ⟨rfl, rfl⟩⟩
      simp only [spec_l20Place.l0]
      exact ev_neg (by omega) (ev_bind (odd0_ev b p) (ev_neg (by simp) (Ev.now _)))
    · obtain ⟨q, hq⟩ := odd_ev hb p n (by omega) (by omega) (by omega) (by omega)
      cases q with
      | false =>
        refine ⟨u, s, w, p + 1, ev_suc ?_, hu.2, by omega, by omega, by omega, by omega, by omega, fun h => absurd h hn0⟩
        simp only [spec_l20Place.l0]
        exact ev_neg (by omega) (ev_bind hq (ev_neg (by simp) (Ev.now _)))
      | true =>
        obtain ⟨r, hr, r0, r1, _⟩ := pick_ev hb (p + 1) 3 (by omega) (by omega) (by omega)
        have hr3 := r1 (by omega)
        by_cases e0 : r = 0
        · refine ⟨u, 4, w, p + 1 + 1, ev_suc ?_, hu.2, by omega, by omega, by omega, by omega, by omega, fun h => absurd h hn0⟩
          simp only [spec_l20Place.l0]
          exact ev_neg (by omega) (ev_bind hq (ev_pos rfl (ev_bind hr (ev_pos e0 (Ev.now _)))))
        · by_cases e1 : r = 1
          · refine ⟨u, s, w ++ [3], p + 1 + 1, ev_suc ?_, hu.2, by simp; omega, by omega, by omega, by omega, by omega, fun h => absurd h hn0⟩
            simp only [spec_l20Place.l0]
            exact ev_neg (by omega) (ev_bind hq (ev_pos rfl (ev_bind hr (ev_neg e0 (ev_pos e1 (ev_pos (by omega) (Ev.now _)))))))
          · refine ⟨[], 0, [], p + 1 + 1, ev_suc ?_, by simp, by simp, by omega, by omega, by omega, by omega, fun h => absurd h hn0⟩
            simp only [spec_l20Place.l0]
            exact ev_neg (by omega) (ev_bind hq (ev_pos rfl (ev_bind hr (ev_neg e0 (ev_neg e1 (Ev.now _))))))
  | succ d ih =>
    intro w p hd hd1 h0 hp
    obtain ⟨r, hr, r0, r1, _⟩ := pick_ev hb p (u.length : Int) h0 (by omega) (by omega)
    have e : ((d + 1 : Nat) : Int) - 1 = (d : Int) := by omega
    have hP := specPlace_ev u s (w ++ [r]) (by omega) (by simp; omega)
    by_cases hB : placeB u s (w ++ [r]) = true
    · obtain ⟨u', s', w', p', h, h1, h2, h3, h4, h5, h6, h7⟩ := ih (w ++ [r]) (p + 1) (by omega) (by simp; omega) (by omega) (by omega)
      refine ⟨u', s', w', p', ev_suc ?_, h1, h2, h3, h4, by omega, by omega, h7⟩
      simp only [spec_l20Place.l0]
      refine ev_pos (by omega) (ev_bind (Ev.now _) (ev_pos (by simp; omega) (ev_bind (Ev.now _) (ev_bind hr (ev_pos (by simp; omega) (ev_bind (Ev.now _) ?_))))))
      simp only [List.nil_append]
      refine ev_bind hP (ev_pos hB ?_)
      rw [w64 (by omega) (by omega), e]
      exact h
    · obtain ⟨u', s', w', p', h, h1, h2, h3, h4, h5, h6, h7⟩ := ih w (p + 1) (by omega) (by omega) (by omega) (by omega)
      refine ⟨u', s', w', p', ev_suc ?_, h1, h2, h3, h4, by omega, by omega, h7⟩
      simp only [spec_l20Place.l0]
      refine ev_pos (by omega) (ev_bind (Ev.now _) (ev_pos (by simp; omega) (ev_bind (Ev.now _) (ev_bind hr (ev_pos (by simp; omega) (ev_bind (Ev.now _) ?_))))))
      simp only [List.nil_append]
      refine ev_bind hP (ev_neg hB ?_)
      rw [w64 (by omega) (by omega), e]
      exact h
theorem drawPlace_ev {b : List Int} (hb : BytesOk b) (p n : Int) (hn : 0 ≤ n ∧ n ≤ 1000) (h0 : 0 ≤ p) (hp : p ≤ 10000000) :
    ∃ u s w p', Ev (fun k => spec_l20Place.f k b p n) (u, s, w, p') ∧ u.length ≤ 3 ∧ w.length ≤ 5 ∧ -1 ≤ s ∧ s ≤ 4 ∧ p ≤ p' ∧ p' ≤ p + 12 ∧ (n = 0 → 1 ≤ u.length) := by
  obtain ⟨u, p1, e1, a1, a2, a3, a4, a5⟩ := drawUrn_ev hb p h0 (by omega)
  obtain ⟨r, hr, r0, r1, _⟩ := pick_ev hb p1 5 (by omega) (by omega) (by omega)
  have hr5 := r1 (by omega)
  obtain ⟨q, hq, q0, q1, _⟩ := pick_ev hb (p1 + 1) 5 (by omega) (by omega) (by omega)
  have hq5 := q1 (by omega)
  obtain ⟨u', s', w', p', h, h1, h2, h3, h4, h5, h6, h7⟩ := drawPlace_loop hb n hn u (r - 1) ⟨a1, a2⟩ ⟨by omega, by omega⟩ q.toNat [] (p1 + 1 + 1) (by omega) (by simp; omega) (by omega) (by omega)
  refine ⟨u', s', w', p', ?_, h1, h2, h3, h4, by omega, by omega, fun hz => by rw [(h7 hz).1]; exact a1⟩
  simp only [spec_l20Place.f]
  refine ev_bind e1 (ev_bind hr (ev_bind hq ?_))
  simp only []
  rw [w64 (by omega) (by omega)]
  have e : (q.toNat : Int) = q := by omega
  rw [e] at h
  exact h
theorem alive_ev : Ev (fun k => laws_alive.f k) true := Ev.of laws_alive.mono (k := 5) (by decide +kernel)

end FnDeskNew_parts
open FnDeskNew_parts
theorem FnDeskNew : laws_FnDeskNew.Pure := by
  intro l _ hl2 hw
  refine Ev.rounds ?_
  simp only [laws_FnDeskNew.f]
  by_cases h : (l.length : Int) > 1048576
  · exact ev_pos h (Ev.now _)
  · refine ev_neg h ?_
    obtain ⟨b, hb, hB⟩ := open_ev hw
    obtain ⟨u, s, w, p', hd, h1, h2, h3, h4, _⟩ := drawPlace_ev hB 0 3 ⟨by omega, by omega⟩ (by omega) (by omega)
    simp only [spec_DrawDeskNew.f, hb]
    refine ev_bind (ev_bind (Ev.now _) (ev_bind hd (Ev.now _))) ?_
    refine ev_bind (implNew_ev u s w (by omega) (by omega)) (ev_bind (specNew_ev u s w (by omega) (by omega)) ?_)
    by_cases hP : placeB u s w = true
    · simp only [if_pos hP]
      obtain ⟨v, hv, hv'⟩ := sameDesk_ev u s w [] u s w [] (by omega) (by omega) (by simp) (by simp)
      obtain rfl := hv'.2 ⟨⟨rfl, rfl, rfl⟩, rfl⟩
      refine ev_bind hv (ev_pos rfl (ev_suc ?_))
      simp only [laws_FnDeskNew.j0]
      have hD : deskB u s w [] = true := (deskB_iff _ _ _ _).2 ⟨by simp, hP, by simp⟩
      obtain ⟨v2, hv2, hv2'⟩ := samePlace_ev u s w u s w (by omega) (by omega)
      obtain rfl := hv2'.2 ⟨rfl, rfl, rfl⟩
      refine ev_neg (by simp) (ev_pos (by simp) (ev_bind (implDesk_ev u s w [] (by omega) (by omega) (by simp) (by simp)) (ev_pos hD (ev_bind hv2 (ev_pos rfl (ev_now (by simp)))))))
    · simp only [if_neg hP]
      obtain ⟨v, hv, hv'⟩ := sameDesk_ev [] 0 [] [] [] 0 [] [] (by simp) (by simp) (by simp) (by simp)
      obtain rfl := hv'.2 ⟨⟨rfl, rfl, rfl⟩, rfl⟩
      refine ev_bind hv (ev_pos rfl (ev_suc ?_))
      simp only [laws_FnDeskNew.j0, laws_noDesk.f]
      refine ev_neg (by simp) (ev_neg (by simp) (ev_bind (ev_bind hv (Ev.now _)) (ev_pos rfl (ev_bind (implPlace_ev u s w (by omega) (by omega)) (ev_neg hP (ev_bind alive_ev (Ev.now _)))))))
end Go.Proofs.Ytlnbobpmjbcejaa.Pure
