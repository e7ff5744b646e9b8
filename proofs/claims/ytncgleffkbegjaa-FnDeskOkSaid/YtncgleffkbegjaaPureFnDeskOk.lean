/- For the law FnDeskOk: for every code the drawn desk is told by the program as by the reference; without any places of before a desk is one; and nothing is none. The conditions: the bytes or numbers that come in are of their kinds, as the statement says. -/
import Derived.Test.YtncgleffkbegjaaMFnDeskOkx16
import Derived.Test.YtncgleffkbegjaaBase
import Derived.Test.YtncgleffkbegjaaMath
import Derived.Test.YtncgleffkbegjaaPlace
import Derived.Test.YtncgleffkbegjaaText
namespace Go.Proofs.Ytncgleffkbegjaa.Pure
open Go.RowKit Go.Proofs.Ytncgleffkbegjaa.MFnDeskOk Go.Proofs.YtncgleffkbegjaaW.PrintWords Go.Proofs.YtncgleffkbegjaaW.PrintLast Go.Proofs.Ytncgleffkbegjaa.Base
namespace FnDeskOk_parts
theorem colours_ev (n : Int) : impl_coloursOk.f n = some (decide (1 ≤ n) && decide (n ≤ 3)) := by
  unfold impl_coloursOk.f
  by_cases h : n ≥ 1
  · rw [if_pos h]; simp; omega
  · rw [if_neg h]; simp; omega
theorem urnB_no {u : List Int} {x : Int} (hx : x ∈ u) (h : ¬ (0 ≤ x ∧ x ≤ 40)) : urnB u = false := by
  cases e : urnB u with
  | false => rfl
  | true => exact absurd (((urnB_iff u).1 e).1 x hx) h
theorem implUrn_loop (l : List Int) (hl : (l.length : Int) ≤ 1000000000000) : ∀ (suf pre : List Int), l = pre ++ suf → (∀ x ∈ pre, 0 ≤ x ∧ x ≤ 40) →
    Ev (fun k => impl_UrnOk.l0 k l l (l.length : Int) (pre.length : Int)) (urnB l) := by
  intro suf
  induction suf with
  | nil =>
    intro pre h hr
    have e : l.length = pre.length := by rw [h]; simp
    refine ev_suc ?_
    simp (disch := omega) only [impl_UrnOk.l0, if_neg, colours_ev]
    refine ev_now ?_
    rw [List.append_nil] at h
    subst h
    rw [Bool.eq_iff_iff, urnB_iff]
    simp only [Bool.and_eq_true, decide_eq_true_eq]
    exact ⟨fun h => ⟨hr, by omega, by omega⟩, fun h => ⟨by omega, by omega⟩⟩
  | cons x t ih =>
    intro pre h hr
    have e : l.length = pre.length + (t.length + 1) := by rw [h]; simp
    have hx : rd l (pre.length : Int) = x := by rw [h]; exact rd_at _ _ _
    have hxl : x ∈ l := by rw [h]; simp
    refine ev_suc ?_
    simp (disch := omega) only [impl_UrnOk.l0, hx, if_pos]
    by_cases h1 : x < 0
    · exact ev_pos h1 (ev_now (urnB_no hxl (by omega)).symm)
    · refine ev_neg h1 ?_
      by_cases h2 : x > 40
      · exact ev_pos h2 (ev_now (urnB_no hxl (by omega)).symm)
      · refine ev_neg h2 ?_
        rw [w64 (by omega) (by omega), len_at pre x]
        refine ih (pre ++ [x]) (by rw [h]; simp) ?_
        intro y hy
        rcases List.mem_append.1 hy with hy | hy
        · exact hr y hy
        · rw [List.mem_singleton] at hy; subst hy; omega
theorem implUrnOk_ev (l : List Int) (hl : (l.length : Int) ≤ 1000000000000) : Ev (fun k => impl_UrnOk.f k l) (urnB l) := by
  simp only [impl_UrnOk.f]
  exact implUrn_loop l hl l [] rfl (by simp)
theorem implStart_loop (l : List Int) (hl : (l.length : Int) ≤ 1000000000000) : ∀ (suf pre : List Int), l = pre ++ suf → (∀ x ∈ pre, x ≤ 10) →
    Ev (fun k => impl_StartOk.l0 k l l (l.length : Int) (pre.length : Int)) (startB l) := by
  intro suf
  induction suf with
  | nil =>
    intro pre h hr
    have e : l.length = pre.length := by rw [h]; simp
    refine ev_suc ?_
    simp (disch := omega) only [impl_StartOk.l0, if_neg]
    refine ev_bind (implUrnOk_ev l hl) (ev_now ?_)
    rw [List.append_nil] at h
    subst h
    have : (l.all fun x => decide (x ≤ 10)) = true := by simpa using hr
    simp [startB, this]
  | cons x t ih =>
    intro pre h hr
    have e : l.length = pre.length + (t.length + 1) := by rw [h]; simp
    have hx : rd l (pre.length : Int) = x := by rw [h]; exact rd_at _ _ _
    have hxl : x ∈ l := by rw [h]; simp
    refine ev_suc ?_
    simp (disch := omega) only [impl_StartOk.l0, hx, if_pos]
    by_cases h1 : x > 10
    · refine ev_pos h1 (ev_now ?_)
      cases e : startB l with
      | false => rfl
      | true => have := ((startB_iff l).1 e).1 x hxl; omega
    · refine ev_neg h1 ?_
      rw [w64 (by omega) (by omega), len_at pre x]
      refine ih (pre ++ [x]) (by rw [h]; simp) ?_
      intro y hy
      rcases List.mem_append.1 hy with hy | hy
      · exact hr y hy
      · rw [List.mem_singleton] at hy; subst hy; omega
theorem implStartOk_ev (l : List Int) (hl : (l.length : Int) ≤ 1000000000000) : Ev (fun k => impl_StartOk.f k l) (startB l) := by
  simp only [impl_StartOk.f]
  exact implStart_loop l hl l [] rfl (by simp)
theorem wordB_no {n : Int} {w : List Int} {x : Int} (hx : x ∈ w) (h : ¬ (0 ≤ x ∧ x < n)) : wordB n w = false := by
  cases e : wordB n w with
  | false => rfl
  | true => exact absurd (((wordB_iff n w).1 e).1 x hx) h
theorem implWord_loop (n : Int) (l : List Int) (hl : (l.length : Int) ≤ 1000000000000) : ∀ (suf pre : List Int), l = pre ++ suf → (∀ x ∈ pre, 0 ≤ x ∧ x < n) →
    Ev (fun k => impl_WordOk.l0 k n l l (l.length : Int) (pre.length : Int)) (wordB n l) := by
  intro suf
  induction suf with
  | nil =>
    intro pre h hr
    have e : l.length = pre.length := by rw [h]; simp
    refine ev_suc ?_
    simp (disch := omega) only [impl_WordOk.l0, if_neg, colours_ev, Option.bind_some]
    rw [List.append_nil] at h
    subst h
    by_cases hn : 1 ≤ n ∧ n ≤ 3
    · refine ev_pos (by simp [hn]) (ev_now ?_)
      rw [Bool.eq_iff_iff, wordB_iff]
      simp only [decide_eq_true_eq]
      exact ⟨fun h => ⟨hr, by omega, hn⟩, fun h => by omega⟩
    · refine ev_neg (by simp only [Bool.and_eq_true, decide_eq_true_eq]; exact hn) (ev_now ?_)
      cases e : wordB n l with
      | false => rfl
      | true => exact absurd ((wordB_iff n l).1 e).2.2 hn
  | cons x t ih =>
    intro pre h hr
    have e : l.length = pre.length + (t.length + 1) := by rw [h]; simp
    have hx : rd l (pre.length : Int) = x := by rw [h]; exact rd_at _ _ _
    have hxl : x ∈ l := by rw [h]; simp
    refine ev_suc ?_
    simp (disch := omega) only [impl_WordOk.l0, hx, if_pos]
    by_cases h1 : x < 0
    · exact ev_pos h1 (ev_now (wordB_no hxl (by omega)).symm)
    · refine ev_neg h1 ?_
      by_cases h2 : x ≥ n
      · exact ev_pos h2 (ev_now (wordB_no hxl (by omega)).symm)
      · refine ev_neg h2 ?_
        rw [w64 (by omega) (by omega), len_at pre x]
        refine ih (pre ++ [x]) (by rw [h]; simp) ?_
        intro y hy
        rcases List.mem_append.1 hy with hy | hy
        · exact hr y hy
        · rw [List.mem_singleton] at hy; subst hy; omega
theorem implWordOk_ev (n : Int) (l : List Int) (hl : (l.length : Int) ≤ 1000000000000) : Ev (fun k => impl_WordOk.f k n l) (wordB n l) := by
  simp only [impl_WordOk.f]
  exact implWord_loop n l hl l [] rfl (by simp)
theorem clone_eq (l : List Int) (hl : (l.length : Int) ≤ 1000000000000) : slices_Clone_int_int.f l = some l := by
  unfold slices_Clone_int_int.f
  rw [if_pos (by omega)]
theorem added_loop (b : List Int) (hb : (b.length : Int) ≤ 1000000000) (hB : Within 1000000000 b) : ∀ (bs q p zs : List Int), b = q ++ bs → p.length = q.length → bs.length ≤ zs.length → Within 1000000000 zs →
    Ev (fun k => impl_added.l0 k (p ++ zs) b (b.length : Int) (q.length : Int)) (p ++ zipAdd zs bs) := by
  intro bs
  induction bs with
  | nil =>
    intro q p zs h _ _ _
    have e : b.length = q.length := by rw [h]; simp
    refine ev_suc ?_
    simp (disch := omega) only [impl_added.l0, if_neg]
    exact ev_now (by cases zs <;> simp [zipAdd])
  | cons y t ih =>
    intro q p zs h hpq hle hA
    cases zs with
    | nil => simp at hle
    | cons x zs =>
      have e : b.length = q.length + (t.length + 1) := by rw [h]; simp
      have hy : rd b (q.length : Int) = y := by rw [h]; exact rd_at _ _ _
      have hx : rd (p ++ x :: zs) (q.length : Int) = x := by rw [← hpq]; exact rd_at _ _ _
      have hl : ((p ++ x :: zs).length : Int) = (q.length : Int) + (zs.length + 1) := by simp; omega
      have by_ := hB y (by rw [h]; simp)
      have bx_ := hA x (by simp)
      refine ev_suc ?_
      simp (disch := omega) only [impl_added.l0, hl, hx, hy, if_pos, w64, Int.toNat_natCast]
      have hset : (p ++ x :: zs).set q.length (x + y) = p ++ [x + y] ++ zs := by rw [← hpq, set_at]; simp
      rw [hset, len_at q y]
      have := ih (q ++ [y]) (p ++ [x + y]) zs (by rw [h]; simp) (by simp [hpq]) (by simpa using hle) (fun z hz => hA z (by simp [hz]))
      simpa [zipAdd] using this
theorem added_ev (u : List Int) (s c : Int) (hu : u.length ≤ 3) (hs : -3 ≤ s ∧ s ≤ 3) (hc : 0 ≤ c ∧ c < (u.length : Int)) (hw : Within 1000000 u) :
    Ev (fun k => impl_added.f k u (rd_L1 (ruleM u.length s) c)) (bump s u c) := by
  have er : rd_L1 (ruleM u.length s) c = (List.replicate u.length (0 : Int)).set c.toNat s := ruleM_row hc.1 hc.2
  have hlen : ((List.replicate u.length (0 : Int)).set c.toNat s).length = u.length := by simp
  simp only [impl_added.f, clone_eq u (by omega), er, Option.bind_some]
  have hW := within_row (n := u.length) (c := c) hs
  have := added_loop ((List.replicate u.length (0 : Int)).set c.toNat s) (by omega) (fun x hx => by have := hW x hx; omega) ((List.replicate u.length (0 : Int)).set c.toNat s) [] [] u (by simp) rfl (by omega) (fun x hx => by have := hw x hx; omega)
  refine ev_eq this ?_
  rw [List.nil_append]
  exact zipAdd_row hu hc.1 hc.2
theorem after_loop (n : Nat) (s : Int) (hn : n ≤ 3) (hs : -3 ≤ s ∧ s ≤ 3) (w : List Int) (hw : w.length ≤ 100) (hwn : ∀ c ∈ w, 0 ≤ c ∧ c < (n : Int)) : ∀ (suf pre u : List Int) (b : Int), w = pre ++ suf → u.length = n → Within b u → 0 ≤ b → b + 3 * suf.length ≤ 1000000 →
    Ev (fun k => impl_after.l0 k (ruleM n s) u w (w.length : Int) (pre.length : Int)) (afterM s u suf) := by
  intro suf
  induction suf with
  | nil =>
    intro pre u b h _ _ _ _
    have e : w.length = pre.length := by rw [h]; simp
    refine ev_suc ?_
    simp (disch := omega) only [impl_after.l0, if_neg]
    exact ev_now rfl
  | cons x t ih =>
    intro pre u b h hu hb hb0 hb1
    have e : w.length = pre.length + (t.length + 1) := by rw [h]; simp
    have hx : rd w (pre.length : Int) = x := by rw [h]; exact rd_at _ _ _
    have hxn := hwn x (by rw [h]; simp)
    have hrl := ruleM_len n s
    simp only [List.length_cons] at hb1
    refine ev_suc ?_
    simp (disch := omega) only [impl_after.l0, hx, if_pos, hrl]
    subst hu
    refine ev_bind (added_ev u s x hn hs hxn (fun y hy => by have := hb y hy; omega)) ?_
    rw [w64 (by omega) (by omega), len_at pre x]
    rw [afterM_cons]
    have := ih (pre ++ [x]) (bump s u x) (b + 3) (by rw [h]; simp) (bump_len _ _ _) (within_bump hb hs x hxn) (by omega) (by omega)
    exact this
theorem after_ev (u : List Int) (s : Int) (w : List Int) (hu : u.length ≤ 3) (hs : -3 ≤ s ∧ s ≤ 3) (hw : w.length ≤ 100) (hwn : ∀ c ∈ w, 0 ≤ c ∧ c < (u.length : Int)) (hb : Within 1000 u) :
    Ev (fun k => impl_after.f k u (ruleM u.length s) w) (afterM s u w) := by
  simp only [impl_after.f, clone_eq u (by omega), Option.bind_some]
  exact after_loop u.length s hu hs w hw hwn w [] u 1000 rfl rfl hb (by omega) (by omega)
theorem ruleWays_loop (u : List Int) (s : Int) (w : List Int) (hu : u.length ≤ 3) (hs : -3 ≤ s ∧ s ≤ 3) (hw : w.length ≤ 6) (hwn : ∀ c ∈ w, 0 ≤ c ∧ c < (u.length : Int)) (hb : Within 10 u) : ∀ (suf pre : List Int) (m : Int), w = pre ++ suf → 0 ≤ m → m ≤ pw pre.length →
    Ev (fun k => impl_ruleWays.l0 k u (ruleM u.length s) w m w (w.length : Int) (pre.length : Int)) (m * waysM s (afterM s u pre) suf) := by
  intro suf
  induction suf with
  | nil =>
    intro pre m h h0 h1
    have e : w.length = pre.length := by rw [h]; simp
    refine ev_suc ?_
    simp (disch := omega) only [impl_ruleWays.l0, if_neg]
    exact ev_now (by simp [waysM])
  | cons x t ih =>
    intro pre m h h0 h1
    have e : w.length = pre.length + (t.length + 1) := by rw [h]; simp
    have hx : rd w (pre.length : Int) = x := by rw [h]; exact rd_at _ _ _
    have hxn := hwn x (by rw [h]; simp)
    have hpn : ∀ c ∈ pre, 0 ≤ c ∧ c < (u.length : Int) := fun c hc => hwn c (by rw [h]; simp [hc])
    have htake : w.take ((pre.length : Int)).toNat = pre := by rw [h]; simp
    have hal := afterM_len s pre u
    have hwi := within_after hs pre 10 u hb hpn
    have hv := hwi _ (rd_mem (b := afterM s u pre) (i := x) hxn.1 (by omega))
    have hmx : 0 ≤ mx 0 (rd (afterM s u pre) x) ∧ mx 0 (rd (afterM s u pre) x) ≤ 40 := by unfold mx; split <;> omega
    have hle := mul_le40 (n := pre.length) h0 h1 hmx.1 hmx.2
    have hnn := Int.mul_nonneg h0 hmx.1
    have hpw := pw_le (n := pre.length + 1) (by omega)
    refine ev_suc ?_
    simp (disch := omega) only [impl_ruleWays.l0, hx, if_pos, htake]
    refine ev_bind (after_ev u s pre hu hs (by omega) hpn (fun y hy => by have := hb y hy; omega)) ?_
    simp (disch := omega) only [hal, if_pos, w64]
    simp only [waysM, ← Int.mul_assoc]
    by_cases hz : m * mx 0 (rd (afterM s u pre) x) = 0
    · exact ev_pos hz (ev_now (by rw [hz]; simp))
    · refine ev_neg hz ?_
      rw [len_at pre x]
      have := ih (pre ++ [x]) (m * mx 0 (rd (afterM s u pre) x)) (by rw [h]; simp) hnn (by simpa using hle)
      rw [afterM_snoc] at this
      exact this
theorem ruleWays_ev (u : List Int) (s : Int) (w : List Int) (hu : u.length ≤ 3) (hs : -3 ≤ s ∧ s ≤ 3) (hw : w.length ≤ 6) (hwn : ∀ c ∈ w, 0 ≤ c ∧ c < (u.length : Int)) (hb : Within 10 u) :
    Ev (fun k => impl_ruleWays.f k u (ruleM u.length s) w) (waysM s u w) := by
  simp only [impl_ruleWays.f]
  exact ev_eq (ruleWays_loop u s w hu hs hw hwn hb w [] 1 rfl (by omega) (by decide)) (by simp [afterM])
theorem iSameRule_all : ∀ n : Fin 4, ∀ s : Fin 5, n.val = 0 ∨ impl_SameRule.f 20 (n.val : Int) ((s.val : Int) - 1) = some (ruleM n.val ((s.val : Int) - 1)) := by decide +kernel
theorem iSameRule_ev (n : Nat) (s : Int) (h1 : 1 ≤ n) (h3 : n ≤ 3) (hs : -1 ≤ s ∧ s ≤ 3) : Ev (fun k => impl_SameRule.f k (n : Int) s) (ruleM n s) := by
  have h := (iSameRule_all ⟨n, by omega⟩ ⟨(s + 1).toNat, by omega⟩).resolve_left (by simp only []; omega)
  have e : (((s + 1).toNat : Nat) : Int) - 1 = s := by omega
  simp only [e] at h
  exact Ev.of (fun k => impl_SameRule.mono _ _ k) h
theorem implPlace_ev (u : List Int) (s : Int) (w : List Int) (hu : (u.length : Int) ≤ 1000000000000) (hw : (w.length : Int) ≤ 1000000000000) : Ev (fun k => impl_PlaceOk.f k u s w) (placeB u s w) := by
  have hj : ∀ r, r = placeB u s w → r = false → Ev (fun k => impl_PlaceOk.j0 k true u s w) r := by
    rintro r _ rfl
    refine ev_suc ?_
    simp only [impl_PlaceOk.j0, if_true]
    exact Ev.now _
  simp only [impl_PlaceOk.f]
  refine ev_bind (implStartOk_ev u hu) ?_
  by_cases hS : startB u = true
  · refine ev_pos hS ?_
    by_cases h1 : s < -1
    · refine ev_pos h1 (hj _ rfl ?_)
      unfold placeB; simp; omega
    · refine ev_neg h1 ?_
      by_cases h2 : s > 3
      · refine ev_pos h2 (hj _ rfl ?_)
        unfold placeB; simp; omega
      · refine ev_neg h2 (ev_bind (implWordOk_ev (u.length : Int) w hw) ?_)
        have hu3 := (startB_iff u).1 hS
        by_cases hW : wordB (u.length : Int) w = true
        · have hw6 := (wordB_iff _ _).1 hW
          refine ev_suc ?_
          simp only [impl_PlaceOk.j0, hW, Bool.not_true]
          refine ev_neg (by simp) (ev_bind (iSameRule_ev u.length s hu3.2.1 hu3.2.2 ⟨by omega, by omega⟩) (ev_bind (ruleWays_ev u s w hu3.2.2 ⟨by omega, by omega⟩ hw6.2.1 hw6.1 (fun x hx => by have := hu3.1 x hx; omega)) (ev_now ?_)))
          have e1 : decide (-1 ≤ s) = true := by simp; omega
          have e2 : decide (s ≤ 3) = true := by simp; omega
          simp [placeB, hS, hW, e1, e2]
        · have hf : wordB (u.length : Int) w = false := by simpa using hW
          rw [hf]
          exact hj _ rfl (by simp [placeB, hf])
  · refine ev_neg hS (hj _ rfl ?_)
    have hf : startB u = false := by simpa using hS
    simp [placeB, hf]
theorem rdP_at (p : List S26) (a : S26) (t : List S26) : rd_T26 (p ++ a :: t) (p.length : Int) = a := by simp [rd_T26]
/-- A place whose lists aren't too long to be counted. -/
def Sized1 (q : S26) : Prop := (q.f0.length : Int) ≤ 1000000000000 ∧ (q.f2.length : Int) ≤ 1000000000000
def deskB (u : List Int) (s : Int) (w : List Int) (a : List S26) : Bool := (a.all fun q => placeB q.f0 q.f1 q.f2) && (placeB u s w && decide (a.length ≤ 8))
theorem deskB_iff (u : List Int) (s : Int) (w : List Int) (a : List S26) : deskB u s w a = true ↔ (∀ q ∈ a, placeB q.f0 q.f1 q.f2 = true) ∧ placeB u s w = true ∧ a.length ≤ 8 := by simp [deskB]
theorem implDesk_loop (u : List Int) (s : Int) (w : List Int) (a : List S26) (hu : (u.length : Int) ≤ 1000000000000) (hw : (w.length : Int) ≤ 1000000000000) (hl : (a.length : Int) ≤ 1000000000000) (hA : ∀ q ∈ a, Sized1 q) : ∀ (x p : List S26), a = p ++ x → (∀ q ∈ p, placeB q.f0 q.f1 q.f2 = true) →
    Ev (fun k => impl_DeskOk.l0 k a (a.length : Int) (p.length : Int) u s w a) (deskB u s w a) := by
  intro x
  induction x with
  | nil =>
    intro p h hp
    have e : a.length = p.length := by rw [h]; simp
    refine ev_suc ?_
    simp (disch := omega) only [impl_DeskOk.l0, if_neg]
    rw [List.append_nil] at h
    subst h
    refine ev_bind (implPlace_ev u s w hu hw) ?_
    have hall : (a.all fun q => placeB q.f0 q.f1 q.f2) = true := by simpa using hp
    by_cases hP : placeB u s w = true
    · refine ev_pos hP (ev_now ?_)
      simp only [deskB, hall, hP, Bool.true_and]
      rw [Bool.eq_iff_iff]; simp only [decide_eq_true_eq]; omega
    · refine ev_neg hP (ev_now ?_)
      have hf : placeB u s w = false := by simpa using hP
      simp [deskB, hf]
  | cons c x ih =>
    intro p h hp
    have e : a.length = p.length + (x.length + 1) := by rw [h]; simp
    have hx : rd_T26 a (p.length : Int) = c := by rw [h]; exact rdP_at _ _ _
    have hca : c ∈ a := by rw [h]; simp
    have hc := hA c hca
    refine ev_suc ?_
    simp (disch := omega) only [impl_DeskOk.l0, hx, if_pos, w64]
    refine ev_bind (implPlace_ev c.f0 c.f1 c.f2 hc.1 hc.2) ?_
    by_cases hP : placeB c.f0 c.f1 c.f2 = true
    · refine ev_pos hP ?_
      rw [len_at p c]
      refine ih (p ++ [c]) (by rw [h]; simp) ?_
      intro q hq
      rcases List.mem_append.1 hq with hq | hq
      · exact hp q hq
      · rw [List.mem_singleton] at hq; subst hq; exact hP
    · refine ev_neg hP (ev_now ?_)
      cases e : deskB u s w a with
      | false => rfl
      | true => exact absurd (((deskB_iff u s w a).1 e).1 c hca) hP
theorem implDesk_ev (u : List Int) (s : Int) (w : List Int) (a : List S26) (hu : (u.length : Int) ≤ 1000000000000) (hw : (w.length : Int) ≤ 1000000000000) (hl : (a.length : Int) ≤ 1000000000000) (hA : ∀ q ∈ a, Sized1 q) :
    Ev (fun k => impl_DeskOk.f k u s w a) (deskB u s w a) := by
  simp only [impl_DeskOk.f]
  exact implDesk_loop u s w a hu hw hl hA a [] rfl (by simp)
theorem l1In_eq (a b c : Int) : spec_l1In.f a b c = some (decide (b ≤ a) && decide (a ≤ c)) := by
  unfold spec_l1In.f
  by_cases h : a ≥ b
  · rw [if_pos h]; simp; omega
  · rw [if_neg h]; simp; omega
theorem urnB_no' {u : List Int} {x : Int} (hx : x ∈ u) (h : ¬ (0 ≤ x ∧ x ≤ 40)) : urnB u = false := by
  cases e : urnB u with
  | false => rfl
  | true => exact absurd (((urnB_iff u).1 e).1 x hx) h
theorem specUrn_loop (l : List Int) (hl : (l.length : Int) ≤ 1000000000000) : ∀ (suf pre : List Int), l = pre ++ suf → (∀ x ∈ pre, 0 ≤ x ∧ x ≤ 40) →
    Ev (fun k => spec_UrnOk.l0 k l (pre.length : Int)) (urnB l) := by
  intro suf
  induction suf with
  | nil =>
    intro pre h hr
    have e : l.length = pre.length := by rw [h]; simp
    refine ev_suc ?_
    simp (disch := omega) only [spec_UrnOk.l0, if_neg, l1In_eq]
    refine ev_now ?_
    rw [List.append_nil] at h
    subst h
    rw [Bool.eq_iff_iff, urnB_iff]
    simp only [Bool.and_eq_true, decide_eq_true_eq]
    exact ⟨fun h => ⟨hr, by omega, by omega⟩, fun h => ⟨by omega, by omega⟩⟩
  | cons x t ih =>
    intro pre h hr
    have e : l.length = pre.length + (t.length + 1) := by rw [h]; simp
    have hx : rd l (pre.length : Int) = x := by rw [h]; exact rd_at _ _ _
    have hxl : x ∈ l := by rw [h]; simp
    refine ev_suc ?_
    simp (disch := omega) only [spec_UrnOk.l0, hx, if_pos, l1In_eq, Option.bind_some]
    by_cases h1 : 0 ≤ x ∧ x ≤ 40
    · refine ev_pos (by simp [h1]) ?_
      rw [w64 (by omega) (by omega), len_at pre x]
      refine ih (pre ++ [x]) (by rw [h]; simp) ?_
      intro y hy
      rcases List.mem_append.1 hy with hy | hy
      · exact hr y hy
      · rw [List.mem_singleton] at hy; subst hy; exact h1
    · exact ev_neg (by simp only [Bool.and_eq_true, decide_eq_true_eq]; exact h1) (ev_now (urnB_no' hxl h1).symm)
theorem specUrnOk_ev (l : List Int) (hl : (l.length : Int) ≤ 1000000000000) : Ev (fun k => spec_UrnOk.f k l) (urnB l) := by
  simp only [spec_UrnOk.f]
  exact specUrn_loop l hl l [] rfl (by simp)
theorem specStart_loop (l : List Int) (hl : (l.length : Int) ≤ 1000000000000) : ∀ (suf pre : List Int), l = pre ++ suf → (∀ x ∈ pre, x ≤ 10) →
    Ev (fun k => spec_StartOk.l0 k l (pre.length : Int)) (startB l) := by
  intro suf
  induction suf with
  | nil =>
    intro pre h hr
    have e : l.length = pre.length := by rw [h]; simp
    refine ev_suc ?_
    simp (disch := omega) only [spec_StartOk.l0, if_neg]
    refine ev_bind (specUrnOk_ev l hl) (ev_now ?_)
    rw [List.append_nil] at h
    subst h
    have : (l.all fun x => decide (x ≤ 10)) = true := by simpa using hr
    simp [startB, this]
  | cons x t ih =>
    intro pre h hr
    have e : l.length = pre.length + (t.length + 1) := by rw [h]; simp
    have hx : rd l (pre.length : Int) = x := by rw [h]; exact rd_at _ _ _
    have hxl : x ∈ l := by rw [h]; simp
    refine ev_suc ?_
    simp (disch := omega) only [spec_StartOk.l0, hx, if_pos]
    by_cases h1 : x > 10
    · refine ev_pos h1 (ev_now ?_)
      cases e : startB l with
      | false => rfl
      | true => have := ((startB_iff l).1 e).1 x hxl; omega
    · refine ev_neg h1 ?_
      rw [w64 (by omega) (by omega), len_at pre x]
      refine ih (pre ++ [x]) (by rw [h]; simp) ?_
      intro y hy
      rcases List.mem_append.1 hy with hy | hy
      · exact hr y hy
      · rw [List.mem_singleton] at hy; subst hy; omega
theorem specStartOk_ev (l : List Int) (hl : (l.length : Int) ≤ 1000000000000) : Ev (fun k => spec_StartOk.f k l) (startB l) := by
  simp only [spec_StartOk.f]
  exact specStart_loop l hl l [] rfl (by simp)
theorem wordB_no' {n : Int} {w : List Int} {x : Int} (hx : x ∈ w) (h : ¬ (0 ≤ x ∧ x < n)) : wordB n w = false := by
  cases e : wordB n w with
  | false => rfl
  | true => exact absurd (((wordB_iff n w).1 e).1 x hx) h
theorem specWord_loop (n : Int) (l : List Int) (hl : (l.length : Int) ≤ 1000000000000) : ∀ (suf pre : List Int), l = pre ++ suf → (∀ x ∈ pre, 0 ≤ x ∧ x < n) →
    Ev (fun k => spec_WordOk.l0 k n l (pre.length : Int)) (wordB n l) := by
  intro suf
  induction suf with
  | nil =>
    intro pre h hr
    have e : l.length = pre.length := by rw [h]; simp
    refine ev_suc ?_
    simp (disch := omega) only [spec_WordOk.l0, if_neg, l1In_eq, Option.bind_some]
    rw [List.append_nil] at h
    subst h
    by_cases hn : 1 ≤ n ∧ n ≤ 3
    · refine ev_pos (by simp [hn]) (ev_now ?_)
      rw [Bool.eq_iff_iff, wordB_iff]
      simp only [decide_eq_true_eq]
      exact ⟨fun h => ⟨hr, by omega, hn⟩, fun h => by omega⟩
    · refine ev_neg (by simp only [Bool.and_eq_true, decide_eq_true_eq]; exact hn) (ev_now ?_)
      cases e : wordB n l with
      | false => rfl
      | true => exact absurd ((wordB_iff n l).1 e).2.2 hn
  | cons x t ih =>
    intro pre h hr
    have e : l.length = pre.length + (t.length + 1) := by rw [h]; simp
    have hx : rd l (pre.length : Int) = x := by rw [h]; exact rd_at _ _ _
    have hxl : x ∈ l := by rw [h]; simp
    refine ev_suc ?_
    simp (disch := omega) only [spec_WordOk.l0, hx, if_pos]
    by_cases h1 : x < 0
    · exact ev_pos h1 (ev_now (wordB_no' hxl (by omega)).symm)
    · refine ev_neg h1 ?_
      by_cases h2 : x ≥ n
      · exact ev_pos h2 (ev_now (wordB_no' hxl (by omega)).symm)
      · refine ev_neg h2 ?_
        rw [w64 (by omega) (by omega), len_at pre x]
        refine ih (pre ++ [x]) (by rw [h]; simp) ?_
        intro y hy
        rcases List.mem_append.1 hy with hy | hy
        · exact hr y hy
        · rw [List.mem_singleton] at hy; subst hy; omega
theorem specWordOk_ev (n : Int) (l : List Int) (hl : (l.length : Int) ≤ 1000000000000) : Ev (fun k => spec_WordOk.f k n l) (wordB n l) := by
  simp only [spec_WordOk.f]
  exact specWord_loop n l hl l [] rfl (by simp)
theorem l4After_loop (u : List Int) (R : List (List Int)) (c : Int) (row : List Int) (hc : 0 ≤ c ∧ c < (R.length : Int)) (hrow : rd_L1 R c = row) (hl : row.length = u.length) (hu : u.length ≤ 3) (hB : Within 1000000000 row) (hA : Within 1000000000 u) : ∀ (su sr pu pr acc : List Int), u = pu ++ su → row = pr ++ sr → pu.length = pr.length → acc.length = pu.length →
    Ev (fun k => spec_l4After.l0 k u R c acc (pu.length : Int)) (acc ++ zipAdd su sr) := by
  intro su
  induction su with
  | nil =>
    intro sr pu pr acc h h' hp ha
    have e : u.length = pu.length := by rw [h]; simp
    have e' : row.length = pr.length + sr.length := by rw [h']; simp
    obtain rfl : sr = [] := List.eq_nil_of_length_eq_zero (by omega)
    refine ev_suc ?_
    simp (disch := omega) only [spec_l4After.l0, if_neg]
    exact ev_now (by simp [zipAdd])
  | cons x t ih =>
    intro sr pu pr acc h h' hp ha
    have e : u.length = pu.length + (t.length + 1) := by rw [h]; simp
    have e' : row.length = pr.length + sr.length := by rw [h']; simp
    cases sr with
    | nil => simp at e'; omega
    | cons y r =>
      have hx : rd u (pu.length : Int) = x := by rw [h]; exact rd_at _ _ _
      have hy : rd row (pu.length : Int) = y := by rw [h', hp]; exact rd_at _ _ _
      have bx := hA x (by rw [h]; simp)
      have bY := hB y (by rw [h']; simp)
      refine ev_suc ?_
      simp (disch := omega) only [spec_l4After.l0, hrow, hl, hx, hy, if_pos, w64]
      rw [len_at pu x]
      have := ih r (pu ++ [x]) (pr ++ [y]) (acc ++ [x + y]) (by rw [h]; simp) (by rw [h']; simp) (by simp [hp]) (by simp [ha])
      simpa [zipAdd] using this
theorem l4After_ev (u : List Int) (s c : Int) (hu : u.length ≤ 3) (hs : -3 ≤ s ∧ s ≤ 3) (hc : 0 ≤ c ∧ c < (u.length : Int)) (hw : Within 1000000 u) :
    Ev (fun k => spec_l4After.f k u (ruleM u.length s) c) (bump s u c) := by
  have er : rd_L1 (ruleM u.length s) c = (List.replicate u.length (0 : Int)).set c.toNat s := ruleM_row hc.1 hc.2
  have hW := within_row (n := u.length) (c := c) hs
  simp only [spec_l4After.f]
  have := l4After_loop u (ruleM u.length s) c _ (by rw [ruleM_len]; exact hc) er (by simp) hu (fun x hx => by have := hW x hx; omega) (fun x hx => by have := hw x hx; omega) u ((List.replicate u.length (0 : Int)).set c.toNat s) [] [] [] rfl (by simp) rfl rfl
  refine ev_eq this ?_
  rw [List.nil_append]
  exact zipAdd_row hu hc.1 hc.2
/-- What AfterWord tells. -/
def afterWordM (s : Int) (u w : List Int) : List Int × Bool := if 0 < waysM s u w then (afterM s u w, true) else ([], false)
theorem afterWord_loop (n : Nat) (s : Int) (hn : n ≤ 3) (hs : -3 ≤ s ∧ s ≤ 3) (w : List Int) (hw : w.length ≤ 100) (hwn : ∀ c ∈ w, 0 ≤ c ∧ c < (n : Int)) : ∀ (suf pre u : List Int) (b : Int), w = pre ++ suf → u.length = n → Within b u → 0 ≤ b → b + 3 * suf.length ≤ 1000000 →
    Ev (fun k => spec_AfterWord.l0 k (ruleM n s) w u (pre.length : Int)) (afterWordM s u suf) := by
  intro suf
  induction suf with
  | nil =>
    intro pre u b h _ _ _ _
    have e : w.length = pre.length := by rw [h]; simp
    refine ev_suc ?_
    simp (disch := omega) only [spec_AfterWord.l0, if_neg]
    exact ev_now (by simp [afterWordM, waysM, afterM])
  | cons x t ih =>
    intro pre u b h hu hb hb0 hb1
    have e : w.length = pre.length + (t.length + 1) := by rw [h]; simp
    have hx : rd w (pre.length : Int) = x := by rw [h]; exact rd_at _ _ _
    have hxn := hwn x (by rw [h]; simp)
    simp only [List.length_cons] at hb1
    refine ev_suc ?_
    simp (disch := omega) only [spec_AfterWord.l0, hx, if_pos]
    subst hu
    have hcp := waysM_cons_pos s u x t
    by_cases h1 : rd u x < 1
    · refine ev_pos h1 (ev_now ?_)
      unfold afterWordM
      rw [if_neg (fun hp => by have := (hcp.1 hp).1; omega)]
    · refine ev_neg h1 (ev_bind (l4After_ev u s x hn hs hxn (fun y hy => by have := hb y hy; omega)) ?_)
      rw [w64 (by omega) (by omega), len_at pre x]
      have := ih (pre ++ [x]) (bump s u x) (b + 3) (by rw [h]; simp) (bump_len _ _ _) (within_bump hb hs x hxn) (by omega) (by omega)
      refine ev_eq this ?_
      unfold afterWordM
      by_cases h2 : 0 < waysM s (bump s u x) t
      · rw [if_pos h2, if_pos (hcp.2 ⟨by omega, h2⟩), afterM_cons]
      · rw [if_neg h2, if_neg (fun hp => h2 (hcp.1 hp).2)]
theorem ruleOk_all : ∀ n : Fin 4, ∀ s : Fin 5, n.val = 0 ∨ spec_RuleOk.f 30 (n.val : Int) (ruleM n.val ((s.val : Int) - 1)) = some true := by decide +kernel
theorem ruleOk_ev (n : Nat) (s : Int) (h1 : 1 ≤ n) (h3 : n ≤ 3) (hs : -1 ≤ s ∧ s ≤ 3) : Ev (fun k => spec_RuleOk.f k (n : Int) (ruleM n s)) true := by
  have h := (ruleOk_all ⟨n, by omega⟩ ⟨(s + 1).toNat, by omega⟩).resolve_left (by simp only []; omega)
  have e : (((s + 1).toNat : Nat) : Int) - 1 = s := by omega
  simp only [e] at h
  exact Ev.of (fun k => spec_RuleOk.mono _ _ k) h
theorem sSameRule_all : ∀ n : Fin 4, ∀ s : Fin 5, n.val = 0 ∨ spec_SameRule.f 20 (n.val : Int) ((s.val : Int) - 1) = some (ruleM n.val ((s.val : Int) - 1)) := by decide +kernel
theorem sSameRule_ev (n : Nat) (s : Int) (h1 : 1 ≤ n) (h3 : n ≤ 3) (hs : -1 ≤ s ∧ s ≤ 3) : Ev (fun k => spec_SameRule.f k (n : Int) s) (ruleM n s) := by
  have h := (sSameRule_all ⟨n, by omega⟩ ⟨(s + 1).toNat, by omega⟩).resolve_left (by simp only []; omega)
  have e : (((s + 1).toNat : Nat) : Int) - 1 = s := by omega
  simp only [e] at h
  exact Ev.of (fun k => spec_SameRule.mono _ _ k) h
theorem afterWord_ev (u : List Int) (s : Int) (w : List Int) (hS : startB u = true) (hs : -1 ≤ s ∧ s ≤ 3) (hw : (w.length : Int) ≤ 1000000000000) :
    Ev (fun k => spec_AfterWord.f k u (ruleM u.length s) w) (if wordB (u.length : Int) w = true then afterWordM s u w else ([], false)) := by
  have hu3 := (startB_iff u).1 hS
  simp only [spec_AfterWord.f]
  refine ev_bind (specStartOk_ev u (by omega)) (ev_pos hS (ev_bind (ruleOk_ev u.length s hu3.2.1 hu3.2.2 hs) (ev_pos rfl (ev_bind (specWordOk_ev (u.length : Int) w hw) (ev_suc ?_)))))
  by_cases hW : wordB (u.length : Int) w = true
  · have hw6 := (wordB_iff _ _).1 hW
    rw [if_pos hW]
    simp only [spec_AfterWord.j0, hW, Bool.not_true]
    refine ev_neg (by simp) (ev_bind (Ev.now _) (ev_pos (by simp; omega) ?_))
    rw [List.nil_append]
    exact afterWord_loop u.length s hu3.2.2 ⟨by omega, by omega⟩ w (by omega) hw6.1 w [] u 10 rfl rfl (fun x hx => by have := hu3.1 x hx; omega) (by omega) (by omega)
  · have hf : wordB (u.length : Int) w = false := by simpa using hW
    rw [if_neg hW]
    simp only [spec_AfterWord.j0, hf, Bool.not_false, if_true]
    exact Ev.now _
theorem specPlace_ev (u : List Int) (s : Int) (w : List Int) (hu : (u.length : Int) ≤ 1000000000000) (hw : (w.length : Int) ≤ 1000000000000) : Ev (fun k => spec_PlaceOk.f k u s w) (placeB u s w) := by
  have hj : ∀ r, r = placeB u s w → r = false → Ev (fun k => spec_PlaceOk.j0 k true u s w) r := by
    rintro r _ rfl
    refine ev_suc ?_
    simp only [spec_PlaceOk.j0, if_true]
    exact Ev.now _
  simp only [spec_PlaceOk.f]
  refine ev_bind (specStartOk_ev u hu) ?_
  by_cases hS : startB u = true
  · refine ev_pos hS ?_
    simp only [l1In_eq, Option.bind_some]
    have hu3 := (startB_iff u).1 hS
    by_cases h1 : -1 ≤ s ∧ s ≤ 3
    · have e : (decide (-1 ≤ s) && decide (s ≤ 3)) = true := by simp [h1]
      refine ev_suc ?_
      simp only [spec_PlaceOk.j0, e, Bool.not_true]
      refine ev_neg (by simp) (ev_bind (sSameRule_ev u.length s hu3.2.1 hu3.2.2 h1) (ev_bind (afterWord_ev u s w hS h1 hw) (ev_now ?_)))
      by_cases hW : wordB (u.length : Int) w = true
      · rw [if_pos hW]
        unfold afterWordM
        by_cases h2 : 0 < waysM s u w
        · rw [if_pos h2]; simp [placeB, hS, hW, h1, h2]
        · rw [if_neg h2]; simp [placeB, hS, hW, h1, h2]
      · rw [if_neg hW]
        have hf : wordB (u.length : Int) w = false := by simpa using hW
        simp [placeB, hf]
    · have e : (decide (-1 ≤ s) && decide (s ≤ 3)) = false := by
        rw [Bool.and_eq_false_iff]; simp only [decide_eq_false_iff_not]; omega
      rw [e]
      refine hj _ rfl ?_
      unfold placeB
      rw [Bool.and_eq_false_iff] at e
      rcases e with e | e <;> simp [e]
  · refine ev_neg hS (hj _ rfl ?_)
    have hf : startB u = false := by simpa using hS
    simp [placeB, hf]
theorem specDesk_loop (u : List Int) (s : Int) (w : List Int) (a : List S26) (hu : (u.length : Int) ≤ 1000000000000) (hw : (w.length : Int) ≤ 1000000000000) (hl : (a.length : Int) ≤ 1000000000000) (hA : ∀ q ∈ a, Sized1 q) : ∀ (x p : List S26), a = p ++ x → (∀ q ∈ p, placeB q.f0 q.f1 q.f2 = true) →
    Ev (fun k => spec_DeskOk.l0 k (p.length : Int) u s w a) (deskB u s w a) := by
  intro x
  induction x with
  | nil =>
    intro p h hp
    have e : a.length = p.length := by rw [h]; simp
    refine ev_suc ?_
    simp (disch := omega) only [spec_DeskOk.l0, if_neg]
    rw [List.append_nil] at h
    subst h
    refine ev_bind (specPlace_ev u s w hu hw) ?_
    have hall : (a.all fun q => placeB q.f0 q.f1 q.f2) = true := by simpa using hp
    by_cases hP : placeB u s w = true
    · refine ev_pos hP (ev_now ?_)
      simp only [deskB, hall, hP, Bool.true_and]
      rw [Bool.eq_iff_iff]; simp only [decide_eq_true_eq]; omega
    · refine ev_neg hP (ev_now ?_)
      have hf : placeB u s w = false := by simpa using hP
      simp [deskB, hf]
  | cons c x ih =>
    intro p h hp
    have e : a.length = p.length + (x.length + 1) := by rw [h]; simp
    have hx : rd_T26 a (p.length : Int) = c := by rw [h]; exact rdP_at _ _ _
    have hca : c ∈ a := by rw [h]; simp
    have hc := hA c hca
    refine ev_suc ?_
    simp (disch := omega) only [spec_DeskOk.l0, hx, if_pos, w64]
    refine ev_bind (specPlace_ev c.f0 c.f1 c.f2 hc.1 hc.2) ?_
    by_cases hP : placeB c.f0 c.f1 c.f2 = true
    · refine ev_pos hP ?_
      rw [len_at p c]
      refine ih (p ++ [c]) (by rw [h]; simp) ?_
      intro q hq
      rcases List.mem_append.1 hq with hq | hq
      · exact hp q hq
      · rw [List.mem_singleton] at hq; subst hq; exact hP
    · refine ev_neg hP (ev_now ?_)
      cases e : deskB u s w a with
      | false => rfl
      | true => exact absurd (((deskB_iff u s w a).1 e).1 c hca) hP
theorem l15Step_ev {n : Int} (h0 : -99 ≤ n) (h1 : n ≤ 99) : Ev (fun k => spec_l15Step.f k n) (ba (numT n)) := by
  have := small_all (p := fun n => decide (spec_l15Step.f 5 n = some (ba (numT n)))) (by decide +kernel) h0 h1
  exact Ev.of (fun k => spec_l15Step.mono _ _) (of_decide_eq_true this)
theorem litb (l : Tx) : (⟨⟨l⟩⟩ : ByteArray) = ba l := rfl
theorem l1Number_ev {n : Int} (h0 : 0 ≤ n) (h1 : n ≤ 99) : Ev (fun k => spec_l1Number.f k n) (ba (numT n)) := by
  have := small_all (p := fun n => decide (n < 0) || decide (spec_l1Number.f 5 n = some (ba (numT n)))) (by decide +kernel) (n := n) (by omega) h1
  rw [decide_eq_false (by omega), Bool.false_or] at this
  exact Ev.of (fun k => spec_l1Number.mono _ _) (of_decide_eq_true this)
theorem srow_loop (l : List Int) (hl : l.length ≤ 3) (hv : ∀ x ∈ l, 0 ≤ x ∧ x ≤ 10) (hne : l ≠ []) : ∀ (suf pre : List Int) (acc : Tx), l = pre ++ suf → pre ≠ [] → acc.length ≤ 100 * pre.length →
    Ev (fun k => spec_l15Row.l0 k l (ba acc) (pre.length : Int)) (ba (acc ++ tailT suf)) := by
  intro suf
  induction suf with
  | nil =>
    intro pre acc h hp _
    rw [List.append_nil] at h
    subst h
    have : 0 < l.length := List.length_pos_iff.2 hne
    refine ev_suc ?_
    simp only [spec_l15Row.l0]
    exact ev_neg (by omega) (ev_neg (by omega) (ev_eq (Ev.now _) (by simp [tailT])))
  | cons x t ih =>
    intro pre acc h hp ha
    have e : l.length = pre.length + (t.length + 1) := by rw [h]; simp
    have hx : rd l (pre.length : Int) = x := by rw [h]; exact rd_at _ _ _
    have hxv := hv x (by rw [h]; simp)
    have hpp : 0 < pre.length := List.length_pos_iff.2 hp
    obtain ⟨_, n1, n2⟩ := numT_bytes (n := x) (by omega) (by omega)
    refine ev_suc ?_
    simp only [spec_l15Row.l0, hx]
    refine ev_pos (by omega) (ev_pos (by omega) (ev_pos (by rw [ba_size]; omega) (ev_pos (by omega) (ev_bind (l1Number_ev hxv.1 (by omega)) ?_))))
    rw [litb, ba_append, ba_append, ba_size, ba_size]
    refine ev_pos (by simp; omega) ?_
    rw [w64 (by omega) (by omega), len_at pre x]
    refine ev_eq (ih (pre ++ [x]) _ (by rw [h]; simp) (by simp) (by simp; omega)) ?_
    simp [tailT]
theorem srow_ev (l : List Int) (h1 : 1 ≤ l.length) (hl : l.length ≤ 3) (hv : ∀ x ∈ l, 0 ≤ x ∧ x ≤ 10) : Ev (fun k => spec_l15Row.f k l) (ba (rowT l)) := by
  match l, h1 with
  | x :: t, _ =>
    have hxv := hv x (by simp)
    obtain ⟨_, n1, n2⟩ := numT_bytes (n := x) (by omega) (by omega)
    unfold spec_l15Row.f
    have hx : rd (x :: t) 0 = x := by simp [rd]
    refine ev_suc ?_
    simp only [spec_l15Row.l0, hx]
    refine ev_pos (by simp <;> omega) (ev_neg (by omega) (ev_pos (by omega) (ev_bind (l1Number_ev hxv.1 (by omega)) ?_)))
    rw [litb, ba_append, ba_size, ba_size]
    refine ev_pos (by simp; omega) ?_
    rw [w64 (by omega) (by omega)]
    have := srow_loop (x :: t) hl hv (by simp) t [x] (numT x) rfl (by simp) (by simp; omega)
    simpa [rowT] using this
theorem abc_ev {c : Int} (h : 0 ≤ c ∧ c < 3) : (ba [97, 98, 99]).extract c.toNat (c + 1).toNat = ba [letT c] := by
  rw [ba_extract]
  obtain ⟨m, rfl⟩ := Int.eq_ofNat_of_zero_le h.1
  have : m = 0 ∨ m = 1 ∨ m = 2 := by omega
  rcases this with rfl | rfl | rfl <;> rfl
theorem splace_end (u : List Int) (s : Int) (w : List Int) (x : Tx) (h : placeB u s w = true) (hx : x.length ≤ 7) :
    Ev (fun k => (spec_l15Row.f k u).bind fun t1 => if t1.size + 1 ≤ 9223372036854775807 then (spec_l15Step.f k s).bind fun t2 => if (t1 ++ (⟨#[32]⟩ : ByteArray)).size + t2.size ≤ 9223372036854775807 then if ((t1 ++ (⟨#[32]⟩ : ByteArray)) ++ t2).size + 1 ≤ 9223372036854775807 then if (((t1 ++ (⟨#[32]⟩ : ByteArray)) ++ t2) ++ (⟨#[32]⟩ : ByteArray)).size + (ba x).size ≤ 9223372036854775807 then some ((((t1 ++ (⟨#[32]⟩ : ByteArray)) ++ t2) ++ (⟨#[32]⟩ : ByteArray)) ++ ba x) else none else none else none else none)
      (ba (rowT u ++ 32 :: (numT s ++ 32 :: x))) := by
  obtain ⟨a1, a2, a3, a4, a5, _, _⟩ := place_data h
  have hr := rowT_len u a1
  obtain ⟨_, n1, n2⟩ := numT_bytes (n := s) (by omega) (by omega)
  refine ev_bind (srow_ev u a2 a3 a1) (ev_pos (by rw [ba_size]; omega) (ev_bind (l15Step_ev (by omega) (by omega)) ?_))
  simp only [litb, ba_append, ba_size]
  refine ev_pos (by simp; omega) (ev_pos (by simp; omega) (ev_pos (by simp; omega) (ev_eq (Ev.now _) ?_)))
  simp
theorem splacew_loop (u : List Int) (s : Int) (w : List Int) (h : placeB u s w = true) : ∀ (suf pre : List Int) (x : Tx), w = pre ++ suf → pre ≠ [] → x = pre.map letT →
    Ev (fun k => spec_PlaceText.l0 k (ba x) (pre.length : Int) u s w) (ba (rowT u ++ 32 :: (numT s ++ 32 :: (w.map letT)))) := by
  obtain ⟨_, _, _, _, _, hw, hl⟩ := place_data h
  intro suf
  induction suf with
  | nil =>
    intro pre x e hp hx
    rw [List.append_nil] at e
    subst e
    refine ev_suc ?_
    simp only [spec_PlaceText.l0]
    refine ev_neg (by omega) ?_
    subst hx
    exact splace_end u s w _ h (by simp; omega)
  | cons c t ih =>
    intro pre x e hp hx
    have el : w.length = pre.length + (t.length + 1) := by rw [e]; simp
    have hc : rd w (pre.length : Int) = c := by rw [e]; exact rd_at _ _ _
    have hcv := hw c (by rw [e]; simp)
    have hpp : 0 < pre.length := List.length_pos_iff.2 hp
    refine ev_suc ?_
    simp only [spec_PlaceText.l0, hc, litb]
    rw [w64 (n := c + 1) (by omega) (by omega), abc_ev hcv]
    refine ev_pos (by omega) (ev_neg (by omega) (ev_pos (by omega) (ev_pos hcv.1 (ev_pos (by omega) (ev_pos (by omega) (ev_pos ?_ ?_))))))
    · rw [ba_size, ba_size, hx]; simp; omega
    · rw [w64 (by omega) (by omega), len_at pre c, ba_append]
      exact ih (pre ++ [c]) _ (by rw [e]; simp) (by simp) (by rw [hx]; simp)
theorem splacet_ev (u : List Int) (s : Int) (w : List Int) (hu : (u.length : Int) ≤ 1000000000000) (hw : (w.length : Int) ≤ 1000000000000) : Ev (fun k => spec_PlaceText.f k u s w) (ba (placeT u s w)) := by
  unfold spec_PlaceText.f placeT
  refine ev_bind (specPlace_ev u s w hu hw) ?_
  by_cases h : placeB u s w = true
  case neg => rw [if_neg h]; exact ev_neg h (Ev.now _)
  rw [if_pos h]
  refine ev_pos h ?_
  obtain ⟨_, _, _, _, _, hwv, hl⟩ := place_data h
  rcases w with _ | ⟨c, t⟩
  ·
    refine ev_suc ?_
    simp only [spec_PlaceText.l0, wordT, litb]
    exact ev_neg (by simp) (splace_end u s [] [46] h (by simp))
  ·
    have hcv := hwv c (by simp)
    have hc : rd (c :: t) 0 = c := by simp [rd]
    refine ev_suc ?_
    simp only [spec_PlaceText.l0, hc, litb, wordT]
    rw [w64 (n := c + 1) (by omega) (by omega), abc_ev hcv]
    refine ev_pos (by simp <;> omega) (ev_pos trivial (ev_pos (by omega) (ev_pos hcv.1 (ev_pos (by omega) (ev_pos (by omega) (ev_pos (by rw [ba_size]; simp) ?_))))))
    rw [w64 (by omega) (by omega), ba_append]
    have := splacew_loop u s (c :: t) h t [c] [letT c] rfl (by simp) rfl
    simpa using this
theorem l15Place_eq (u : List Int) (s : Int) (w : List Int) (hu : (u.length : Int) ≤ 1000000000000) (hw : (w.length : Int) ≤ 1000000000000) : spec_l15Place.f u s w = some (u, s, w) := by
  unfold spec_l15Place.f
  simp only [Option.bind_some, List.nil_append, List.length_nil]
  rw [if_pos (by omega), if_pos (by omega)]
theorem specNew_ev (u : List Int) (s : Int) (w : List Int) (hu : (u.length : Int) ≤ 1000000000000) (hw : (w.length : Int) ≤ 1000000000000) :
    Ev (fun k => spec_DeskNew.f k u s w) (if placeB u s w = true then (u, s, w, [], true) else ([], 0, [], [], false)) := by
  simp only [spec_DeskNew.f]
  refine ev_bind (specPlace_ev u s w hu hw) ?_
  by_cases h : placeB u s w = true
  · simp only [if_pos h, l15Place_eq u s w hu hw, Option.bind_some]
    exact Ev.now _
  · simp only [if_neg h]
    exact Ev.now _
theorem sputinj_ev (u : List Int) (a b : Int) (t : Bool) (hu : (u.length : Int) ≤ 1000000) (h : t = false → 0 ≤ a ∧ a < (u.length : Int)) :
    ∃ r, Ev (fun k => spec_PutIn.j0 k u a b t) r ∧ r.1.length ≤ u.length := by
  cases t with
  | true =>
    refine ⟨([], false), ev_suc ?_, by simp⟩
    simp only [spec_PutIn.j0]
    exact ev_pos (by simp) (Ev.now _)
  | false =>
    obtain ⟨h1, h2⟩ := h rfl
    by_cases hq : urnB (([] ++ u).set a.toNat (wrap64 (rd ([] ++ u) a + b))) = true
    · refine ⟨(([] ++ u).set a.toNat (wrap64 (rd ([] ++ u) a + b)), true), ev_suc ?_, ?_⟩
      · simp only [spec_PutIn.j0]
        exact ev_neg (by simp) (ev_bind (Ev.now _) (ev_pos (by simp; omega) (ev_bind (Ev.now _) (ev_pos h1 (ev_pos (by simpa using h2) (ev_bind (Ev.now _) (ev_bind (specUrnOk_ev _ (by simp; omega)) (ev_pos hq (Ev.now _)))))))))
      · simp
    · refine ⟨([], false), ev_suc ?_, by simp⟩
      simp only [spec_PutIn.j0]
      exact ev_neg (by simp) (ev_bind (Ev.now _) (ev_pos (by simp; omega) (ev_bind (Ev.now _) (ev_pos h1 (ev_pos (by simpa using h2) (ev_bind (Ev.now _) (ev_bind (specUrnOk_ev _ (by simp; omega)) (ev_neg hq (Ev.now _)))))))))
theorem sputin_ev (u : List Int) (a b : Int) (hu : (u.length : Int) ≤ 1000000) : ∃ r, Ev (fun k => spec_PutIn.f k u a b) r ∧ r.1.length ≤ u.length := by
  unfold spec_PutIn.f
  by_cases h : urnB u = true
  · by_cases ha : 0 ≤ a ∧ a ≤ wrap64 ((u.length : Int) - 1)
    · rw [w64 (by omega) (by omega)] at ha
      obtain ⟨r, hr, hl⟩ := sputinj_ev u a b (!(decide (-40 ≤ b) && decide (b ≤ 40))) hu (fun _ => by omega)
      refine ⟨r, ev_bind (specUrnOk_ev u (by omega)) (ev_pos h ?_), hl⟩
      rw [l1In_eq, w64 (by omega) (by omega)]
      refine ev_bind (Ev.now _) (ev_pos (by simp; omega) ?_)
      rw [l1In_eq]
      exact ev_bind (Ev.now _) hr
    · obtain ⟨r, hr, hl⟩ := sputinj_ev u a b true hu (fun h => by cases h)
      refine ⟨r, ev_bind (specUrnOk_ev u (by omega)) (ev_pos h ?_), hl⟩
      rw [l1In_eq]
      exact ev_bind (Ev.now _) (ev_neg (by simp; omega) hr)
  · obtain ⟨r, hr, hl⟩ := sputinj_ev u a b true hu (fun h => by cases h)
    exact ⟨r, ev_bind (specUrnOk_ev u (by omega)) (ev_neg h hr), hl⟩
theorem smade_ev (u : List Int) (s : Int) (w : List Int) (a b c : Int) (hu : (u.length : Int) ≤ 1000000) (hw : (w.length : Int) ≤ 1000000) :
    ∃ v, Ev (fun k => spec_l15Made.f k u s w a b c) v ∧ v.1.length ≤ u.length ∧ v.2.2.length ≤ w.length + 1 := by
  have hj1 : ∀ t : Bool, ∃ v, Ev (fun k => spec_l15Made.j1 k t u s w a b c u s w) v ∧ v.1.length ≤ u.length ∧ v.2.2.length ≤ w.length + 1 := by
    intro t
    cases t with
    | true =>
      refine ⟨(u, b, w), ev_suc ?_, by simp, by simp⟩
      simp only [spec_l15Made.j1]
      exact ev_pos (by simp) (Ev.now _)
    | false =>
      by_cases h2 : (a == 2 && (c == 0)) = true
      · refine ⟨(u, s, w ++ [b]), ev_suc ?_, by simp, by simp⟩
        simp only [spec_l15Made.j1]
        exact ev_neg (by simp) (ev_pos h2 (ev_pos (by omega) (Ev.now _)))
      by_cases h3 : (a == 3 && (b == 0 && (c == 0))) = true
      · refine ⟨(u, s, []), ev_suc ?_, by simp, by simp⟩
        simp only [spec_l15Made.j1]
        exact ev_neg (by simp) (ev_neg h2 (ev_pos h3 (Ev.now _)))
      · refine ⟨([], 0, []), ev_suc ?_, by simp, by simp⟩
        simp only [spec_l15Made.j1]
        exact ev_neg (by simp) (ev_neg h2 (ev_neg h3 (Ev.now _)))
  have hj0 : ∀ t : Bool, ∃ v, Ev (fun k => spec_l15Made.j0 k t u s w a b c u s w) v ∧ v.1.length ≤ u.length ∧ v.2.2.length ≤ w.length + 1 := by
    intro t
    cases t with
    | true =>
      obtain ⟨r, hr, hl⟩ := sputin_ev u b c hu
      refine ⟨(r.1, s, []), ev_suc ?_, hl, by simp⟩
      simp only [spec_l15Made.j0]
      exact ev_pos (by simp) (ev_bind hr (Ev.now _))
    | false =>
      by_cases h1 : (a == 1 && (c == 0)) = true
      · obtain ⟨v, hv, hl⟩ := hj1 ((w.length : Int) == 0)
        refine ⟨v, ev_suc ?_, hl⟩
        simp only [spec_l15Made.j0]
        exact ev_neg (by simp) (ev_pos h1 hv)
      · obtain ⟨v, hv, hl⟩ := hj1 false
        refine ⟨v, ev_suc ?_, hl⟩
        simp only [spec_l15Made.j0]
        exact ev_neg (by simp) (ev_neg h1 hv)
  unfold spec_l15Made.f
  rw [l15Place_eq u s w (by omega) (by omega)]
  by_cases h0 : (a == 0) = true
  · obtain ⟨v, hv, hl⟩ := hj0 ((w.length : Int) == 0)
    exact ⟨v, ev_bind (Ev.now _) (ev_pos h0 hv), hl⟩
  · obtain ⟨v, hv, hl⟩ := hj0 false
    exact ⟨v, ev_bind (Ev.now _) (ev_neg h0 hv), hl⟩
theorem xor_nn {x y : Int} (hx : 0 ≤ x) (hx' : x < 9223372036854775808) (hy : 0 ≤ y) (hy' : y < 9223372036854775808) : 0 ≤ Go.bits .xor .i64 x y := by
  obtain ⟨a, rfl⟩ := Int.eq_ofNat_of_zero_le hx
  obtain ⟨b, rfl⟩ := Int.eq_ofNat_of_zero_le hy
  have ha : a < 2 ^ 63 := by omega
  have hb : b < 2 ^ 63 := by omega
  have hc : a ^^^ b < 2 ^ 63 := Nat.xor_lt_two_pow ha hb
  have h1 : (BitVec.ofInt 64 (a : Int)).toNat = a := by
    rw [BitVec.ofInt_natCast, BitVec.toNat_ofNat]; exact Nat.mod_eq_of_lt (by omega)
  have h2 : (BitVec.ofInt 64 (b : Int)).toNat = b := by
    rw [BitVec.ofInt_natCast, BitVec.toNat_ofNat]; exact Nat.mod_eq_of_lt (by omega)
  show 0 ≤ IntKind.i64.wrap ((BitVec.ofInt 64 (a : Int) ^^^ BitVec.ofInt 64 (b : Int)).toNat : Int)
  rw [BitVec.toNat_xor, h1, h2, IntKind.wrap_i64]
  omega
def BytesOk (b : List Int) : Prop := (∀ x ∈ b, 0 ≤ x ∧ x ≤ 255) ∧ b.length ≤ 2000
theorem pick_ev {b : List Int} (hb : BytesOk b) (p n : Int) (h0 : 0 ≤ p) (hp : p ≤ 1000000000000) (hn : n ≤ 1000000000000) :
    ∃ r, Ev (fun k => spec_l20Rd_pick.f k b p n) (r, p + 1) ∧ 0 ≤ r ∧ (1 ≤ n → r < n) ∧ (n < 1 → r = 0) := by
  obtain ⟨hb, hl⟩ := hb
  by_cases hn1 : n < 1
  · refine ⟨0, ?_, by omega, by omega, fun _ => rfl⟩
    simp only [spec_l20Rd_pick.f]
    refine ev_pos hn1 (ev_suc ?_)
    simp (disch := omega) only [spec_l20Rd_pick.j0, if_true, w64]
    exact Ev.now _
  · have key : ∀ (x : Int), 0 ≤ x → 0 ≤ Int.tmod x n ∧ (1 ≤ n → Int.tmod x n < n) ∧ (n < 1 → Int.tmod x n = 0) := by
      intro x hx
      rw [Int.tmod_eq_emod_of_nonneg hx]
      have h1 := Int.emod_nonneg x (b := n) (by omega)
      have h2 := Int.emod_lt_of_pos x (b := n) (by omega)
      exact ⟨h1, fun _ => h2, fun h => absurd h hn1⟩
    by_cases hl0 : b.length = 0
    · refine ⟨0, ?_, by omega, by omega, fun _ => rfl⟩
      simp only [spec_l20Rd_pick.f]
      refine ev_neg hn1 (ev_suc ?_)
      have e : ((b.length : Int) == 0) = true := by simp [hl0]
      simp (disch := omega) only [spec_l20Rd_pick.j0, e, if_true, w64]
      exact Ev.now _
    · have e : ((b.length : Int) == 0) = false := by rw [beq_eq_false_iff_ne]; omega
      by_cases hlt : p < (b.length : Int)
      · have hm := hb _ (rd_mem h0 hlt)
        obtain ⟨k1, k2, k3⟩ := key (rd b p) hm.1
        refine ⟨Int.tmod (rd b p) n, ?_, k1, k2, k3⟩
        simp only [spec_l20Rd_pick.f]
        refine ev_neg hn1 (ev_suc ?_)
        have e1 : wrap64 (wrap64 (p + 1) - 1) = p := by rw [w64 (n := p + 1) (by omega) (by omega), w64 (by omega) (by omega)]; omega
        have e2 : wrap64 (rd b p) = rd b p := w64 (by omega) (by omega)
        simp only [spec_l20Rd_pick.j0, e, e1, e2, Bool.false_eq_true, if_false]
        refine ev_pos hlt (ev_pos h0 (ev_neg (by omega) (ev_now ?_)))
        rw [w64 (by omega) (by omega)]
      · have hL : 0 < (b.length : Int) := by omega
        have m1a := Int.emod_nonneg p (b := (b.length : Int)) (by omega)
        have m1b := Int.emod_lt_of_pos p (b := (b.length : Int)) hL
        have m2a := Int.emod_nonneg (p * 7 + 3) (b := (b.length : Int)) (by omega)
        have m2b := Int.emod_lt_of_pos (p * 7 + 3) (b := (b.length : Int)) hL
        have r1 := hb _ (rd_mem m1a m1b)
        have r2 := hb _ (rd_mem m2a m2b)
        have d1 : 0 ≤ p / (b.length : Int) := Int.ediv_nonneg h0 (by omega)
        have d2 : p / (b.length : Int) ≤ p := Int.ediv_le_self _ h0
        have e1 : wrap64 (wrap64 (p + 1) - 1) = p := by rw [w64 (n := p + 1) (by omega) (by omega), w64 (by omega) (by omega)]; omega
        have e1' : wrap64 (p + 1 - 1) = p := by rw [w64 (by omega) (by omega)]; omega
        have e3 : Int.tmod p (b.length : Int) = p % (b.length : Int) := Int.tmod_eq_emod_of_nonneg h0
        have e4 : Int.tmod (p * 7 + 3) (b.length : Int) = (p * 7 + 3) % (b.length : Int) := Int.tmod_eq_emod_of_nonneg (by omega)
        have e5 : Int.tdiv p (b.length : Int) = p / (b.length : Int) := Int.tdiv_eq_ediv_of_nonneg h0
        generalize hu : rd b (p % (b.length : Int)) = u at r1
        generalize hv : rd b ((p * 7 + 3) % (b.length : Int)) = v at r2
        generalize hd : p / (b.length : Int) = d at d1 d2
        have hx0 : 0 ≤ u * 131 + v * 1117 + p * 29 + d * 53 := by omega
        have e6 : Int.tdiv (u * 131 + v * 1117 + p * 29 + d * 53) 64 = (u * 131 + v * 1117 + p * 29 + d * 53) / 64 := Int.tdiv_eq_ediv_of_nonneg hx0
        obtain ⟨k1, k2, k3⟩ := key (Go.bits .xor .i64 (u * 131 + v * 1117 + p * 29 + d * 53) ((u * 131 + v * 1117 + p * 29 + d * 53) / 64)) (xor_nn (by omega) (by omega) (by omega) (by omega))
        refine ⟨_, ?_, k1, k2, k3⟩
        simp only [spec_l20Rd_pick.f]
        refine ev_neg hn1 (ev_suc ?_)
        have f1 : wrap64 (p * 7) = p * 7 := w64 (by omega) (by omega)
        have f2 : wrap64 (p * 7 + 3) = p * 7 + 3 := w64 (by omega) (by omega)
        have f3 : wrap64 u = u := w64 (by omega) (by omega)
        have f4 : wrap64 v = v := w64 (by omega) (by omega)
        have f5 : wrap64 (u * 131) = u * 131 := w64 (by omega) (by omega)
        have f6 : wrap64 (v * 1117) = v * 1117 := w64 (by omega) (by omega)
        have f7 : wrap64 (u * 131 + v * 1117) = u * 131 + v * 1117 := w64 (by omega) (by omega)
        have f8 : wrap64 (p * 29) = p * 29 := w64 (by omega) (by omega)
        have f9 : wrap64 (u * 131 + v * 1117 + p * 29) = u * 131 + v * 1117 + p * 29 := w64 (by omega) (by omega)
        have f10 : wrap64 d = d := w64 (by omega) (by omega)
        have f11 : wrap64 (d * 53) = d * 53 := w64 (by omega) (by omega)
        have f12 : wrap64 (u * 131 + v * 1117 + p * 29 + d * 53) = u * 131 + v * 1117 + p * 29 + d * 53 := w64 (by omega) (by omega)
        have f13 : wrap64 ((u * 131 + v * 1117 + p * 29 + d * 53) / 64) = (u * 131 + v * 1117 + p * 29 + d * 53) / 64 := w64 (by omega) (by omega)
        have f14 : wrap64 (p + 1) = p + 1 := w64 (by omega) (by omega)
        simp only [spec_l20Rd_pick.j0, e, e1, f14, e1', f1, f2, e3, e4, e5, hu, hv, hd, f3, f4, f5, f6, f7, f8, f9, f10, f11, f12, e6, f13, Bool.false_eq_true, if_false]
        exact ev_neg hlt (ev_neg (by omega) (ev_pos m1a (ev_pos m1b (ev_pos m2a (ev_pos m2b (ev_neg (by omega) (Ev.now _)))))))
theorem open_ev {l : List Int} (hl : ∀ x ∈ l, (Lit.int .u8 x).wf = true) : ∃ b, spec_l20Open.f l = some (b, 0) ∧ BytesOk b := by
  have hw : ∀ x ∈ l, 0 ≤ x ∧ x ≤ 255 := fun x hx => by
    have := hl x hx
    simp [Lit.wf, IntKind.min, IntKind.max, IntKind.bits, IntKind.signed] at this
    omega
  by_cases h : (l.length : Int) > 2000
  · exact ⟨l.take 2000, by simp (disch := omega) only [spec_l20Open.f, if_pos], fun x hx => hw x (List.mem_of_mem_take hx), by rw [List.length_take]; omega⟩
  · exact ⟨l, by simp (disch := omega) only [spec_l20Open.f, if_neg], hw, by omega⟩
theorem odd_ev {b : List Int} (hb : BytesOk b) (p n : Int) (h0 : 0 ≤ p) (hp : p ≤ 1000000000000) (hn : n ≤ 1000000000000) (hn' : 1 ≤ n) :
    ∃ r, Ev (fun k => spec_l20Rd_odd.f k b p n) (r, p + 1) := by
  obtain ⟨r, hr, h1, h2, h3⟩ := pick_ev hb p n h0 hp hn
  refine ⟨r == wrap64 (n - 1), ?_⟩
  simp only [spec_l20Rd_odd.f]
  exact ev_pos (by omega) (ev_bind hr (Ev.now _))
theorem drawDeedj_ev {b : List Int} (hb : BytesOk b) (p : Int) (h0 : 0 ≤ p) (hp : p ≤ 100000000) (x y z : Int) : ∃ d, Ev (fun k => spec_l20Deed.j0 k b p x y z) d ∧ p ≤ d.2.2.2 ∧ d.2.2.2 ≤ p + 3 := by
  obtain ⟨r, hr⟩ := odd_ev hb p 40 h0 (by omega) (by omega) (by omega)
  cases r with
  | false =>
    refine ⟨(x, y, z, p + 1), ev_suc ?_, by simp only; omega, by simp only; omega⟩
    simp only [spec_l20Deed.j0]
    exact ev_bind hr (ev_neg (by simp) (Ev.now _))
  | true =>
    obtain ⟨v, hv, v0, v1, _⟩ := pick_ev hb (p + 1) 2 (by omega) (by omega) (by omega)
    by_cases hz : v = 0
    · obtain ⟨q, hq, q0, q1, _⟩ := pick_ev hb (p + 1 + 1) 2 (by omega) (by omega) (by omega)
      refine ⟨(x, rd [-100, 100] q, z, p + 1 + 1 + 1), ev_suc ?_, by simp only; omega, by simp only; omega⟩
      simp only [spec_l20Deed.j0]
      exact ev_bind hr (ev_pos rfl (ev_bind hv (ev_pos hz (ev_bind (Ev.now _) (ev_bind hq (ev_pos q0 (ev_pos (by have := q1 (by omega); simp; omega) (Ev.now _))))))))
    · refine ⟨(x, y, 99, p + 1 + 1), ev_suc ?_, by simp only; omega, by simp only; omega⟩
      simp only [spec_l20Deed.j0]
      exact ev_bind hr (ev_pos rfl (ev_bind hv (ev_neg hz (Ev.now _))))
theorem drawDeed_ev {b : List Int} (hb : BytesOk b) (p : Int) (h0 : 0 ≤ p) (hp : p ≤ 10000000) (u : List Int) (s : Int) (w : List Int) (hu : u.length ≤ 3) : ∃ d, Ev (fun k => spec_l20Deed.f k b p u s w) d ∧ p ≤ d.2.2.2 ∧ d.2.2.2 ≤ p + 7 := by
  obtain ⟨i, hi, i0, i1, _⟩ := pick_ev hb p 8 h0 (by omega) (by omega)
  obtain ⟨j, hj, j0, j1, _⟩ := pick_ev hb (p + 1) 60 (by omega) (by omega) (by omega)
  have hm : mx (u.length : Int) 1 ≤ 3 := by unfold mx; split <;> omega
  obtain ⟨c, hc, _⟩ := pick_ev hb (p + 1 + 1) (mx (u.length : Int) 1) (by omega) (by omega) (by omega)
  obtain ⟨e, he, _⟩ := pick_ev hb (p + 1 + 1 + 1) 7 (by omega) (by omega) (by omega)
  obtain ⟨f, hf, _⟩ := pick_ev hb (p + 1 + 1) 5 (by omega) (by omega) (by omega)
  have hi8 := i1 (by omega)
  simp only [spec_l20Deed.f]
  by_cases k0 : wrap64 ((rd [0, 1, 2, 2, 2, 2, 3, 4] i) + (wrap64 ((wrap64 (Int.tdiv j 59)) * 5))) = 0
  · obtain ⟨d, hd, q1, q2⟩ := drawDeedj_ev hb (p + 1 + 1 + 1 + 1) (by omega) (by omega) (wrap64 ((rd [0, 1, 2, 2, 2, 2, 3, 4] i) + (wrap64 ((wrap64 (Int.tdiv j 59)) * 5)))) c (wrap64 (e - 3))
    exact ⟨d, ev_bind (Ev.now _) (ev_bind hi (ev_pos i0 (ev_pos (by simp; omega) (ev_bind hj (ev_pos k0 (ev_bind hc (ev_bind he hd))))))), by omega, by omega⟩
  by_cases k1 : wrap64 ((rd [0, 1, 2, 2, 2, 2, 3, 4] i) + (wrap64 ((wrap64 (Int.tdiv j 59)) * 5))) = 1
  · obtain ⟨d, hd, q1, q2⟩ := drawDeedj_ev hb (p + 1 + 1 + 1) (by omega) (by omega) (wrap64 ((rd [0, 1, 2, 2, 2, 2, 3, 4] i) + (wrap64 ((wrap64 (Int.tdiv j 59)) * 5)))) (wrap64 (f - 1)) 0
    exact ⟨d, ev_bind (Ev.now _) (ev_bind hi (ev_pos i0 (ev_pos (by simp; omega) (ev_bind hj (ev_neg k0 (ev_pos k1 (ev_bind hf hd))))))), by omega, by omega⟩
  by_cases k2 : wrap64 ((rd [0, 1, 2, 2, 2, 2, 3, 4] i) + (wrap64 ((wrap64 (Int.tdiv j 59)) * 5))) = 2
  · obtain ⟨d, hd, q1, q2⟩ := drawDeedj_ev hb (p + 1 + 1 + 1) (by omega) (by omega) (wrap64 ((rd [0, 1, 2, 2, 2, 2, 3, 4] i) + (wrap64 ((wrap64 (Int.tdiv j 59)) * 5)))) c 0
    exact ⟨d, ev_bind (Ev.now _) (ev_bind hi (ev_pos i0 (ev_pos (by simp; omega) (ev_bind hj (ev_neg k0 (ev_neg k1 (ev_pos k2 (ev_bind hc hd)))))))), by omega, by omega⟩
  · obtain ⟨d, hd, q1, q2⟩ := drawDeedj_ev hb (p + 1 + 1) (by omega) (by omega) (wrap64 ((rd [0, 1, 2, 2, 2, 2, 3, 4] i) + (wrap64 ((wrap64 (Int.tdiv j 59)) * 5)))) 0 0
    exact ⟨d, ev_bind (Ev.now _) (ev_bind hi (ev_pos i0 (ev_pos (by simp; omega) (ev_bind hj (ev_neg k0 (ev_neg k1 (ev_neg k2 hd))))))), by omega, by omega⟩
theorem odd0 (b : List Int) (p : Int) : ∀ k, spec_l20Rd_odd.f k b p 0 = some (false, p) := fun k => by simp [spec_l20Rd_odd.f]
theorem odd0_ev (b : List Int) (p : Int) : Ev (fun k => spec_l20Rd_odd.f k b p 0) (false, p) := Ev.congr (odd0 b p) (Ev.now _)
theorem drawUrn_loop {b : List Int} (hb : BytesOk b) : ∀ (d : Nat) (l : List Int) (p : Int), l.length + d ≤ 3 → 1 ≤ l.length + d → (∀ x ∈ l, 0 ≤ x ∧ x ≤ 5) → 0 ≤ p → p + (d : Int) ≤ 1000000000 →
    ∃ o, Ev (fun k => spec_l20Urn.l0 k 0 l (d : Int) b p) (o, p + d) ∧ o.length = l.length + d ∧ ∀ x ∈ o, 0 ≤ x ∧ x ≤ 5 := by
  intro d
  induction d with
  | zero =>
    intro l p hd hd1 hr h0 hp
    refine ⟨l, ev_suc ?_, by simp, hr⟩
    simp only [spec_l20Urn.l0]
    refine ev_neg (by omega) (ev_bind (odd0_ev b p) (ev_neg (by simp) (ev_now (by simp))))
  | succ d ih =>
    intro l p hd hd1 hr h0 hp
    obtain ⟨r, hr1, r0, r1, _⟩ := pick_ev hb p 6 h0 (by omega) (by omega)
    have hr6 := r1 (by omega)
    obtain ⟨o, ho, ho1, ho2⟩ := ih (l ++ [r]) (p + 1) (by simp; omega) (by simp; omega) (by
      intro x hx
      rcases List.mem_append.1 hx with hx | hx
      · exact hr x hx
      · rw [List.mem_singleton] at hx; subst hx; omega) (by omega) (by omega)
    refine ⟨o, ev_suc ?_, by rw [ho1]; simp; omega, ho2⟩
    simp only [spec_l20Urn.l0]
    refine ev_pos (by omega) (ev_bind hr1 (ev_pos (by omega) ?_))
    rw [w64 (by omega) (by omega)]
    have e : ((d + 1 : Nat) : Int) - 1 = (d : Int) := by omega
    simp only [e]
    refine ev_eq ho ?_
    congr 1
    omega
theorem drawUrn_ev {b : List Int} (hb : BytesOk b) (p : Int) (h0 : 0 ≤ p) (hp : p ≤ 100000000) :
    ∃ o p', Ev (fun k => spec_l20Urn.f k b p 0) (o, p') ∧ 1 ≤ o.length ∧ o.length ≤ 3 ∧ (∀ x ∈ o, 0 ≤ x ∧ x ≤ 5) ∧ p ≤ p' ∧ p' ≤ p + 4 := by
  obtain ⟨r, hr, r0, r1, _⟩ := pick_ev hb p 3 h0 (by omega) (by omega)
  have hr3 := r1 (by omega)
  obtain ⟨o, ho, ho1, ho2⟩ := drawUrn_loop hb (1 + r).toNat [] (p + 1) (by simp; omega) (by simp; omega) (by simp) (by omega) (by omega)
  refine ⟨o, p + 1 + ((1 + r).toNat : Int), ?_, by rw [ho1]; simp; omega, by rw [ho1]; simp; omega, ho2, by omega, by omega⟩
  simp only [spec_l20Urn.f]
  refine ev_bind hr ?_
  simp only []
  rw [w64 (by omega) (by omega)]
  have e : ((1 + r).toNat : Int) = 1 + r := by omega
  rw [e] at ho ⊢
  exact ho
theorem drawPlace_loop {b : List Int} (hb : BytesOk b) (n : Int) (hn : 0 ≤ n ∧ n ≤ 1000) (u : List Int) (s : Int) (hu : 1 ≤ u.length ∧ u.length ≤ 3) (hs : -1 ≤ s ∧ s ≤ 3) : ∀ (d : Nat) (w : List Int) (p : Int), d ≤ 4 → w.length + d ≤ 4 → 0 ≤ p → p + (d : Int) ≤ 1000000000 →
    ∃ u' s' w' p', Ev (fun k => spec_l20Place.l0 k n (d : Int) b p u s w) (u', s', w', p') ∧ u'.length ≤ 3 ∧ w'.length ≤ 5 ∧ -1 ≤ s' ∧ s' ≤ 4 ∧ p ≤ p' ∧ p' ≤ p + d + 2 ∧ (n = 0 → u' = u ∧ s' = s) := by
  intro d
  induction d with
  | zero =>
    intro w p hd hd1 h0 hp
    by_cases hn0 : n = 0
    · subst hn0
      refine ⟨u, s, w, p, ev_suc ?_, hu.2, by omega, by omega, by omega, by omega, by omega, fun _ => ⟨rfl, rfl⟩⟩
      simp only [spec_l20Place.l0]
      exact ev_neg (by omega) (ev_bind (odd0_ev b p) (ev_neg (by simp) (Ev.now _)))
    · obtain ⟨q, hq⟩ := odd_ev hb p n (by omega) (by omega) (by omega) (by omega)
      cases q with
      | false =>
        refine ⟨u, s, w, p + 1, ev_suc ?_, hu.2, by omega, by omega, by omega, by omega, by omega, fun h => absurd h hn0⟩
        simp only [spec_l20Place.l0]
        exact ev_neg (by omega) (ev_bind hq (ev_neg (by simp) (Ev.now _)))
      | true =>
        obtain ⟨r, hr, r0, r1, _⟩ := pick_ev hb (p + 1) 3 (by omega) (by omega) (by omega)
        have hr3 := r1 (by omega)
        by_cases e0 : r = 0
        · refine ⟨u, 4, w, p + 1 + 1, ev_suc ?_, hu.2, by omega, by omega, by omega, by omega, by omega, fun h => absurd h hn0⟩
          simp only [spec_l20Place.l0]
          exact ev_neg (by omega) (ev_bind hq (ev_pos rfl (ev_bind hr (ev_pos e0 (Ev.now _)))))
        · by_cases e1 : r = 1
          · refine ⟨u, s, w ++ [3], p + 1 + 1, ev_suc ?_, hu.2, by simp; omega, by omega, by omega, by omega, by omega, fun h => absurd h hn0⟩
            simp only [spec_l20Place.l0]
            exact ev_neg (by omega) (ev_bind hq (ev_pos rfl (ev_bind hr (ev_neg e0 (ev_pos e1 (ev_pos (by omega) (Ev.now _)))))))
          · refine ⟨[], 0, [], p + 1 + 1, ev_suc ?_, by simp, by simp, by omega, by omega, by omega, by omega, fun h => absurd h hn0⟩
            simp only [spec_l20Place.l0]
            exact ev_neg (by omega) (ev_bind hq (ev_pos rfl (ev_bind hr (ev_neg e0 (ev_neg e1 (Ev.now _))))))
  | succ d ih =>
    intro w p hd hd1 h0 hp
    obtain ⟨r, hr, r0, r1, _⟩ := pick_ev hb p (u.length : Int) h0 (by omega) (by omega)
    have e : ((d + 1 : Nat) : Int) - 1 = (d : Int) := by omega
    have hP := specPlace_ev u s (w ++ [r]) (by omega) (by simp; omega)
    by_cases hB : placeB u s (w ++ [r]) = true
    · obtain ⟨u', s', w', p', h, h1, h2, h3, h4, h5, h6, h7⟩ := ih (w ++ [r]) (p + 1) (by omega) (by simp; omega) (by omega) (by omega)
      refine ⟨u', s', w', p', ev_suc ?_, h1, h2, h3, h4, by omega, by omega, h7⟩
      simp only [spec_l20Place.l0]
      refine ev_pos (by omega) (ev_bind (Ev.now _) (ev_pos (by simp; omega) (ev_bind (Ev.now _) (ev_bind hr (ev_pos (by simp; omega) (ev_bind (Ev.now _) ?_))))))
      simp only [List.nil_append]
      refine ev_bind hP (ev_pos hB ?_)
      rw [w64 (by omega) (by omega), e]
      exact h
    · obtain ⟨u', s', w', p', h, h1, h2, h3, h4, h5, h6, h7⟩ := ih w (p + 1) (by omega) (by omega) (by omega) (by omega)
      refine ⟨u', s', w', p', ev_suc ?_, h1, h2, h3, h4, by omega, by omega, h7⟩
      simp only [spec_l20Place.l0]
      refine ev_pos (by omega) (ev_bind (Ev.now _) (ev_pos (by simp; omega) (ev_bind (Ev.now _) (ev_bind hr (ev_pos (by simp; omega) (ev_bind (Ev.now _) ?_))))))
      simp only [List.nil_append]
      refine ev_bind hP (ev_neg hB ?_)
      rw [w64 (by omega) (by omega), e]
      exact h
theorem drawPlace_ev {b : List Int} (hb : BytesOk b) (p n : Int) (hn : 0 ≤ n ∧ n ≤ 1000) (h0 : 0 ≤ p) (hp : p ≤ 10000000) :
    ∃ u s w p', Ev (fun k => spec_l20Place.f k b p n) (u, s, w, p') ∧ u.length ≤ 3 ∧ w.length ≤ 5 ∧ -1 ≤ s ∧ s ≤ 4 ∧ p ≤ p' ∧ p' ≤ p + 12 ∧ (n = 0 → 1 ≤ u.length) := by
  obtain ⟨u, p1, e1, a1, a2, a3, a4, a5⟩ := drawUrn_ev hb p h0 (by omega)
  obtain ⟨r, hr, r0, r1, _⟩ := pick_ev hb p1 5 (by omega) (by omega) (by omega)
  have hr5 := r1 (by omega)
  obtain ⟨q, hq, q0, q1, _⟩ := pick_ev hb (p1 + 1) 5 (by omega) (by omega) (by omega)
  have hq5 := q1 (by omega)
  obtain ⟨u', s', w', p', h, h1, h2, h3, h4, h5, h6, h7⟩ := drawPlace_loop hb n hn u (r - 1) ⟨a1, a2⟩ ⟨by omega, by omega⟩ q.toNat [] (p1 + 1 + 1) (by omega) (by simp; omega) (by omega) (by omega)
  refine ⟨u', s', w', p', ?_, h1, h2, h3, h4, by omega, by omega, fun hz => by rw [(h7 hz).1]; exact a1⟩
  simp only [spec_l20Place.f]
  refine ev_bind e1 (ev_bind hr (ev_bind hq ?_))
  simp only []
  rw [w64 (by omega) (by omega)]
  have e : (q.toNat : Int) = q := by omega
  rw [e] at h
  exact h
theorem alive_ev : Ev (fun k => laws_alive.f k) true := Ev.of laws_alive.mono (k := 5) (by decide +kernel)
theorem l15Copy_loop (u : List Int) (s : Int) (w : List Int) (a : List S26) (hl : a.length ≤ 1000) (hA : ∀ q ∈ a, Sized1 q) : ∀ (x p : List S26), a = p ++ x →
    Ev (fun k => spec_l15Copy.l0 k (p.length : Int) u s w a u s w p) (u, s, w, a) := by
  intro x
  induction x with
  | nil =>
    intro p h
    rw [List.append_nil] at h
    subst h
    refine ev_suc ?_
    simp only [spec_l15Copy.l0]
    exact ev_neg (by omega) (Ev.now _)
  | cons q t ih =>
    intro p h
    have e : a.length = p.length + (t.length + 1) := by rw [h]; simp
    have hq : rd_T26 a (p.length : Int) = q := by rw [h]; exact rdP_at _ _ _
    have hs := hA q (by rw [h]; simp)
    refine ev_suc ?_
    simp only [spec_l15Copy.l0, hq]
    refine ev_pos (by omega) (ev_pos (by omega) ?_)
    rw [l15Place_eq q.f0 q.f1 q.f2 hs.1 hs.2]
    refine ev_bind (Ev.now _) (ev_pos (by omega) ?_)
    rw [w64 (by omega) (by omega)]
    have := ih (p ++ [q]) (by rw [h]; simp)
    have e2 : ((p ++ [q]).length : Int) = (p.length : Int) + 1 := by simp
    rw [e2] at this
    exact this
theorem l15Copy_ev (u : List Int) (s : Int) (w : List Int) (a : List S26) (hu : (u.length : Int) ≤ 1000000) (hw : (w.length : Int) ≤ 1000000) (hl : a.length ≤ 1000) (hA : ∀ q ∈ a, Sized1 q) :
    Ev (fun k => spec_l15Copy.f k u s w a) (u, s, w, a) := by
  unfold spec_l15Copy.f
  rw [l15Place_eq u s w (by omega) (by omega)]
  exact ev_bind (Ev.now _) (l15Copy_loop u s w a hl hA a [] rfl)
abbrev Fit (u : List Int) (w : List Int) (a : List S26) : Prop := u.length ≤ 3 ∧ w.length ≤ 10 ∧ a.length ≤ 8 ∧ ∀ q ∈ a, q.f0.length ≤ 3 ∧ q.f2.length ≤ 10
theorem sdeskdo_ev (u : List Int) (s : Int) (w : List Int) (a : List S26) (x y z : Int) (hF : Fit u w a) :
    ∃ v, Ev (fun k => spec_DeskDo.f k u s w a x y z) v ∧ Fit v.1 v.2.2.1 v.2.2.2.1 := by
  obtain ⟨f1, f2, f3, f4⟩ := hF
  have hA : ∀ q ∈ a, Sized1 q := fun q hq => by have := f4 q hq; exact ⟨by omega, by omega⟩
  have hD : Ev (fun k => spec_DeskOk.f k u s w a) (deskB u s w a) := by
    unfold spec_DeskOk.f
    exact specDesk_loop u s w a (by omega) (by omega) (by omega) hA _ [] rfl (by simp)
  by_cases hd : deskB u s w a = true
  · obtain ⟨d1, d2, d3⟩ := (deskB_iff _ _ _ _).1 hd
    obtain ⟨_, _, _, _, _, _, p7⟩ := place_data d2
    have hC := l15Copy_ev u s w a (by omega) (by omega) (by omega) hA
    have hj1 : ∀ (t : Bool) (u' : List Int) (s' : Int) (w' : List Int), u'.length ≤ 3 → w'.length ≤ 10 → ∃ v, Ev (fun k => spec_DeskDo.j1 k t u s w a u' s' w') v ∧ Fit v.1 v.2.2.1 v.2.2.2.1 := by
      intro t u' s' w' g1 g2
      cases t with
      | true =>
        refine ⟨(u, s, w, a, false), ev_suc ?_, f1, f2, f3, f4⟩
        simp only [spec_DeskDo.j1]
        exact ev_pos (by simp) (Ev.now _)
      | false =>
        have hm : ∀ q ∈ a ++ [(⟨u, s, w⟩ : S26)], q.f0.length ≤ 3 ∧ q.f2.length ≤ 10 := by
          intro q hq
          rcases List.mem_append.1 hq with hq | hq
          · exact f4 q hq
          · obtain rfl := List.mem_singleton.1 hq
            exact ⟨f1, f2⟩
        by_cases h8 : ((a ++ [(⟨u, s, w⟩ : S26)]).length : Int) > 8
        · refine ⟨(u', s', w', (a ++ [(⟨u, s, w⟩ : S26)]).drop (1 : Int).toNat, true), ev_suc ?_, g1, g2, by simp; omega, fun q hq => hm q (List.mem_of_mem_drop hq)⟩
          simp only [spec_DeskDo.j1]
          exact ev_neg (by simp) (ev_pos (by omega) (ev_bind (Ev.now _) (ev_pos h8 (ev_pos (by omega) (Ev.now _)))))
        · refine ⟨(u', s', w', a ++ [(⟨u, s, w⟩ : S26)], true), ev_suc ?_, g1, g2, by simp at h8 ⊢; omega, hm⟩
          simp only [spec_DeskDo.j1]
          exact ev_neg (by simp) (ev_pos (by omega) (ev_bind (Ev.now _) (ev_neg h8 (Ev.now _))))
    have hj0 : ∀ t : Bool, (t = true → 0 < a.length) → ∃ v, Ev (fun k => spec_DeskDo.j0 k t u s w a x y z u s w a) v ∧ Fit v.1 v.2.2.1 v.2.2.2.1 := by
      intro t ht
      cases t with
      | true =>
        have h0 := ht rfl
        obtain ⟨p, q, hpq⟩ : ∃ p q, a = p ++ [q] := by
          rcases List.eq_nil_or_concat a with h | ⟨p, q, h⟩
          · rw [h] at h0; simp at h0
          · exact ⟨p, q, by simpa using h⟩
        have e : a.length = p.length + 1 := by rw [hpq]; simp
        have ew : wrap64 ((a.length : Int) - 1) = (p.length : Int) := by rw [w64 (by omega) (by omega)]; omega
        have hq : rd_T26 a (p.length : Int) = q := by rw [hpq]; exact rdP_at _ _ _
        have fq := f4 q (by rw [hpq]; simp)
        refine ⟨(q.f0, q.f1, q.f2, a.take (p.length : Int).toNat, true), ev_suc ?_, fq.1, fq.2, by simp; omega, fun r hr => f4 r (List.mem_of_mem_take hr)⟩
        simp only [spec_DeskDo.j0, ew, hq]
        exact ev_pos (by simp) (ev_pos (by omega) (ev_pos (by omega) (ev_pos (by omega) (Ev.now _))))
      | false =>
        obtain ⟨v, hv, l1, l2⟩ := smade_ev u s w x y z (by omega) (by omega)
        have hP := specPlace_ev v.1 v.2.1 v.2.2 (by omega) (by omega)
        by_cases hp : placeB v.1 v.2.1 v.2.2 = true
        · obtain ⟨r, hr, hf⟩ := hj1 ((ba (placeT v.1 v.2.1 v.2.2)).toList == (ba (placeT u s w)).toList) v.1 v.2.1 v.2.2 (by omega) (by omega)
          refine ⟨r, ev_suc ?_, hf⟩
          simp only [spec_DeskDo.j0]
          exact ev_neg (by simp) (ev_bind hv (ev_bind hP (ev_pos hp (ev_bind (splacet_ev _ _ _ (by omega) (by omega)) (ev_bind (splacet_ev u s w (by omega) (by omega)) hr)))))
        · obtain ⟨r, hr, hf⟩ := hj1 true v.1 v.2.1 v.2.2 (by omega) (by omega)
          refine ⟨r, ev_suc ?_, hf⟩
          simp only [spec_DeskDo.j0]
          exact ev_neg (by simp) (ev_bind hv (ev_bind hP (ev_neg hp hr)))
    unfold spec_DeskDo.f
    by_cases h4 : (x == 4 && (y == 0 && (z == 0))) = true
    · obtain ⟨v, hv, hf⟩ := hj0 (decide ((a.length : Int) > 0)) (fun h => by simp at h; omega)
      exact ⟨v, ev_bind hD (ev_pos hd (ev_bind hC (ev_pos h4 hv))), hf⟩
    · obtain ⟨v, hv, hf⟩ := hj0 false (fun h => by cases h)
      exact ⟨v, ev_bind hD (ev_pos hd (ev_bind hC (ev_neg h4 hv))), hf⟩
  · refine ⟨([], 0, [], [], false), ?_, by simp [Fit]⟩
    unfold spec_DeskDo.f
    exact ev_bind hD (ev_neg hd (Ev.now _))
theorem drawDesk_loop {b : List Int} (hb : BytesOk b) (n : Int) (hn : 1 ≤ n ∧ n ≤ 1000) : ∀ (j : Nat), j ≤ 5 → ∀ (p : Int), 0 ≤ p → p ≤ 1000 * (10 - (j : Int)) → ∀ (u : List Int) (s : Int) (w : List Int) (a : List S26), Fit u w a →
    ∃ v, Ev (fun k => spec_l20Desk.l0 k n (j : Int) b p u s w a) v ∧ (v.1.length : Int) ≤ 1000000000000 ∧ (v.2.2.1.length : Int) ≤ 1000000000000 ∧ (v.2.2.2.1.length : Int) ≤ 1000000000000 ∧ ∀ q ∈ v.2.2.2.1, Sized1 q := by
  intro j
  induction j with
  | zero =>
    intro _ p h0 hp u s w a hF
    obtain ⟨f1, f2, f3, f4⟩ := hF
    have hA : ∀ q ∈ a, Sized1 q := fun q hq => by have := f4 q hq; exact ⟨by omega, by omega⟩
    obtain ⟨r, hr⟩ := odd_ev hb p n h0 (by omega) (by omega) hn.1
    cases r with
    | false =>
      refine ⟨(u, s, w, a, p + 1), ev_suc ?_, by simp only; omega, by simp only; omega, by simp only; omega, hA⟩
      simp only [spec_l20Desk.l0]
      exact ev_neg (by simp) (ev_bind hr (ev_neg (by simp) (Ev.now _)))
    | true =>
      obtain ⟨c, hc, _⟩ := pick_ev hb (p + 1) 3 (by omega) (by omega) (by omega)
      by_cases c0 : c = 0
      · refine ⟨(u, 4, w, a, p + 1 + 1), ev_suc ?_, by simp only; omega, by simp only; omega, by simp only; omega, hA⟩
        simp only [spec_l20Desk.l0]
        exact ev_neg (by simp) (ev_bind hr (ev_pos rfl (ev_bind hc (ev_pos c0 (Ev.now _)))))
      by_cases c1 : c = 1
      · refine ⟨(u, s, w, a ++ [⟨[], 0, []⟩], p + 1 + 1), ev_suc ?_, by simp only; omega, by simp only; omega, by simp; omega, ?_⟩
        · simp only [spec_l20Desk.l0]
          exact ev_neg (by simp) (ev_bind hr (ev_pos rfl (ev_bind hc (ev_neg c0 (ev_pos c1 (ev_pos (by omega) (Ev.now _)))))))
        · intro q hq
          rcases List.mem_append.1 hq with hq | hq
          · exact hA q hq
          · obtain rfl := List.mem_singleton.1 hq
            exact ⟨by simp, by simp⟩
      · refine ⟨([], 0, [], [], p + 1 + 1), ev_suc ?_, by simp, by simp, by simp, by simp⟩
        simp only [spec_l20Desk.l0]
        exact ev_neg (by simp) (ev_bind hr (ev_pos rfl (ev_bind hc (ev_neg c0 (ev_neg c1 (Ev.now _))))))
  | succ j ih =>
    intro hj p h0 hp u s w a hF
    obtain ⟨d, hd, d1, d2⟩ := drawDeed_ev hb p h0 (by omega) u s w hF.1
    obtain ⟨v, hv, hf⟩ := sdeskdo_ev u s w a d.1 d.2.1 d.2.2.1 hF
    have ew : wrap64 (((j + 1 : Nat) : Int) - 1) = (j : Int) := by rw [w64 (by omega) (by omega)]; omega
    by_cases ho : v.2.2.2.2 = true
    · obtain ⟨r, hr, hh⟩ := ih (by omega) d.2.2.2 (by omega) (by omega) v.1 v.2.1 v.2.2.1 v.2.2.2.1 hf
      refine ⟨r, ev_suc ?_, hh⟩
      simp only [spec_l20Desk.l0, ew]
      exact ev_pos (by omega) (ev_bind hd (ev_bind hv (ev_pos ho hr)))
    · obtain ⟨r, hr, hh⟩ := ih (by omega) d.2.2.2 (by omega) (by omega) u s w a hF
      refine ⟨r, ev_suc ?_, hh⟩
      simp only [spec_l20Desk.l0, ew]
      exact ev_pos (by omega) (ev_bind hd (ev_bind hv (ev_neg ho hr)))
end FnDeskOk_parts
open FnDeskOk_parts
theorem FnDeskOk : laws_FnDeskOk.Pure := by
  intro l _ hl2 hw
  refine Ev.rounds ?_
  simp only [laws_FnDeskOk.f]
  by_cases h : (l.length : Int) > 1048576
  · exact ev_pos h (Ev.now _)
  refine ev_neg h ?_
  obtain ⟨b, hb, hB⟩ := open_ev hw
  obtain ⟨u, s, w, p', hd, h1, h2, h3, h4, h5, h6, _⟩ := drawPlace_ev hB 0 0 ⟨by omega, by omega⟩ (by omega) (by omega)
  obtain ⟨c, hc, c0, c1, _⟩ := pick_ev hB p' 5 (by omega) (by omega) (by omega)
  have c5 := c1 (by omega)
  have hN := specNew_ev u s w (by omega) (by omega)
  obtain ⟨g, hg, hF⟩ : ∃ g, Ev (fun k => spec_DeskNew.f k u s w) g ∧ Fit g.1 g.2.2.1 g.2.2.2.1 := by
    by_cases hp : placeB u s w = true
    · rw [if_pos hp] at hN
      exact ⟨_, hN, by simp only; omega, by simp only; omega, by simp, by simp⟩
    · rw [if_neg hp] at hN
      exact ⟨_, hN, by simp [Fit]⟩
  obtain ⟨j, rfl⟩ : ∃ j : Nat, c = (j : Int) := ⟨c.toNat, by omega⟩
  obtain ⟨v, hv, v1, v2, v3, v4⟩ := drawDesk_loop hB 2 ⟨by omega, by omega⟩ j (by omega) (p' + 1) (by omega) (by omega) g.1 g.2.1 g.2.2.1 g.2.2.2.1 hF
  have hdraw : Ev (fun k => spec_l20Desk.f k b 0 2) v := by
    unfold spec_l20Desk.f
    exact ev_bind hd (ev_bind hg (ev_bind hc hv))
  simp only [spec_DrawDeskOk.f, hb]
  refine ev_bind (ev_bind (Ev.now _) (ev_bind hdraw (Ev.now _))) ?_
  have hS : Ev (fun k => spec_DeskOk.f k v.1 v.2.1 v.2.2.1 v.2.2.2.1) (deskB v.1 v.2.1 v.2.2.1 v.2.2.2.1) := by
    unfold spec_DeskOk.f
    exact specDesk_loop v.1 v.2.1 v.2.2.1 v.2.2.2.1 v1 v2 v3 v4 _ [] rfl (by simp)
  refine ev_bind (implDesk_ev v.1 v.2.1 v.2.2.1 v.2.2.2.1 v1 v2 v3 v4) (ev_bind hS (ev_neg (by simp) ?_))
  have h0 := implDesk_ev [] 0 [] [] (by simp) (by simp) (by simp) (by simp)
  have e0 : ¬ deskB [] 0 [] [] = true := by decide
  by_cases hk : deskB v.1 v.2.1 v.2.2.1 v.2.2.2.1 = true
  · have hk2 : deskB v.1 v.2.1 v.2.2.1 [] = true := (deskB_iff _ _ _ _).2 ⟨by simp, ((deskB_iff _ _ _ _).1 hk).2.1, by simp⟩
    exact ev_pos hk (ev_bind (implDesk_ev v.1 v.2.1 v.2.2.1 [] v1 v2 (by simp) (by simp)) (ev_pos hk2 (ev_bind h0 (ev_neg e0 (ev_bind alive_ev (Ev.now _))))))
  · exact ev_neg hk (ev_bind h0 (ev_neg e0 (ev_bind alive_ev (Ev.now _))))
end Go.Proofs.Ytncgleffkbegjaa.Pure
