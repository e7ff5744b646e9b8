/- For the law FnStoreNew: for every code the store of a drawn place is told by the program as by the reference; it is a store, and opened it is the desk of the place; and of what is no place there is none. The conditions: the bytes or numbers that come in are of their kinds, as the statement says. -/
import Derived.Test.YtfacponjomafcaaGreatDoorMFnStoreNewx19
import Derived.Test.YtfacponjomafcaaGreatDoorBase
import Derived.Test.YtfacponjomafcaaGreatDoorMath
import Derived.Test.YtfacponjomafcaaGreatDoorPlace
import Derived.Test.YtfacponjomafcaaGreatDoorDeed
import Derived.Test.YtfacponjomafcaaGreatDoorText
namespace Go.Proofs.YtfacponjomafcaaGreatDoor.Pure
open Go.RowKit Go.Proofs.YtfacponjomafcaaGreatDoor.MFnStoreNew Go.Proofs.YtfacponjomafcaaGreatDoorW.PrintWords Go.Proofs.YtfacponjomafcaaGreatDoorW.PrintLast Go.Proofs.YtfacponjomafcaaGreatDoor.Base
namespace FnStoreNew_parts
theorem colours_ev (n : Int) : impl_coloursOk.f n = some (decide (1 ≤ n) && decide (n ≤ 3)) := by
  unfold impl_coloursOk.f
  by_cases h : n ≥ 1
  · rw [if_pos h]; simp; omega
  · rw [if_neg h]; simp; omega
theorem urnB_no {u : List Int} {x : Int} (hx : x ∈ u) (h : ¬ (0 ≤ x ∧ x ≤ 40)) : urnB u = false := by
  cases e : urnB u with
  | false => rfl
  | true => exact absurd (((urnB_iff u).1 e).1 x hx) h
theorem implUrn_loop (l : List Int) (hl : (l.length : Int) ≤ 1000000000000) : ∀ (suf pre : List Int), l = pre ++ suf → (∀ x ∈ pre, 0 ≤ x ∧ x ≤ 40) →
    Ev (fun k => impl_UrnOk.l0 k l l (l.length : Int) (pre.length : Int)) (urnB l) := by
  intro suf
  induction suf with
  | nil =>
    intro pre h hr
    have e : l.length = pre.length := by rw [h]; simp
    refine ev_suc ?_
    simp (disch := omega) only [impl_UrnOk.l0, if_neg, colours_ev]
    refine ev_now ?_
    rw [List.append_nil] at h
    subst h
    rw [Bool.eq_iff_iff, urnB_iff]
    simp only [Bool.and_eq_true, decide_eq_true_eq]
    exact ⟨fun h => ⟨hr, by omega, by omega⟩, fun h => ⟨by omega, by omega⟩⟩
  | cons x t ih =>
    intro pre h hr
    have e : l.length = pre.length + (t.length + 1) := by rw [h]; simp
    have hx : rd l (pre.length : Int) = x := by rw [h]; exact rd_at _ _ _
    have hxl : x ∈ l := by rw [h]; simp
    refine ev_suc ?_
    simp (disch := omega) only [impl_UrnOk.l0, hx, if_pos]
    by_cases h1 : x < 0
    · exact ev_pos h1 (ev_now (urnB_no hxl (by omega)).symm)
    · refine ev_neg h1 ?_
      by_cases h2 : x > 40
      · exact ev_pos h2 (ev_now (urnB_no hxl (by omega)).symm)
      · refine ev_neg h2 ?_
        rw [w64 (by omega) (by omega), len_at pre x]
        refine ih (pre ++ [x]) (by rw [h]; simp) ?_
        intro y hy
        rcases List.mem_append.1 hy with hy | hy
        · exact hr y hy
        · rw [List.mem_singleton] at hy; subst hy; omega
theorem implUrnOk_ev (l : List Int) (hl : (l.length : Int) ≤ 1000000000000) : Ev (fun k => impl_UrnOk.f k l) (urnB l) := by
  simp only [impl_UrnOk.f]
  exact implUrn_loop l hl l [] rfl (by simp)
theorem implStart_loop (l : List Int) (hl : (l.length : Int) ≤ 1000000000000) : ∀ (suf pre : List Int), l = pre ++ suf → (∀ x ∈ pre, x ≤ 10) →
    Ev (fun k => impl_StartOk.l0 k l l (l.length : Int) (pre.length : Int)) (startB l) := by
  intro suf
  induction suf with
  | nil =>
    intro pre h hr
    have e : l.length = pre.length := by rw [h]; simp
    refine ev_suc ?_
    simp (disch := omega) only [impl_StartOk.l0, if_neg]
    refine ev_bind (implUrnOk_ev l hl) (ev_now ?_)
    rw [List.append_nil] at h
    subst h
    have : (l.all fun x => decide (x ≤ 10)) = true := by simpa using hr
    simp [startB, this]
  | cons x t ih =>
    intro pre h hr
    have e : l.length = pre.length + (t.length + 1) := by rw [h]; simp
    have hx : rd l (pre.length : Int) = x := by rw [h]; exact rd_at _ _ _
    have hxl : x ∈ l := by rw [h]; simp
    refine ev_suc ?_
    simp (disch := omega) only [impl_StartOk.l0, hx, if_pos]
    by_cases h1 : x > 10
    · refine ev_pos h1 (ev_now ?_)
      cases e : startB l with
      | false => rfl
      | true => have := ((startB_iff l).1 e).1 x hxl; omega
    · refine ev_neg h1 ?_
      rw [w64 (by omega) (by omega), len_at pre x]
      refine ih (pre ++ [x]) (by rw [h]; simp) ?_
      intro y hy
      rcases List.mem_append.1 hy with hy | hy
      · exact hr y hy
      · rw [List.mem_singleton] at hy; subst hy; omega
theorem implStartOk_ev (l : List Int) (hl : (l.length : Int) ≤ 1000000000000) : Ev (fun k => impl_StartOk.f k l) (startB l) := by
  simp only [impl_StartOk.f]
  exact implStart_loop l hl l [] rfl (by simp)
theorem wordB_no {n : Int} {w : List Int} {x : Int} (hx : x ∈ w) (h : ¬ (0 ≤ x ∧ x < n)) : wordB n w = false := by
  cases e : wordB n w with
  | false => rfl
  | true => exact absurd (((wordB_iff n w).1 e).1 x hx) h
theorem implWord_loop (n : Int) (l : List Int) (hl : (l.length : Int) ≤ 1000000000000) : ∀ (suf pre : List Int), l = pre ++ suf → (∀ x ∈ pre, 0 ≤ x ∧ x < n) →
    Ev (fun k => impl_WordOk.l0 k n l l (l.length : Int) (pre.length : Int)) (wordB n l) := by
  intro suf
  induction suf with
  | nil =>
    intro pre h hr
    have e : l.length = pre.length := by rw [h]; simp
    refine ev_suc ?_
    simp (disch := omega) only [impl_WordOk.l0, if_neg, colours_ev, Option.bind_some]
    rw [List.append_nil] at h
    subst h
    by_cases hn : 1 ≤ n ∧ n ≤ 3
    · refine ev_pos (by simp [hn]) (ev_now ?_)
      rw [Bool.eq_iff_iff, wordB_iff]
      simp only [decide_eq_true_eq]
      exact ⟨fun h => ⟨hr, by omega, hn⟩, fun h => by omega⟩
    · refine ev_neg (by simp only [Bool.and_eq_true, decide_eq_true_eq]; exact hn) (ev_now ?_)
      cases e : wordB n l with
      | false => rfl
      | true => exact absurd ((wordB_iff n l).1 e).2.2 hn
  | cons x t ih =>
    intro pre h hr
    have e : l.length = pre.length + (t.length + 1) := by rw [h]; simp
    have hx : rd l (pre.length : Int) = x := by rw [h]; exact rd_at _ _ _
    have hxl : x ∈ l := by rw [h]; simp
    refine ev_suc ?_
    simp (disch := omega) only [impl_WordOk.l0, hx, if_pos]
    by_cases h1 : x < 0
    · exact ev_pos h1 (ev_now (wordB_no hxl (by omega)).symm)
    · refine ev_neg h1 ?_
      by_cases h2 : x ≥ n
      · exact ev_pos h2 (ev_now (wordB_no hxl (by omega)).symm)
      · refine ev_neg h2 ?_
        rw [w64 (by omega) (by omega), len_at pre x]
        refine ih (pre ++ [x]) (by rw [h]; simp) ?_
        intro y hy
        rcases List.mem_append.1 hy with hy | hy
        · exact hr y hy
        · rw [List.mem_singleton] at hy; subst hy; omega
theorem implWordOk_ev (n : Int) (l : List Int) (hl : (l.length : Int) ≤ 1000000000000) : Ev (fun k => impl_WordOk.f k n l) (wordB n l) := by
  simp only [impl_WordOk.f]
  exact implWord_loop n l hl l [] rfl (by simp)
theorem clone_eq (l : List Int) (hl : (l.length : Int) ≤ 1000000000000) : slices_Clone_int_int.f l = some l := by
  unfold slices_Clone_int_int.f
  rw [if_pos (by omega)]
theorem added_loop (b : List Int) (hb : (b.length : Int) ≤ 1000000000) (hB : Within 1000000000 b) : ∀ (bs q p zs : List Int), b = q ++ bs → p.length = q.length → bs.length ≤ zs.length → Within 1000000000 zs →
    Ev (fun k => impl_added.l0 k (p ++ zs) b (b.length : Int) (q.length : Int)) (p ++ zipAdd zs bs) := by
  intro bs
  induction bs with
  | nil =>
    intro q p zs h _ _ _
    have e : b.length = q.length := by rw [h]; simp
    refine ev_suc ?_
    simp (disch := omega) only [impl_added.l0, if_neg]
    exact ev_now (by cases zs <;> simp [zipAdd])
  | cons y t ih =>
    intro q p zs h hpq hle hA
    cases zs with
    | nil => simp at hle
    | cons x zs =>
      have e : b.length = q.length + (t.length + 1) := by rw [h]; simp
      have hy : rd b (q.length : Int) = y := by rw [h]; exact rd_at _ _ _
      have hx : rd (p ++ x :: zs) (q.length : Int) = x := by rw [← hpq]; exact rd_at _ _ _
      have hl : ((p ++ x :: zs).length : Int) = (q.length : Int) + (zs.length + 1) := by simp; omega
      have by_ := hB y (by rw [h]; simp)
      have bx_ := hA x (by simp)
      refine ev_suc ?_
      simp (disch := omega) only [impl_added.l0, hl, hx, hy, if_pos, w64, Int.toNat_natCast]
      have hset : (p ++ x :: zs).set q.length (x + y) = p ++ [x + y] ++ zs := by rw [← hpq, set_at]; simp
      rw [hset, len_at q y]
      have := ih (q ++ [y]) (p ++ [x + y]) zs (by rw [h]; simp) (by simp [hpq]) (by simpa using hle) (fun z hz => hA z (by simp [hz]))
      simpa [zipAdd] using this
theorem added_ev (u : List Int) (s c : Int) (hu : u.length ≤ 3) (hs : -3 ≤ s ∧ s ≤ 3) (hc : 0 ≤ c ∧ c < (u.length : Int)) (hw : Within 1000000 u) :
    Ev (fun k => impl_added.f k u (rd_L1 (ruleM u.length s) c)) (bump s u c) := by
  have er : rd_L1 (ruleM u.length s) c = (List.replicate u.length (0 : Int)).set c.toNat s := ruleM_row hc.1 hc.2
  have hlen : ((List.replicate u.length (0 : Int)).set c.toNat s).length = u.length := by simp
  simp only [impl_added.f, clone_eq u (by omega), er, Option.bind_some]
  have hW := within_row (n := u.length) (c := c) hs
  have := added_loop ((List.replicate u.length (0 : Int)).set c.toNat s) (by omega) (fun x hx => by have := hW x hx; omega) ((List.replicate u.length (0 : Int)).set c.toNat s) [] [] u (by simp) rfl (by omega) (fun x hx => by have := hw x hx; omega)
  refine ev_eq this ?_
  rw [List.nil_append]
  exact zipAdd_row hu hc.1 hc.2
theorem after_loop (n : Nat) (s : Int) (hn : n ≤ 3) (hs : -3 ≤ s ∧ s ≤ 3) (w : List Int) (hw : w.length ≤ 100) (hwn : ∀ c ∈ w, 0 ≤ c ∧ c < (n : Int)) : ∀ (suf pre u : List Int) (b : Int), w = pre ++ suf → u.length = n → Within b u → 0 ≤ b → b + 3 * suf.length ≤ 1000000 →
    Ev (fun k => impl_after.l0 k (ruleM n s) u w (w.length : Int) (pre.length : Int)) (afterM s u suf) := by
  intro suf
  induction suf with
  | nil =>
    intro pre u b h _ _ _ _
    have e : w.length = pre.length := by rw [h]; simp
    refine ev_suc ?_
    simp (disch := omega) only [impl_after.l0, if_neg]
    exact ev_now rfl
  | cons x t ih =>
    intro pre u b h hu hb hb0 hb1
    have e : w.length = pre.length + (t.length + 1) := by rw [h]; simp
    have hx : rd w (pre.length : Int) = x := by rw [h]; exact rd_at _ _ _
    have hxn := hwn x (by rw [h]; simp)
    have hrl := ruleM_len n s
    simp only [List.length_cons] at hb1
    refine ev_suc ?_
    simp (disch := omega) only [impl_after.l0, hx, if_pos, hrl]
    subst hu
    refine ev_bind (added_ev u s x hn hs hxn (fun y hy => by have := hb y hy; omega)) ?_
    rw [w64 (by omega) (by omega), len_at pre x]
    rw [afterM_cons]
    have := ih (pre ++ [x]) (bump s u x) (b + 3) (by rw [h]; simp) (bump_len _ _ _) (within_bump hb hs x hxn) (by omega) (by omega)
    exact this
theorem after_ev (u : List Int) (s : Int) (w : List Int) (hu : u.length ≤ 3) (hs : -3 ≤ s ∧ s ≤ 3) (hw : w.length ≤ 100) (hwn : ∀ c ∈ w, 0 ≤ c ∧ c < (u.length : Int)) (hb : Within 1000 u) :
    Ev (fun k => impl_after.f k u (ruleM u.length s) w) (afterM s u w) := by
  simp only [impl_after.f, clone_eq u (by omega), Option.bind_some]
  exact after_loop u.length s hu hs w hw hwn w [] u 1000 rfl rfl hb (by omega) (by omega)
theorem ruleWays_loop (u : List Int) (s : Int) (w : List Int) (hu : u.length ≤ 3) (hs : -3 ≤ s ∧ s ≤ 3) (hw : w.length ≤ 6) (hwn : ∀ c ∈ w, 0 ≤ c ∧ c < (u.length : Int)) (hb : Within 10 u) : ∀ (suf pre : List Int) (m : Int), w = pre ++ suf → 0 ≤ m → m ≤ pw pre.length →
    Ev (fun k => impl_ruleWays.l0 k u (ruleM u.length s) w m w (w.length : Int) (pre.length : Int)) (m * waysM s (afterM s u pre) suf) := by
  intro suf
  induction suf with
  | nil =>
    intro pre m h h0 h1
    have e : w.length = pre.length := by rw [h]; simp
    refine ev_suc ?_
    simp (disch := omega) only [impl_ruleWays.l0, if_neg]
    exact ev_now (by simp [waysM])
  | cons x t ih =>
    intro pre m h h0 h1
    have e : w.length = pre.length + (t.length + 1) := by rw [h]; simp
    have hx : rd w (pre.length : Int) = x := by rw [h]; exact rd_at _ _ _
    have hxn := hwn x (by rw [h]; simp)
    have hpn : ∀ c ∈ pre, 0 ≤ c ∧ c < (u.length : Int) := fun c hc => hwn c (by rw [h]; simp [hc])
    have htake : w.take ((pre.length : Int)).toNat = pre := by rw [h]; simp
    have hal := afterM_len s pre u
    have hwi := within_after hs pre 10 u hb hpn
    have hv := hwi _ (rd_mem (b := afterM s u pre) (i := x) hxn.1 (by omega))
    have hmx : 0 ≤ mx 0 (rd (afterM s u pre) x) ∧ mx 0 (rd (afterM s u pre) x) ≤ 40 := by unfold mx; split <;> omega
    have hle := mul_le40 (n := pre.length) h0 h1 hmx.1 hmx.2
    have hnn := Int.mul_nonneg h0 hmx.1
    have hpw := pw_le (n := pre.length + 1) (by omega)
    refine ev_suc ?_
    simp (disch := omega) only [impl_ruleWays.l0, hx, if_pos, htake]
    refine ev_bind (after_ev u s pre hu hs (by omega) hpn (fun y hy => by have := hb y hy; omega)) ?_
    simp (disch := omega) only [hal, if_pos, w64]
    simp only [waysM, ← Int.mul_assoc]
    by_cases hz : m * mx 0 (rd (afterM s u pre) x) = 0
    · exact ev_pos hz (ev_now (by rw [hz]; simp))
    · refine ev_neg hz ?_
      rw [len_at pre x]
      have := ih (pre ++ [x]) (m * mx 0 (rd (afterM s u pre) x)) (by rw [h]; simp) hnn (by simpa using hle)
      rw [afterM_snoc] at this
      exact this
theorem ruleWays_ev (u : List Int) (s : Int) (w : List Int) (hu : u.length ≤ 3) (hs : -3 ≤ s ∧ s ≤ 3) (hw : w.length ≤ 6) (hwn : ∀ c ∈ w, 0 ≤ c ∧ c < (u.length : Int)) (hb : Within 10 u) :
    Ev (fun k => impl_ruleWays.f k u (ruleM u.length s) w) (waysM s u w) := by
  simp only [impl_ruleWays.f]
  exact ev_eq (ruleWays_loop u s w hu hs hw hwn hb w [] 1 rfl (by omega) (by decide)) (by simp [afterM])
theorem iSameRule_all : ∀ n : Fin 4, ∀ s : Fin 5, n.val = 0 ∨ impl_SameRule.f 20 (n.val : Int) ((s.val : Int) - 1) = some (ruleM n.val ((s.val : Int) - 1)) := by decide +kernel
theorem iSameRule_ev (n : Nat) (s : Int) (h1 : 1 ≤ n) (h3 : n ≤ 3) (hs : -1 ≤ s ∧ s ≤ 3) : Ev (fun k => impl_SameRule.f k (n : Int) s) (ruleM n s) := by
  have h := (iSameRule_all ⟨n, by omega⟩ ⟨(s + 1).toNat, by omega⟩).resolve_left (by simp only []; omega)
  have e : (((s + 1).toNat : Nat) : Int) - 1 = s := by omega
  simp only [e] at h
  exact Ev.of (fun k => impl_SameRule.mono _ _ k) h
theorem implPlace_ev (u : List Int) (s : Int) (w : List Int) (hu : (u.length : Int) ≤ 1000000000000) (hw : (w.length : Int) ≤ 1000000000000) : Ev (fun k => impl_PlaceOk.f k u s w) (placeB u s w) := by
  have hj : ∀ r, r = placeB u s w → r = false → Ev (fun k => impl_PlaceOk.j0 k true u s w) r := by
    rintro r _ rfl
    refine ev_suc ?_
    simp only [impl_PlaceOk.j0, if_true]
    exact Ev.now _
  simp only [impl_PlaceOk.f]
  refine ev_bind (implStartOk_ev u hu) ?_
  by_cases hS : startB u = true
  · refine ev_pos hS ?_
    by_cases h1 : s < -1
    · refine ev_pos h1 (hj _ rfl ?_)
      unfold placeB; simp; omega
    · refine ev_neg h1 ?_
      by_cases h2 : s > 3
      · refine ev_pos h2 (hj _ rfl ?_)
        unfold placeB; simp; omega
      · refine ev_neg h2 (ev_bind (implWordOk_ev (u.length : Int) w hw) ?_)
        have hu3 := (startB_iff u).1 hS
        by_cases hW : wordB (u.length : Int) w = true
        · have hw6 := (wordB_iff _ _).1 hW
          refine ev_suc ?_
          simp only [impl_PlaceOk.j0, hW, Bool.not_true]
          refine ev_neg (by simp) (ev_bind (iSameRule_ev u.length s hu3.2.1 hu3.2.2 ⟨by omega, by omega⟩) (ev_bind (ruleWays_ev u s w hu3.2.2 ⟨by omega, by omega⟩ hw6.2.1 hw6.1 (fun x hx => by have := hu3.1 x hx; omega)) (ev_now ?_)))
          have e1 : decide (-1 ≤ s) = true := by simp; omega
          have e2 : decide (s ≤ 3) = true := by simp; omega
          simp [placeB, hS, hW, e1, e2]
        · have hf : wordB (u.length : Int) w = false := by simpa using hW
          rw [hf]
          exact hj _ rfl (by simp [placeB, hf])
  · refine ev_neg hS (hj _ rfl ?_)
    have hf : startB u = false := by simpa using hS
    simp [placeB, hf]
theorem l1In_eq (a b c : Int) : spec_l1In.f a b c = some (decide (b ≤ a) && decide (a ≤ c)) := by
  unfold spec_l1In.f
  by_cases h : a ≥ b
  · rw [if_pos h]; simp; omega
  · rw [if_neg h]; simp; omega
theorem urnB_no' {u : List Int} {x : Int} (hx : x ∈ u) (h : ¬ (0 ≤ x ∧ x ≤ 40)) : urnB u = false := by
  cases e : urnB u with
  | false => rfl
  | true => exact absurd (((urnB_iff u).1 e).1 x hx) h
theorem specUrn_loop (l : List Int) (hl : (l.length : Int) ≤ 1000000000000) : ∀ (suf pre : List Int), l = pre ++ suf → (∀ x ∈ pre, 0 ≤ x ∧ x ≤ 40) →
    Ev (fun k => spec_UrnOk.l0 k l (pre.length : Int)) (urnB l) := by
  intro suf
  induction suf with
  | nil =>
    intro pre h hr
    have e : l.length = pre.length := by rw [h]; simp
    refine ev_suc ?_
    simp (disch := omega) only [spec_UrnOk.l0, if_neg, l1In_eq]
    refine ev_now ?_
    rw [List.append_nil] at h
    subst h
    rw [Bool.eq_iff_iff, urnB_iff]
    simp only [Bool.and_eq_true, decide_eq_true_eq]
    exact ⟨fun h => ⟨hr, by omega, by omega⟩, fun h => ⟨by omega, by omega⟩⟩
  | cons x t ih =>
    intro pre h hr
    have e : l.length = pre.length + (t.length + 1) := by rw [h]; simp
    have hx : rd l (pre.length : Int) = x := by rw [h]; exact rd_at _ _ _
    have hxl : x ∈ l := by rw [h]; simp
    refine ev_suc ?_
    simp (disch := omega) only [spec_UrnOk.l0, hx, if_pos, l1In_eq, Option.bind_some]
    by_cases h1 : 0 ≤ x ∧ x ≤ 40
    · refine ev_pos (by simp [h1]) ?_
      rw [w64 (by omega) (by omega), len_at pre x]
      refine ih (pre ++ [x]) (by rw [h]; simp) ?_
      intro y hy
      rcases List.mem_append.1 hy with hy | hy
      · exact hr y hy
      · rw [List.mem_singleton] at hy; subst hy; exact h1
    · exact ev_neg (by simp only [Bool.and_eq_true, decide_eq_true_eq]; exact h1) (ev_now (urnB_no' hxl h1).symm)
theorem specUrnOk_ev (l : List Int) (hl : (l.length : Int) ≤ 1000000000000) : Ev (fun k => spec_UrnOk.f k l) (urnB l) := by
  simp only [spec_UrnOk.f]
  exact specUrn_loop l hl l [] rfl (by simp)
theorem specStart_loop (l : List Int) (hl : (l.length : Int) ≤ 1000000000000) : ∀ (suf pre : List Int), l = pre ++ suf → (∀ x ∈ pre, x ≤ 10) →
    Ev (fun k => spec_StartOk.l0 k l (pre.length : Int)) (startB l) := by
  intro suf
  induction suf with
  | nil =>
    intro pre h hr
    have e : l.length = pre.length := by rw [h]; simp
    refine ev_suc ?_
    simp (disch := omega) only [spec_StartOk.l0, if_neg]
    refine ev_bind (specUrnOk_ev l hl) (ev_now ?_)
    rw [List.append_nil] at h
    subst h
    have : (l.all fun x => decide (x ≤ 10)) = true := by simpa using hr
    simp [startB, this]
  | cons x t ih =>
    intro pre h hr
    have e : l.length = pre.length + (t.length + 1) := by rw [h]; simp
    have hx : rd l (pre.length : Int) = x := by rw [h]; exact rd_at _ _ _
    have hxl : x ∈ l := by rw [h]; simp
    refine ev_suc ?_
    simp (disch := omega) only [spec_StartOk.l0, hx, if_pos]
    by_cases h1 : x > 10
    · refine ev_pos h1 (ev_now ?_)
      cases e : startB l with
      | false => rfl
      | true => have := ((startB_iff l).1 e).1 x hxl; omega
    · refine ev_neg h1 ?_
      rw [w64 (by omega) (by omega), len_at pre x]
      refine ih (pre ++ [x]) (by rw [h]; simp) ?_
      intro y hy
      rcases List.mem_append.1 hy with hy | hy
      · exact hr y hy
      · rw [List.mem_singleton] at hy; subst hy; omega
theorem specStartOk_ev (l : List Int) (hl : (l.length : Int) ≤ 1000000000000) : Ev (fun k => spec_StartOk.f k l) (startB l) := by
  simp only [spec_StartOk.f]
  exact specStart_loop l hl l [] rfl (by simp)
theorem wordB_no' {n : Int} {w : List Int} {x : Int} (hx : x ∈ w) (h : ¬ (0 ≤ x ∧ x < n)) : wordB n w = false := by
  cases e : wordB n w with
  | false => rfl
  | true => exact absurd (((wordB_iff n w).1 e).1 x hx) h
theorem specWord_loop (n : Int) (l : List Int) (hl : (l.length : Int) ≤ 1000000000000) : ∀ (suf pre : List Int), l = pre ++ suf → (∀ x ∈ pre, 0 ≤ x ∧ x < n) →
    Ev (fun k => spec_WordOk.l0 k n l (pre.length : Int)) (wordB n l) := by
  intro suf
  induction suf with
  | nil =>
    intro pre h hr
    have e : l.length = pre.length := by rw [h]; simp
    refine ev_suc ?_
    simp (disch := omega) only [spec_WordOk.l0, if_neg, l1In_eq, Option.bind_some]
    rw [List.append_nil] at h
    subst h
    by_cases hn : 1 ≤ n ∧ n ≤ 3
    · refine ev_pos (by simp [hn]) (ev_now ?_)
      rw [Bool.eq_iff_iff, wordB_iff]
      simp only [decide_eq_true_eq]
      exact ⟨fun h => ⟨hr, by omega, hn⟩, fun h => by omega⟩
    · refine ev_neg (by simp only [Bool.and_eq_true, decide_eq_true_eq]; exact hn) (ev_now ?_)
      cases e : wordB n l with
      | false => rfl
      | true => exact absurd ((wordB_iff n l).1 e).2.2 hn
  | cons x t ih =>
    intro pre h hr
    have e : l.length = pre.length + (t.length + 1) := by rw [h]; simp
    have hx : rd l (pre.length : Int) = x := by rw [h]; exact rd_at _ _ _
    have hxl : x ∈ l := by rw [h]; simp
    refine ev_suc ?_
    simp (disch := omega) only [spec_WordOk.l0, hx, if_pos]
    by_cases h1 : x < 0
    · exact ev_pos h1 (ev_now (wordB_no' hxl (by omega)).symm)
    · refine ev_neg h1 ?_
      by_cases h2 : x ≥ n
      · exact ev_pos h2 (ev_now (wordB_no' hxl (by omega)).symm)
      · refine ev_neg h2 ?_
        rw [w64 (by omega) (by omega), len_at pre x]
        refine ih (pre ++ [x]) (by rw [h]; simp) ?_
        intro y hy
        rcases List.mem_append.1 hy with hy | hy
        · exact hr y hy
        · rw [List.mem_singleton] at hy; subst hy; omega
theorem specWordOk_ev (n : Int) (l : List Int) (hl : (l.length : Int) ≤ 1000000000000) : Ev (fun k => spec_WordOk.f k n l) (wordB n l) := by
  simp only [spec_WordOk.f]
  exact specWord_loop n l hl l [] rfl (by simp)
theorem l4After_loop (u : List Int) (R : List (List Int)) (c : Int) (row : List Int) (hc : 0 ≤ c ∧ c < (R.length : Int)) (hrow : rd_L1 R c = row) (hl : row.length = u.length) (hu : u.length ≤ 3) (hB : Within 1000000000 row) (hA : Within 1000000000 u) : ∀ (su sr pu pr acc : List Int), u = pu ++ su → row = pr ++ sr → pu.length = pr.length → acc.length = pu.length →
    Ev (fun k => spec_l4After.l0 k u R c acc (pu.length : Int)) (acc ++ zipAdd su sr) := by
  intro su
  induction su with
  | nil =>
    intro sr pu pr acc h h' hp ha
    have e : u.length = pu.length := by rw [h]; simp
    have e' : row.length = pr.length + sr.length := by rw [h']; simp
    obtain rfl : sr = [] := List.eq_nil_of_length_eq_zero (by omega)
    refine ev_suc ?_
    simp (disch := omega) only [spec_l4After.l0, if_neg]
    exact ev_now (by simp [zipAdd])
  | cons x t ih =>
    intro sr pu pr acc h h' hp ha
    have e : u.length = pu.length + (t.length + 1) := by rw [h]; simp
    have e' : row.length = pr.length + sr.length := by rw [h']; simp
    cases sr with
    | nil => simp at e'; omega
    | cons y r =>
      have hx : rd u (pu.length : Int) = x := by rw [h]; exact rd_at _ _ _
      have hy : rd row (pu.length : Int) = y := by rw [h', hp]; exact rd_at _ _ _
      have bx := hA x (by rw [h]; simp)
      have bY := hB y (by rw [h']; simp)
      refine ev_suc ?_
      simp (disch := omega) only [spec_l4After.l0, hrow, hl, hx, hy, if_pos, w64]
      rw [len_at pu x]
      have := ih r (pu ++ [x]) (pr ++ [y]) (acc ++ [x + y]) (by rw [h]; simp) (by rw [h']; simp) (by simp [hp]) (by simp [ha])
      simpa [zipAdd] using this
theorem l4After_ev (u : List Int) (s c : Int) (hu : u.length ≤ 3) (hs : -3 ≤ s ∧ s ≤ 3) (hc : 0 ≤ c ∧ c < (u.length : Int)) (hw : Within 1000000 u) :
    Ev (fun k => spec_l4After.f k u (ruleM u.length s) c) (bump s u c) := by
  have er : rd_L1 (ruleM u.length s) c = (List.replicate u.length (0 : Int)).set c.toNat s := ruleM_row hc.1 hc.2
  have hW := within_row (n := u.length) (c := c) hs
  simp only [spec_l4After.f]
  have := l4After_loop u (ruleM u.length s) c _ (by rw [ruleM_len]; exact hc) er (by simp) hu (fun x hx => by have := hW x hx; omega) (fun x hx => by have := hw x hx; omega) u ((List.replicate u.length (0 : Int)).set c.toNat s) [] [] [] rfl (by simp) rfl rfl
  refine ev_eq this ?_
  rw [List.nil_append]
  exact zipAdd_row hu hc.1 hc.2
/-- What AfterWord tells. -/
def afterWordM (s : Int) (u w : List Int) : List Int × Bool := if 0 < waysM s u w then (afterM s u w, true) else ([], false)
theorem afterWord_loop (n : Nat) (s : Int) (hn : n ≤ 3) (hs : -3 ≤ s ∧ s ≤ 3) (w : List Int) (hw : w.length ≤ 100) (hwn : ∀ c ∈ w, 0 ≤ c ∧ c < (n : Int)) : ∀ (suf pre u : List Int) (b : Int), w = pre ++ suf → u.length = n → Within b u → 0 ≤ b → b + 3 * suf.length ≤ 1000000 →
    Ev (fun k => spec_AfterWord.l0 k (ruleM n s) w u (pre.length : Int)) (afterWordM s u suf) := by
  intro suf
  induction suf with
  | nil =>
    intro pre u b h _ _ _ _
    have e : w.length = pre.length := by rw [h]; simp
    refine ev_suc ?_
    simp (disch := omega) only [spec_AfterWord.l0, if_neg]
    exact ev_now (by simp [afterWordM, waysM, afterM])
  | cons x t ih =>
    intro pre u b h hu hb hb0 hb1
    have e : w.length = pre.length + (t.length + 1) := by rw [h]; simp
    have hx : rd w (pre.length : Int) = x := by rw [h]; exact rd_at _ _ _
    have hxn := hwn x (by rw [h]; simp)
    simp only [List.length_cons] at hb1
    refine ev_suc ?_
    simp (disch := omega) only [spec_AfterWord.l0, hx, if_pos]
    subst hu
    have hcp := waysM_cons_pos s u x t
    by_cases h1 : rd u x < 1
    · refine ev_pos h1 (ev_now ?_)
      unfold afterWordM
      rw [if_neg (fun hp => by have := (hcp.1 hp).1; omega)]
    · refine ev_neg h1 (ev_bind (l4After_ev u s x hn hs hxn (fun y hy => by have := hb y hy; omega)) ?_)
      rw [w64 (by omega) (by omega), len_at pre x]
      have := ih (pre ++ [x]) (bump s u x) (b + 3) (by rw [h]; simp) (bump_len _ _ _) (within_bump hb hs x hxn) (by omega) (by omega)
      refine ev_eq this ?_
      unfold afterWordM
      by_cases h2 : 0 < waysM s (bump s u x) t
      · rw [if_pos h2, if_pos (hcp.2 ⟨by omega, h2⟩), afterM_cons]
      · rw [if_neg h2, if_neg (fun hp => h2 (hcp.1 hp).2)]
theorem ruleOk_all : ∀ n : Fin 4, ∀ s : Fin 5, n.val = 0 ∨ spec_RuleOk.f 30 (n.val : Int) (ruleM n.val ((s.val : Int) - 1)) = some true := by decide +kernel
theorem ruleOk_ev (n : Nat) (s : Int) (h1 : 1 ≤ n) (h3 : n ≤ 3) (hs : -1 ≤ s ∧ s ≤ 3) : Ev (fun k => spec_RuleOk.f k (n : Int) (ruleM n s)) true := by
  have h := (ruleOk_all ⟨n, by omega⟩ ⟨(s + 1).toNat, by omega⟩).resolve_left (by simp only []; omega)
  have e : (((s + 1).toNat : Nat) : Int) - 1 = s := by omega
  simp only [e] at h
  exact Ev.of (fun k => spec_RuleOk.mono _ _ k) h
theorem sSameRule_all : ∀ n : Fin 4, ∀ s : Fin 5, n.val = 0 ∨ spec_SameRule.f 20 (n.val : Int) ((s.val : Int) - 1) = some (ruleM n.val ((s.val : Int) - 1)) := by decide +kernel
theorem sSameRule_ev (n : Nat) (s : Int) (h1 : 1 ≤ n) (h3 : n ≤ 3) (hs : -1 ≤ s ∧ s ≤ 3) : Ev (fun k => spec_SameRule.f k (n : Int) s) (ruleM n s) := by
  have h := (sSameRule_all ⟨n, by omega⟩ ⟨(s + 1).toNat, by omega⟩).resolve_left (by simp only []; omega)
  have e : (((s + 1).toNat : Nat) : Int) - 1 = s := by omega
  simp only [e] at h
  exact Ev.of (fun k => spec_SameRule.mono _ _ k) h
theorem afterWord_ev (u : List Int) (s : Int) (w : List Int) (hS : startB u = true) (hs : -1 ≤ s ∧ s ≤ 3) (hw : (w.length : Int) ≤ 1000000000000) :
    Ev (fun k => spec_AfterWord.f k u (ruleM u.length s) w) (if wordB (u.length : Int) w = true then afterWordM s u w else ([], false)) := by
  have hu3 := (startB_iff u).1 hS
  simp only [spec_AfterWord.f]
  refine ev_bind (specStartOk_ev u (by omega)) (ev_pos hS (ev_bind (ruleOk_ev u.length s hu3.2.1 hu3.2.2 hs) (ev_pos rfl (ev_bind (specWordOk_ev (u.length : Int) w hw) (ev_suc ?_)))))
  by_cases hW : wordB (u.length : Int) w = true
  · have hw6 := (wordB_iff _ _).1 hW
    rw [if_pos hW]
    simp only [spec_AfterWord.j0, hW, Bool.not_true]
    refine ev_neg (by simp) (ev_bind (Ev.now _) (ev_pos (by simp; omega) ?_))
    rw [List.nil_append]
    exact afterWord_loop u.length s hu3.2.2 ⟨by omega, by omega⟩ w (by omega) hw6.1 w [] u 10 rfl rfl (fun x hx => by have := hu3.1 x hx; omega) (by omega) (by omega)
  · have hf : wordB (u.length : Int) w = false := by simpa using hW
    rw [if_neg hW]
    simp only [spec_AfterWord.j0, hf, Bool.not_false, if_true]
    exact Ev.now _
theorem specPlace_ev (u : List Int) (s : Int) (w : List Int) (hu : (u.length : Int) ≤ 1000000000000) (hw : (w.length : Int) ≤ 1000000000000) : Ev (fun k => spec_PlaceOk.f k u s w) (placeB u s w) := by
  have hj : ∀ r, r = placeB u s w → r = false → Ev (fun k => spec_PlaceOk.j0 k true u s w) r := by
    rintro r _ rfl
    refine ev_suc ?_
    simp only [spec_PlaceOk.j0, if_true]
    exact Ev.now _
  simp only [spec_PlaceOk.f]
  refine ev_bind (specStartOk_ev u hu) ?_
  by_cases hS : startB u = true
  · refine ev_pos hS ?_
    simp only [l1In_eq, Option.bind_some]
    have hu3 := (startB_iff u).1 hS
    by_cases h1 : -1 ≤ s ∧ s ≤ 3
    · have e : (decide (-1 ≤ s) && decide (s ≤ 3)) = true := by simp [h1]
      refine ev_suc ?_
      simp only [spec_PlaceOk.j0, e, Bool.not_true]
      refine ev_neg (by simp) (ev_bind (sSameRule_ev u.length s hu3.2.1 hu3.2.2 h1) (ev_bind (afterWord_ev u s w hS h1 hw) (ev_now ?_)))
      by_cases hW : wordB (u.length : Int) w = true
      · rw [if_pos hW]
        unfold afterWordM
        by_cases h2 : 0 < waysM s u w
        · rw [if_pos h2]; simp [placeB, hS, hW, h1, h2]
        · rw [if_neg h2]; simp [placeB, hS, hW, h1, h2]
      · rw [if_neg hW]
        have hf : wordB (u.length : Int) w = false := by simpa using hW
        simp [placeB, hf]
    · have e : (decide (-1 ≤ s) && decide (s ≤ 3)) = false := by
        rw [Bool.and_eq_false_iff]; simp only [decide_eq_false_iff_not]; omega
      rw [e]
      refine hj _ rfl ?_
      unfold placeB
      rw [Bool.and_eq_false_iff] at e
      rcases e with e | e <;> simp [e]
  · refine ev_neg hS (hj _ rfl ?_)
    have hf : startB u = false := by simpa using hS
    simp [placeB, hf]
theorem copyPlace_eq (u : List Int) (s : Int) (w : List Int) (hu : (u.length : Int) ≤ 1000000000000) (hw : (w.length : Int) ≤ 1000000000000) : impl_copyPlace.f u s w = some (u, s, w) := by
  simp [impl_copyPlace.f, clone_eq u hu, clone_eq w hw]
theorem implNew_ev (u : List Int) (s : Int) (w : List Int) (hu : (u.length : Int) ≤ 1000000000000) (hw : (w.length : Int) ≤ 1000000000000) :
    Ev (fun k => impl_DeskNew.f k u s w) (if placeB u s w = true then (u, s, w, [], true) else ([], 0, [], [], false)) := by
  simp only [impl_DeskNew.f]
  refine ev_bind (implPlace_ev u s w hu hw) ?_
  by_cases h : placeB u s w = true
  · simp only [if_pos h, copyPlace_eq u s w hu hw, Option.bind_some]
    exact Ev.now _
  · simp only [if_neg h]
    exact Ev.now _
theorem sameInts_loop (a b : List Int) (hl : (a.length : Int) ≤ 1000000000000) (hab : a.length = b.length) : ∀ (s t p q : List Int), a = p ++ s → b = q ++ t → p.length = q.length →
    ∃ v, Ev (fun k => laws_sameInts.l0 k a b (p.length : Int)) v ∧ (v = true ↔ s = t) := by
  intro s
  induction s with
  | nil =>
    intro t p q h h' hpq
    have e : a.length = p.length := by rw [h]; simp
    have e' : b.length = q.length + t.length := by rw [h']; simp
    have : t = [] := List.eq_nil_of_length_eq_zero (by omega)
    subst this
    refine ⟨true, ev_suc ?_, by simp⟩
    simp (disch := omega) only [laws_sameInts.l0, if_neg]
    exact Ev.now _
  | cons x s ih =>
    intro t p q h h' hpq
    have e : a.length = p.length + (s.length + 1) := by rw [h]; simp
    have e' : b.length = q.length + t.length := by rw [h']; simp
    cases t with
    | nil => simp at e'; omega
    | cons y t =>
      have hx : rd a (p.length : Int) = x := by rw [h]; exact rd_at _ _ _
      have hy : rd b (p.length : Int) = y := by rw [h', hpq]; exact rd_at _ _ _
      by_cases hxy : x = y
      · obtain ⟨v, hv, hv'⟩ := ih t (p ++ [x]) (q ++ [y]) (by rw [h]; simp) (by rw [h']; simp) (by simp [hpq])
        refine ⟨v, ev_suc ?_, by rw [hv']; simp [hxy]⟩
        simp (disch := omega) only [laws_sameInts.l0, hx, hy, if_pos, w64]
        rw [len_at p x]
        exact hv
      · refine ⟨false, ev_suc ?_, by simp [hxy]⟩
        simp (disch := omega) only [laws_sameInts.l0, hx, hy, if_pos, w64]
        exact ev_neg hxy (Ev.now _)
theorem sameInts_ev (a b : List Int) (hl : (a.length : Int) ≤ 1000000000000) : ∃ v, Ev (fun k => laws_sameInts.f k a b) v ∧ (v = true ↔ a = b) := by
  by_cases h : (a.length : Int) = (b.length : Int)
  · obtain ⟨v, hv, hv'⟩ := sameInts_loop a b hl (by omega) a b [] [] rfl rfl rfl
    refine ⟨v, ?_, hv'⟩
    simp only [laws_sameInts.f]
    exact ev_pos h hv
  · refine ⟨false, ?_, by simp; rintro rfl; exact h rfl⟩
    simp only [laws_sameInts.f]
    exact ev_neg h (Ev.now _)
theorem samePlace_ev (u : List Int) (s : Int) (w u' : List Int) (s' : Int) (w' : List Int) (hu : (u.length : Int) ≤ 1000000000000) (hw : (w.length : Int) ≤ 1000000000000) :
    ∃ v, Ev (fun k => laws_samePlace.f k u s w u' s' w') v ∧ (v = true ↔ u = u' ∧ s = s' ∧ w = w') := by
  obtain ⟨v1, e1, h1⟩ := sameInts_ev u u' hu
  obtain ⟨v2, e2, h2⟩ := sameInts_ev w w' hw
  cases v1 with
  | false =>
    refine ⟨false, ?_, by simp; intro h; exact absurd (h1.2 h) (by simp)⟩
    simp only [laws_samePlace.f]
    exact ev_bind e1 (ev_neg (by simp) (Ev.now _))
  | true =>
    by_cases hs : s = s'
    · refine ⟨v2, ?_, by rw [h2]; simp [hs, h1.1 rfl]⟩
      simp only [laws_samePlace.f]
      exact ev_bind e1 (ev_pos rfl (ev_pos hs (ev_bind e2 (Ev.now _))))
    · refine ⟨false, ?_, by simp [hs]⟩
      simp only [laws_samePlace.f]
      exact ev_bind e1 (ev_pos rfl (ev_neg hs (Ev.now _)))
theorem rdP_at (p : List S25) (a : S25) (t : List S25) : rd_T25 (p ++ a :: t) (p.length : Int) = a := by simp [rd_T25]
/-- A place whose lists aren't too long to be counted. -/
def Sized1 (q : S25) : Prop := (q.f0.length : Int) ≤ 1000000000000 ∧ (q.f2.length : Int) ≤ 1000000000000
theorem sameDesk_loop (u : List Int) (s : Int) (w u' : List Int) (s' : Int) (w' : List Int) (a b : List S25) (hl : (a.length : Int) ≤ 1000000000000) (hA : ∀ q ∈ a, Sized1 q) (hab : a.length = b.length) : ∀ (x y p q : List S25), a = p ++ x → b = q ++ y → p.length = q.length →
    ∃ v, Ev (fun k => laws_sameDesk.l0 k (p.length : Int) u s w a u' s' w' b) v ∧ (v = true ↔ x = y) := by
  intro x
  induction x with
  | nil =>
    intro y p q h h' hpq
    have e : a.length = p.length := by rw [h]; simp
    have e' : b.length = q.length + y.length := by rw [h']; simp
    have : y = [] := List.eq_nil_of_length_eq_zero (by omega)
    subst this
    refine ⟨true, ev_suc ?_, by simp⟩
    simp (disch := omega) only [laws_sameDesk.l0, if_neg]
    exact Ev.now _
  | cons c x ih =>
    intro y p q h h' hpq
    have e : a.length = p.length + (x.length + 1) := by rw [h]; simp
    have e' : b.length = q.length + y.length := by rw [h']; simp
    cases y with
    | nil => simp at e'; omega
    | cons d y =>
      have hx : rd_T25 a (p.length : Int) = c := by rw [h]; exact rdP_at _ _ _
      have hy : rd_T25 b (p.length : Int) = d := by rw [h', hpq]; exact rdP_at _ _ _
      have hc := hA c (by rw [h]; simp)
      obtain ⟨v1, e1, h1⟩ := samePlace_ev c.f0 c.f1 c.f2 d.f0 d.f1 d.f2 hc.1 hc.2
      have hcd : v1 = true ↔ c = d := by
        rw [h1]
        constructor
        · rintro ⟨k1, k2, k3⟩; cases c; cases d; simp_all
        · rintro rfl; exact ⟨rfl, rfl, rfl⟩
      obtain ⟨v, hv, hv'⟩ := ih y (p ++ [c]) (q ++ [d]) (by rw [h]; simp) (by rw [h']; simp) (by simp [hpq])
      cases v1 with
      | true =>
        refine ⟨v, ev_suc ?_, by rw [hv']; simp [hcd.1 rfl]⟩
        simp (disch := omega) only [laws_sameDesk.l0, hx, hy, if_pos, w64]
        refine ev_bind e1 (ev_pos rfl ?_)
        rw [len_at p c]
        exact hv
      | false =>
        refine ⟨false, ev_suc ?_, by simp; intro h; exact absurd (hcd.2 h) (by simp)⟩
        simp (disch := omega) only [laws_sameDesk.l0, hx, hy, if_pos, w64]
        exact ev_bind e1 (ev_neg (by simp) (Ev.now _))
theorem sameDesk_ev (u : List Int) (s : Int) (w : List Int) (a : List S25) (u' : List Int) (s' : Int) (w' : List Int) (b : List S25) (hu : (u.length : Int) ≤ 1000000000000) (hw : (w.length : Int) ≤ 1000000000000) (hl : (a.length : Int) ≤ 1000000000000) (hA : ∀ q ∈ a, Sized1 q) :
    ∃ v, Ev (fun k => laws_sameDesk.f k u s w a u' s' w' b) v ∧ (v = true ↔ (u = u' ∧ s = s' ∧ w = w') ∧ a = b) := by
  obtain ⟨v1, e1, h1⟩ := samePlace_ev u s w u' s' w' hu hw
  cases v1 with
  | false =>
    refine ⟨false, ?_, by simp; intro k1 k2 k3; exact absurd (h1.2 ⟨k1, k2, k3⟩) (by simp)⟩
    simp only [laws_sameDesk.f]
    refine ev_bind e1 (ev_neg (by simp) (ev_suc ?_))
    simp only [laws_sameDesk.j0, if_true]
    exact Ev.now _
  | true =>
    by_cases h : (a.length : Int) = (b.length : Int)
    · obtain ⟨v, hv, hv'⟩ := sameDesk_loop u s w u' s' w' a b hl hA (by omega) a b [] [] rfl rfl rfl
      refine ⟨v, ?_, by rw [hv']; simp [h1.1 rfl]⟩
      simp only [laws_sameDesk.f]
      have e : ((a.length : Int) != (b.length : Int)) = false := by simp [h]
      refine ev_bind e1 (ev_pos rfl (ev_suc ?_))
      simp only [laws_sameDesk.j0, e]
      exact ev_neg (by simp) hv
    · refine ⟨false, ?_, by simp; rintro _ _ _ rfl; exact h rfl⟩
      simp only [laws_sameDesk.f]
      have e : ((a.length : Int) != (b.length : Int)) = true := by simpa [bne_iff_ne] using h
      refine ev_bind e1 (ev_pos rfl (ev_suc ?_))
      simp only [laws_sameDesk.j0, e, if_true]
      exact Ev.now _
theorem xor_nn {x y : Int} (hx : 0 ≤ x) (hx' : x < 9223372036854775808) (hy : 0 ≤ y) (hy' : y < 9223372036854775808) : 0 ≤ Go.bits .xor .i64 x y := by
  obtain ⟨a, rfl⟩ := Int.eq_ofNat_of_zero_le hx
  obtain ⟨b, rfl⟩ := Int.eq_ofNat_of_zero_le hy
  have ha : a < 2 ^ 63 := by omega
  have hb : b < 2 ^ 63 := by omega
  have hc : a ^^^ b < 2 ^ 63 := Nat.xor_lt_two_pow ha hb
  have h1 : (BitVec.ofInt 64 (a : Int)).toNat = a := by
    rw [BitVec.ofInt_natCast, BitVec.toNat_ofNat]; exact Nat.mod_eq_of_lt (by omega)
  have h2 : (BitVec.ofInt 64 (b : Int)).toNat = b := by
    rw [BitVec.ofInt_natCast, BitVec.toNat_ofNat]; exact Nat.mod_eq_of_lt (by omega)
  show 0 ≤ IntKind.i64.wrap ((BitVec.ofInt 64 (a : Int) ^^^ BitVec.ofInt 64 (b : Int)).toNat : Int)
  rw [BitVec.toNat_xor, h1, h2, IntKind.wrap_i64]
  omega
def BytesOk (b : List Int) : Prop := (∀ x ∈ b, 0 ≤ x ∧ x ≤ 255) ∧ b.length ≤ 2000
theorem pick_ev {b : List Int} (hb : BytesOk b) (p n : Int) (h0 : 0 ≤ p) (hp : p ≤ 1000000000000) (hn : n ≤ 1000000000000) :
    ∃ r, Ev (fun k => spec_l20Rd_pick.f k b p n) (r, p + 1) ∧ 0 ≤ r ∧ (1 ≤ n → r < n) ∧ (n < 1 → r = 0) := by
  obtain ⟨hb, hl⟩ := hb
  by_cases hn1 : n < 1
  · refine ⟨0, ?_, by omega, by omega, fun _ => rfl⟩
    simp only [spec_l20Rd_pick.f]
    refine ev_pos hn1 (ev_suc ?_)
    simp (disch := omega) only [spec_l20Rd_pick.j0, if_true, w64]
    exact Ev.now _
  · have key : ∀ (x : Int), 0 ≤ x → 0 ≤ Int.tmod x n ∧ (1 ≤ n → Int.tmod x n < n) ∧ (n < 1 → Int.tmod x n = 0) := by
      intro x hx
      rw [Int.tmod_eq_emod_of_nonneg hx]
      have h1 := Int.emod_nonneg x (b := n) (by omega)
      have h2 := Int.emod_lt_of_pos x (b := n) (by omega)
      exact ⟨h1, fun _ => h2, fun h => absurd h hn1⟩
    by_cases hl0 : b.length = 0
    · refine ⟨0, ?_, by omega, by omega, fun _ => rfl⟩
      simp only [spec_l20Rd_pick.f]
      refine ev_neg hn1 (ev_suc ?_)
      have e : ((b.length : Int) == 0) = true := by simp [hl0]
      simp (disch := omega) only [spec_l20Rd_pick.j0, e, if_true, w64]
      exact Ev.now _
    · have e : ((b.length : Int) == 0) = false := by rw [beq_eq_false_iff_ne]; omega
      by_cases hlt : p < (b.length : Int)
      · have hm := hb _ (rd_mem h0 hlt)
        obtain ⟨k1, k2, k3⟩ := key (rd b p) hm.1
        refine ⟨Int.tmod (rd b p) n, ?_, k1, k2, k3⟩
        simp only [spec_l20Rd_pick.f]
        refine ev_neg hn1 (ev_suc ?_)
        have e1 : wrap64 (wrap64 (p + 1) - 1) = p := by rw [w64 (n := p + 1) (by omega) (by omega), w64 (by omega) (by omega)]; omega
        have e2 : wrap64 (rd b p) = rd b p := w64 (by omega) (by omega)
        simp only [spec_l20Rd_pick.j0, e, e1, e2, Bool.false_eq_true, if_false]
        refine ev_pos hlt (ev_pos h0 (ev_neg (by omega) (ev_now ?_)))
        rw [w64 (by omega) (by omega)]
      · have hL : 0 < (b.length : Int) := by omega
        have m1a := Int.emod_nonneg p (b := (b.length : Int)) (by omega)
        have m1b := Int.emod_lt_of_pos p (b := (b.length : Int)) hL
        have m2a := Int.emod_nonneg (p * 7 + 3) (b := (b.length : Int)) (by omega)
        have m2b := Int.emod_lt_of_pos (p * 7 + 3) (b := (b.length : Int)) hL
        have r1 := hb _ (rd_mem m1a m1b)
        have r2 := hb _ (rd_mem m2a m2b)
        have d1 : 0 ≤ p / (b.length : Int) := Int.ediv_nonneg h0 (by omega)
        have d2 : p / (b.length : Int) ≤ p := Int.ediv_le_self _ h0
        have e1 : wrap64 (wrap64 (p + 1) - 1) = p := by rw [w64 (n := p + 1) (by omega) (by omega), w64 (by omega) (by omega)]; omega
        have e1' : wrap64 (p + 1 - 1) = p := by rw [w64 (by omega) (by omega)]; omega
        have e3 : Int.tmod p (b.length : Int) = p % (b.length : Int) := Int.tmod_eq_emod_of_nonneg h0
        have e4 : Int.tmod (p * 7 + 3) (b.length : Int) = (p * 7 + 3) % (b.length : Int) := Int.tmod_eq_emod_of_nonneg (by omega)
        have e5 : Int.tdiv p (b.length : Int) = p / (b.length : Int) := Int.tdiv_eq_ediv_of_nonneg h0
        generalize hu : rd b (p % (b.length : Int)) = u at r1
        generalize hv : rd b ((p * 7 + 3) % (b.length : Int)) = v at r2
        generalize hd : p / (b.length : Int) = d at d1 d2
        have hx0 : 0 ≤ u * 131 + v * 1117 + p * 29 + d * 53 := by omega
        have e6 : Int.tdiv (u * 131 + v * 1117 + p * 29 + d * 53) 64 = (u * 131 + v * 1117 + p * 29 + d * 53) / 64 := Int.tdiv_eq_ediv_of_nonneg hx0
        obtain ⟨k1, k2, k3⟩ := key (Go.bits .xor .i64 (u * 131 + v * 1117 + p * 29 + d * 53) ((u * 131 + v * 1117 + p * 29 + d * 53) / 64)) (xor_nn (by omega) (by omega) (by omega) (by omega))
        refine ⟨_, ?_, k1, k2, k3⟩
        simp only [spec_l20Rd_pick.f]
        refine ev_neg hn1 (ev_suc ?_)
        have f1 : wrap64 (p * 7) = p * 7 := w64 (by omega) (by omega)
        have f2 : wrap64 (p * 7 + 3) = p * 7 + 3 := w64 (by omega) (by omega)
        have f3 : wrap64 u = u := w64 (by omega) (by omega)
        have f4 : wrap64 v = v := w64 (by omega) (by omega)
        have f5 : wrap64 (u * 131) = u * 131 := w64 (by omega) (by omega)
        have f6 : wrap64 (v * 1117) = v * 1117 := w64 (by omega) (by omega)
        have f7 : wrap64 (u * 131 + v * 1117) = u * 131 + v * 1117 := w64 (by omega) (by omega)
        have f8 : wrap64 (p * 29) = p * 29 := w64 (by omega) (by omega)
        have f9 : wrap64 (u * 131 + v * 1117 + p * 29) = u * 131 + v * 1117 + p * 29 := w64 (by omega) (by omega)
        have f10 : wrap64 d = d := w64 (by omega) (by omega)
        have f11 : wrap64 (d * 53) = d * 53 := w64 (by omega) (by omega)
        have f12 : wrap64 (u * 131 + v * 1117 + p * 29 + d * 53) = u * 131 + v * 1117 + p * 29 + d * 53 := w64 (by omega) (by omega)
        have f13 : wrap64 ((u * 131 + v * 1117 + p * 29 + d * 53) / 64) = (u * 131 + v * 1117 + p * 29 + d * 53) / 64 := w64 (by omega) (by omega)
        have f14 : wrap64 (p + 1) = p + 1 := w64 (by omega) (by omega)
        simp only [spec_l20Rd_pick.j0, e, e1, f14, e1', f1, f2, e3, e4, e5, hu, hv, hd, f3, f4, f5, f6, f7, f8, f9, f10, f11, f12, e6, f13, Bool.false_eq_true, if_false]
        exact ev_neg hlt (ev_neg (by omega) (ev_pos m1a (ev_pos m1b (ev_pos m2a (ev_pos m2b (ev_neg (by omega) (Ev.now _)))))))
theorem open_ev {l : List Int} (hl : ∀ x ∈ l, (Lit.int .u8 x).wf = true) : ∃ b, spec_l20Open.f l = some (b, 0) ∧ BytesOk b := by
  have hw : ∀ x ∈ l, 0 ≤ x ∧ x ≤ 255 := fun x hx => by
    have := hl x hx
    simp [Lit.wf, IntKind.min, IntKind.max, IntKind.bits, IntKind.signed] at this
    omega
  by_cases h : (l.length : Int) > 2000
  · exact ⟨l.take 2000, by simp (disch := omega) only [spec_l20Open.f, if_pos], fun x hx => hw x (List.mem_of_mem_take hx), by rw [List.length_take]; omega⟩
  · exact ⟨l, by simp (disch := omega) only [spec_l20Open.f, if_neg], hw, by omega⟩
theorem odd_ev {b : List Int} (hb : BytesOk b) (p n : Int) (h0 : 0 ≤ p) (hp : p ≤ 1000000000000) (hn : n ≤ 1000000000000) (hn' : 1 ≤ n) :
    ∃ r, Ev (fun k => spec_l20Rd_odd.f k b p n) (r, p + 1) := by
  obtain ⟨r, hr, h1, h2, h3⟩ := pick_ev hb p n h0 hp hn
  refine ⟨r == wrap64 (n - 1), ?_⟩
  simp only [spec_l20Rd_odd.f]
  exact ev_pos (by omega) (ev_bind hr (Ev.now _))
theorem odd0 (b : List Int) (p : Int) : ∀ k, spec_l20Rd_odd.f k b p 0 = some (false, p) := fun k => by simp [spec_l20Rd_odd.f]
theorem odd0_ev (b : List Int) (p : Int) : Ev (fun k => spec_l20Rd_odd.f k b p 0) (false, p) := Ev.congr (odd0 b p) (Ev.now _)
theorem drawUrn_loop {b : List Int} (hb : BytesOk b) : ∀ (d : Nat) (l : List Int) (p : Int), l.length + d ≤ 3 → 1 ≤ l.length + d → (∀ x ∈ l, 0 ≤ x ∧ x ≤ 5) → 0 ≤ p → p + (d : Int) ≤ 1000000000 →
    ∃ o, Ev (fun k => spec_l20Urn.l0 k 0 l (d : Int) b p) (o, p + d) ∧ o.length = l.length + d ∧ ∀ x ∈ o, 0 ≤ x ∧ x ≤ 5 := by
  intro d
  induction d with
  | zero =>
    intro l p hd hd1 hr h0 hp
    refine ⟨l, ev_suc ?_, by simp, hr⟩
    simp only [spec_l20Urn.l0]
    refine ev_neg (by omega) (ev_bind (odd0_ev b p) (ev_neg (by simp) (ev_now (by simp))))
  | succ d ih =>
    intro l p hd hd1 hr h0 hp
    obtain ⟨r, hr1, r0, r1, _⟩ := pick_ev hb p 6 h0 (by omega) (by omega)
    have hr6 := r1 (by omega)
    obtain ⟨o, ho, ho1, ho2⟩ := ih (l ++ [r]) (p + 1) (by simp; omega) (by simp; omega) (by
      intro x hx
      rcases List.mem_append.1 hx with hx | hx
      · exact hr x hx
      · rw [List.mem_singleton] at hx; subst hx; omega) (by omega) (by omega)
    refine ⟨o, ev_suc ?_, by rw [ho1]; simp; omega, ho2⟩
    simp only [spec_l20Urn.l0]
    refine ev_pos (by omega) (ev_bind hr1 (ev_pos (by omega) ?_))
    rw [w64 (by omega) (by omega)]
    have e : ((d + 1 : Nat) : Int) - 1 = (d : Int) := by omega
    simp only [e]
    refine ev_eq ho ?_
    congr 1
    omega
theorem drawUrn_ev {b : List Int} (hb : BytesOk b) (p : Int) (h0 : 0 ≤ p) (hp : p ≤ 100000000) :
    ∃ o p', Ev (fun k => spec_l20Urn.f k b p 0) (o, p') ∧ 1 ≤ o.length ∧ o.length ≤ 3 ∧ (∀ x ∈ o, 0 ≤ x ∧ x ≤ 5) ∧ p ≤ p' ∧ p' ≤ p + 4 := by
  obtain ⟨r, hr, r0, r1, _⟩ := pick_ev hb p 3 h0 (by omega) (by omega)
  have hr3 := r1 (by omega)
  obtain ⟨o, ho, ho1, ho2⟩ := drawUrn_loop hb (1 + r).toNat [] (p + 1) (by simp; omega) (by simp; omega) (by simp) (by omega) (by omega)
  refine ⟨o, p + 1 + ((1 + r).toNat : Int), ?_, by rw [ho1]; simp; omega, by rw [ho1]; simp; omega, ho2, by omega, by omega⟩
  simp only [spec_l20Urn.f]
  refine ev_bind hr ?_
  simp only []
  rw [w64 (by omega) (by omega)]
  have e : ((1 + r).toNat : Int) = 1 + r := by omega
  rw [e] at ho ⊢
  exact ho
theorem drawPlace_loop {b : List Int} (hb : BytesOk b) (n : Int) (hn : 0 ≤ n ∧ n ≤ 1000) (u : List Int) (s : Int) (hu : 1 ≤ u.length ∧ u.length ≤ 3) (hs : -1 ≤ s ∧ s ≤ 3) : ∀ (d : Nat) (w : List Int) (p : Int), d ≤ 4 → w.length + d ≤ 4 → 0 ≤ p → p + (d : Int) ≤ 1000000000 →
    ∃ u' s' w' p', Ev (fun k => spec_l20Place.l0 k n (d : Int) b p u s w) (u', s', w', p') ∧ u'.length ≤ 3 ∧ w'.length ≤ 5 ∧ -1 ≤ s' ∧ s' ≤ 4 ∧ p ≤ p' ∧ p' ≤ p + d + 2 ∧ (n = 0 → u' = u ∧ s' = s) := by
  intro d
  induction d with
  | zero =>
    intro w p hd hd1 h0 hp
    by_cases hn0 : n = 0
    · subst hn0
      refine ⟨u, s, w, p, ev_suc ?_, hu.2, by omega, by omega, by omega, by omega, by omega, fun _ => ⟨rfl, rfl⟩⟩
      simp only [spec_l20Place.l0]
      exact ev_neg (by omega) (ev_bind (odd0_ev b p) (ev_neg (by simp) (Ev.now _)))
    · obtain ⟨q, hq⟩ := odd_ev hb p n (by omega) (by omega) (by omega) (by omega)
      cases q with
      | false =>
        refine ⟨u, s, w, p + 1, ev_suc ?_, hu.2, by omega, by omega, by omega, by omega, by omega, fun h => absurd h hn0⟩
        simp only [spec_l20Place.l0]
        exact ev_neg (by omega) (ev_bind hq (ev_neg (by simp) (Ev.now _)))
      | true =>
        obtain ⟨r, hr, r0, r1, _⟩ := pick_ev hb (p + 1) 3 (by omega) (by omega) (by omega)
        have hr3 := r1 (by omega)
        by_cases e0 : r = 0
        · refine ⟨u, 4, w, p + 1 + 1, ev_suc ?_, hu.2, by omega, by omega, by omega, by omega, by omega, fun h => absurd h hn0⟩
          simp only [spec_l20Place.l0]
          exact ev_neg (by omega) (ev_bind hq (ev_pos rfl (ev_bind hr (ev_pos e0 (Ev.now _)))))
        · by_cases e1 : r = 1
          · refine ⟨u, s, w ++ [3], p + 1 + 1, ev_suc ?_, hu.2, by simp; omega, by omega, by omega, by omega, by omega, fun h => absurd h hn0⟩
            simp only [spec_l20Place.l0]
            exact ev_neg (by omega) (ev_bind hq (ev_pos rfl (ev_bind hr (ev_neg e0 (ev_pos e1 (ev_pos (by omega) (Ev.now _)))))))
          · refine ⟨[], 0, [], p + 1 + 1, ev_suc ?_, by simp, by simp, by omega, by omega, by omega, by omega, fun h => absurd h hn0⟩
            simp only [spec_l20Place.l0]
            exact ev_neg (by omega) (ev_bind hq (ev_pos rfl (ev_bind hr (ev_neg e0 (ev_neg e1 (Ev.now _))))))
  | succ d ih =>
    intro w p hd hd1 h0 hp
    obtain ⟨r, hr, r0, r1, _⟩ := pick_ev hb p (u.length : Int) h0 (by omega) (by omega)
    have e : ((d + 1 : Nat) : Int) - 1 = (d : Int) := by omega
    have hP := specPlace_ev u s (w ++ [r]) (by omega) (by simp; omega)
    by_cases hB : placeB u s (w ++ [r]) = true
    · obtain ⟨u', s', w', p', h, h1, h2, h3, h4, h5, h6, h7⟩ := ih (w ++ [r]) (p + 1) (by omega) (by simp; omega) (by omega) (by omega)
      refine ⟨u', s', w', p', ev_suc ?_, h1, h2, h3, h4, by omega, by omega, h7⟩
      simp only [spec_l20Place.l0]
      refine ev_pos (by omega) (ev_bind (Ev.now _) (ev_pos (by simp; omega) (ev_bind (Ev.now _) (ev_bind hr (ev_pos (by simp; omega) (ev_bind (Ev.now _) ?_))))))
      simp only [List.nil_append]
      refine ev_bind hP (ev_pos hB ?_)
      rw [w64 (by omega) (by omega), e]
      exact h
    · obtain ⟨u', s', w', p', h, h1, h2, h3, h4, h5, h6, h7⟩ := ih w (p + 1) (by omega) (by omega) (by omega) (by omega)
      refine ⟨u', s', w', p', ev_suc ?_, h1, h2, h3, h4, by omega, by omega, h7⟩
      simp only [spec_l20Place.l0]
      refine ev_pos (by omega) (ev_bind (Ev.now _) (ev_pos (by simp; omega) (ev_bind (Ev.now _) (ev_bind hr (ev_pos (by simp; omega) (ev_bind (Ev.now _) ?_))))))
      simp only [List.nil_append]
      refine ev_bind hP (ev_neg hB ?_)
      rw [w64 (by omega) (by omega), e]
      exact h
theorem drawPlace_ev {b : List Int} (hb : BytesOk b) (p n : Int) (hn : 0 ≤ n ∧ n ≤ 1000) (h0 : 0 ≤ p) (hp : p ≤ 10000000) :
    ∃ u s w p', Ev (fun k => spec_l20Place.f k b p n) (u, s, w, p') ∧ u.length ≤ 3 ∧ w.length ≤ 5 ∧ -1 ≤ s ∧ s ≤ 4 ∧ p ≤ p' ∧ p' ≤ p + 12 ∧ (n = 0 → 1 ≤ u.length) := by
  obtain ⟨u, p1, e1, a1, a2, a3, a4, a5⟩ := drawUrn_ev hb p h0 (by omega)
  obtain ⟨r, hr, r0, r1, _⟩ := pick_ev hb p1 5 (by omega) (by omega) (by omega)
  have hr5 := r1 (by omega)
  obtain ⟨q, hq, q0, q1, _⟩ := pick_ev hb (p1 + 1) 5 (by omega) (by omega) (by omega)
  have hq5 := q1 (by omega)
  obtain ⟨u', s', w', p', h, h1, h2, h3, h4, h5, h6, h7⟩ := drawPlace_loop hb n hn u (r - 1) ⟨a1, a2⟩ ⟨by omega, by omega⟩ q.toNat [] (p1 + 1 + 1) (by omega) (by simp; omega) (by omega) (by omega)
  refine ⟨u', s', w', p', ?_, h1, h2, h3, h4, by omega, by omega, fun hz => by rw [(h7 hz).1]; exact a1⟩
  simp only [spec_l20Place.f]
  refine ev_bind e1 (ev_bind hr (ev_bind hq ?_))
  simp only []
  rw [w64 (by omega) (by omega)]
  have e : (q.toNat : Int) = q := by omega
  rw [e] at h
  exact h
theorem alive_ev : Ev (fun k => laws_alive.f k) true := Ev.of laws_alive.mono (k := 5) (by decide +kernel)
theorem itoa_ev {n : Int} (h0 : -99 ≤ n) (h1 : n ≤ 99) : strconv_Itoa.f n = some (ba (numT n)) := by
  unfold strconv_Itoa.f
  rw [if_pos ⟨by omega, by omega⟩, itoa_small h0 h1]
  rfl
theorem irow_loop (l : List Int) (hl : l.length ≤ 3) (h1 : 1 ≤ l.length) (hv : ∀ x ∈ l, 0 ≤ x ∧ x ≤ 10) : ∀ (suf pre : List Int), l = pre ++ suf →
    Ev (fun k => impl_rowText.l0 k ((pre.map numT).map ba) l (l.length : Int) (pre.length : Int)) (ba (rowT l)) := by
  intro suf
  induction suf with
  | nil =>
    intro pre h
    rw [List.append_nil] at h
    subst h
    refine ev_suc ?_
    simp only [impl_rowText.l0]
    refine ev_neg (by omega) ?_
    match l, h1 with
    | n :: t, _ =>
      have hj : Lib.join ((((n :: t).map numT).map ba).map (·.data.toList)) (⟨#[44]⟩ : ByteArray).data.toList = rowT (n :: t) := by
        rw [List.map_map, show ((fun x : ByteArray => x.data.toList) ∘ ba) = id from rfl, List.map_id]
        exact join_rowT t n
      have hr := rowT_len (n :: t) hv
      unfold strings_Join.f
      rw [hj, if_pos ⟨by simp at hl ⊢; omega, by omega⟩]
      exact ev_bind (Ev.now _) (Ev.now _)
  | cons x t ih =>
    intro pre h
    have e : l.length = pre.length + (t.length + 1) := by rw [h]; simp
    have hx : rd l (pre.length : Int) = x := by rw [h]; exact rd_at _ _ _
    have hxv := hv x (by rw [h]; simp)
    refine ev_suc ?_
    simp only [impl_rowText.l0, hx, itoa_ev (n := x) (by omega) (by omega), Option.bind_some]
    refine ev_pos (by omega) (ev_pos (by omega) (ev_pos (by omega) (ev_pos (by simp; omega) ?_)))
    rw [w64 (by omega) (by omega), len_at pre x]
    have := ih (pre ++ [x]) (by rw [h]; simp)
    simpa using this
theorem irow_ev (l : List Int) (h1 : 1 ≤ l.length) (hl : l.length ≤ 3) (hv : ∀ x ∈ l, 0 ≤ x ∧ x ≤ 10) : Ev (fun k => impl_rowText.f k l) (ba (rowT l)) := by
  unfold impl_rowText.f
  exact irow_loop l hl h1 hv l [] rfl
theorem strNums_ba (l : List Int) : strOfNums l = ba (l.map fun n => UInt8.ofNat n.toNat) := by
  unfold strOfNums ba
  first | rfl | simp
theorem iplace_end (u : List Int) (s : Int) (w : List Int) (y : List Int) (x : Tx) (h : placeB u s w = true) (hy : strOfNums y = ba x) (hx : x.length ≤ 7) :
    Ev (fun k => (impl_rowText.f k u).bind fun t1 => if t1.size + 1 ≤ 9223372036854775807 then (strconv_Itoa.f s).bind fun t2 => if (t1 ++ (⟨#[32]⟩ : ByteArray)).size + t2.size ≤ 9223372036854775807 then if ((t1 ++ (⟨#[32]⟩ : ByteArray)) ++ t2).size + 1 ≤ 9223372036854775807 then if (((t1 ++ (⟨#[32]⟩ : ByteArray)) ++ t2) ++ (⟨#[32]⟩ : ByteArray)).size + (strOfNums y).size ≤ 9223372036854775807 then some ((((t1 ++ (⟨#[32]⟩ : ByteArray)) ++ t2) ++ (⟨#[32]⟩ : ByteArray)) ++ strOfNums y) else none else none else none else none)
      (ba (rowT u ++ 32 :: (numT s ++ 32 :: x))) := by
  obtain ⟨a1, a2, a3, a4, a5, _, _⟩ := place_data h
  have hr := rowT_len u a1
  obtain ⟨_, n1, n2⟩ := numT_bytes (n := s) (by omega) (by omega)
  have e32 : (⟨#[32]⟩ : ByteArray) = ba [32] := rfl
  rw [hy]
  refine ev_bind (irow_ev u a2 a3 a1) (ev_pos (by rw [ba_size]; omega) ?_)
  rw [itoa_ev (n := s) (by omega) (by omega)]
  simp only [Option.bind_some, e32, ba_append, ba_size]
  refine ev_pos (by simp; omega) (ev_pos (by simp; omega) (ev_pos (by simp; omega) (ev_eq (Ev.now _) ?_)))
  simp
theorem iplacew_loop (u : List Int) (s : Int) (w : List Int) (h : placeB u s w = true) : ∀ (suf pre : List Int), w = pre ++ suf →
    Ev (fun k => impl_PlaceText.l0 k (pre.map fun c => (97 + c) % 256) w (w.length : Int) (pre.length : Int) u s w) (ba (rowT u ++ 32 :: (numT s ++ 32 :: (wordT w)))) := by
  obtain ⟨_, _, _, _, _, hw, hl⟩ := place_data h
  intro suf
  induction suf with
  | nil =>
    intro pre e
    rw [List.append_nil] at e
    subst e
    refine ev_suc ?_
    simp only [impl_PlaceText.l0, List.length_map]
    refine ev_neg (by omega) ?_
    by_cases h0 : (w.length : Int) = 0
    · have e0 : w = [] := List.eq_nil_of_length_eq_zero (by omega)
      refine ev_pos h0 (ev_pos (by omega) ?_)
      subst e0
      simp only [Option.bind_some, List.map_nil, List.nil_append]
      exact iplace_end u s [] [46] [46] h rfl (by simp)
    · refine ev_neg h0 ?_
      have hne : w ≠ [] := by rintro rfl; exact h0 rfl
      refine iplace_end u s w _ (wordT w) h ?_ (by have := wordT_len w; omega)
      rw [strNums_ba, wordT, if_neg hne, ba_inj, List.map_map]
      refine List.map_congr_left fun c hc => ?_
      have := hw c hc
      show UInt8.ofNat (((97 + c) % 256).toNat) = letT c
      unfold letT
      congr 1
      omega
  | cons c t ih =>
    intro pre e
    have el : w.length = pre.length + (t.length + 1) := by rw [e]; simp
    have hc : rd w (pre.length : Int) = c := by rw [e]; exact rd_at _ _ _
    have hcv := hw c (by rw [e]; simp)
    refine ev_suc ?_
    simp only [impl_PlaceText.l0, hc, List.length_map]
    refine ev_pos (by omega) (ev_pos (by omega) (ev_pos (by omega) (ev_pos (by omega) ?_)))
    rw [w64 (n := 97 + c) (by omega) (by omega), w64 (by omega) (by omega), len_at pre c]
    have := ih (pre ++ [c]) (by rw [e]; simp)
    simpa using this
theorem iplacet_ev (u : List Int) (s : Int) (w : List Int) (hu : (u.length : Int) ≤ 1000000000000) (hw : (w.length : Int) ≤ 1000000000000) : Ev (fun k => impl_PlaceText.f k u s w) (ba (placeT u s w)) := by
  unfold impl_PlaceText.f placeT
  refine ev_bind (implPlace_ev u s w hu hw) ?_
  by_cases h : placeB u s w = true
  case neg => rw [if_neg h]; exact ev_neg h (Ev.now _)
  rw [if_pos h]
  exact ev_pos h (iplacew_loop u s w h w [] rfl)
/-- The numbers that the library reads. -/
def numA (w : Tx) : Int := match Lib.atoiAll w with | .ok v => v | Lib.NumEnd.syntax => 0 | .range => Lib.atoiSat w
theorem atoi_ev (w : Tx) (h : w.length ≤ 1048576) : ∃ e, strconv_Atoi.f (ba w) = some (numA w, e) := by
  unfold strconv_Atoi.f numA
  rw [if_pos (by rw [ba_size]; omega)]
  simp only [ba_list]
  cases Lib.atoiAll w <;> exact ⟨_, rfl⟩
theorem numA_numT {n : Int} (h0 : -99 ≤ n) (h1 : n ≤ 99) : numA (numT n) = n := by unfold numA; rw [atoi_numT h0 h1]
theorem isplit_ev (c : UInt8) (l : Tx) (hl : l.length ≤ 4000000000) : strings_Split.f (ba l) (ba [c]) = some ((cutA c [] l).map ba) := by
  unfold strings_Split.f
  rw [if_pos ⟨by rw [ba_size]; omega, by simp⟩, split_cut]
theorem rdOf_map (l : List Tx) (i : Int) : rdOf ByteArray.empty (l.map ba) i = ba (l.getD i.toNat []) := by
  unfold rdOf
  rw [List.getD_eq_getElem?_getD, List.getD_eq_getElem?_getD, List.getElem?_map]
  cases l[i.toNat]? <;> rfl
/-- What is told of a place of which the text is to be this. -/
noncomputable def chkP (x : Tx) (u : List Int) (s : Int) (w : List Int) : List Int × Int × List Int × Bool := if x ≠ [] ∧ placeT u s w = x then (u, s, w, true) else ([], 0, [], false)
theorem pieces_small (c : UInt8) : ∀ (l acc p : Tx), p ∈ cutA c acc l → p.length ≤ acc.length + l.length := by
  intro l
  induction l with
  | nil => intro acc p hp; simp [cutA] at hp; subst hp; simp
  | cons b l ih =>
    intro acc p hp
    unfold cutA at hp
    split at hp
    · rcases List.mem_cons.1 hp with rfl | hp
      · simp
      · have := ih [] p hp; simp at this ⊢; omega
    · have := ih _ p hp; simp at this ⊢; omega
theorem ichk_ev (x : Tx) (hx : x ≠ []) (u : List Int) (s : Int) (w : List Int) (hu : (u.length : Int) ≤ 1000000000000) (hw : (w.length : Int) ≤ 1000000000000) :
    Ev (fun k => (impl_PlaceText.f k u s w).bind fun t => if t.toList = (ba x).toList then some (u, s, w, true) else some (([] : List Int), (0 : Int), ([] : List Int), false)) (chkP x u s w) := by
  refine ev_bind (iplacet_ev u s w hu hw) ?_
  simp only [toList_ba]
  by_cases h2 : placeT u s w = x
  · have hc : chkP x u s w = (u, s, w, true) := if_pos ⟨hx, h2⟩
    rw [hc]; exact ev_pos h2 (Ev.now _)
  · have hc : chkP x u s w = ([], 0, [], false) := if_neg (fun e => h2 e.2)
    rw [hc]; exact ev_neg h2 (Ev.now _)
theorem iword_loop (x : Tx) (hx : x ≠ []) (a b t : Tx) (u : List Int) (s : Int) (hu : (u.length : Int) ≤ 1000000000000) (ht : t.length ≤ 1048576) : ∀ (suf pre : Tx), t = pre ++ suf →
    Ev (fun k => impl_ReadPlace.l1 k (ba x) ([a, b, t].map ba) (t.length : Int) (pre.length : Int) u s (pre.map fun c => (c.toNat : Int) - 97)) (chkP x u s (t.map fun c => (c.toNat : Int) - 97)) := by
  have h2 : rdOf ByteArray.empty ([a, b, t].map ba) 2 = ba t := rfl
  intro suf
  induction suf with
  | nil =>
    intro pre h
    rw [List.append_nil] at h
    subst h
    refine ev_suc ?_
    simp only [impl_ReadPlace.l1]
    exact ev_neg (by omega) (ichk_ev x hx u s _ hu (by rw [List.length_map]; omega))
  | cons c r ih =>
    intro pre h
    have e : t.length = pre.length + (r.length + 1) := by rw [h]; simp
    have hb : bt (ba t) (pre.length : Int) = (c.toNat : Int) := by rw [h]; exact bt_ba _ _ _
    have hc : c.toNat < 256 := c.toNat_lt
    refine ev_suc ?_
    simp only [impl_ReadPlace.l1, h2, hb]
    refine ev_pos (by omega) (ev_pos (by simp) (ev_pos (by omega) (ev_pos (by rw [ba_size]; omega) (ev_pos (by rw [List.length_map]; omega) ?_))))
    rw [w64 (n := (c.toNat : Int)) (by omega) (by omega), w64 (n := (c.toNat : Int) - 97) (by omega) (by omega), w64 (by omega) (by omega), len_at pre c]
    have := ih (pre ++ [c]) (by rw [h]; simp)
    simpa using this
theorem atoi_num_ev {n : Int} (h0 : -99 ≤ n) (h1 : n ≤ 99) : strconv_Atoi.f (ba (numT n)) = some (n, none) := by
  unfold strconv_Atoi.f
  have := (numT_bytes h0 h1).2.2
  rw [if_pos (by rw [ba_size]; omega), ba_list, atoi_numT h0 h1]
theorem atoi_any (w : Tx) (h : w.length ≤ 1048576) : ∃ v e, strconv_Atoi.f (ba w) = some (v, e) := by
  unfold strconv_Atoi.f
  rw [if_pos (by rw [ba_size]; omega)]
  exact ⟨_, _, rfl⟩
/-- The row is read whole, or what is read is no place of this text. -/
theorem irows_loop (x : Tx) (a b t : Tx) (ps : List Tx) (hl : ps.length ≤ 1048577) (hp : ∀ p ∈ ps, p.length ≤ 1048576) (r : List Int × Int × List Int × Bool)
    (hfail : (¬ ∃ u : List Int, ps = u.map numT ∧ (∀ n ∈ u, 0 ≤ n ∧ n ≤ 10) ∧ u.length ≤ 3) → r = ([], 0, [], false))
    (hend : ∀ u : List Int, u.length ≤ 5 → ((∃ v : List Int, ps = v.map numT ∧ (∀ n ∈ v, 0 ≤ n ∧ n ≤ 10) ∧ v.length ≤ 3) → ps = u.map numT ∧ ∀ n ∈ u, 0 ≤ n ∧ n ≤ 10) → Ev (fun k => impl_ReadPlace.l0 k (ba x) ([a, b, t].map ba) (ps.map ba) (ps.length : Int) (ps.length : Int) u 0) r) :
    ∀ (suf pre : List Tx) (u : List Int), ps = pre ++ suf → u.length = pre.length → u.length ≤ 4 → ((∃ v : List Int, ps = v.map numT ∧ (∀ n ∈ v, 0 ≤ n ∧ n ≤ 10) ∧ v.length ≤ 3) → pre = u.map numT ∧ ∀ n ∈ u, 0 ≤ n ∧ n ≤ 10) →
      Ev (fun k => impl_ReadPlace.l0 k (ba x) ([a, b, t].map ba) (ps.map ba) (ps.length : Int) (pre.length : Int) u 0) r := by
  intro suf
  induction suf with
  | nil =>
    intro pre u h hu hu4 hg
    rw [List.append_nil] at h
    subst h
    exact hend u (by omega) hg
  | cons p q ih =>
    intro pre u h hu hu4 hg
    have e : ps.length = pre.length + (q.length + 1) := by rw [h]; simp
    have hr : rdOf ByteArray.empty (ps.map ba) (pre.length : Int) = ba p := by rw [rdOf_map, h]; simp
    have hpl := hp p (by rw [h]; simp)
    obtain ⟨v, er, hv⟩ := atoi_any p hpl
    refine ev_suc ?_
    simp only [impl_ReadPlace.l0, hr, hv, Option.bind_some]
    refine ev_pos (by omega) (ev_pos (by omega) (ev_pos (by rw [List.length_map]; omega) ?_))
    have hnum : (∃ w : List Int, ps = w.map numT ∧ (∀ n ∈ w, 0 ≤ n ∧ n ≤ 10) ∧ w.length ≤ 3) → ∃ n, p = numT n ∧ (0 ≤ n ∧ n ≤ 10) ∧ ps.length ≤ 3 := by
      rintro ⟨w, hw, hn, hw3⟩
      have hm : p ∈ w.map numT := by rw [← hw, h]; simp
      obtain ⟨n, hn1, hn2⟩ := List.mem_map.1 hm
      exact ⟨n, hn2.symm, hn n hn1, by rw [hw, List.length_map]; exact hw3⟩
    by_cases hn : er.isNone = true
    · refine ev_pos hn ?_
      by_cases hlen : (u.length : Int) > 3
      · refine ev_pos hlen ?_
        rw [hfail fun he => by obtain ⟨_, _, _, h3⟩ := hnum he; omega]
        exact Ev.now _
      · refine ev_neg hlen (ev_pos (by omega) ?_)
        rw [w64 (by omega) (by omega), len_at pre p]
        refine ih (pre ++ [p]) (u ++ [v]) (by rw [h]; simp) (by simp [hu]) (by simp; omega) fun he => ?_
        obtain ⟨g1, g2⟩ := hg he
        obtain ⟨n, rfl, hn1, _⟩ := hnum he
        rw [atoi_num_ev (by omega) (by omega)] at hv
        simp only [Option.some.injEq, Prod.mk.injEq] at hv
        obtain ⟨rfl, _⟩ := hv
        refine ⟨by simp [g1], fun m hm => ?_⟩
        rcases List.mem_append.1 hm with hm | hm
        · exact g2 m hm
        · rw [List.mem_singleton] at hm; subst hm; exact hn1
    · refine ev_neg hn ?_
      rw [hfail fun he => by
        obtain ⟨n, rfl, hn1, _⟩ := hnum he
        rw [atoi_num_ev (by omega) (by omega)] at hv
        simp only [Option.some.injEq, Prod.mk.injEq] at hv
        exact hn (by rw [← hv.2]; rfl)]
      exact Ev.now _
theorem ireadp_ev (x : Tx) (hx : x.length ≤ 1048576) : Ev (fun k => impl_ReadPlace.f k (ba x)) (readP x) := by
  unfold impl_ReadPlace.f
  have e32 : (⟨#[32]⟩ : ByteArray) = ba [32] := rfl
  have e44 : (⟨#[44]⟩ : ByteArray) = ba [44] := rfl
  simp only [e32, e44, isplit_ev 32 x (by omega), Option.bind_some]
  have hne : ∀ {u : List Int} {s : Int} {w : List Int}, placeT u s w = x → x ≠ [] → placeB u s w = true ∧ cutA 32 [] x = [rowT u, numT s, wordT w] ∧ cutA 44 [] (rowT u) = u.map numT := fun {u s w} h h2 => by
    have := place_cut (u := u) (s := s) (w := w) (by rw [h]; exact h2)
    rwa [h] at this
  rw [List.length_map]
  by_cases h3 : ((cutA 32 [] x).length : Int) = 3
  case neg =>
    refine ev_neg h3 ?_
    rw [readP_not fun u s w h => Classical.byContradiction fun h2 => by
      have := (hne h h2).2.1
      rw [this] at h3; simp at h3]
    exact Ev.now _
  have hx0 : x ≠ [] := by rintro rfl; simp [cutA] at h3
  obtain ⟨a, b, t, hc⟩ : ∃ a b t, cutA 32 [] x = [a, b, t] := by
    match hc : cutA 32 [] x with
    | [a, b, t] => exact ⟨a, b, t, rfl⟩
    | [] | [_] | [_, _] | _ :: _ :: _ :: _ :: _ => rw [hc] at h3; simp at h3; try omega
  have hs : ∀ p ∈ cutA 32 [] x, p.length ≤ 1048576 := fun p hp => by have := pieces_small 32 x [] p hp; simp at this; omega
  rw [hc] at hs hne h3 ⊢
  have ha := hs a (by simp)
  have hb := hs b (by simp)
  have ht := hs t (by simp)
  have e1 : rdOf ByteArray.empty ([a, b, t].map ba) 1 = ba b := rfl
  have e0 : rdOf ByteArray.empty ([a, b, t].map ba) 0 = ba a := rfl
  have e2 : rdOf ByteArray.empty ([a, b, t].map ba) 2 = ba t := rfl
  simp only [e0, isplit_ev 44 a (by omega), Option.bind_some]
  have hps : ∀ p ∈ cutA 44 [] a, p.length ≤ 1048576 := fun p hp => by have := pieces_small 44 a [] p hp; simp at this; omega
  have hpl : (cutA 44 [] a).length ≤ 1048577 := by have := cutA_len 44 a []; omega
  refine ev_pos h3 (ev_pos (by simp) ?_)
  rw [List.length_map]
  have hrow : ∀ {u : List Int} {s : Int} {w : List Int}, placeT u s w = x → ∃ v : List Int, cutA 44 [] a = v.map numT ∧ (∀ n ∈ v, 0 ≤ n ∧ n ≤ 10) ∧ v.length ≤ 3 := fun {u s w} h => by
    obtain ⟨p, q, r⟩ := hne h hx0
    obtain ⟨b1, b2, b3, _⟩ := place_data p
    simp only [List.cons.injEq, and_true] at q
    rw [q.1]
    exact ⟨u, r, b1, b3⟩
  refine irows_loop x a b t (cutA 44 [] a) hpl hps (readP x) (fun hf => readP_not fun u s w h => absurd (hrow h) hf) (fun u hu hg => ?_) (cutA 44 [] a) [] [] rfl rfl (by simp) (fun _ => ⟨rfl, by simp⟩)
  obtain ⟨er, hv⟩ := atoi_ev b hb
  refine ev_suc ?_
  simp only [impl_ReadPlace.l0, e1, e2, hv, Option.bind_some, toList_ba, ba_size]
  have hfin : chkP x u (numA b) (decW t) = readP x := by
    unfold chkP
    by_cases hm : x ≠ [] ∧ placeT u (numA b) (decW t) = x
    · rw [if_pos hm, readP_of hm.2 hm.1]
    · rw [if_neg hm, readP_not fun u' s w h => Classical.byContradiction fun h2 => hm ⟨h2, ?_⟩]
      obtain ⟨g1, g2⟩ := hg (hrow h)
      obtain ⟨p, q, r⟩ := hne h h2
      obtain ⟨b1, b2, b3, b4, b5, b6, _⟩ := place_data p
      simp only [List.cons.injEq, and_true] at q
      obtain ⟨q1, rfl, rfl⟩ := q
      rw [q1, r] at g1
      rw [← map_numT_inj b1 g2 g1, numA_numT (by omega) (by omega), decW_wordT b6, h]
  refine ev_neg (by omega) (ev_pos (by simp) (ev_pos (by simp) ?_))
  rw [← hfin]
  by_cases h46 : t = [46]
  · refine ev_pos h46 ?_
    rw [h46]
    have := ichk_ev x hx0 u (numA b) [] (by omega) (by simp)
    simpa [decW, toList_ba] using this
  · refine ev_neg h46 ?_
    have := iword_loop x hx0 a b t u (numA b) (by omega) ht t [] rfl
    unfold decW
    rw [if_neg h46]
    exact this
theorem l15Step_ev {n : Int} (h0 : -99 ≤ n) (h1 : n ≤ 99) : Ev (fun k => spec_l15Step.f k n) (ba (numT n)) := by
  have := small_all (p := fun n => decide (spec_l15Step.f 5 n = some (ba (numT n)))) (by decide +kernel) h0 h1
  exact Ev.of (fun k => spec_l15Step.mono _ _) (of_decide_eq_true this)
theorem litb (l : Tx) : (⟨⟨l⟩⟩ : ByteArray) = ba l := rfl
theorem l1Number_ev {n : Int} (h0 : 0 ≤ n) (h1 : n ≤ 99) : Ev (fun k => spec_l1Number.f k n) (ba (numT n)) := by
  have := small_all (p := fun n => decide (n < 0) || decide (spec_l1Number.f 5 n = some (ba (numT n)))) (by decide +kernel) (n := n) (by omega) h1
  rw [decide_eq_false (by omega), Bool.false_or] at this
  exact Ev.of (fun k => spec_l1Number.mono _ _) (of_decide_eq_true this)
theorem srow_loop (l : List Int) (hl : l.length ≤ 3) (hv : ∀ x ∈ l, 0 ≤ x ∧ x ≤ 10) (hne : l ≠ []) : ∀ (suf pre : List Int) (acc : Tx), l = pre ++ suf → pre ≠ [] → acc.length ≤ 100 * pre.length →
    Ev (fun k => spec_l15Row.l0 k l (ba acc) (pre.length : Int)) (ba (acc ++ tailT suf)) := by
  intro suf
  induction suf with
  | nil =>
    intro pre acc h hp _
    rw [List.append_nil] at h
    subst h
    have : 0 < l.length := List.length_pos_iff.2 hne
    refine ev_suc ?_
    simp only [spec_l15Row.l0]
    exact ev_neg (by omega) (ev_neg (by omega) (ev_eq (Ev.now _) (by simp [tailT])))
  | cons x t ih =>
    intro pre acc h hp ha
    have e : l.length = pre.length + (t.length + 1) := by rw [h]; simp
    have hx : rd l (pre.length : Int) = x := by rw [h]; exact rd_at _ _ _
    have hxv := hv x (by rw [h]; simp)
    have hpp : 0 < pre.length := List.length_pos_iff.2 hp
    obtain ⟨_, n1, n2⟩ := numT_bytes (n := x) (by omega) (by omega)
    refine ev_suc ?_
    simp only [spec_l15Row.l0, hx]
    refine ev_pos (by omega) (ev_pos (by omega) (ev_pos (by rw [ba_size]; omega) (ev_pos (by omega) (ev_bind (l1Number_ev hxv.1 (by omega)) ?_))))
    rw [litb, ba_append, ba_append, ba_size, ba_size]
    refine ev_pos (by simp; omega) ?_
    rw [w64 (by omega) (by omega), len_at pre x]
    refine ev_eq (ih (pre ++ [x]) _ (by rw [h]; simp) (by simp) (by simp; omega)) ?_
    simp [tailT]
theorem srow_ev (l : List Int) (h1 : 1 ≤ l.length) (hl : l.length ≤ 3) (hv : ∀ x ∈ l, 0 ≤ x ∧ x ≤ 10) : Ev (fun k => spec_l15Row.f k l) (ba (rowT l)) := by
  match l, h1 with
  | x :: t, _ =>
    have hxv := hv x (by simp)
    obtain ⟨_, n1, n2⟩ := numT_bytes (n := x) (by omega) (by omega)
    unfold spec_l15Row.f
    have hx : rd (x :: t) 0 = x := by simp [rd]
    refine ev_suc ?_
    simp only [spec_l15Row.l0, hx]
    refine ev_pos (by simp <;> omega) (ev_neg (by omega) (ev_pos (by omega) (ev_bind (l1Number_ev hxv.1 (by omega)) ?_)))
    rw [litb, ba_append, ba_size, ba_size]
    refine ev_pos (by simp; omega) ?_
    rw [w64 (by omega) (by omega)]
    have := srow_loop (x :: t) hl hv (by simp) t [x] (numT x) rfl (by simp) (by simp; omega)
    simpa [rowT] using this
theorem abc_ev {c : Int} (h : 0 ≤ c ∧ c < 3) : (ba [97, 98, 99]).extract c.toNat (c + 1).toNat = ba [letT c] := by
  rw [ba_extract]
  obtain ⟨m, rfl⟩ := Int.eq_ofNat_of_zero_le h.1
  have : m = 0 ∨ m = 1 ∨ m = 2 := by omega
  rcases this with rfl | rfl | rfl <;> rfl
theorem splace_end (u : List Int) (s : Int) (w : List Int) (x : Tx) (h : placeB u s w = true) (hx : x.length ≤ 7) :
    Ev (fun k => (spec_l15Row.f k u).bind fun t1 => if t1.size + 1 ≤ 9223372036854775807 then (spec_l15Step.f k s).bind fun t2 => if (t1 ++ (⟨#[32]⟩ : ByteArray)).size + t2.size ≤ 9223372036854775807 then if ((t1 ++ (⟨#[32]⟩ : ByteArray)) ++ t2).size + 1 ≤ 9223372036854775807 then if (((t1 ++ (⟨#[32]⟩ : ByteArray)) ++ t2) ++ (⟨#[32]⟩ : ByteArray)).size + (ba x).size ≤ 9223372036854775807 then some ((((t1 ++ (⟨#[32]⟩ : ByteArray)) ++ t2) ++ (⟨#[32]⟩ : ByteArray)) ++ ba x) else none else none else none else none)
      (ba (rowT u ++ 32 :: (numT s ++ 32 :: x))) := by
  obtain ⟨a1, a2, a3, a4, a5, _, _⟩ := place_data h
  have hr := rowT_len u a1
  obtain ⟨_, n1, n2⟩ := numT_bytes (n := s) (by omega) (by omega)
  refine ev_bind (srow_ev u a2 a3 a1) (ev_pos (by rw [ba_size]; omega) (ev_bind (l15Step_ev (by omega) (by omega)) ?_))
  simp only [litb, ba_append, ba_size]
  refine ev_pos (by simp; omega) (ev_pos (by simp; omega) (ev_pos (by simp; omega) (ev_eq (Ev.now _) ?_)))
  simp
theorem splacew_loop (u : List Int) (s : Int) (w : List Int) (h : placeB u s w = true) : ∀ (suf pre : List Int) (x : Tx), w = pre ++ suf → pre ≠ [] → x = pre.map letT →
    Ev (fun k => spec_PlaceText.l0 k (ba x) (pre.length : Int) u s w) (ba (rowT u ++ 32 :: (numT s ++ 32 :: (w.map letT)))) := by
  obtain ⟨_, _, _, _, _, hw, hl⟩ := place_data h
  intro suf
  induction suf with
  | nil =>
    intro pre x e hp hx
    rw [List.append_nil] at e
    subst e
    refine ev_suc ?_
    simp only [spec_PlaceText.l0]
    refine ev_neg (by omega) ?_
    subst hx
    exact splace_end u s w _ h (by simp; omega)
  | cons c t ih =>
    intro pre x e hp hx
    have el : w.length = pre.length + (t.length + 1) := by rw [e]; simp
    have hc : rd w (pre.length : Int) = c := by rw [e]; exact rd_at _ _ _
    have hcv := hw c (by rw [e]; simp)
    have hpp : 0 < pre.length := List.length_pos_iff.2 hp
    refine ev_suc ?_
    simp only [spec_PlaceText.l0, hc, litb]
    rw [w64 (n := c + 1) (by omega) (by omega), abc_ev hcv]
    refine ev_pos (by omega) (ev_neg (by omega) (ev_pos (by omega) (ev_pos hcv.1 (ev_pos (by omega) (ev_pos (by omega) (ev_pos ?_ ?_))))))
    · rw [ba_size, ba_size, hx]; simp; omega
    · rw [w64 (by omega) (by omega), len_at pre c, ba_append]
      exact ih (pre ++ [c]) _ (by rw [e]; simp) (by simp) (by rw [hx]; simp)
theorem splacet_ev (u : List Int) (s : Int) (w : List Int) (hu : (u.length : Int) ≤ 1000000000000) (hw : (w.length : Int) ≤ 1000000000000) : Ev (fun k => spec_PlaceText.f k u s w) (ba (placeT u s w)) := by
  unfold spec_PlaceText.f placeT
  refine ev_bind (specPlace_ev u s w hu hw) ?_
  by_cases h : placeB u s w = true
  case neg => rw [if_neg h]; exact ev_neg h (Ev.now _)
  rw [if_pos h]
  refine ev_pos h ?_
  obtain ⟨_, _, _, _, _, hwv, hl⟩ := place_data h
  rcases w with _ | ⟨c, t⟩
  ·
    refine ev_suc ?_
    simp only [spec_PlaceText.l0, wordT, litb]
    exact ev_neg (by simp) (splace_end u s [] [46] h (by simp))
  ·
    have hcv := hwv c (by simp)
    have hc : rd (c :: t) 0 = c := by simp [rd]
    refine ev_suc ?_
    simp only [spec_PlaceText.l0, hc, litb, wordT]
    rw [w64 (n := c + 1) (by omega) (by omega), abc_ev hcv]
    refine ev_pos (by simp <;> omega) (ev_pos trivial (ev_pos (by omega) (ev_pos hcv.1 (ev_pos (by omega) (ev_pos (by omega) (ev_pos (by rw [ba_size]; simp) ?_))))))
    rw [w64 (by omega) (by omega), ba_append]
    have := splacew_loop u s (c :: t) h t [c] [letT c] rfl (by simp) rfl
    simpa using this
noncomputable def storeB (x y : Tx) (n : Int) : Bool := (readP x).2.2.2 && decide (y.length ≤ 1000) && decide (0 ≤ n ∧ n ≤ y.length)
theorem istore_ev (x y : Tx) (n : Int) (hx : x.length ≤ 1048576) : Ev (fun k => impl_StoreOk.f k (ba x) (ba y) n) (storeB x y n) := by
  unfold impl_StoreOk.f storeB
  refine ev_bind (ireadp_ev x hx) ?_
  by_cases h1 : (readP x).2.2.2 = true
  · refine ev_pos h1 ?_
    rw [h1, ba_size]
    by_cases h2 : (y.length : Int) ≤ 1000
    · refine ev_pos h2 ?_
      by_cases h3 : n ≥ 0
      · exact ev_pos h3 (ev_eq (Ev.now _) (by rw [Bool.eq_iff_iff]; simp; omega))
      · exact ev_neg h3 (ev_eq (Ev.now _) (by rw [Bool.eq_iff_iff]; simp; omega))
    · exact ev_neg h2 (ev_eq (Ev.now _) (by rw [Bool.eq_iff_iff]; simp; omega))
  · exact ev_neg h1 (ev_eq (Ev.now _) (by rw [Bool.eq_false_iff.2 h1]; rfl))
theorem ideed_far (k a b : Int) : Ev (fun n => impl_DeedText.j0 n true k a b) (ba []) := ev_suc (by simp only [impl_DeedText.j0]; exact ev_pos trivial (Ev.now _))
theorem ideed_ev (k a b : Int) : Ev (fun n => impl_DeedText.f n k a b) (ba (deedT k a b)) := by
  unfold deedT impl_DeedText.f
  by_cases h1 : a < -99
  · rw [if_neg (fun h => by omega)]; exact ev_pos h1 (ideed_far k a b)
  refine ev_neg h1 ?_
  by_cases h2 : a > 99
  · rw [if_neg (fun h => by omega)]; exact ev_pos h2 (ideed_far k a b)
  refine ev_neg h2 ?_
  by_cases h3 : b < -99
  · rw [if_neg (fun h => by omega)]; exact ev_pos h3 (ideed_far k a b)
  refine ev_neg h3 ?_
  by_cases h4 : b > 99
  · rw [if_neg (fun h => by omega), decide_eq_true h4]; exact ideed_far k a b
  rw [if_pos (by omega), decide_eq_false h4]
  have ha : -99 ≤ a ∧ a ≤ 99 := by omega
  have hb : -99 ≤ b ∧ b ≤ 99 := by omega
  refine ev_suc ?_
  simp only [impl_DeedText.j0, Bool.false_eq_true, if_false, Bool.and_eq_true, beq_iff_eq, itoa_ev ha.1 ha.2, itoa_ev hb.1 hb.2, Option.bind_some]
  obtain ⟨_, l1, l2⟩ := numT_bytes ha.1 ha.2
  obtain ⟨_, m1, m2⟩ := numT_bytes hb.1 hb.2
  refine ev_pos (by rw [ba_size]; omega) ?_
  simp only [litb, ba_append, ba_size]
  split
  · rename_i hk
    refine ev_pos (by simp; omega) (ev_pos (by simp; omega) (ev_pos (by simp; omega) (ev_eq (Ev.now _) ?_)))
    simp [putW]
  rename_i hk
  by_cases hb0 : b = 0
  · refine ev_pos hb0 ?_
    simp only [hb0, and_true]
    split
    · exact ev_pos (by simp; omega) (ev_eq (Ev.now _) (by simp [stepW]))
    split
    · exact ev_pos (by simp; omega) (ev_eq (Ev.now _) (by simp [drawW]))
    by_cases ha0 : a = 0
    · refine ev_pos ha0 ?_
      simp only [ha0, and_true]
      split
      · exact Ev.now _
      split
      · exact Ev.now _
      · exact Ev.now _
    · refine ev_neg ha0 ?_
      simp only [ha0, and_false, if_false]
      exact Ev.now _
  · refine ev_neg hb0 ?_
    simp only [hb0, and_false, if_false]
    exact Ev.now _
theorem words_small (x : Tx) (hx : x.length ≤ 1048576) : ∀ i, ((cutA 32 [] x).getD i []).length ≤ 1048576 := by
  have : ∀ (l acc : Tx) (p : Tx), p ∈ cutA 32 acc l → p.length ≤ acc.length + l.length := by
    intro l
    induction l with
    | nil => intro acc p hp; simp [cutA] at hp; subst hp; simp
    | cons b l ih =>
      intro acc p hp
      unfold cutA at hp
      split at hp
      · rcases List.mem_cons.1 hp with rfl | hp
        · simp
        · have := ih [] p hp; simp at this ⊢; omega
      · have := ih _ p hp; simp at this ⊢; omega
  intro i
  rw [List.getD_eq_getElem?_getD]
  cases hg : (cutA 32 [] x)[i]? with
  | none => simp
  | some p =>
    have := this x [] p (List.mem_of_getElem? hg)
    simp at this ⊢; omega
/-- The word's number among the five. -/
def kindOf (w : Tx) : Int := if w = putW then 0 else if w = stepW then 1 else if w = drawW then 2 else if w = againW then 3 else if w = backW then 4 else -1
theorem kind_ev (w : Tx) : Ev (fun k => slices_Index_string_string.f k [ba putW, ba stepW, ba drawW, ba againW, ba backW] (ba w)) (kindOf w) := by
  unfold slices_Index_string_string.f kindOf
  refine ev_suc ?_
  simp only [slices_Index_string_string.l0]
  refine ev_pos (by decide) (ev_pos (by decide) (ev_pos (by decide) ?_))
  simp only [rdOf, toList_ba, List.length_cons, List.length_nil, Int.toNat_zero, List.getD_cons_zero, w64 (n := 0 + 1) (by decide) (by decide)]
  split
  · exact Ev.now _
  refine ev_suc ?_
  simp only [slices_Index_string_string.l0]
  refine ev_pos (by decide) (ev_pos (by decide) (ev_pos (by decide) ?_))
  have t1 : (0 + 1 : Int).toNat = 1 := rfl
  simp only [rdOf, toList_ba, t1, List.getD_cons_zero, List.getD_cons_succ, w64 (n := 0 + 1 + 1) (by decide) (by decide)]
  split
  · exact Ev.now _
  refine ev_suc ?_
  simp only [slices_Index_string_string.l0]
  refine ev_pos (by decide) (ev_pos (by decide) (ev_pos (by decide) ?_))
  have t2 : (0 + 1 + 1 : Int).toNat = 2 := rfl
  simp only [rdOf, toList_ba, t2, List.getD_cons_zero, List.getD_cons_succ, w64 (n := 0 + 1 + 1 + 1) (by decide) (by decide)]
  split
  · exact Ev.now _
  refine ev_suc ?_
  simp only [slices_Index_string_string.l0]
  refine ev_pos (by decide) (ev_pos (by decide) (ev_pos (by decide) ?_))
  have t3 : (0 + 1 + 1 + 1 : Int).toNat = 3 := rfl
  simp only [rdOf, toList_ba, t3, List.getD_cons_zero, List.getD_cons_succ, w64 (n := 0 + 1 + 1 + 1 + 1) (by decide) (by decide)]
  split
  · exact Ev.now _
  refine ev_suc ?_
  simp only [slices_Index_string_string.l0]
  refine ev_pos (by decide) (ev_pos (by decide) (ev_pos (by decide) ?_))
  have t4 : (0 + 1 + 1 + 1 + 1 : Int).toNat = 4 := rfl
  simp only [rdOf, toList_ba, t4, List.getD_cons_zero, List.getD_cons_succ, w64 (n := 0 + 1 + 1 + 1 + 1 + 1) (by decide) (by decide)]
  split
  · exact Ev.now _
  refine ev_suc ?_
  simp only [slices_Index_string_string.l0]
  exact ev_neg (by decide) (Ev.now _)
theorem kindOf_lt (w : Tx) : kindOf w < 5 := by unfold kindOf; repeat' split <;> try omega
theorem iread_end (x : Tx) (k a b : Int) (hd : ∀ k' a' b', deedT k' a' b' = x → x ≠ [] → (k, a, b) = (k', a', b')) (hx : x ≠ []) :
    (if (ba (deedT k a b)).toList = (ba x).toList then some (k, a, b, true) else some (0, 0, 0, false)) = some (readD x) := by
  simp only [toList_ba]
  split
  · rename_i h; rw [readD_of h hx]
  · rename_i h
    rw [readD_not fun k' a' b' h' => ?_]
    by_cases h0 : x = []
    · exact h0
    · have := hd k' a' b' h' h0
      simp only [Prod.mk.injEq] at this
      obtain ⟨rfl, rfl, rfl⟩ := this
      exact absurd h' h
theorem iread_ev (x : Tx) (hx : x.length ≤ 1048576) : Ev (fun k => impl_ReadDeed.f k (ba x)) (readD x) := by
  have hw := words_small x hx
  unfold impl_ReadDeed.f
  have hs := isplit_ev 32 x (by omega)
  have e32 : (⟨#[32]⟩ : ByteArray) = ba [32] := rfl
  simp only [e32, hs, Option.bind_some, List.length_map, rdOf_map]
  have hp := cutA_pos 32 x []
  have hcut : ∀ {k a b : Int}, deedT k a b = x → x ≠ [] → _ := fun {k a b} h h2 => deed_cases (k := k) (a := a) (b := b) (by rw [h]; exact h2)
  refine ev_pos (by omega) (ev_bind (kind_ev _) ?_)
  have t0 : (0 : Int).toNat = 0 := rfl
  rw [t0]
  by_cases hk : kindOf ((cutA 32 [] x).getD 0 []) < 0
  · refine ev_pos hk (ev_suc ?_)
    simp only [impl_ReadDeed.j0]
    refine ev_pos trivial ?_
    rw [readD_not fun k a b e => ?_]
    · exact Ev.now _
    by_cases h0 : x = []
    · exact h0
    obtain ⟨_, c⟩ := hcut e h0
    rw [e] at c
    exfalso
    rcases c with ⟨_, _, c⟩ | ⟨_, _, _, c⟩ | ⟨_, _, _, c⟩ | ⟨_, _, _, _, c⟩ | ⟨_, _, _, _, c⟩ <;> rw [c, List.getD_cons_zero] at hk <;> exact absurd hk (by decide)
  refine ev_neg hk ?_
  have hx0 : x ≠ [] := by rintro rfl; exact hk (by decide)
  by_cases h3 : ((cutA 32 [] x).length : Int) > 3
  · rw [decide_eq_true h3]
    refine ev_suc ?_
    simp only [impl_ReadDeed.j0]
    refine ev_pos trivial ?_
    rw [readD_not fun k a b e => ?_]
    · exact Ev.now _
    obtain ⟨_, c⟩ := hcut e hx0
    rw [e] at c
    exfalso
    rcases c with ⟨_, _, c⟩ | ⟨_, _, _, c⟩ | ⟨_, _, _, c⟩ | ⟨_, _, _, _, c⟩ | ⟨_, _, _, _, c⟩ <;> rw [c] at h3 <;> simp at h3
  rw [decide_eq_false h3]
  refine ev_suc ?_
  simp only [impl_ReadDeed.j0, Bool.false_eq_true, if_false, Option.bind_some, List.length_map, rdOf_map, List.length_cons, List.length_nil]
  have hk5 := kindOf_lt ((cutA 32 [] x).getD 0 [])
  have hrd : rd [0, 1, 2, 3, 4] (kindOf ((cutA 32 [] x).getD 0 [])) = kindOf ((cutA 32 [] x).getD 0 []) := by
    generalize kindOf ((cutA 32 [] x).getD 0 []) = n at hk hk5
    obtain ⟨m, rfl⟩ := Int.eq_ofNat_of_zero_le (Int.not_lt.1 hk)
    have : m = 0 ∨ m = 1 ∨ m = 2 ∨ m = 3 ∨ m = 4 := by omega
    rcases this with rfl | rfl | rfl | rfl | rfl <;> rfl
  refine ev_pos (by omega) (ev_pos (by simpa using hk5) ?_)
  rw [hrd]
  obtain ⟨e1, h1⟩ := atoi_ev _ (hw 1)
  obtain ⟨e2, h2⟩ := atoi_ev _ (hw 2)
  have t1 : (1 : Int).toNat = 1 := rfl
  have t2 : (2 : Int).toNat = 2 := rfl
  rw [t1, h1]
  by_cases hl1 : ((cutA 32 [] x).length : Int) > 1
  · refine ev_pos hl1 (ev_pos (by omega) ?_)
    simp only [Option.bind_some]
    refine ev_suc ?_
    simp only [impl_ReadDeed.j1, List.length_map, rdOf_map, t2, h2, Option.bind_some]
    by_cases hl2 : ((cutA 32 [] x).length : Int) > 2
    · refine ev_pos hl2 (ev_pos (by omega) (ev_bind (ideed_ev _ _ _) ?_))
      refine Ev.congr (fun _ => iread_end x _ _ _ (fun k a b e h0 => ?_) hx0) (Ev.now _)
      obtain ⟨⟨⟨r1, r2⟩, r3, r4⟩, c⟩ := hcut e h0
      rw [e] at c
      rcases c with ⟨rfl, _, c⟩ | ⟨_, _, _, c⟩ | ⟨_, _, _, c⟩ | ⟨_, _, _, _, c⟩ | ⟨_, _, _, _, c⟩ <;> rw [c] at hl2 ⊢ <;> simp at hl2
      simp [numA_numT r1 r2, numA_numT r3 r4, kindOf]
    · refine ev_neg hl2 (ev_bind (ideed_ev _ _ _) ?_)
      refine Ev.congr (fun _ => iread_end x _ _ _ (fun k a b e h0 => ?_) hx0) (Ev.now _)
      obtain ⟨⟨⟨r1, r2⟩, r3, r4⟩, c⟩ := hcut e h0
      rw [e] at c
      rcases c with ⟨rfl, _, c⟩ | ⟨rfl, rfl, _, c⟩ | ⟨rfl, rfl, _, c⟩ | ⟨_, _, _, _, c⟩ | ⟨_, _, _, _, c⟩ <;> rw [c] at hl1 hl2 ⊢ <;> simp at hl1 hl2
      · simp [numA_numT r1 r2, kindOf, putW, stepW]
      · simp [numA_numT r1 r2, kindOf, putW, stepW, drawW]
  · refine ev_neg hl1 (ev_suc ?_)
    simp only [impl_ReadDeed.j1, List.length_map]
    refine ev_neg (by omega) (ev_bind (ideed_ev _ _ _) ?_)
    refine Ev.congr (fun _ => iread_end x _ _ _ (fun k a b e h0 => ?_) hx0) (Ev.now _)
    obtain ⟨_, c⟩ := hcut e h0
    rw [e] at c
    rcases c with ⟨rfl, _, c⟩ | ⟨rfl, rfl, _, c⟩ | ⟨rfl, rfl, _, c⟩ | ⟨rfl, rfl, rfl, _, c⟩ | ⟨rfl, rfl, rfl, _, c⟩ <;> rw [c] at hl1 ⊢ <;> simp at hl1
    · simp [kindOf, putW, stepW, drawW, againW]
    · simp [kindOf, putW, stepW, drawW, againW, backW]
def mkD (d : Int × Int × Int) : S92 := ⟨d.1, d.2.1, d.2.2⟩
theorem cut_one (s : Tx) : (Lib.cut s [10] = (s, [], false) ∧ (10 : UInt8) ∉ s) ∨ ∃ l r, s = l ++ 10 :: r ∧ (10 : UInt8) ∉ l ∧ Lib.cut s [10] = (l, r, true) := by
  rcases index_one 10 s with ⟨h1, h2⟩ | ⟨l, r, rfl, h2, h3⟩
  · exact Or.inl ⟨by simp [Lib.cut, h1], h2⟩
  · refine Or.inr ⟨l, r, rfl, h2, ?_⟩
    have : ¬ ((l.length : Int) = -1) := by omega
    simp [Lib.cut, h3, this]
theorem ireadj_loop (x : Tx) (hx : x.length ≤ 1048576) : ∀ (n : Nat) (s pre : Tx) (ds : List (Int × Int × Int)), s.length ≤ n → x = pre ++ s → ds.length ≤ pre.length →
    Ev (fun k => impl_ReadJournal.l0 k (ba x) (ds.map mkD) (pre.length : Int)) ((rjL (cutA 10 [] s) ds pre.length).1.map mkD, ((rjL (cutA 10 [] s) ds pre.length).2 : Int)) := by
  intro n
  induction n with
  | zero =>
    intro s pre ds hs h hd
    obtain rfl := List.eq_nil_of_length_eq_zero (Nat.le_zero.1 hs)
    have e : x.length = pre.length := by rw [h]; simp
    refine ev_suc ?_
    simp only [impl_ReadJournal.l0]
    refine ev_pos (by omega) (ev_pos (by rw [ba_size]; omega) ?_)
    have e2 : (ba x).extract (pre.length : Int).toNat (ba x).size = ba [] := by rw [ba_extract]; congr 1; rw [h]; simp
    simp only [e2, strings_Cut.f]
    refine ev_bind (Ev.now _) ?_
    refine ev_bind (iread_ev [] (by simp)) ?_
    refine ev_neg (by decide) ?_
    simp only [cutA, rjL]
    exact Ev.now _
  | succ n ih =>
    intro s pre ds hs h hd
    have e : x.length = pre.length + s.length := by rw [h]; simp
    refine ev_suc ?_
    simp only [impl_ReadJournal.l0]
    refine ev_pos (by omega) (ev_pos (by rw [ba_size]; omega) ?_)
    have e2 : (ba x).extract (pre.length : Int).toNat (ba x).size = ba s := by rw [ba_extract]; congr 1; rw [h, ba_size]; simp
    have e3 : (⟨#[10]⟩ : ByteArray) = ba [10] := rfl
    simp only [e2, e3, strings_Cut.f]
    simp only [ba_size, ba_list]
    rw [if_pos (by omega)]
    simp only [Option.bind_some]
    rcases cut_one s with ⟨h1, h2⟩ | ⟨l, r, rfl, h2, h3⟩
    · rw [h1]
      refine ev_bind (iread_ev s (by omega)) (ev_neg (by simp) ?_)
      rw [cutA_none s [] h2]
      simp only [rjL]
      exact Ev.now _
    · rw [h3]
      have el : (l ++ 10 :: r).length = l.length + (r.length + 1) := by simp
      refine ev_bind (iread_ev l (by omega)) (ev_pos rfl ?_)
      rw [cutA_hit l [] r h2, List.nil_append, rjL_cut]
      by_cases ho : (readD l).2.2.2 = true
      · refine ev_pos ho (ev_pos (by rw [List.length_map]; omega) ?_)
        rw [if_pos ho]
        have e4 : (⟨l.toArray⟩ : ByteArray).size = l.length := ba_size l
        rw [e4, w64 (n := (l.length : Int) + 1) (by omega) (by omega), w64 (by omega) (by omega)]
        have := ih r (pre ++ l ++ [10]) (ds ++ [((readD l).1, (readD l).2.1, (readD l).2.2.1)]) (by omega) (by rw [h]; simp) (by simp; omega)
        have e5 : (pre ++ l ++ [10]).length = pre.length + l.length + 1 := by simp; omega
        rw [e5] at this
        simp only [List.map_append, List.map_cons, List.map_nil, mkD] at this
        have e6 : (pre.length : Int) + ((l.length : Int) + 1) = ((pre.length + l.length + 1 : Nat) : Int) := by omega
        rw [e6]
        exact this
      · refine ev_neg ho ?_
        rw [if_neg ho]
        exact Ev.now _
theorem ireadj_ev (x : Tx) (hx : x.length ≤ 1048576) : Ev (fun k => impl_ReadJournal.f k (ba x)) ((readJ x).1.map mkD, ((readJ x).2 : Int)) := by
  unfold impl_ReadJournal.f readJ
  exact ireadj_loop x hx _ x [] [] (Nat.le_refl _) rfl (Nat.le_refl _)
theorem placeT_nil {u : List Int} {s : Int} {w : List Int} (h : placeT u s w = []) : ¬ placeB u s w = true := fun hp => by
  unfold placeT at h
  rw [if_pos hp] at h
  simp at h
theorem placeT_len (u : List Int) (s : Int) (w : List Int) : (placeT u s w).length ≤ 40 := by
  by_cases hp : placeB u s w = true
  · unfold placeT
    rw [if_pos hp]
    obtain ⟨a1, a2, a3, a4, a5, a6, a7⟩ := place_data hp
    have h1 := rowT_len u a1
    have h2 := (numT_bytes (n := s) (by omega) (by omega)).2.2
    have h3 := wordT_len w
    simp; omega
  · unfold placeT
    rw [if_neg hp]; simp
theorem copyDesk0_ev (u : List Int) (s : Int) (w : List Int) (hu : (u.length : Int) ≤ 1000000000000) (hw : (w.length : Int) ≤ 1000000000000) : Ev (fun k => impl_copyDesk.f k u s w []) (u, s, w, []) := by
  unfold impl_copyDesk.f
  rw [copyPlace_eq u s w hu hw]
  simp only [Option.bind_some]
  refine ev_suc ?_
  simp only [impl_copyDesk.l0]
  exact ev_neg (by simp) (Ev.now _)
theorem readJ_nil : readJ [] = ([], 0) := by simp [readJ, cutA, rjL]
theorem opened_ev (u : List Int) (s : Int) (w : List Int) (hu : (u.length : Int) ≤ 1000000000000) (hw : (w.length : Int) ≤ 1000000000000) (hn : placeT u s w ≠ []) :
    Ev (fun k => impl_opened.f k (ba (placeT u s w)) (ba []) 0) (u, s, w, []) := by
  have hl := placeT_len u s w
  unfold impl_opened.f
  refine ev_bind (ireadp_ev _ (by omega)) ?_
  rw [readP_of rfl hn]
  refine ev_bind (ireadj_ev [] (by simp)) ?_
  rw [readJ_nil]
  have hD : Ev (fun k => impl_doAll.f k u s w [] []) (u, s, w, [], 0) := by
    unfold impl_doAll.f
    refine ev_bind (copyDesk0_ev u s w hu hw) (ev_suc ?_)
    simp only [impl_doAll.l0]
    exact ev_neg (by simp) (Ev.now _)
  exact ev_bind hD (Ev.now _)
end FnStoreNew_parts
open FnStoreNew_parts
theorem FnStoreNew : laws_FnStoreNew.Pure := by
  intro l _ hl2 hw
  refine Ev.rounds ?_
  simp only [laws_FnStoreNew.f]
  by_cases h : (l.length : Int) > 1048576
  · exact ev_pos h (Ev.now _)
  refine ev_neg h ?_
  obtain ⟨b, hb, hB⟩ := open_ev hw
  obtain ⟨u, s, w, p', hd, h1, h2, h3, h4, _⟩ := drawPlace_ev hB 0 4 ⟨by omega, by omega⟩ (by omega) (by omega)
  simp only [spec_DrawStoreNew.f, hb]
  refine ev_bind (ev_bind (Ev.now _) (ev_bind hd (Ev.now _))) ?_
  have e1 : Ev (fun k => spec_StoreNew.f k u s w) (ba (placeT u s w), ba [], 0, placeB u s w) := by
    unfold spec_StoreNew.f
    refine ev_bind (specPlace_ev u s w (by omega) (by omega)) ?_
    by_cases hp : placeB u s w = true
    · exact ev_pos hp (ev_bind (splacet_ev u s w (by omega) (by omega)) (ev_eq (Ev.now _) (by rw [hp]; rfl)))
    · refine ev_neg hp (ev_eq (Ev.now _) ?_)
      rw [placeT, if_neg hp, Bool.eq_false_iff.2 hp]
      rfl
  have e2 : Ev (fun k => impl_StoreNew.f k u s w) (ba (placeT u s w), ba [], 0, placeB u s w) := by
    unfold impl_StoreNew.f
    refine ev_bind (implPlace_ev u s w (by omega) (by omega)) ?_
    by_cases hp : placeB u s w = true
    · exact ev_pos hp (ev_bind (iplacet_ev u s w (by omega) (by omega)) (ev_eq (Ev.now _) (by rw [hp]; rfl)))
    · refine ev_neg hp (ev_eq (Ev.now _) ?_)
      rw [placeT, if_neg hp, Bool.eq_false_iff.2 hp]
      rfl
  have hl := placeT_len u s w
  refine ev_bind e2 (ev_bind e1 (ev_neg (by simp) (ev_suc ?_)))
  simp only [laws_FnStoreNew.j0]
  refine ev_neg (by simp) ?_
  by_cases hp : placeB u s w = true
  · have hn : placeT u s w ≠ [] := fun hn => placeT_nil hn hp
    have hs : storeB (placeT u s w) [] 0 = true := by
      rw [storeB, readP_of rfl hn]; simp
    have hst := istore_ev (placeT u s w) [] 0 (by omega)
    have hop : Ev (fun k => impl_StoreOpen.f k (ba (placeT u s w)) (ba []) 0) (u, s, w, [], true) := by
      unfold impl_StoreOpen.f
      exact ev_bind hst (ev_pos hs (ev_bind (opened_ev u s w (by omega) (by omega) hn) (Ev.now _)))
    have hnw := implNew_ev u s w (by omega) (by omega)
    rw [if_pos hp] at hnw
    obtain ⟨v, hv, hv'⟩ := sameDesk_ev u s w [] u s w [] (by omega) (by omega) (by simp) (by simp)
    obtain rfl := hv'.2 ⟨⟨rfl, rfl, rfl⟩, rfl⟩
    exact ev_pos hp (ev_bind hop (ev_bind hnw (ev_bind hst (ev_pos hs (ev_pos rfl (ev_pos rfl (ev_bind hv (Ev.now _))))))))
  · refine ev_neg hp (ev_pos ?_ (ev_bind alive_ev (Ev.now _)))
    rw [placeT, if_neg hp]
    simp [toList_ba]
end Go.Proofs.YtfacponjomafcaaGreatDoor.Pure
