/- For the law FnExactStoreMend: every store is mended by the program as by the reference. The conditions: the bytes or numbers that come in are of their kinds, as the statement says. -/
import Derived.Test.YtfibbdefcppfcaaGreatDoorMFnExactStoreMendx16
import Derived.Test.YtfibbdefcppfcaaGreatDoorBase
import Derived.Test.YtfibbdefcppfcaaGreatDoorMath
import Derived.Test.YtfibbdefcppfcaaGreatDoorPlace
import Derived.Test.YtfibbdefcppfcaaGreatDoorDeed
import Derived.Test.YtfibbdefcppfcaaGreatDoorText
namespace Go.Proofs.YtfibbdefcppfcaaGreatDoor.Pure
open Go.RowKit Go.Proofs.YtfibbdefcppfcaaGreatDoor.MFnExactStoreMend Go.Proofs.YtfibbdefcppfcaaGreatDoorW.PrintWords Go.Proofs.YtfibbdefcppfcaaGreatDoorW.PrintLast Go.Proofs.YtfibbdefcppfcaaGreatDoor.Base
namespace FnExactStoreMend_parts
theorem colours_ev (n : Int) : impl_coloursOk.f n = some (decide (1 ≤ n) && decide (n ≤ 3)) := by
  unfold impl_coloursOk.f
  by_cases h : n ≥ 1
  · rw [if_pos h]; simp; omega
  · rw [if_neg h]; simp; omega
theorem urnB_no {u : List Int} {x : Int} (hx : x ∈ u) (h : ¬ (0 ≤ x ∧ x ≤ 40)) : urnB u = false := by
  cases e : urnB u with
  | false => rfl
  | true => exact absurd (((urnB_iff u).1 e).1 x hx) h
theorem implUrn_loop (l : List Int) (hl : (l.length : Int) ≤ 1000000000000) : ∀ (suf pre : List Int), l = pre ++ suf → (∀ x ∈ pre, 0 ≤ x ∧ x ≤ 40) →
    Ev (fun k => impl_UrnOk.l0 k l l (l.length : Int) (pre.length : Int)) (urnB l) := by
  intro suf
  induction suf with
  | nil =>
    intro pre h hr
    have e : l.length = pre.length := by rw [h]; simp
    refine ev_suc ?_
    simp (disch := omega) only [impl_UrnOk.l0, if_neg, colours_ev]
    refine ev_now ?_
    rw [List.append_nil] at h
    subst h
    rw [Bool.eq_iff_iff, urnB_iff]
    simp only [Bool.and_eq_true, decide_eq_true_eq]
    exact ⟨fun h => ⟨hr, by omega, by omega⟩, fun h => ⟨by omega, by omega⟩⟩
  | cons x t ih =>
    intro pre h hr
    have e : l.length = pre.length + (t.length + 1) := by rw [h]; simp
    have hx : rd l (pre.length : Int) = x := by rw [h]; exact rd_at _ _ _
    have hxl : x ∈ l := by rw [h]; simp
    refine ev_suc ?_
    simp (disch := omega) only [impl_UrnOk.l0, hx, if_pos]
    by_cases h1 : x < 0
    · exact ev_pos h1 (ev_now (urnB_no hxl (by omega)).symm)
    · refine ev_neg h1 ?_
      by_cases h2 : x > 40
      · exact ev_pos h2 (ev_now (urnB_no hxl (by omega)).symm)
      · refine ev_neg h2 ?_
        rw [w64 (by omega) (by omega), len_at pre x]
        refine ih (pre ++ [x]) (by rw [h]; simp) ?_
        intro y hy
        rcases List.mem_append.1 hy with hy | hy
        · exact hr y hy
        · rw [List.mem_singleton] at hy; subst hy; omega
theorem implUrnOk_ev (l : List Int) (hl : (l.length : Int) ≤ 1000000000000) : Ev (fun k => impl_UrnOk.f k l) (urnB l) := by
  simp only [impl_UrnOk.f]
  exact implUrn_loop l hl l [] rfl (by simp)
theorem implStart_loop (l : List Int) (hl : (l.length : Int) ≤ 1000000000000) : ∀ (suf pre : List Int), l = pre ++ suf → (∀ x ∈ pre, x ≤ 10) →
    Ev (fun k => impl_StartOk.l0 k l l (l.length : Int) (pre.length : Int)) (startB l) := by
  intro suf
  induction suf with
  | nil =>
    intro pre h hr
    have e : l.length = pre.length := by rw [h]; simp
    refine ev_suc ?_
    simp (disch := omega) only [impl_StartOk.l0, if_neg]
    refine ev_bind (implUrnOk_ev l hl) (ev_now ?_)
    rw [List.append_nil] at h
    subst h
    have : (l.all fun x => decide (x ≤ 10)) = true := by simpa using hr
    simp [startB, this]
  | cons x t ih =>
    intro pre h hr
    have e : l.length = pre.length + (t.length + 1) := by rw [h]; simp
    have hx : rd l (pre.length : Int) = x := by rw [h]; exact rd_at _ _ _
    have hxl : x ∈ l := by rw [h]; simp
    refine ev_suc ?_
    simp (disch := omega) only [impl_StartOk.l0, hx, if_pos]
    by_cases h1 : x > 10
    · refine ev_pos h1 (ev_now ?_)
      cases e : startB l with
      | false => rfl
      | true => have := ((startB_iff l).1 e).1 x hxl; omega
    · refine ev_neg h1 ?_
      rw [w64 (by omega) (by omega), len_at pre x]
      refine ih (pre ++ [x]) (by rw [h]; simp) ?_
      intro y hy
      rcases List.mem_append.1 hy with hy | hy
      · exact hr y hy
      · rw [List.mem_singleton] at hy; subst hy; omega
theorem implStartOk_ev (l : List Int) (hl : (l.length : Int) ≤ 1000000000000) : Ev (fun k => impl_StartOk.f k l) (startB l) := by
  simp only [impl_StartOk.f]
  exact implStart_loop l hl l [] rfl (by simp)
theorem wordB_no {n : Int} {w : List Int} {x : Int} (hx : x ∈ w) (h : ¬ (0 ≤ x ∧ x < n)) : wordB n w = false := by
  cases e : wordB n w with
  | false => rfl
  | true => exact absurd (((wordB_iff n w).1 e).1 x hx) h
theorem implWord_loop (n : Int) (l : List Int) (hl : (l.length : Int) ≤ 1000000000000) : ∀ (suf pre : List Int), l = pre ++ suf → (∀ x ∈ pre, 0 ≤ x ∧ x < n) →
    Ev (fun k => impl_WordOk.l0 k n l l (l.length : Int) (pre.length : Int)) (wordB n l) := by
  intro suf
  induction suf with
  | nil =>
    intro pre h hr
    have e : l.length = pre.length := by rw [h]; simp
    refine ev_suc ?_
    simp (disch := omega) only [impl_WordOk.l0, if_neg, colours_ev, Option.bind_some]
    rw [List.append_nil] at h
    subst h
    by_cases hn : 1 ≤ n ∧ n ≤ 3
    · refine ev_pos (by simp [hn]) (ev_now ?_)
      rw [Bool.eq_iff_iff, wordB_iff]
      simp only [decide_eq_true_eq]
      exact ⟨fun h => ⟨hr, by omega, hn⟩, fun h => by omega⟩
    · refine ev_neg (by simp only [Bool.and_eq_true, decide_eq_true_eq]; exact hn) (ev_now ?_)
      cases e : wordB n l with
      | false => rfl
      | true => exact absurd ((wordB_iff n l).1 e).2.2 hn
  | cons x t ih =>
    intro pre h hr
    have e : l.length = pre.length + (t.length + 1) := by rw [h]; simp
    have hx : rd l (pre.length : Int) = x := by rw [h]; exact rd_at _ _ _
    have hxl : x ∈ l := by rw [h]; simp
    refine ev_suc ?_
    simp (disch := omega) only [impl_WordOk.l0, hx, if_pos]
    by_cases h1 : x < 0
    · exact ev_pos h1 (ev_now (wordB_no hxl (by omega)).symm)
    · refine ev_neg h1 ?_
      by_cases h2 : x ≥ n
      · exact ev_pos h2 (ev_now (wordB_no hxl (by omega)).symm)
      · refine ev_neg h2 ?_
        rw [w64 (by omega) (by omega), len_at pre x]
        refine ih (pre ++ [x]) (by rw [h]; simp) ?_
        intro y hy
        rcases List.mem_append.1 hy with hy | hy
        · exact hr y hy
        · rw [List.mem_singleton] at hy; subst hy; omega
theorem implWordOk_ev (n : Int) (l : List Int) (hl : (l.length : Int) ≤ 1000000000000) : Ev (fun k => impl_WordOk.f k n l) (wordB n l) := by
  simp only [impl_WordOk.f]
  exact implWord_loop n l hl l [] rfl (by simp)
theorem clone_eq (l : List Int) (hl : (l.length : Int) ≤ 1000000000000) : slices_Clone_int_int.f l = some l := by
  unfold slices_Clone_int_int.f
  rw [if_pos (by omega)]
theorem added_loop (b : List Int) (hb : (b.length : Int) ≤ 1000000000) (hB : Within 1000000000 b) : ∀ (bs q p zs : List Int), b = q ++ bs → p.length = q.length → bs.length ≤ zs.length → Within 1000000000 zs →
    Ev (fun k => impl_added.l0 k (p ++ zs) b (b.length : Int) (q.length : Int)) (p ++ zipAdd zs bs) := by
  intro bs
  induction bs with
  | nil =>
    intro q p zs h _ _ _
    have e : b.length = q.length := by rw [h]; simp
    refine ev_suc ?_
    simp (disch := omega) only [impl_added.l0, if_neg]
    exact ev_now (by cases zs <;> simp [zipAdd])
  | cons y t ih =>
    intro q p zs h hpq hle hA
    cases zs with
    | nil => simp at hle
    | cons x zs =>
      have e : b.length = q.length + (t.length + 1) := by rw [h]; simp
      have hy : rd b (q.length : Int) = y := by rw [h]; exact rd_at _ _ _
      have hx : rd (p ++ x :: zs) (q.length : Int) = x := by rw [← hpq]; exact rd_at _ _ _
      have hl : ((p ++ x :: zs).length : Int) = (q.length : Int) + (zs.length + 1) := by simp; omega
      have by_ := hB y (by rw [h]; simp)
      have bx_ := hA x (by simp)
      refine ev_suc ?_
      simp (disch := omega) only [impl_added.l0, hl, hx, hy, if_pos, w64, Int.toNat_natCast]
      have hset : (p ++ x :: zs).set q.length (x + y) = p ++ [x + y] ++ zs := by rw [← hpq, set_at]; simp
      rw [hset, len_at q y]
      have := ih (q ++ [y]) (p ++ [x + y]) zs (by rw [h]; simp) (by simp [hpq]) (by simpa using hle) (fun z hz => hA z (by simp [hz]))
      simpa [zipAdd] using this
theorem added_ev (u : List Int) (s c : Int) (hu : u.length ≤ 3) (hs : -3 ≤ s ∧ s ≤ 3) (hc : 0 ≤ c ∧ c < (u.length : Int)) (hw : Within 1000000 u) :
    Ev (fun k => impl_added.f k u (rd_L1 (ruleM u.length s) c)) (bump s u c) := by
  have er : rd_L1 (ruleM u.length s) c = (List.replicate u.length (0 : Int)).set c.toNat s := ruleM_row hc.1 hc.2
  have hlen : ((List.replicate u.length (0 : Int)).set c.toNat s).length = u.length := by simp
  simp only [impl_added.f, clone_eq u (by omega), er, Option.bind_some]
  have hW := within_row (n := u.length) (c := c) hs
  have := added_loop ((List.replicate u.length (0 : Int)).set c.toNat s) (by omega) (fun x hx => by have := hW x hx; omega) ((List.replicate u.length (0 : Int)).set c.toNat s) [] [] u (by simp) rfl (by omega) (fun x hx => by have := hw x hx; omega)
  refine ev_eq this ?_
  rw [List.nil_append]
  exact zipAdd_row hu hc.1 hc.2
theorem after_loop (n : Nat) (s : Int) (hn : n ≤ 3) (hs : -3 ≤ s ∧ s ≤ 3) (w : List Int) (hw : w.length ≤ 100) (hwn : ∀ c ∈ w, 0 ≤ c ∧ c < (n : Int)) : ∀ (suf pre u : List Int) (b : Int), w = pre ++ suf → u.length = n → Within b u → 0 ≤ b → b + 3 * suf.length ≤ 1000000 →
    Ev (fun k => impl_after.l0 k (ruleM n s) u w (w.length : Int) (pre.length : Int)) (afterM s u suf) := by
  intro suf
  induction suf with
  | nil =>
    intro pre u b h _ _ _ _
    have e : w.length = pre.length := by rw [h]; simp
    refine ev_suc ?_
    simp (disch := omega) only [impl_after.l0, if_neg]
    exact ev_now rfl
  | cons x t ih =>
    intro pre u b h hu hb hb0 hb1
    have e : w.length = pre.length + (t.length + 1) := by rw [h]; simp
    have hx : rd w (pre.length : Int) = x := by rw [h]; exact rd_at _ _ _
    have hxn := hwn x (by rw [h]; simp)
    have hrl := ruleM_len n s
    simp only [List.length_cons] at hb1
    refine ev_suc ?_
    simp (disch := omega) only [impl_after.l0, hx, if_pos, hrl]
    subst hu
    refine ev_bind (added_ev u s x hn hs hxn (fun y hy => by have := hb y hy; omega)) ?_
    rw [w64 (by omega) (by omega), len_at pre x]
    rw [afterM_cons]
    have := ih (pre ++ [x]) (bump s u x) (b + 3) (by rw [h]; simp) (bump_len _ _ _) (within_bump hb hs x hxn) (by omega) (by omega)
    exact this
theorem after_ev (u : List Int) (s : Int) (w : List Int) (hu : u.length ≤ 3) (hs : -3 ≤ s ∧ s ≤ 3) (hw : w.length ≤ 100) (hwn : ∀ c ∈ w, 0 ≤ c ∧ c < (u.length : Int)) (hb : Within 1000 u) :
    Ev (fun k => impl_after.f k u (ruleM u.length s) w) (afterM s u w) := by
  simp only [impl_after.f, clone_eq u (by omega), Option.bind_some]
  exact after_loop u.length s hu hs w hw hwn w [] u 1000 rfl rfl hb (by omega) (by omega)
theorem ruleWays_loop (u : List Int) (s : Int) (w : List Int) (hu : u.length ≤ 3) (hs : -3 ≤ s ∧ s ≤ 3) (hw : w.length ≤ 6) (hwn : ∀ c ∈ w, 0 ≤ c ∧ c < (u.length : Int)) (hb : Within 10 u) : ∀ (suf pre : List Int) (m : Int), w = pre ++ suf → 0 ≤ m → m ≤ pw pre.length →
    Ev (fun k => impl_ruleWays.l0 k u (ruleM u.length s) w m w (w.length : Int) (pre.length : Int)) (m * waysM s (afterM s u pre) suf) := by
  intro suf
  induction suf with
  | nil =>
    intro pre m h h0 h1
    have e : w.length = pre.length := by rw [h]; simp
    refine ev_suc ?_
    simp (disch := omega) only [impl_ruleWays.l0, if_neg]
    exact ev_now (by simp [waysM])
  | cons x t ih =>
    intro pre m h h0 h1
    have e : w.length = pre.length + (t.length + 1) := by rw [h]; simp
    have hx : rd w (pre.length : Int) = x := by rw [h]; exact rd_at _ _ _
    have hxn := hwn x (by rw [h]; simp)
    have hpn : ∀ c ∈ pre, 0 ≤ c ∧ c < (u.length : Int) := fun c hc => hwn c (by rw [h]; simp [hc])
    have htake : w.take ((pre.length : Int)).toNat = pre := by rw [h]; simp
    have hal := afterM_len s pre u
    have hwi := within_after hs pre 10 u hb hpn
    have hv := hwi _ (rd_mem (b := afterM s u pre) (i := x) hxn.1 (by omega))
    have hmx : 0 ≤ mx 0 (rd (afterM s u pre) x) ∧ mx 0 (rd (afterM s u pre) x) ≤ 40 := by unfold mx; split <;> omega
    have hle := mul_le40 (n := pre.length) h0 h1 hmx.1 hmx.2
    have hnn := Int.mul_nonneg h0 hmx.1
    have hpw := pw_le (n := pre.length + 1) (by omega)
    refine ev_suc ?_
    simp (disch := omega) only [impl_ruleWays.l0, hx, if_pos, htake]
    refine ev_bind (after_ev u s pre hu hs (by omega) hpn (fun y hy => by have := hb y hy; omega)) ?_
    simp (disch := omega) only [hal, if_pos, w64]
    simp only [waysM, ← Int.mul_assoc]
    by_cases hz : m * mx 0 (rd (afterM s u pre) x) = 0
    · exact ev_pos hz (ev_now (by rw [hz]; simp))
    · refine ev_neg hz ?_
      rw [len_at pre x]
      have := ih (pre ++ [x]) (m * mx 0 (rd (afterM s u pre) x)) (by rw [h]; simp) hnn (by simpa using hle)
      rw [afterM_snoc] at this
      exact this
theorem ruleWays_ev (u : List Int) (s : Int) (w : List Int) (hu : u.length ≤ 3) (hs : -3 ≤ s ∧ s ≤ 3) (hw : w.length ≤ 6) (hwn : ∀ c ∈ w, 0 ≤ c ∧ c < (u.length : Int)) (hb : Within 10 u) :
    Ev (fun k => impl_ruleWays.f k u (ruleM u.length s) w) (waysM s u w) := by
  simp only [impl_ruleWays.f]
  exact ev_eq (ruleWays_loop u s w hu hs hw hwn hb w [] 1 rfl (by omega) (by decide)) (by simp [afterM])
theorem iSameRule_all : ∀ n : Fin 4, ∀ s : Fin 5, n.val = 0 ∨ impl_SameRule.f 20 (n.val : Int) ((s.val : Int) - 1) = some (ruleM n.val ((s.val : Int) - 1)) := by decide +kernel
theorem iSameRule_ev (n : Nat) (s : Int) (h1 : 1 ≤ n) (h3 : n ≤ 3) (hs : -1 ≤ s ∧ s ≤ 3) : Ev (fun k => impl_SameRule.f k (n : Int) s) (ruleM n s) := by
  have h := (iSameRule_all ⟨n, by omega⟩ ⟨(s + 1).toNat, by omega⟩).resolve_left (by simp only []; omega)
  have e : (((s + 1).toNat : Nat) : Int) - 1 = s := by omega
  simp only [e] at h
  exact Ev.of (fun k => impl_SameRule.mono _ _ k) h
theorem implPlace_ev (u : List Int) (s : Int) (w : List Int) (hu : (u.length : Int) ≤ 1000000000000) (hw : (w.length : Int) ≤ 1000000000000) : Ev (fun k => impl_PlaceOk.f k u s w) (placeB u s w) := by
  have hj : ∀ r, r = placeB u s w → r = false → Ev (fun k => impl_PlaceOk.j0 k true u s w) r := by
    rintro r _ rfl
    refine ev_suc ?_
    simp only [impl_PlaceOk.j0, if_true]
    exact Ev.now _
  simp only [impl_PlaceOk.f]
  refine ev_bind (implStartOk_ev u hu) ?_
  by_cases hS : startB u = true
  · refine ev_pos hS ?_
    by_cases h1 : s < -1
    · refine ev_pos h1 (hj _ rfl ?_)
      unfold placeB; simp; omega
    · refine ev_neg h1 ?_
      by_cases h2 : s > 3
      · refine ev_pos h2 (hj _ rfl ?_)
        unfold placeB; simp; omega
      · refine ev_neg h2 (ev_bind (implWordOk_ev (u.length : Int) w hw) ?_)
        have hu3 := (startB_iff u).1 hS
        by_cases hW : wordB (u.length : Int) w = true
        · have hw6 := (wordB_iff _ _).1 hW
          refine ev_suc ?_
          simp only [impl_PlaceOk.j0, hW, Bool.not_true]
          refine ev_neg (by simp) (ev_bind (iSameRule_ev u.length s hu3.2.1 hu3.2.2 ⟨by omega, by omega⟩) (ev_bind (ruleWays_ev u s w hu3.2.2 ⟨by omega, by omega⟩ hw6.2.1 hw6.1 (fun x hx => by have := hu3.1 x hx; omega)) (ev_now ?_)))
          have e1 : decide (-1 ≤ s) = true := by simp; omega
          have e2 : decide (s ≤ 3) = true := by simp; omega
          simp [placeB, hS, hW, e1, e2]
        · have hf : wordB (u.length : Int) w = false := by simpa using hW
          rw [hf]
          exact hj _ rfl (by simp [placeB, hf])
  · refine ev_neg hS (hj _ rfl ?_)
    have hf : startB u = false := by simpa using hS
    simp [placeB, hf]
theorem itoa_ev {n : Int} (h0 : -99 ≤ n) (h1 : n ≤ 99) : strconv_Itoa.f n = some (ba (numT n)) := by
  unfold strconv_Itoa.f
  rw [if_pos ⟨by omega, by omega⟩, itoa_small h0 h1]
  rfl
theorem irow_loop (l : List Int) (hl : l.length ≤ 3) (h1 : 1 ≤ l.length) (hv : ∀ x ∈ l, 0 ≤ x ∧ x ≤ 10) : ∀ (suf pre : List Int), l = pre ++ suf →
    Ev (fun k => impl_rowText.l0 k ((pre.map numT).map ba) l (l.length : Int) (pre.length : Int)) (ba (rowT l)) := by
  intro suf
  induction suf with
  | nil =>
    intro pre h
    rw [List.append_nil] at h
    subst h
    refine ev_suc ?_
    simp only [impl_rowText.l0]
    refine ev_neg (by omega) ?_
    match l, h1 with
    | n :: t, _ =>
      have hj : Lib.join ((((n :: t).map numT).map ba).map (·.data.toList)) (⟨#[44]⟩ : ByteArray).data.toList = rowT (n :: t) := by
        rw [List.map_map, show ((fun x : ByteArray => x.data.toList) ∘ ba) = id from rfl, List.map_id]
        exact join_rowT t n
      have hr := rowT_len (n :: t) hv
      unfold strings_Join.f
      rw [hj, if_pos ⟨by simp at hl ⊢; omega, by omega⟩]
      exact ev_bind (Ev.now _) (Ev.now _)
  | cons x t ih =>
    intro pre h
    have e : l.length = pre.length + (t.length + 1) := by rw [h]; simp
    have hx : rd l (pre.length : Int) = x := by rw [h]; exact rd_at _ _ _
    have hxv := hv x (by rw [h]; simp)
    refine ev_suc ?_
    simp only [impl_rowText.l0, hx, itoa_ev (n := x) (by omega) (by omega), Option.bind_some]
    refine ev_pos (by omega) (ev_pos (by omega) (ev_pos (by omega) (ev_pos (by simp; omega) ?_)))
    rw [w64 (by omega) (by omega), len_at pre x]
    have := ih (pre ++ [x]) (by rw [h]; simp)
    simpa using this
theorem irow_ev (l : List Int) (h1 : 1 ≤ l.length) (hl : l.length ≤ 3) (hv : ∀ x ∈ l, 0 ≤ x ∧ x ≤ 10) : Ev (fun k => impl_rowText.f k l) (ba (rowT l)) := by
  unfold impl_rowText.f
  exact irow_loop l hl h1 hv l [] rfl
theorem strNums_ba (l : List Int) : strOfNums l = ba (l.map fun n => UInt8.ofNat n.toNat) := by
  unfold strOfNums ba
  first | rfl | simp
theorem iplace_end (u : List Int) (s : Int) (w : List Int) (y : List Int) (x : Tx) (h : placeB u s w = true) (hy : strOfNums y = ba x) (hx : x.length ≤ 7) :
    Ev (fun k => (impl_rowText.f k u).bind fun t1 => if t1.size + 1 ≤ 9223372036854775807 then (strconv_Itoa.f s).bind fun t2 => if (t1 ++ (⟨#[32]⟩ : ByteArray)).size + t2.size ≤ 9223372036854775807 then if ((t1 ++ (⟨#[32]⟩ : ByteArray)) ++ t2).size + 1 ≤ 9223372036854775807 then if (((t1 ++ (⟨#[32]⟩ : ByteArray)) ++ t2) ++ (⟨#[32]⟩ : ByteArray)).size + (strOfNums y).size ≤ 9223372036854775807 then some ((((t1 ++ (⟨#[32]⟩ : ByteArray)) ++ t2) ++ (⟨#[32]⟩ : ByteArray)) ++ strOfNums y) else none else none else none else none)
      (ba (rowT u ++ 32 :: (numT s ++ 32 :: x))) := by
  obtain ⟨a1, a2, a3, a4, a5, _, _⟩ := place_data h
  have hr := rowT_len u a1
  obtain ⟨_, n1, n2⟩ := numT_bytes (n := s) (by omega) (by omega)
  have e32 : (⟨#[32]⟩ : ByteArray) = ba [32] := rfl
  rw [hy]
  refine ev_bind (irow_ev u a2 a3 a1) (ev_pos (by rw [ba_size]; omega) ?_)
  rw [itoa_ev (n := s) (by omega) (by omega)]
  simp only [Option.bind_some, e32, ba_append, ba_size]
  refine ev_pos (by simp; omega) (ev_pos (by simp; omega) (ev_pos (by simp; omega) (ev_eq (Ev.now _) ?_)))
  simp
theorem iplacew_loop (u : List Int) (s : Int) (w : List Int) (h : placeB u s w = true) : ∀ (suf pre : List Int), w = pre ++ suf →
    Ev (fun k => impl_PlaceText.l0 k (pre.map fun c => (97 + c) % 256) w (w.length : Int) (pre.length : Int) u s w) (ba (rowT u ++ 32 :: (numT s ++ 32 :: (wordT w)))) := by
  obtain ⟨_, _, _, _, _, hw, hl⟩ := place_data h
  intro suf
  induction suf with
  | nil =>
    intro pre e
    rw [List.append_nil] at e
    subst e
    refine ev_suc ?_
    simp only [impl_PlaceText.l0, List.length_map]
    refine ev_neg (by omega) ?_
    by_cases h0 : (w.length : Int) = 0
    · have e0 : w = [] := List.eq_nil_of_length_eq_zero (by omega)
      refine ev_pos h0 (ev_pos (by omega) ?_)
      subst e0
      simp only [Option.bind_some, List.map_nil, List.nil_append]
      exact iplace_end u s [] [46] [46] h rfl (by simp)
    · refine ev_neg h0 ?_
      have hne : w ≠ [] := by rintro rfl; exact h0 rfl
      refine iplace_end u s w _ (wordT w) h ?_ (by have := wordT_len w; omega)
      rw [strNums_ba, wordT, if_neg hne, ba_inj, List.map_map]
      refine List.map_congr_left fun c hc => ?_
      have := hw c hc
      show UInt8.ofNat (((97 + c) % 256).toNat) = letT c
      unfold letT
      congr 1
      omega
  | cons c t ih =>
    intro pre e
    have el : w.length = pre.length + (t.length + 1) := by rw [e]; simp
    have hc : rd w (pre.length : Int) = c := by rw [e]; exact rd_at _ _ _
    have hcv := hw c (by rw [e]; simp)
    refine ev_suc ?_
    simp only [impl_PlaceText.l0, hc, List.length_map]
    refine ev_pos (by omega) (ev_pos (by omega) (ev_pos (by omega) (ev_pos (by omega) ?_)))
    rw [w64 (n := 97 + c) (by omega) (by omega), w64 (by omega) (by omega), len_at pre c]
    have := ih (pre ++ [c]) (by rw [e]; simp)
    simpa using this
theorem iplacet_ev (u : List Int) (s : Int) (w : List Int) (hu : (u.length : Int) ≤ 1000000000000) (hw : (w.length : Int) ≤ 1000000000000) : Ev (fun k => impl_PlaceText.f k u s w) (ba (placeT u s w)) := by
  unfold impl_PlaceText.f placeT
  refine ev_bind (implPlace_ev u s w hu hw) ?_
  by_cases h : placeB u s w = true
  case neg => rw [if_neg h]; exact ev_neg h (Ev.now _)
  rw [if_pos h]
  exact ev_pos h (iplacew_loop u s w h w [] rfl)
/-- The numbers that the library reads. -/
def numA (w : Tx) : Int := match Lib.atoiAll w with | .ok v => v | Lib.NumEnd.syntax => 0 | .range => Lib.atoiSat w
theorem atoi_ev (w : Tx) (h : w.length ≤ 1048576) : ∃ e, strconv_Atoi.f (ba w) = some (numA w, e) := by
  unfold strconv_Atoi.f numA
  rw [if_pos (by rw [ba_size]; omega)]
  simp only [ba_list]
  cases Lib.atoiAll w <;> exact ⟨_, rfl⟩
theorem numA_numT {n : Int} (h0 : -99 ≤ n) (h1 : n ≤ 99) : numA (numT n) = n := by unfold numA; rw [atoi_numT h0 h1]
theorem isplit_ev (c : UInt8) (l : Tx) (hl : l.length ≤ 4000000000) : strings_Split.f (ba l) (ba [c]) = some ((cutA c [] l).map ba) := by
  unfold strings_Split.f
  rw [if_pos ⟨by rw [ba_size]; omega, by simp⟩, split_cut]
theorem rdOf_map (l : List Tx) (i : Int) : rdOf ByteArray.empty (l.map ba) i = ba (l.getD i.toNat []) := by
  unfold rdOf
  rw [List.getD_eq_getElem?_getD, List.getD_eq_getElem?_getD, List.getElem?_map]
  cases l[i.toNat]? <;> rfl
/-- What is told of a place of which the text is to be this. -/
noncomputable def chkP (x : Tx) (u : List Int) (s : Int) (w : List Int) : List Int × Int × List Int × Bool := if x ≠ [] ∧ placeT u s w = x then (u, s, w, true) else ([], 0, [], false)
theorem pieces_small (c : UInt8) : ∀ (l acc p : Tx), p ∈ cutA c acc l → p.length ≤ acc.length + l.length := by
  intro l
  induction l with
  | nil => intro acc p hp; simp [cutA] at hp; subst hp; simp
  | cons b l ih =>
    intro acc p hp
    unfold cutA at hp
    split at hp
    · rcases List.mem_cons.1 hp with rfl | hp
      · simp
      · have := ih [] p hp; simp at this ⊢; omega
    · have := ih _ p hp; simp at this ⊢; omega
theorem ichk_ev (x : Tx) (hx : x ≠ []) (u : List Int) (s : Int) (w : List Int) (hu : (u.length : Int) ≤ 1000000000000) (hw : (w.length : Int) ≤ 1000000000000) :
    Ev (fun k => (impl_PlaceText.f k u s w).bind fun t => if t.toList = (ba x).toList then some (u, s, w, true) else some (([] : List Int), (0 : Int), ([] : List Int), false)) (chkP x u s w) := by
  refine ev_bind (iplacet_ev u s w hu hw) ?_
  simp only [toList_ba]
  by_cases h2 : placeT u s w = x
  · have hc : chkP x u s w = (u, s, w, true) := if_pos ⟨hx, h2⟩
    rw [hc]; exact ev_pos h2 (Ev.now _)
  · have hc : chkP x u s w = ([], 0, [], false) := if_neg (fun e => h2 e.2)
    rw [hc]; exact ev_neg h2 (Ev.now _)
theorem iword_loop (x : Tx) (hx : x ≠ []) (a b t : Tx) (u : List Int) (s : Int) (hu : (u.length : Int) ≤ 1000000000000) (ht : t.length ≤ 1048576) : ∀ (suf pre : Tx), t = pre ++ suf →
    Ev (fun k => impl_ReadPlace.l1 k (ba x) ([a, b, t].map ba) (t.length : Int) (pre.length : Int) u s (pre.map fun c => (c.toNat : Int) - 97)) (chkP x u s (t.map fun c => (c.toNat : Int) - 97)) := by
  have h2 : rdOf ByteArray.empty ([a, b, t].map ba) 2 = ba t := rfl
  intro suf
  induction suf with
  | nil =>
    intro pre h
    rw [List.append_nil] at h
    subst h
    refine ev_suc ?_
    simp only [impl_ReadPlace.l1]
    exact ev_neg (by omega) (ichk_ev x hx u s _ hu (by rw [List.length_map]; omega))
  | cons c r ih =>
    intro pre h
    have e : t.length = pre.length + (r.length + 1) := by rw [h]; simp
    have hb : bt (ba t) (pre.length : Int) = (c.toNat : Int) := by rw [h]; exact bt_ba _ _ _
    have hc : c.toNat < 256 := c.toNat_lt
    refine ev_suc ?_
    simp only [impl_ReadPlace.l1, h2, hb]
    refine ev_pos (by omega) (ev_pos (by simp) (ev_pos (by omega) (ev_pos (by rw [ba_size]; omega) (ev_pos (by rw [List.length_map]; omega) ?_))))
    rw [w64 (n := (c.toNat : Int)) (by omega) (by omega), w64 (n := (c.toNat : Int) - 97) (by omega) (by omega), w64 (by omega) (by omega), len_at pre c]
    have := ih (pre ++ [c]) (by rw [h]; simp)
    simpa using this
theorem atoi_num_ev {n : Int} (h0 : -99 ≤ n) (h1 : n ≤ 99) : strconv_Atoi.f (ba (numT n)) = some (n, none) := by
  unfold strconv_Atoi.f
  have := (numT_bytes h0 h1).2.2
  rw [if_pos (by rw [ba_size]; omega), ba_list, atoi_numT h0 h1]
theorem atoi_any (w : Tx) (h : w.length ≤ 1048576) : ∃ v e, strconv_Atoi.f (ba w) = some (v, e) := by
  unfold strconv_Atoi.f
  rw [if_pos (by rw [ba_size]; omega)]
  exact ⟨_, _, rfl⟩
/-- The row is read whole, or what is read is no place of this text. -/
theorem irows_loop (x : Tx) (a b t : Tx) (ps : List Tx) (hl : ps.length ≤ 1048577) (hp : ∀ p ∈ ps, p.length ≤ 1048576) (r : List Int × Int × List Int × Bool)
    (hfail : (¬ ∃ u : List Int, ps = u.map numT ∧ (∀ n ∈ u, 0 ≤ n ∧ n ≤ 10) ∧ u.length ≤ 3) → r = ([], 0, [], false))
    (hend : ∀ u : List Int, u.length ≤ 5 → ((∃ v : List Int, ps = v.map numT ∧ (∀ n ∈ v, 0 ≤ n ∧ n ≤ 10) ∧ v.length ≤ 3) → ps = u.map numT ∧ ∀ n ∈ u, 0 ≤ n ∧ n ≤ 10) → Ev (fun k => impl_ReadPlace.l0 k (ba x) ([a, b, t].map ba) (ps.map ba) (ps.length : Int) (ps.length : Int) u 0) r) :
    ∀ (suf pre : List Tx) (u : List Int), ps = pre ++ suf → u.length = pre.length → u.length ≤ 4 → ((∃ v : List Int, ps = v.map numT ∧ (∀ n ∈ v, 0 ≤ n ∧ n ≤ 10) ∧ v.length ≤ 3) → pre = u.map numT ∧ ∀ n ∈ u, 0 ≤ n ∧ n ≤ 10) →
      Ev (fun k => impl_ReadPlace.l0 k (ba x) ([a, b, t].map ba) (ps.map ba) (ps.length : Int) (pre.length : Int) u 0) r := by
  intro suf
  induction suf with
  | nil =>
    intro pre u h hu hu4 hg
    rw [List.append_nil] at h
    subst h
    exact hend u (by omega) hg
  | cons p q ih =>
    intro pre u h hu hu4 hg
    have e : ps.length = pre.length + (q.length + 1) := by rw [h]; simp
    have hr : rdOf ByteArray.empty (ps.map ba) (pre.length : Int) = ba p := by rw [rdOf_map, h]; simp
    have hpl := hp p (by rw [h]; simp)
    obtain ⟨v, er, hv⟩ := atoi_any p hpl
    refine ev_suc ?_
    simp only [impl_ReadPlace.l0, hr, hv, Option.bind_some]
    refine ev_pos (by omega) (ev_pos (by omega) (ev_pos (by rw [List.length_map]; omega) ?_))
    have hnum : (∃ w : List Int, ps = w.map numT ∧ (∀ n ∈ w, 0 ≤ n ∧ n ≤ 10) ∧ w.length ≤ 3) → ∃ n, p = numT n ∧ (0 ≤ n ∧ n ≤ 10) ∧ ps.length ≤ 3 := by
      rintro ⟨w, hw, hn, hw3⟩
      have hm : p ∈ w.map numT := by rw [← hw, h]; simp
      obtain ⟨n, hn1, hn2⟩ := List.mem_map.1 hm
      exact ⟨n, hn2.symm, hn n hn1, by rw [hw, List.length_map]; exact hw3⟩
    by_cases hn : er.isNone = true
    · refine ev_pos hn ?_
      by_cases hlen : (u.length : Int) > 3
      · refine ev_pos hlen ?_
        rw [hfail fun he => by obtain ⟨_, _, _, h3⟩ := hnum he; omega]
        exact Ev.now _
      · refine ev_neg hlen (ev_pos (by omega) ?_)
        rw [w64 (by omega) (by omega), len_at pre p]
        refine ih (pre ++ [p]) (u ++ [v]) (by rw [h]; simp) (by simp [hu]) (by simp; omega) fun he => ?_
        obtain ⟨g1, g2⟩ := hg he
        obtain ⟨n, rfl, hn1, _⟩ := hnum he
        rw [atoi_num_ev (by omega) (by omega)] at hv
        simp only [Option.some.injEq, Prod.mk.injEq] at hv
        obtain ⟨rfl, _⟩ := hv
        refine ⟨by simp [g1], fun m hm => ?_⟩
        rcases List.mem_append.1 hm with hm | hm
        · exact g2 m hm
        · rw [List.mem_singleton] at hm; subst hm; exact hn1
    · refine ev_neg hn ?_
      rw [hfail fun he => by
        obtain ⟨n, rfl, hn1, _⟩ := hnum he
        rw [atoi_num_ev (by omega) (by omega)] at hv
        simp only [Option.some.injEq, Prod.mk.injEq] at hv
        exact hn (by rw [← hv.2]; rfl)]
      exact Ev.now _
theorem ireadp_ev (x : Tx) (hx : x.length ≤ 1048576) : Ev (fun k => impl_ReadPlace.f k (ba x)) (readP x) := by
  unfold impl_ReadPlace.f
  have e32 : (⟨#[32]⟩ : ByteArray) = ba [32] := rfl
  have e44 : (⟨#[44]⟩ : ByteArray) = ba [44] := rfl
  simp only [e32, e44, isplit_ev 32 x (by omega), Option.bind_some]
  have hne : ∀ {u : List Int} {s : Int} {w : List Int}, placeT u s w = x → x ≠ [] → placeB u s w = true ∧ cutA 32 [] x = [rowT u, numT s, wordT w] ∧ cutA 44 [] (rowT u) = u.map numT := fun {u s w} h h2 => by
    have := place_cut (u := u) (s := s) (w := w) (by rw [h]; exact h2)
    rwa [h] at this
  rw [List.length_map]
  by_cases h3 : ((cutA 32 [] x).length : Int) = 3
  case neg =>
    refine ev_neg h3 ?_
    rw [readP_not fun u s w h => Classical.byContradiction fun h2 => by
      have := (hne h h2).2.1
      rw [this] at h3; simp at h3]
    exact Ev.now _
  have hx0 : x ≠ [] := by rintro rfl; simp [cutA] at h3
  obtain ⟨a, b, t, hc⟩ : ∃ a b t, cutA 32 [] x = [a, b, t] := by
    match hc : cutA 32 [] x with
    | [a, b, t] => exact ⟨a, b, t, rfl⟩
    | [] | [_] | [_, _] | _ :: _ :: _ :: _ :: _ => rw [hc] at h3; simp at h3; try omega
  have hs : ∀ p ∈ cutA 32 [] x, p.length ≤ 1048576 := fun p hp => by have := pieces_small 32 x [] p hp; simp at this; omega
  rw [hc] at hs hne h3 ⊢
  have ha := hs a (by simp)
  have hb := hs b (by simp)
  have ht := hs t (by simp)
  have e1 : rdOf ByteArray.empty ([a, b, t].map ba) 1 = ba b := rfl
  have e0 : rdOf ByteArray.empty ([a, b, t].map ba) 0 = ba a := rfl
  have e2 : rdOf ByteArray.empty ([a, b, t].map ba) 2 = ba t := rfl
  simp only [e0, isplit_ev 44 a (by omega), Option.bind_some]
  have hps : ∀ p ∈ cutA 44 [] a, p.length ≤ 1048576 := fun p hp => by have := pieces_small 44 a [] p hp; simp at this; omega
  have hpl : (cutA 44 [] a).length ≤ 1048577 := by have := cutA_len 44 a []; omega
  refine ev_pos h3 (ev_pos (by simp) ?_)
  rw [List.length_map]
  have hrow : ∀ {u : List Int} {s : Int} {w : List Int}, placeT u s w = x → ∃ v : List Int, cutA 44 [] a = v.map numT ∧ (∀ n ∈ v, 0 ≤ n ∧ n ≤ 10) ∧ v.length ≤ 3 := fun {u s w} h => by
    obtain ⟨p, q, r⟩ := hne h hx0
    obtain ⟨b1, b2, b3, _⟩ := place_data p
    simp only [List.cons.injEq, and_true] at q
    rw [q.1]
    exact ⟨u, r, b1, b3⟩
  refine irows_loop x a b t (cutA 44 [] a) hpl hps (readP x) (fun hf => readP_not fun u s w h => absurd (hrow h) hf) (fun u hu hg => ?_) (cutA 44 [] a) [] [] rfl rfl (by simp) (fun _ => ⟨rfl, by simp⟩)
  obtain ⟨er, hv⟩ := atoi_ev b hb
  refine ev_suc ?_
  simp only [impl_ReadPlace.l0, e1, e2, hv, Option.bind_some, toList_ba, ba_size]
  have hfin : chkP x u (numA b) (decW t) = readP x := by
    unfold chkP
    by_cases hm : x ≠ [] ∧ placeT u (numA b) (decW t) = x
    · rw [if_pos hm, readP_of hm.2 hm.1]
    · rw [if_neg hm, readP_not fun u' s w h => Classical.byContradiction fun h2 => hm ⟨h2, ?_⟩]
      obtain ⟨g1, g2⟩ := hg (hrow h)
      obtain ⟨p, q, r⟩ := hne h h2
      obtain ⟨b1, b2, b3, b4, b5, b6, _⟩ := place_data p
      simp only [List.cons.injEq, and_true] at q
      obtain ⟨q1, rfl, rfl⟩ := q
      rw [q1, r] at g1
      rw [← map_numT_inj b1 g2 g1, numA_numT (by omega) (by omega), decW_wordT b6, h]
  refine ev_neg (by omega) (ev_pos (by simp) (ev_pos (by simp) ?_))
  rw [← hfin]
  by_cases h46 : t = [46]
  · refine ev_pos h46 ?_
    rw [h46]
    have := ichk_ev x hx0 u (numA b) [] (by omega) (by simp)
    simpa [decW, toList_ba] using this
  · refine ev_neg h46 ?_
    have := iword_loop x hx0 a b t u (numA b) (by omega) ht t [] rfl
    unfold decW
    rw [if_neg h46]
    exact this
theorem l1In_eq (a b c : Int) : spec_l1In.f a b c = some (decide (b ≤ a) && decide (a ≤ c)) := by
  unfold spec_l1In.f
  by_cases h : a ≥ b
  · rw [if_pos h]; simp; omega
  · rw [if_neg h]; simp; omega
theorem urnB_no' {u : List Int} {x : Int} (hx : x ∈ u) (h : ¬ (0 ≤ x ∧ x ≤ 40)) : urnB u = false := by
  cases e : urnB u with
  | false => rfl
  | true => exact absurd (((urnB_iff u).1 e).1 x hx) h
theorem specUrn_loop (l : List Int) (hl : (l.length : Int) ≤ 1000000000000) : ∀ (suf pre : List Int), l = pre ++ suf → (∀ x ∈ pre, 0 ≤ x ∧ x ≤ 40) →
    Ev (fun k => spec_UrnOk.l0 k l (pre.length : Int)) (urnB l) := by
  intro suf
  induction suf with
  | nil =>
    intro pre h hr
    have e : l.length = pre.length := by rw [h]; simp
    refine ev_suc ?_
    simp (disch := omega) only [spec_UrnOk.l0, if_neg, l1In_eq]
    refine ev_now ?_
    rw [List.append_nil] at h
    subst h
    rw [Bool.eq_iff_iff, urnB_iff]
    simp only [Bool.and_eq_true, decide_eq_true_eq]
    exact ⟨fun h => ⟨hr, by omega, by omega⟩, fun h => ⟨by omega, by omega⟩⟩
  | cons x t ih =>
    intro pre h hr
    have e : l.length = pre.length + (t.length + 1) := by rw [h]; simp
    have hx : rd l (pre.length : Int) = x := by rw [h]; exact rd_at _ _ _
    have hxl : x ∈ l := by rw [h]; simp
    refine ev_suc ?_
    simp (disch := omega) only [spec_UrnOk.l0, hx, if_pos, l1In_eq, Option.bind_some]
    by_cases h1 : 0 ≤ x ∧ x ≤ 40
    · refine ev_pos (by simp [h1]) ?_
      rw [w64 (by omega) (by omega), len_at pre x]
      refine ih (pre ++ [x]) (by rw [h]; simp) ?_
      intro y hy
      rcases List.mem_append.1 hy with hy | hy
      · exact hr y hy
      · rw [List.mem_singleton] at hy; subst hy; exact h1
    · exact ev_neg (by simp only [Bool.and_eq_true, decide_eq_true_eq]; exact h1) (ev_now (urnB_no' hxl h1).symm)
theorem specUrnOk_ev (l : List Int) (hl : (l.length : Int) ≤ 1000000000000) : Ev (fun k => spec_UrnOk.f k l) (urnB l) := by
  simp only [spec_UrnOk.f]
  exact specUrn_loop l hl l [] rfl (by simp)
theorem specStart_loop (l : List Int) (hl : (l.length : Int) ≤ 1000000000000) : ∀ (suf pre : List Int), l = pre ++ suf → (∀ x ∈ pre, x ≤ 10) →
    Ev (fun k => spec_StartOk.l0 k l (pre.length : Int)) (startB l) := by
  intro suf
  induction suf with
  | nil =>
    intro pre h hr
    have e : l.length = pre.length := by rw [h]; simp
    refine ev_suc ?_
    simp (disch := omega) only [spec_StartOk.l0, if_neg]
    refine ev_bind (specUrnOk_ev l hl) (ev_now ?_)
    rw [List.append_nil] at h
    subst h
    have : (l.all fun x => decide (x ≤ 10)) = true := by simpa using hr
    simp [startB, this]
  | cons x t ih =>
    intro pre h hr
    have e : l.length = pre.length + (t.length + 1) := by rw [h]; simp
    have hx : rd l (pre.length : Int) = x := by rw [h]; exact rd_at _ _ _
    have hxl : x ∈ l := by rw [h]; simp
    refine ev_suc ?_
    simp (disch := omega) only [spec_StartOk.l0, hx, if_pos]
    by_cases h1 : x > 10
    · refine ev_pos h1 (ev_now ?_)
      cases e : startB l with
      | false => rfl
      | true => have := ((startB_iff l).1 e).1 x hxl; omega
    · refine ev_neg h1 ?_
      rw [w64 (by omega) (by omega), len_at pre x]
      refine ih (pre ++ [x]) (by rw [h]; simp) ?_
      intro y hy
      rcases List.mem_append.1 hy with hy | hy
      · exact hr y hy
      · rw [List.mem_singleton] at hy; subst hy; omega
theorem specStartOk_ev (l : List Int) (hl : (l.length : Int) ≤ 1000000000000) : Ev (fun k => spec_StartOk.f k l) (startB l) := by
  simp only [spec_StartOk.f]
  exact specStart_loop l hl l [] rfl (by simp)
theorem wordB_no' {n : Int} {w : List Int} {x : Int} (hx : x ∈ w) (h : ¬ (0 ≤ x ∧ x < n)) : wordB n w = false := by
  cases e : wordB n w with
  | false => rfl
  | true => exact absurd (((wordB_iff n w).1 e).1 x hx) h
theorem specWord_loop (n : Int) (l : List Int) (hl : (l.length : Int) ≤ 1000000000000) : ∀ (suf pre : List Int), l = pre ++ suf → (∀ x ∈ pre, 0 ≤ x ∧ x < n) →
    Ev (fun k => spec_WordOk.l0 k n l (pre.length : Int)) (wordB n l) := by
  intro suf
  induction suf with
  | nil =>
    intro pre h hr
    have e : l.length = pre.length := by rw [h]; simp
    refine ev_suc ?_
    simp (disch := omega) only [spec_WordOk.l0, if_neg, l1In_eq, Option.bind_some]
    rw [List.append_nil] at h
    subst h
    by_cases hn : 1 ≤ n ∧ n ≤ 3
    · refine ev_pos (by simp [hn]) (ev_now ?_)
      rw [Bool.eq_iff_iff, wordB_iff]
      simp only [decide_eq_true_eq]
      exact ⟨fun h => ⟨hr, by omega, hn⟩, fun h => by omega⟩
    · refine ev_neg (by simp only [Bool.and_eq_true, decide_eq_true_eq]; exact hn) (ev_now ?_)
      cases e : wordB n l with
      | false => rfl
      | true => exact absurd ((wordB_iff n l).1 e).2.2 hn
  | cons x t ih =>
    intro pre h hr
    have e : l.length = pre.length + (t.length + 1) := by rw [h]; simp
    have hx : rd l (pre.length : Int) = x := by rw [h]; exact rd_at _ _ _
    have hxl : x ∈ l := by rw [h]; simp
    refine ev_suc ?_
    simp (disch := omega) only [spec_WordOk.l0, hx, if_pos]
    by_cases h1 : x < 0
    · exact ev_pos h1 (ev_now (wordB_no' hxl (by omega)).symm)
    · refine ev_neg h1 ?_
      by_cases h2 : x ≥ n
      · exact ev_pos h2 (ev_now (wordB_no' hxl (by omega)).symm)
      · refine ev_neg h2 ?_
        rw [w64 (by omega) (by omega), len_at pre x]
        refine ih (pre ++ [x]) (by rw [h]; simp) ?_
        intro y hy
        rcases List.mem_append.1 hy with hy | hy
        · exact hr y hy
        · rw [List.mem_singleton] at hy; subst hy; omega
theorem specWordOk_ev (n : Int) (l : List Int) (hl : (l.length : Int) ≤ 1000000000000) : Ev (fun k => spec_WordOk.f k n l) (wordB n l) := by
  simp only [spec_WordOk.f]
  exact specWord_loop n l hl l [] rfl (by simp)
theorem l4After_loop (u : List Int) (R : List (List Int)) (c : Int) (row : List Int) (hc : 0 ≤ c ∧ c < (R.length : Int)) (hrow : rd_L1 R c = row) (hl : row.length = u.length) (hu : u.length ≤ 3) (hB : Within 1000000000 row) (hA : Within 1000000000 u) : ∀ (su sr pu pr acc : List Int), u = pu ++ su → row = pr ++ sr → pu.length = pr.length → acc.length = pu.length →
    Ev (fun k => spec_l4After.l0 k u R c acc (pu.length : Int)) (acc ++ zipAdd su sr) := by
  intro su
  induction su with
  | nil =>
    intro sr pu pr acc h h' hp ha
    have e : u.length = pu.length := by rw [h]; simp
    have e' : row.length = pr.length + sr.length := by rw [h']; simp
    obtain rfl : sr = [] := List.eq_nil_of_length_eq_zero (by omega)
    refine ev_suc ?_
    simp (disch := omega) only [spec_l4After.l0, if_neg]
    exact ev_now (by simp [zipAdd])
  | cons x t ih =>
    intro sr pu pr acc h h' hp ha
    have e : u.length = pu.length + (t.length + 1) := by rw [h]; simp
    have e' : row.length = pr.length + sr.length := by rw [h']; simp
    cases sr with
    | nil => simp at e'; omega
    | cons y r =>
      have hx : rd u (pu.length : Int) = x := by rw [h]; exact rd_at _ _ _
      have hy : rd row (pu.length : Int) = y := by rw [h', hp]; exact rd_at _ _ _
      have bx := hA x (by rw [h]; simp)
      have bY := hB y (by rw [h']; simp)
      refine ev_suc ?_
      simp (disch := omega) only [spec_l4After.l0, hrow, hl, hx, hy, if_pos, w64]
      rw [len_at pu x]
      have := ih r (pu ++ [x]) (pr ++ [y]) (acc ++ [x + y]) (by rw [h]; simp) (by rw [h']; simp) (by simp [hp]) (by simp [ha])
      simpa [zipAdd] using this
theorem l4After_ev (u : List Int) (s c : Int) (hu : u.length ≤ 3) (hs : -3 ≤ s ∧ s ≤ 3) (hc : 0 ≤ c ∧ c < (u.length : Int)) (hw : Within 1000000 u) :
    Ev (fun k => spec_l4After.f k u (ruleM u.length s) c) (bump s u c) := by
  have er : rd_L1 (ruleM u.length s) c = (List.replicate u.length (0 : Int)).set c.toNat s := ruleM_row hc.1 hc.2
  have hW := within_row (n := u.length) (c := c) hs
  simp only [spec_l4After.f]
  have := l4After_loop u (ruleM u.length s) c _ (by rw [ruleM_len]; exact hc) er (by simp) hu (fun x hx => by have := hW x hx; omega) (fun x hx => by have := hw x hx; omega) u ((List.replicate u.length (0 : Int)).set c.toNat s) [] [] [] rfl (by simp) rfl rfl
  refine ev_eq this ?_
  rw [List.nil_append]
  exact zipAdd_row hu hc.1 hc.2
/-- What AfterWord tells. -/
def afterWordM (s : Int) (u w : List Int) : List Int × Bool := if 0 < waysM s u w then (afterM s u w, true) else ([], false)
theorem afterWord_loop (n : Nat) (s : Int) (hn : n ≤ 3) (hs : -3 ≤ s ∧ s ≤ 3) (w : List Int) (hw : w.length ≤ 100) (hwn : ∀ c ∈ w, 0 ≤ c ∧ c < (n : Int)) : ∀ (suf pre u : List Int) (b : Int), w = pre ++ suf → u.length = n → Within b u → 0 ≤ b → b + 3 * suf.length ≤ 1000000 →
    Ev (fun k => spec_AfterWord.l0 k (ruleM n s) w u (pre.length : Int)) (afterWordM s u suf) := by
  intro suf
  induction suf with
  | nil =>
    intro pre u b h _ _ _ _
    have e : w.length = pre.length := by rw [h]; simp
    refine ev_suc ?_
    simp (disch := omega) only [spec_AfterWord.l0, if_neg]
    exact ev_now (by simp [afterWordM, waysM, afterM])
  | cons x t ih =>
    intro pre u b h hu hb hb0 hb1
    have e : w.length = pre.length + (t.length + 1) := by rw [h]; simp
    have hx : rd w (pre.length : Int) = x := by rw [h]; exact rd_at _ _ _
    have hxn := hwn x (by rw [h]; simp)
    simp only [List.length_cons] at hb1
    refine ev_suc ?_
    simp (disch := omega) only [spec_AfterWord.l0, hx, if_pos]
    subst hu
    have hcp := waysM_cons_pos s u x t
    by_cases h1 : rd u x < 1
    · refine ev_pos h1 (ev_now ?_)
      unfold afterWordM
      rw [if_neg (fun hp => by have := (hcp.1 hp).1; omega)]
    · refine ev_neg h1 (ev_bind (l4After_ev u s x hn hs hxn (fun y hy => by have := hb y hy; omega)) ?_)
      rw [w64 (by omega) (by omega), len_at pre x]
      have := ih (pre ++ [x]) (bump s u x) (b + 3) (by rw [h]; simp) (bump_len _ _ _) (within_bump hb hs x hxn) (by omega) (by omega)
      refine ev_eq this ?_
      unfold afterWordM
      by_cases h2 : 0 < waysM s (bump s u x) t
      · rw [if_pos h2, if_pos (hcp.2 ⟨by omega, h2⟩), afterM_cons]
      · rw [if_neg h2, if_neg (fun hp => h2 (hcp.1 hp).2)]
theorem ruleOk_all : ∀ n : Fin 4, ∀ s : Fin 5, n.val = 0 ∨ spec_RuleOk.f 30 (n.val : Int) (ruleM n.val ((s.val : Int) - 1)) = some true := by decide +kernel
theorem ruleOk_ev (n : Nat) (s : Int) (h1 : 1 ≤ n) (h3 : n ≤ 3) (hs : -1 ≤ s ∧ s ≤ 3) : Ev (fun k => spec_RuleOk.f k (n : Int) (ruleM n s)) true := by
  have h := (ruleOk_all ⟨n, by omega⟩ ⟨(s + 1).toNat, by omega⟩).resolve_left (by simp only []; omega)
  have e : (((s + 1).toNat : Nat) : Int) - 1 = s := by omega
  simp only [e] at h
  exact Ev.of (fun k => spec_RuleOk.mono _ _ k) h
theorem sSameRule_all : ∀ n : Fin 4, ∀ s : Fin 5, n.val = 0 ∨ spec_SameRule.f 20 (n.val : Int) ((s.val : Int) - 1) = some (ruleM n.val ((s.val : Int) - 1)) := by decide +kernel
theorem sSameRule_ev (n : Nat) (s : Int) (h1 : 1 ≤ n) (h3 : n ≤ 3) (hs : -1 ≤ s ∧ s ≤ 3) : Ev (fun k => spec_SameRule.f k (n : Int) s) (ruleM n s) := by
  have h := (sSameRule_all ⟨n, by omega⟩ ⟨(s + 1).toNat, by omega⟩).resolve_left (by simp only []; omega)
  have e : (((s + 1).toNat : Nat) : Int) - 1 = s := by omega
  simp only [e] at h
  exact Ev.of (fun k => spec_SameRule.mono _ _ k) h
theorem afterWord_ev (u : List Int) (s : Int) (w : List Int) (hS : startB u = true) (hs : -1 ≤ s ∧ s ≤ 3) (hw : (w.length : Int) ≤ 1000000000000) :
    Ev (fun k => spec_AfterWord.f k u (ruleM u.length s) w) (if wordB (u.length : Int) w = true then afterWordM s u w else ([], false)) := by
  have hu3 := (startB_iff u).1 hS
  simp only [spec_AfterWord.f]
  refine ev_bind (specStartOk_ev u (by omega)) (ev_pos hS (ev_bind (ruleOk_ev u.length s hu3.2.1 hu3.2.2 hs) (ev_pos rfl (ev_bind (specWordOk_ev (u.length : Int) w hw) (ev_suc ?_)))))
  by_cases hW : wordB (u.length : Int) w = true
  · have hw6 := (wordB_iff _ _).1 hW
    rw [if_pos hW]
    simp only [spec_AfterWord.j0, hW, Bool.not_true]
    refine ev_neg (by simp) (ev_bind (Ev.now _) (ev_pos (by simp; omega) ?_))
    rw [List.nil_append]
    exact afterWord_loop u.length s hu3.2.2 ⟨by omega, by omega⟩ w (by omega) hw6.1 w [] u 10 rfl rfl (fun x hx => by have := hu3.1 x hx; omega) (by omega) (by omega)
  · have hf : wordB (u.length : Int) w = false := by simpa using hW
    rw [if_neg hW]
    simp only [spec_AfterWord.j0, hf, Bool.not_false, if_true]
    exact Ev.now _
theorem specPlace_ev (u : List Int) (s : Int) (w : List Int) (hu : (u.length : Int) ≤ 1000000000000) (hw : (w.length : Int) ≤ 1000000000000) : Ev (fun k => spec_PlaceOk.f k u s w) (placeB u s w) := by
  have hj : ∀ r, r = placeB u s w → r = false → Ev (fun k => spec_PlaceOk.j0 k true u s w) r := by
    rintro r _ rfl
    refine ev_suc ?_
    simp only [spec_PlaceOk.j0, if_true]
    exact Ev.now _
  simp only [spec_PlaceOk.f]
  refine ev_bind (specStartOk_ev u hu) ?_
  by_cases hS : startB u = true
  · refine ev_pos hS ?_
    simp only [l1In_eq, Option.bind_some]
    have hu3 := (startB_iff u).1 hS
    by_cases h1 : -1 ≤ s ∧ s ≤ 3
    · have e : (decide (-1 ≤ s) && decide (s ≤ 3)) = true := by simp [h1]
      refine ev_suc ?_
      simp only [spec_PlaceOk.j0, e, Bool.not_true]
      refine ev_neg (by simp) (ev_bind (sSameRule_ev u.length s hu3.2.1 hu3.2.2 h1) (ev_bind (afterWord_ev u s w hS h1 hw) (ev_now ?_)))
      by_cases hW : wordB (u.length : Int) w = true
      · rw [if_pos hW]
        unfold afterWordM
        by_cases h2 : 0 < waysM s u w
        · rw [if_pos h2]; simp [placeB, hS, hW, h1, h2]
        · rw [if_neg h2]; simp [placeB, hS, hW, h1, h2]
      · rw [if_neg hW]
        have hf : wordB (u.length : Int) w = false := by simpa using hW
        simp [placeB, hf]
    · have e : (decide (-1 ≤ s) && decide (s ≤ 3)) = false := by
        rw [Bool.and_eq_false_iff]; simp only [decide_eq_false_iff_not]; omega
      rw [e]
      refine hj _ rfl ?_
      unfold placeB
      rw [Bool.and_eq_false_iff] at e
      rcases e with e | e <;> simp [e]
  · refine ev_neg hS (hj _ rfl ?_)
    have hf : startB u = false := by simpa using hS
    simp [placeB, hf]
theorem l15Step_ev {n : Int} (h0 : -99 ≤ n) (h1 : n ≤ 99) : Ev (fun k => spec_l15Step.f k n) (ba (numT n)) := by
  have := small_all (p := fun n => decide (spec_l15Step.f 5 n = some (ba (numT n)))) (by decide +kernel) h0 h1
  exact Ev.of (fun k => spec_l15Step.mono _ _) (of_decide_eq_true this)
theorem litb (l : Tx) : (⟨⟨l⟩⟩ : ByteArray) = ba l := rfl
theorem l1Number_ev {n : Int} (h0 : 0 ≤ n) (h1 : n ≤ 99) : Ev (fun k => spec_l1Number.f k n) (ba (numT n)) := by
  have := small_all (p := fun n => decide (n < 0) || decide (spec_l1Number.f 5 n = some (ba (numT n)))) (by decide +kernel) (n := n) (by omega) h1
  rw [decide_eq_false (by omega), Bool.false_or] at this
  exact Ev.of (fun k => spec_l1Number.mono _ _) (of_decide_eq_true this)
theorem srow_loop (l : List Int) (hl : l.length ≤ 3) (hv : ∀ x ∈ l, 0 ≤ x ∧ x ≤ 10) (hne : l ≠ []) : ∀ (suf pre : List Int) (acc : Tx), l = pre ++ suf → pre ≠ [] → acc.length ≤ 100 * pre.length →
    Ev (fun k => spec_l15Row.l0 k l (ba acc) (pre.length : Int)) (ba (acc ++ tailT suf)) := by
  intro suf
  induction suf with
  | nil =>
    intro pre acc h hp _
    rw [List.append_nil] at h
    subst h
    have : 0 < l.length := List.length_pos_iff.2 hne
    refine ev_suc ?_
    simp only [spec_l15Row.l0]
    exact ev_neg (by omega) (ev_neg (by omega) (ev_eq (Ev.now _) (by simp [tailT])))
  | cons x t ih =>
    intro pre acc h hp ha
    have e : l.length = pre.length + (t.length + 1) := by rw [h]; simp
    have hx : rd l (pre.length : Int) = x := by rw [h]; exact rd_at _ _ _
    have hxv := hv x (by rw [h]; simp)
    have hpp : 0 < pre.length := List.length_pos_iff.2 hp
    obtain ⟨_, n1, n2⟩ := numT_bytes (n := x) (by omega) (by omega)
    refine ev_suc ?_
    simp only [spec_l15Row.l0, hx]
    refine ev_pos (by omega) (ev_pos (by omega) (ev_pos (by rw [ba_size]; omega) (ev_pos (by omega) (ev_bind (l1Number_ev hxv.1 (by omega)) ?_))))
    rw [litb, ba_append, ba_append, ba_size, ba_size]
    refine ev_pos (by simp; omega) ?_
    rw [w64 (by omega) (by omega), len_at pre x]
    refine ev_eq (ih (pre ++ [x]) _ (by rw [h]; simp) (by simp) (by simp; omega)) ?_
    simp [tailT]
theorem srow_ev (l : List Int) (h1 : 1 ≤ l.length) (hl : l.length ≤ 3) (hv : ∀ x ∈ l, 0 ≤ x ∧ x ≤ 10) : Ev (fun k => spec_l15Row.f k l) (ba (rowT l)) := by
  match l, h1 with
  | x :: t, _ =>
    have hxv := hv x (by simp)
    obtain ⟨_, n1, n2⟩ := numT_bytes (n := x) (by omega) (by omega)
    unfold spec_l15Row.f
    have hx : rd (x :: t) 0 = x := by simp [rd]
    refine ev_suc ?_
    simp only [spec_l15Row.l0, hx]
    refine ev_pos (by simp <;> omega) (ev_neg (by omega) (ev_pos (by omega) (ev_bind (l1Number_ev hxv.1 (by omega)) ?_)))
    rw [litb, ba_append, ba_size, ba_size]
    refine ev_pos (by simp; omega) ?_
    rw [w64 (by omega) (by omega)]
    have := srow_loop (x :: t) hl hv (by simp) t [x] (numT x) rfl (by simp) (by simp; omega)
    simpa [rowT] using this
theorem abc_ev {c : Int} (h : 0 ≤ c ∧ c < 3) : (ba [97, 98, 99]).extract c.toNat (c + 1).toNat = ba [letT c] := by
  rw [ba_extract]
  obtain ⟨m, rfl⟩ := Int.eq_ofNat_of_zero_le h.1
  have : m = 0 ∨ m = 1 ∨ m = 2 := by omega
  rcases this with rfl | rfl | rfl <;> rfl
theorem splace_end (u : List Int) (s : Int) (w : List Int) (x : Tx) (h : placeB u s w = true) (hx : x.length ≤ 7) :
    Ev (fun k => (spec_l15Row.f k u).bind fun t1 => if t1.size + 1 ≤ 9223372036854775807 then (spec_l15Step.f k s).bind fun t2 => if (t1 ++ (⟨#[32]⟩ : ByteArray)).size + t2.size ≤ 9223372036854775807 then if ((t1 ++ (⟨#[32]⟩ : ByteArray)) ++ t2).size + 1 ≤ 9223372036854775807 then if (((t1 ++ (⟨#[32]⟩ : ByteArray)) ++ t2) ++ (⟨#[32]⟩ : ByteArray)).size + (ba x).size ≤ 9223372036854775807 then some ((((t1 ++ (⟨#[32]⟩ : ByteArray)) ++ t2) ++ (⟨#[32]⟩ : ByteArray)) ++ ba x) else none else none else none else none)
      (ba (rowT u ++ 32 :: (numT s ++ 32 :: x))) := by
  obtain ⟨a1, a2, a3, a4, a5, _, _⟩ := place_data h
  have hr := rowT_len u a1
  obtain ⟨_, n1, n2⟩ := numT_bytes (n := s) (by omega) (by omega)
  refine ev_bind (srow_ev u a2 a3 a1) (ev_pos (by rw [ba_size]; omega) (ev_bind (l15Step_ev (by omega) (by omega)) ?_))
  simp only [litb, ba_append, ba_size]
  refine ev_pos (by simp; omega) (ev_pos (by simp; omega) (ev_pos (by simp; omega) (ev_eq (Ev.now _) ?_)))
  simp
theorem splacew_loop (u : List Int) (s : Int) (w : List Int) (h : placeB u s w = true) : ∀ (suf pre : List Int) (x : Tx), w = pre ++ suf → pre ≠ [] → x = pre.map letT →
    Ev (fun k => spec_PlaceText.l0 k (ba x) (pre.length : Int) u s w) (ba (rowT u ++ 32 :: (numT s ++ 32 :: (w.map letT)))) := by
  obtain ⟨_, _, _, _, _, hw, hl⟩ := place_data h
  intro suf
  induction suf with
  | nil =>
    intro pre x e hp hx
    rw [List.append_nil] at e
    subst e
    refine ev_suc ?_
    simp only [spec_PlaceText.l0]
    refine ev_neg (by omega) ?_
    subst hx
    exact splace_end u s w _ h (by simp; omega)
  | cons c t ih =>
    intro pre x e hp hx
    have el : w.length = pre.length + (t.length + 1) := by rw [e]; simp
    have hc : rd w (pre.length : Int) = c := by rw [e]; exact rd_at _ _ _
    have hcv := hw c (by rw [e]; simp)
    have hpp : 0 < pre.length := List.length_pos_iff.2 hp
    refine ev_suc ?_
    simp only [spec_PlaceText.l0, hc, litb]
    rw [w64 (n := c + 1) (by omega) (by omega), abc_ev hcv]
    refine ev_pos (by omega) (ev_neg (by omega) (ev_pos (by omega) (ev_pos hcv.1 (ev_pos (by omega) (ev_pos (by omega) (ev_pos ?_ ?_))))))
    · rw [ba_size, ba_size, hx]; simp; omega
    · rw [w64 (by omega) (by omega), len_at pre c, ba_append]
      exact ih (pre ++ [c]) _ (by rw [e]; simp) (by simp) (by rw [hx]; simp)
theorem splacet_ev (u : List Int) (s : Int) (w : List Int) (hu : (u.length : Int) ≤ 1000000000000) (hw : (w.length : Int) ≤ 1000000000000) : Ev (fun k => spec_PlaceText.f k u s w) (ba (placeT u s w)) := by
  unfold spec_PlaceText.f placeT
  refine ev_bind (specPlace_ev u s w hu hw) ?_
  by_cases h : placeB u s w = true
  case neg => rw [if_neg h]; exact ev_neg h (Ev.now _)
  rw [if_pos h]
  refine ev_pos h ?_
  obtain ⟨_, _, _, _, _, hwv, hl⟩ := place_data h
  rcases w with _ | ⟨c, t⟩
  ·
    refine ev_suc ?_
    simp only [spec_PlaceText.l0, wordT, litb]
    exact ev_neg (by simp) (splace_end u s [] [46] h (by simp))
  ·
    have hcv := hwv c (by simp)
    have hc : rd (c :: t) 0 = c := by simp [rd]
    refine ev_suc ?_
    simp only [spec_PlaceText.l0, hc, litb, wordT]
    rw [w64 (n := c + 1) (by omega) (by omega), abc_ev hcv]
    refine ev_pos (by simp <;> omega) (ev_pos trivial (ev_pos (by omega) (ev_pos hcv.1 (ev_pos (by omega) (ev_pos (by omega) (ev_pos (by rw [ba_size]; simp) ?_))))))
    rw [w64 (by omega) (by omega), ba_append]
    have := splacew_loop u s (c :: t) h t [c] [letT c] rfl (by simp) rfl
    simpa using this
theorem cut_loop (c : UInt8) (l : Tx) (hl : l.length ≤ 1000000000000) : ∀ (suf acc pre : Tx) (done : List ByteArray), l = pre ++ (acc ++ suf) → done.length ≤ pre.length →
    Ev (fun k => spec_l1Cut.l0 k (ba l) (c.toNat : Int) done (pre.length : Int) ((pre ++ acc).length : Int)) (done ++ (cutA c acc suf).map ba) := by
  intro suf
  induction suf with
  | nil =>
    intro acc pre done h hd
    have e : l.length = pre.length + acc.length := by rw [h]; simp
    have ha : (pre ++ acc).length = pre.length + acc.length := List.length_append
    refine ev_suc ?_
    simp only [spec_l1Cut.l0]
    refine ev_neg (by rw [ba_size]; omega) (ev_pos (by omega) (ev_pos (by rw [ba_size]; omega) (ev_pos (by omega) (ev_eq (Ev.now _) ?_))))
    rw [ba_extract, ba_size]
    have e2 : (l.drop (pre.length : Int).toNat).take (l.length - (pre.length : Int).toNat) = acc := by
      rw [List.append_nil] at h
      subst h
      simp
    rw [e2]
    rfl
  | cons b t ih =>
    intro acc pre done h hd
    have e : l.length = pre.length + (acc.length + (t.length + 1)) := by rw [h]; simp
    have ha : (pre ++ acc).length = pre.length + acc.length := List.length_append
    have hb : bt (ba l) ((pre ++ acc).length : Int) = (b.toNat : Int) := by rw [h, ← List.append_assoc]; exact bt_ba _ _ _
    refine ev_suc ?_
    simp only [spec_l1Cut.l0]
    refine ev_pos (by rw [ba_size]; omega) (ev_pos (by omega) ?_)
    rw [hb]
    by_cases hc : b = c
    · subst hc
      refine ev_pos rfl (ev_pos (by omega) (ev_pos (by omega) (ev_pos (by rw [ba_size]; omega) (ev_pos (by omega) ?_))))
      rw [ba_extract]
      have e2 : (l.drop (pre.length : Int).toNat).take (((pre ++ acc).length : Int).toNat - (pre.length : Int).toNat) = acc := by
        rw [Int.toNat_natCast, Int.toNat_natCast, ha, Nat.add_sub_cancel_left, h, List.drop_left, List.take_left]
      rw [e2, w64 (by omega) (by omega)]
      have := ih [] (pre ++ acc ++ [b]) (done ++ [ba acc]) (by rw [h]; simp) (by simp; omega)
      have e3 : (((pre ++ acc).length : Int) + 1) = ((pre ++ acc ++ [b]).length : Int) := len_at _ _
      rw [e3]
      rw [List.append_nil] at this
      refine ev_eq this ?_
      rw [cutA, if_pos rfl]
      simp
    · refine ev_neg (fun e => hc (UInt8.toNat_inj.1 (by omega))) ?_
      rw [w64 (by omega) (by omega)]
      have := ih (acc ++ [b]) pre done (by rw [h]; simp) hd
      have e3 : (((pre ++ acc).length : Int) + 1) = ((pre ++ (acc ++ [b])).length : Int) := by rw [← List.append_assoc]; exact len_at _ _
      rw [e3]
      refine ev_eq this ?_
      rw [cutA, if_neg hc]
theorem scut_ev (c : UInt8) (l : Tx) (hl : l.length ≤ 1000000000000) (n : Int) (hn : n = (c.toNat : Int)) : Ev (fun k => spec_l1Cut.f k (ba l) n) ((cutA c [] l).map ba) := by
  subst hn
  have := cut_loop c l hl l [] [] [] rfl (Nat.le_refl _)
  simpa [spec_l1Cut.f] using this
theorem specIn_ev (a b c : Int) : spec_l1In.f a b c = some (decide (b ≤ a ∧ a ≤ c)) := by
  unfold spec_l1In.f
  split <;> simp <;> omega
theorem digits_loop (x : Tx) (hx : x.length ≤ 1000000000000) : ∀ (suf pre : Tx), x = pre ++ suf → ∀ a, ∃ v, Ev (fun k => spec_l1Digits.l0 k (ba x) a (pre.length : Int)) v := by
  intro suf
  induction suf with
  | nil =>
    intro pre h a
    have e : x.length = pre.length := by rw [h]; simp
    exact ⟨a, ev_suc (by simp only [spec_l1Digits.l0]; exact ev_neg (by rw [ba_size]; omega) (Ev.now _))⟩
  | cons b t ih =>
    intro pre h a
    have e : x.length = pre.length + (t.length + 1) := by rw [h]; simp
    have hb : bt (ba x) (pre.length : Int) = (b.toNat : Int) := by rw [h]; exact bt_ba _ _ _
    by_cases h1 : (b.toNat : Int) < 48
    · refine ⟨-1, ev_suc ?_⟩
      simp only [spec_l1Digits.l0, hb]
      exact ev_pos (by rw [ba_size]; omega) (ev_pos (by omega) (ev_pos h1 (Ev.now _)))
    by_cases h2 : (b.toNat : Int) > 57
    · refine ⟨-1, ev_suc ?_⟩
      simp only [spec_l1Digits.l0, hb]
      exact ev_pos (by rw [ba_size]; omega) (ev_pos (by omega) (ev_neg h1 (ev_pos h2 (Ev.now _))))
    obtain ⟨v, hv⟩ := ih (pre ++ [b]) (by rw [h]; simp) (wrap64 ((wrap64 (10 * a)) + (((b.toNat : Int) - 48) % 256)))
    refine ⟨v, ev_suc ?_⟩
    simp only [spec_l1Digits.l0, hb]
    refine ev_pos (by rw [ba_size]; omega) (ev_pos (by omega) (ev_neg h1 (ev_neg h2 ?_)))
    rw [w64 (n := (pre.length : Int) + 1) (by omega) (by omega), len_at pre b]
    exact hv
theorem digits_some (x : Tx) (hx : x.length ≤ 1000000000000) : ∃ v, Ev (fun k => spec_l1Digits.f k (ba x)) v := by
  have hf : ∃ v, Ev (fun k => spec_l1Digits.j0 k (ba x) false) v := by
    obtain ⟨v, hv⟩ := digits_loop x hx x [] rfl 0
    exact ⟨v, ev_suc (by simp only [spec_l1Digits.j0]; exact ev_neg (by decide) hv)⟩
  have ht : ∃ v, Ev (fun k => spec_l1Digits.j0 k (ba x) true) v := ⟨-1, ev_suc (by simp only [spec_l1Digits.j0]; exact ev_pos trivial (Ev.now _))⟩
  have hj : ∀ b, ∃ v, Ev (fun k => spec_l1Digits.j0 k (ba x) b) v := fun b => match b with | false => hf | true => ht
  unfold spec_l1Digits.f
  simp only [specIn_ev, Option.bind_some, decide_eq_true_eq]
  split
  · split
    · obtain ⟨v, hv⟩ := hj ((bt (ba x) 0) == 48)
      exact ⟨v, ev_pos (by omega) hv⟩
    · exact hf
  · exact ht
theorem signed_some (x : Tx) (hx : x.length ≤ 1000000000000) : ∃ v, Ev (fun k => spec_l15Signed.f k (ba x)) v := by
  obtain ⟨d, hd⟩ := digits_some x hx
  have hf : ∃ v, Ev (fun k => spec_l15Signed.j0 k (ba x) false) v := by
    by_cases h : d < 0
    · exact ⟨-100, ev_suc (by simp only [spec_l15Signed.j0]; exact ev_neg (by decide) (ev_bind hd (ev_pos h (Ev.now _))))⟩
    · exact ⟨d, ev_suc (by simp only [spec_l15Signed.j0]; exact ev_neg (by decide) (ev_bind hd (ev_neg h (Ev.now _))))⟩
  unfold spec_l15Signed.f
  split
  · rename_i h1
    rw [ba_size] at h1
    obtain ⟨e, he⟩ := digits_some (x.drop 1) (by rw [List.length_drop]; omega)
    have e1 : (ba x).extract 1 (ba x).size = ba (x.drop 1) := by
      rw [ba_extract, ba_size]
      congr 1
      exact List.take_of_length_le (by simp)
    have ht : ∃ v, Ev (fun k => spec_l15Signed.j0 k (ba x) true) v :=
      ⟨wrap64 (-e), ev_suc (by simp only [spec_l15Signed.j0, e1]; exact ev_pos trivial (ev_pos (by rw [ba_size]; omega) (ev_bind he (Ev.now _))))⟩
    have hj : ∀ b, ∃ v, Ev (fun k => spec_l15Signed.j0 k (ba x) b) v := fun b => match b with | false => hf | true => ht
    simp only [e1]
    split
    · split
      · obtain ⟨v, hv⟩ := hj (decide (e > 0))
        exact ⟨v, ev_pos (by rw [ba_size]; omega) (ev_bind he hv)⟩
      · exact hf
    · rename_i h2; rw [ba_size] at h2; omega
  · exact hf
theorem signed_ev {n : Int} (h0 : -99 ≤ n) (h1 : n ≤ 99) : Ev (fun k => spec_l15Signed.f k (ba (numT n))) n := by
  have := small_all (p := fun n => decide (spec_l15Signed.f 20 (ba (numT n)) = some n)) (by decide +kernel) h0 h1
  exact Ev.of (fun k => spec_l15Signed.mono _ _) (of_decide_eq_true this)
open Classical in
noncomputable def dgv (p : Tx) : Int := if h : ∃ v, Ev (fun k => spec_l1Digits.f k (ba p)) v then h.choose else 0
theorem dgv_ev (p : Tx) (hp : p.length ≤ 1000000000000) : Ev (fun k => spec_l1Digits.f k (ba p)) (dgv p) := by
  have h := digits_some p hp
  unfold dgv
  rw [dif_pos h]
  exact h.choose_spec
theorem digits_ev {n : Int} (h0 : 0 ≤ n) (h1 : n ≤ 99) : Ev (fun k => spec_l1Digits.f k (ba (numT n))) n := by
  have := small_all (p := fun n => decide (n < 0) || decide (spec_l1Digits.f 20 (ba (numT n)) = some n)) (by decide +kernel) (n := n) (by omega) h1
  rw [decide_eq_false (by omega), Bool.false_or] at this
  exact Ev.of (fun k => spec_l1Digits.mono _ _) (of_decide_eq_true this)
theorem dgv_num {n : Int} (h0 : 0 ≤ n) (h1 : n ≤ 99) : dgv (numT n) = n := ev_uniq (dgv_ev _ (by have := (numT_bytes (n := n) (by omega) h1).2.2; omega)) (digits_ev h0 h1)
theorem chk_ev (x : Tx) (u : List Int) (s : Int) (w : List Int) (hu : (u.length : Int) ≤ 1000000000000) (hw : (w.length : Int) ≤ 1000000000000) :
    Ev (fun k => if (ba x).toList = ([] : List UInt8) then some (([] : List Int), (0 : Int), ([] : List Int), false) else (spec_PlaceText.f k u s w).bind fun t => if t.toList = (ba x).toList then some (u, s, w, true) else some (([] : List Int), (0 : Int), ([] : List Int), false)) (chkP x u s w) := by
  simp only [toList_ba]
  by_cases h : x = []
  · have hc : chkP x u s w = ([], 0, [], false) := if_neg (fun e => e.1 h)
    rw [hc]; exact ev_pos h (Ev.now _)
  refine ev_neg h (ev_bind (splacet_ev u s w hu hw) ?_)
  simp only [toList_ba]
  by_cases h2 : placeT u s w = x
  · have hc : chkP x u s w = (u, s, w, true) := if_pos ⟨h, h2⟩
    rw [hc]; exact ev_pos h2 (Ev.now _)
  · have hc : chkP x u s w = ([], 0, [], false) := if_neg (fun e => h2 e.2)
    rw [hc]; exact ev_neg h2 (Ev.now _)
theorem sword_loop (x a b t : Tx) (u : List Int) (s : Int) (hu : (u.length : Int) ≤ 1000000000000) (ht : t.length ≤ 1048576) (hne : t ≠ [46]) : ∀ (suf pre : Tx), t = pre ++ suf →
    Ev (fun k => spec_ReadPlace.l1 k (ba x) ([a, b, t].map ba) (pre.length : Int) u s (pre.map fun c => (c.toNat : Int) - 97)) (chkP x u s (t.map fun c => (c.toNat : Int) - 97)) := by
  have h2 : rdOf ByteArray.empty ([a, b, t].map ba) 2 = ba t := rfl
  intro suf
  induction suf with
  | nil =>
    intro pre h
    rw [List.append_nil] at h
    subst h
    refine ev_suc ?_
    simp only [spec_ReadPlace.l1, h2]
    refine ev_pos (by simp) (ev_neg (by rw [ba_size]; omega) (chk_ev x u s _ hu (by rw [List.length_map]; omega)))
  | cons c r ih =>
    intro pre h
    have e : t.length = pre.length + (r.length + 1) := by rw [h]; simp
    have hb : bt (ba t) (pre.length : Int) = (c.toNat : Int) := by rw [h]; exact bt_ba _ _ _
    have hc : c.toNat < 256 := c.toNat_lt
    refine ev_suc ?_
    simp only [spec_ReadPlace.l1, h2, hb]
    refine ev_pos (by simp) (ev_pos (by rw [ba_size]; omega) (ev_neg (by rw [toList_ba]; exact hne) (ev_pos (by omega) (ev_pos (by rw [List.length_map]; omega) ?_))))
    rw [w64 (n := (c.toNat : Int)) (by omega) (by omega), w64 (n := (c.toNat : Int) - 97) (by omega) (by omega), w64 (by omega) (by omega), len_at pre c]
    have := ih (pre ++ [c]) (by rw [h]; simp)
    simpa using this
theorem sword_ev (x a b t : Tx) (u : List Int) (s : Int) (hu : (u.length : Int) ≤ 1000000000000) (ht : t.length ≤ 1048576) : Ev (fun k => spec_ReadPlace.l1 k (ba x) ([a, b, t].map ba) 0 u s []) (chkP x u s (decW t)) := by
  by_cases hne : t = [46]
  · subst hne
    have h2 : rdOf ByteArray.empty ([a, b, [46]].map ba) 2 = ba [46] := rfl
    refine ev_suc ?_
    simp only [spec_ReadPlace.l1, h2]
    refine ev_pos (by simp) (ev_pos (by decide) (ev_pos (by rw [toList_ba]) ?_))
    exact chk_ev x u s [] hu (by simp)
  · unfold decW
    rw [if_neg hne]
    exact sword_loop x a b t u s hu ht hne t [] rfl
theorem srows_loop (x a b t : Tx) (ps : List Tx) (s : Int) (hl : ps.length ≤ 1048577) (hp : ∀ p ∈ ps, p.length ≤ 1048576) (r : List Int × Int × List Int × Bool)
    (hend : Ev (fun k => spec_ReadPlace.l1 k (ba x) ([a, b, t].map ba) 0 (ps.map dgv) s []) r) : ∀ (suf pre : List Tx), ps = pre ++ suf → Ev (fun k => spec_ReadPlace.l0 k (ba x) ([a, b, t].map ba) (ps.map ba) (pre.length : Int) (pre.map dgv) s) r := by
  intro suf
  induction suf with
  | nil =>
    intro pre h
    rw [List.append_nil] at h
    subst h
    refine ev_suc ?_
    simp only [spec_ReadPlace.l0]
    exact ev_neg (by rw [List.length_map]; omega) hend
  | cons p q ih =>
    intro pre h
    have e : ps.length = pre.length + (q.length + 1) := by rw [h]; simp
    have hr : rdOf ByteArray.empty (ps.map ba) (pre.length : Int) = ba p := by rw [rdOf_map, h]; simp
    have hpl := hp p (by rw [h]; simp)
    refine ev_suc ?_
    simp only [spec_ReadPlace.l0, hr]
    refine ev_pos (by rw [List.length_map]; omega) (ev_pos (by omega) (ev_bind (dgv_ev p (by omega)) (ev_pos (by rw [List.length_map]; omega) ?_)))
    rw [w64 (by omega) (by omega), len_at pre p]
    have := ih (pre ++ [p]) (by rw [h]; simp)
    simpa using this
theorem sreadp_ev (x : Tx) (hx : x.length ≤ 1048576) : Ev (fun k => spec_ReadPlace.f k (ba x)) (readP x) := by
  unfold spec_ReadPlace.f
  refine ev_bind (scut_ev 32 x (by omega) 32 rfl) ?_
  have hne : ∀ {u : List Int} {s : Int} {w : List Int}, placeT u s w = x → x ≠ [] → placeB u s w = true ∧ cutA 32 [] x = [rowT u, numT s, wordT w] ∧ cutA 44 [] (rowT u) = u.map numT := fun {u s w} h h2 => by
    have := place_cut (u := u) (s := s) (w := w) (by rw [h]; exact h2)
    rwa [h] at this
  rw [List.length_map]
  by_cases h3 : ((cutA 32 [] x).length : Int) = 3
  case neg =>
    refine ev_neg h3 ?_
    rw [readP_not fun u s w h => Classical.byContradiction fun h2 => by
      have := (hne h h2).2.1
      rw [this] at h3; simp at h3]
    exact Ev.now _
  obtain ⟨a, b, t, hc⟩ : ∃ a b t, cutA 32 [] x = [a, b, t] := by
    match hc : cutA 32 [] x with
    | [a, b, t] => exact ⟨a, b, t, rfl⟩
    | [] | [_] | [_, _] | _ :: _ :: _ :: _ :: _ => rw [hc] at h3; simp at h3; try omega
  have hs : ∀ p ∈ cutA 32 [] x, p.length ≤ 1048576 := fun p hp => by have := pieces_small 32 x [] p hp; simp at this; omega
  rw [hc] at hs hne h3 ⊢
  have ha := hs a (by simp)
  have hb := hs b (by simp)
  have ht := hs t (by simp)
  obtain ⟨v, hv⟩ := signed_some b (by omega)
  have e1 : rdOf ByteArray.empty ([a, b, t].map ba) 1 = ba b := rfl
  have e0 : rdOf ByteArray.empty ([a, b, t].map ba) 0 = ba a := rfl
  simp only [e0, e1]
  have hps : ∀ p ∈ cutA 44 [] a, p.length ≤ 1048576 := fun p hp => by have := pieces_small 44 a [] p hp; simp at this; omega
  have hpl : (cutA 44 [] a).length ≤ 1048577 := by have := cutA_len 44 a []; omega
  refine ev_pos h3 (ev_pos (by simp) (ev_bind hv (ev_pos (by simp) (ev_bind (scut_ev 44 a (by omega) 44 rfl) ?_))))
  have hw := srows_loop x a b t (cutA 44 [] a) v hpl hps _ (sword_ev x a b t _ v (by rw [List.length_map]; omega) ht) (cutA 44 [] a) [] rfl
  refine ev_eq hw ?_
  unfold chkP
  by_cases hm : x ≠ [] ∧ placeT ((cutA 44 [] a).map dgv) v (decW t) = x
  · rw [if_pos hm, readP_of hm.2 hm.1]
  · rw [if_neg hm, readP_not fun u s w h => Classical.byContradiction fun h2 => hm ⟨h2, ?_⟩]
    obtain ⟨p, q, r⟩ := hne h h2
    obtain ⟨b1, b2, b3, b4, b5, b6, _⟩ := place_data p
    simp only [List.cons.injEq, and_true] at q
    obtain ⟨rfl, rfl, rfl⟩ := q
    have hv' : v = s := ev_uniq hv (signed_ev (by omega) (by omega))
    rw [r, decW_wordT b6, hv', List.map_map]
    have : u.map (dgv ∘ numT) = u := by
      conv => rhs; rw [← List.map_id u]
      exact List.map_congr_left fun c hc => dgv_num (b1 c hc).1 (by have := (b1 c hc).2; omega)
    rw [this, h]
noncomputable def storeB (x y : Tx) (n : Int) : Bool := (readP x).2.2.2 && decide (y.length ≤ 1000) && decide (0 ≤ n ∧ n ≤ y.length)
theorem istore_ev (x y : Tx) (n : Int) (hx : x.length ≤ 1048576) : Ev (fun k => impl_StoreOk.f k (ba x) (ba y) n) (storeB x y n) := by
  unfold impl_StoreOk.f storeB
  refine ev_bind (ireadp_ev x hx) ?_
  by_cases h1 : (readP x).2.2.2 = true
  · refine ev_pos h1 ?_
    rw [h1, ba_size]
    by_cases h2 : (y.length : Int) ≤ 1000
    · refine ev_pos h2 ?_
      by_cases h3 : n ≥ 0
      · exact ev_pos h3 (ev_eq (Ev.now _) (by rw [Bool.eq_iff_iff]; simp; omega))
      · exact ev_neg h3 (ev_eq (Ev.now _) (by rw [Bool.eq_iff_iff]; simp; omega))
    · exact ev_neg h2 (ev_eq (Ev.now _) (by rw [Bool.eq_iff_iff]; simp; omega))
  · exact ev_neg h1 (ev_eq (Ev.now _) (by rw [Bool.eq_false_iff.2 h1]; rfl))
theorem sstore_ev (x y : Tx) (n : Int) (hx : x.length ≤ 1048576) : Ev (fun k => spec_StoreOk.f k (ba x) (ba y) n) (storeB x y n) := by
  unfold spec_StoreOk.f storeB
  refine ev_bind (sreadp_ev x hx) ?_
  by_cases h1 : (readP x).2.2.2 = true
  · refine ev_pos h1 ?_
    rw [h1, ba_size]
    by_cases h2 : (y.length : Int) ≤ 1000
    · refine ev_pos h2 ?_
      rw [l1In_eq]
      exact ev_eq (Ev.now _) (by rw [Bool.eq_iff_iff]; simp; omega)
    · exact ev_neg h2 (ev_eq (Ev.now _) (by rw [Bool.eq_iff_iff]; simp; omega))
  · exact ev_neg h1 (ev_eq (Ev.now _) (by rw [Bool.eq_false_iff.2 h1]; rfl))
theorem szStore_eq (x0 x1 : ByteArray) (n : Int) (h0 : x0.size ≤ maxLen) (h1 : x1.size ≤ maxLen) :
    ∃ r, laws_szStore.f x0 x1 n 1048576 = some r ∧ (r < 0 ∨ (0 ≤ r ∧ x0.size ≤ 1048576 ∧ x1.size ≤ 1048576)) := by
  unfold maxLen at h0 h1
  unfold laws_szStore.f
  rw [w64 (n := 1048576 - (x0.size : Int)) (by omega) (by omega)]
  by_cases h : (1048576 : Int) - (x0.size : Int) < 0
  · rw [if_pos h]; exact ⟨-1, rfl, .inl (by omega)⟩
  rw [if_neg h, w64 (n := 1048576 - (x0.size : Int) - (x1.size : Int)) (by omega) (by omega)]
  by_cases h2 : (1048576 : Int) - (x0.size : Int) - (x1.size : Int) < 0
  · rw [if_pos h2]; exact ⟨-1, rfl, .inl (by omega)⟩
  · rw [if_neg h2]; exact ⟨_, rfl, .inr ⟨by omega, by omega, by omega⟩⟩
theorem sdeed_far (k a b : Int) : Ev (fun n => spec_DeedText.j0 n true k a b) (ba []) := ev_suc (by simp only [spec_DeedText.j0]; exact ev_pos trivial (Ev.now _))
theorem sdeed_ev (k a b : Int) : Ev (fun n => spec_DeedText.f n k a b) (ba (deedT k a b)) := by
  unfold deedT spec_DeedText.f
  simp only [specIn_ev, Option.bind_some, decide_eq_true_eq]
  by_cases ha : -99 ≤ a ∧ a ≤ 99
  case neg => rw [if_neg (fun h => ha h.1)]; exact ev_neg ha (sdeed_far k a b)
  by_cases hb : -99 ≤ b ∧ b ≤ 99
  case neg =>
    rw [if_neg (fun h => hb h.2)]
    refine ev_pos ha ?_
    rw [decide_eq_false hb]
    exact sdeed_far k a b
  rw [if_pos ⟨ha, hb⟩]
  refine ev_pos ha ?_
  rw [decide_eq_true hb]
  refine ev_suc ?_
  simp only [spec_DeedText.j0, Bool.not_true, Bool.false_eq_true, if_false, Bool.and_eq_true, beq_iff_eq]
  obtain ⟨_, l1, l2⟩ := numT_bytes ha.1 ha.2
  obtain ⟨_, m1, m2⟩ := numT_bytes hb.1 hb.2
  split
  · refine ev_bind (l15Step_ev ha.1 ha.2) (ev_pos (by rw [ba_size]; omega) (ev_pos (by rw [litb, ba_append, ba_size, List.length_append]; simp; omega) (ev_bind (l15Step_ev hb.1 hb.2) (ev_pos ?_ ?_))))
    · rw [litb, litb, ba_append, ba_append, ba_size, ba_size]; simp; omega
    · rw [litb, litb, ba_append, ba_append, ba_append]
      refine ev_eq (Ev.now _) ?_
      simp [putW]
  split
  · exact ev_bind (l15Step_ev ha.1 ha.2) (ev_pos (by rw [ba_size]; omega) (ev_eq (Ev.now _) (by rw [litb, ba_append]; simp [stepW])))
  split
  · exact ev_bind (l15Step_ev ha.1 ha.2) (ev_pos (by rw [ba_size]; omega) (ev_eq (Ev.now _) (by rw [litb, ba_append]; simp [drawW])))
  split
  · exact Ev.now _
  split
  · exact Ev.now _
  · exact Ev.now _
theorem ideed_far (k a b : Int) : Ev (fun n => impl_DeedText.j0 n true k a b) (ba []) := ev_suc (by simp only [impl_DeedText.j0]; exact ev_pos trivial (Ev.now _))
theorem ideed_ev (k a b : Int) : Ev (fun n => impl_DeedText.f n k a b) (ba (deedT k a b)) := by
  unfold deedT impl_DeedText.f
  by_cases h1 : a < -99
  · rw [if_neg (fun h => by omega)]; exact ev_pos h1 (ideed_far k a b)
  refine ev_neg h1 ?_
  by_cases h2 : a > 99
  · rw [if_neg (fun h => by omega)]; exact ev_pos h2 (ideed_far k a b)
  refine ev_neg h2 ?_
  by_cases h3 : b < -99
  · rw [if_neg (fun h => by omega)]; exact ev_pos h3 (ideed_far k a b)
  refine ev_neg h3 ?_
  by_cases h4 : b > 99
  · rw [if_neg (fun h => by omega), decide_eq_true h4]; exact ideed_far k a b
  rw [if_pos (by omega), decide_eq_false h4]
  have ha : -99 ≤ a ∧ a ≤ 99 := by omega
  have hb : -99 ≤ b ∧ b ≤ 99 := by omega
  refine ev_suc ?_
  simp only [impl_DeedText.j0, Bool.false_eq_true, if_false, Bool.and_eq_true, beq_iff_eq, itoa_ev ha.1 ha.2, itoa_ev hb.1 hb.2, Option.bind_some]
  obtain ⟨_, l1, l2⟩ := numT_bytes ha.1 ha.2
  obtain ⟨_, m1, m2⟩ := numT_bytes hb.1 hb.2
  refine ev_pos (by rw [ba_size]; omega) ?_
  simp only [litb, ba_append, ba_size]
  split
  · rename_i hk
    refine ev_pos (by simp; omega) (ev_pos (by simp; omega) (ev_pos (by simp; omega) (ev_eq (Ev.now _) ?_)))
    simp [putW]
  rename_i hk
  by_cases hb0 : b = 0
  · refine ev_pos hb0 ?_
    simp only [hb0, and_true]
    split
    · exact ev_pos (by simp; omega) (ev_eq (Ev.now _) (by simp [stepW]))
    split
    · exact ev_pos (by simp; omega) (ev_eq (Ev.now _) (by simp [drawW]))
    by_cases ha0 : a = 0
    · refine ev_pos ha0 ?_
      simp only [ha0, and_true]
      split
      · exact Ev.now _
      split
      · exact Ev.now _
      · exact Ev.now _
    · refine ev_neg ha0 ?_
      simp only [ha0, and_false, if_false]
      exact Ev.now _
  · refine ev_neg hb0 ?_
    simp only [hb0, and_false, if_false]
    exact Ev.now _
theorem words_small (x : Tx) (hx : x.length ≤ 1048576) : ∀ i, ((cutA 32 [] x).getD i []).length ≤ 1048576 := by
  have : ∀ (l acc : Tx) (p : Tx), p ∈ cutA 32 acc l → p.length ≤ acc.length + l.length := by
    intro l
    induction l with
    | nil => intro acc p hp; simp [cutA] at hp; subst hp; simp
    | cons b l ih =>
      intro acc p hp
      unfold cutA at hp
      split at hp
      · rcases List.mem_cons.1 hp with rfl | hp
        · simp
        · have := ih [] p hp; simp at this ⊢; omega
      · have := ih _ p hp; simp at this ⊢; omega
  intro i
  rw [List.getD_eq_getElem?_getD]
  cases hg : (cutA 32 [] x)[i]? with
  | none => simp
  | some p =>
    have := this x [] p (List.mem_of_getElem? hg)
    simp at this ⊢; omega
/-- The word's number among the five. -/
def kindOf (w : Tx) : Int := if w = putW then 0 else if w = stepW then 1 else if w = drawW then 2 else if w = againW then 3 else if w = backW then 4 else -1
theorem kind_ev (w : Tx) : Ev (fun k => slices_Index_string_string.f k [ba putW, ba stepW, ba drawW, ba againW, ba backW] (ba w)) (kindOf w) := by
  unfold slices_Index_string_string.f kindOf
  refine ev_suc ?_
  simp only [slices_Index_string_string.l0]
  refine ev_pos (by decide) (ev_pos (by decide) (ev_pos (by decide) ?_))
  simp only [rdOf, toList_ba, List.length_cons, List.length_nil, Int.toNat_zero, List.getD_cons_zero, w64 (n := 0 + 1) (by decide) (by decide)]
  split
  · exact Ev.now _
  refine ev_suc ?_
  simp only [slices_Index_string_string.l0]
  refine ev_pos (by decide) (ev_pos (by decide) (ev_pos (by decide) ?_))
  have t1 : (0 + 1 : Int).toNat = 1 := rfl
  simp only [rdOf, toList_ba, t1, List.getD_cons_zero, List.getD_cons_succ, w64 (n := 0 + 1 + 1) (by decide) (by decide)]
  split
  · exact Ev.now _
  refine ev_suc ?_
  simp only [slices_Index_string_string.l0]
  refine ev_pos (by decide) (ev_pos (by decide) (ev_pos (by decide) ?_))
  have t2 : (0 + 1 + 1 : Int).toNat = 2 := rfl
  simp only [rdOf, toList_ba, t2, List.getD_cons_zero, List.getD_cons_succ, w64 (n := 0 + 1 + 1 + 1) (by decide) (by decide)]
  split
  · exact Ev.now _
  refine ev_suc ?_
  simp only [slices_Index_string_string.l0]
  refine ev_pos (by decide) (ev_pos (by decide) (ev_pos (by decide) ?_))
  have t3 : (0 + 1 + 1 + 1 : Int).toNat = 3 := rfl
  simp only [rdOf, toList_ba, t3, List.getD_cons_zero, List.getD_cons_succ, w64 (n := 0 + 1 + 1 + 1 + 1) (by decide) (by decide)]
  split
  · exact Ev.now _
  refine ev_suc ?_
  simp only [slices_Index_string_string.l0]
  refine ev_pos (by decide) (ev_pos (by decide) (ev_pos (by decide) ?_))
  have t4 : (0 + 1 + 1 + 1 + 1 : Int).toNat = 4 := rfl
  simp only [rdOf, toList_ba, t4, List.getD_cons_zero, List.getD_cons_succ, w64 (n := 0 + 1 + 1 + 1 + 1 + 1) (by decide) (by decide)]
  split
  · exact Ev.now _
  refine ev_suc ?_
  simp only [slices_Index_string_string.l0]
  exact ev_neg (by decide) (Ev.now _)
theorem kindOf_lt (w : Tx) : kindOf w < 5 := by unfold kindOf; repeat' split <;> try omega
theorem iread_end (x : Tx) (k a b : Int) (hd : ∀ k' a' b', deedT k' a' b' = x → x ≠ [] → (k, a, b) = (k', a', b')) (hx : x ≠ []) :
    (if (ba (deedT k a b)).toList = (ba x).toList then some (k, a, b, true) else some (0, 0, 0, false)) = some (readD x) := by
  simp only [toList_ba]
  split
  · rename_i h; rw [readD_of h hx]
  · rename_i h
    rw [readD_not fun k' a' b' h' => ?_]
    by_cases h0 : x = []
    · exact h0
    · have := hd k' a' b' h' h0
      simp only [Prod.mk.injEq] at this
      obtain ⟨rfl, rfl, rfl⟩ := this
      exact absurd h' h
theorem iread_ev (x : Tx) (hx : x.length ≤ 1048576) : Ev (fun k => impl_ReadDeed.f k (ba x)) (readD x) := by
  have hw := words_small x hx
  unfold impl_ReadDeed.f
  have hs := isplit_ev 32 x (by omega)
  have e32 : (⟨#[32]⟩ : ByteArray) = ba [32] := rfl
  simp only [e32, hs, Option.bind_some, List.length_map, rdOf_map]
  have hp := cutA_pos 32 x []
  have hcut : ∀ {k a b : Int}, deedT k a b = x → x ≠ [] → _ := fun {k a b} h h2 => deed_cases (k := k) (a := a) (b := b) (by rw [h]; exact h2)
  refine ev_pos (by omega) (ev_bind (kind_ev _) ?_)
  have t0 : (0 : Int).toNat = 0 := rfl
  rw [t0]
  by_cases hk : kindOf ((cutA 32 [] x).getD 0 []) < 0
  · refine ev_pos hk (ev_suc ?_)
    simp only [impl_ReadDeed.j0]
    refine ev_pos trivial ?_
    rw [readD_not fun k a b e => ?_]
    · exact Ev.now _
    by_cases h0 : x = []
    · exact h0
    obtain ⟨_, c⟩ := hcut e h0
    rw [e] at c
    exfalso
    rcases c with ⟨_, _, c⟩ | ⟨_, _, _, c⟩ | ⟨_, _, _, c⟩ | ⟨_, _, _, _, c⟩ | ⟨_, _, _, _, c⟩ <;> rw [c, List.getD_cons_zero] at hk <;> exact absurd hk (by decide)
  refine ev_neg hk ?_
  have hx0 : x ≠ [] := by rintro rfl; exact hk (by decide)
  by_cases h3 : ((cutA 32 [] x).length : Int) > 3
  · rw [decide_eq_true h3]
    refine ev_suc ?_
    simp only [impl_ReadDeed.j0]
    refine ev_pos trivial ?_
    rw [readD_not fun k a b e => ?_]
    · exact Ev.now _
    obtain ⟨_, c⟩ := hcut e hx0
    rw [e] at c
    exfalso
    rcases c with ⟨_, _, c⟩ | ⟨_, _, _, c⟩ | ⟨_, _, _, c⟩ | ⟨_, _, _, _, c⟩ | ⟨_, _, _, _, c⟩ <;> rw [c] at h3 <;> simp at h3
  rw [decide_eq_false h3]
  refine ev_suc ?_
  simp only [impl_ReadDeed.j0, Bool.false_eq_true, if_false, Option.bind_some, List.length_map, rdOf_map, List.length_cons, List.length_nil]
  have hk5 := kindOf_lt ((cutA 32 [] x).getD 0 [])
  have hrd : rd [0, 1, 2, 3, 4] (kindOf ((cutA 32 [] x).getD 0 [])) = kindOf ((cutA 32 [] x).getD 0 []) := by
    generalize kindOf ((cutA 32 [] x).getD 0 []) = n at hk hk5
    obtain ⟨m, rfl⟩ := Int.eq_ofNat_of_zero_le (Int.not_lt.1 hk)
    have : m = 0 ∨ m = 1 ∨ m = 2 ∨ m = 3 ∨ m = 4 := by omega
    rcases this with rfl | rfl | rfl | rfl | rfl <;> rfl
  refine ev_pos (by omega) (ev_pos (by simpa using hk5) ?_)
  rw [hrd]
  obtain ⟨e1, h1⟩ := atoi_ev _ (hw 1)
  obtain ⟨e2, h2⟩ := atoi_ev _ (hw 2)
  have t1 : (1 : Int).toNat = 1 := rfl
  have t2 : (2 : Int).toNat = 2 := rfl
  rw [t1, h1]
  by_cases hl1 : ((cutA 32 [] x).length : Int) > 1
  · refine ev_pos hl1 (ev_pos (by omega) ?_)
    simp only [Option.bind_some]
    refine ev_suc ?_
    simp only [impl_ReadDeed.j1, List.length_map, rdOf_map, t2, h2, Option.bind_some]
    by_cases hl2 : ((cutA 32 [] x).length : Int) > 2
    · refine ev_pos hl2 (ev_pos (by omega) (ev_bind (ideed_ev _ _ _) ?_))
      refine Ev.congr (fun _ => iread_end x _ _ _ (fun k a b e h0 => ?_) hx0) (Ev.now _)
      obtain ⟨⟨⟨r1, r2⟩, r3, r4⟩, c⟩ := hcut e h0
      rw [e] at c
      rcases c with ⟨rfl, _, c⟩ | ⟨_, _, _, c⟩ | ⟨_, _, _, c⟩ | ⟨_, _, _, _, c⟩ | ⟨_, _, _, _, c⟩ <;> rw [c] at hl2 ⊢ <;> simp at hl2
      simp [numA_numT r1 r2, numA_numT r3 r4, kindOf]
    · refine ev_neg hl2 (ev_bind (ideed_ev _ _ _) ?_)
      refine Ev.congr (fun _ => iread_end x _ _ _ (fun k a b e h0 => ?_) hx0) (Ev.now _)
      obtain ⟨⟨⟨r1, r2⟩, r3, r4⟩, c⟩ := hcut e h0
      rw [e] at c
      rcases c with ⟨rfl, _, c⟩ | ⟨rfl, rfl, _, c⟩ | ⟨rfl, rfl, _, c⟩ | ⟨_, _, _, _, c⟩ | ⟨_, _, _, _, c⟩ <;> rw [c] at hl1 hl2 ⊢ <;> simp at hl1 hl2
      · simp [numA_numT r1 r2, kindOf, putW, stepW]
      · simp [numA_numT r1 r2, kindOf, putW, stepW, drawW]
  · refine ev_neg hl1 (ev_suc ?_)
    simp only [impl_ReadDeed.j1, List.length_map]
    refine ev_neg (by omega) (ev_bind (ideed_ev _ _ _) ?_)
    refine Ev.congr (fun _ => iread_end x _ _ _ (fun k a b e h0 => ?_) hx0) (Ev.now _)
    obtain ⟨_, c⟩ := hcut e h0
    rw [e] at c
    rcases c with ⟨rfl, _, c⟩ | ⟨rfl, rfl, _, c⟩ | ⟨rfl, rfl, _, c⟩ | ⟨rfl, rfl, rfl, _, c⟩ | ⟨rfl, rfl, rfl, _, c⟩ <;> rw [c] at hl1 ⊢ <;> simp at hl1
    · simp [kindOf, putW, stepW, drawW, againW]
    · simp [kindOf, putW, stepW, drawW, againW, backW]
def mkD (d : Int × Int × Int) : S34 := ⟨d.1, d.2.1, d.2.2⟩
theorem cut_one (s : Tx) : (Lib.cut s [10] = (s, [], false) ∧ (10 : UInt8) ∉ s) ∨ ∃ l r, s = l ++ 10 :: r ∧ (10 : UInt8) ∉ l ∧ Lib.cut s [10] = (l, r, true) := by
  rcases index_one 10 s with ⟨h1, h2⟩ | ⟨l, r, rfl, h2, h3⟩
  · exact Or.inl ⟨by simp [Lib.cut, h1], h2⟩
  · refine Or.inr ⟨l, r, rfl, h2, ?_⟩
    have : ¬ ((l.length : Int) = -1) := by omega
    simp [Lib.cut, h3, this]
theorem ireadj_loop (x : Tx) (hx : x.length ≤ 1048576) : ∀ (n : Nat) (s pre : Tx) (ds : List (Int × Int × Int)), s.length ≤ n → x = pre ++ s → ds.length ≤ pre.length →
    Ev (fun k => impl_ReadJournal.l0 k (ba x) (ds.map mkD) (pre.length : Int)) ((rjL (cutA 10 [] s) ds pre.length).1.map mkD, ((rjL (cutA 10 [] s) ds pre.length).2 : Int)) := by
  intro n
  induction n with
  | zero =>
    intro s pre ds hs h hd
    obtain rfl := List.eq_nil_of_length_eq_zero (Nat.le_zero.1 hs)
    have e : x.length = pre.length := by rw [h]; simp
    refine ev_suc ?_
    simp only [impl_ReadJournal.l0]
    refine ev_pos (by omega) (ev_pos (by rw [ba_size]; omega) ?_)
    have e2 : (ba x).extract (pre.length : Int).toNat (ba x).size = ba [] := by rw [ba_extract]; congr 1; rw [h]; simp
    simp only [e2, strings_Cut.f]
    refine ev_bind (Ev.now _) ?_
    refine ev_bind (iread_ev [] (by simp)) ?_
    refine ev_neg (by decide) ?_
    simp only [cutA, rjL]
    exact Ev.now _
  | succ n ih =>
    intro s pre ds hs h hd
    have e : x.length = pre.length + s.length := by rw [h]; simp
    refine ev_suc ?_
    simp only [impl_ReadJournal.l0]
    refine ev_pos (by omega) (ev_pos (by rw [ba_size]; omega) ?_)
    have e2 : (ba x).extract (pre.length : Int).toNat (ba x).size = ba s := by rw [ba_extract]; congr 1; rw [h, ba_size]; simp
    have e3 : (⟨#[10]⟩ : ByteArray) = ba [10] := rfl
    simp only [e2, e3, strings_Cut.f]
    simp only [ba_size, ba_list]
    rw [if_pos (by omega)]
    simp only [Option.bind_some]
    rcases cut_one s with ⟨h1, h2⟩ | ⟨l, r, rfl, h2, h3⟩
    · rw [h1]
      refine ev_bind (iread_ev s (by omega)) (ev_neg (by simp) ?_)
      rw [cutA_none s [] h2]
      simp only [rjL]
      exact Ev.now _
    · rw [h3]
      have el : (l ++ 10 :: r).length = l.length + (r.length + 1) := by simp
      refine ev_bind (iread_ev l (by omega)) (ev_pos rfl ?_)
      rw [cutA_hit l [] r h2, List.nil_append, rjL_cut]
      by_cases ho : (readD l).2.2.2 = true
      · refine ev_pos ho (ev_pos (by rw [List.length_map]; omega) ?_)
        rw [if_pos ho]
        have e4 : (⟨l.toArray⟩ : ByteArray).size = l.length := ba_size l
        rw [e4, w64 (n := (l.length : Int) + 1) (by omega) (by omega), w64 (by omega) (by omega)]
        have := ih r (pre ++ l ++ [10]) (ds ++ [((readD l).1, (readD l).2.1, (readD l).2.2.1)]) (by omega) (by rw [h]; simp) (by simp; omega)
        have e5 : (pre ++ l ++ [10]).length = pre.length + l.length + 1 := by simp; omega
        rw [e5] at this
        simp only [List.map_append, List.map_cons, List.map_nil, mkD] at this
        have e6 : (pre.length : Int) + ((l.length : Int) + 1) = ((pre.length + l.length + 1 : Nat) : Int) := by omega
        rw [e6]
        exact this
      · refine ev_neg ho ?_
        rw [if_neg ho]
        exact Ev.now _
theorem ireadj_ev (x : Tx) (hx : x.length ≤ 1048576) : Ev (fun k => impl_ReadJournal.f k (ba x)) ((readJ x).1.map mkD, ((readJ x).2 : Int)) := by
  unfold impl_ReadJournal.f readJ
  exact ireadj_loop x hx _ x [] [] (Nat.le_refl _) rfl (Nat.le_refl _)
theorem rjL_len : ∀ (ps : List Tx) (ds : List (Int × Int × Int)) (n : Nat), (rjL ps ds n).1.length ≤ ds.length + ps.length
  | p :: q :: t, ds, n => by
    rw [rjL]
    split
    · have := rjL_len (q :: t) (ds ++ [((readD p).1, (readD p).2.1, (readD p).2.2.1)]) (n + p.length + 1)
      simp at this ⊢; omega
    · simp
  | [_], ds, n => by simp [rjL]
  | [], ds, n => by simp [rjL]
theorem readJ_len (x : Tx) : (readJ x).1.length ≤ x.length + 1 := by
  have h1 := rjL_len (cutA 10 [] x) [] 0
  have h2 := cutA_len 10 x []
  unfold readJ
  simp at h1; omega
theorem cand_loop (x : Tx) (cs : List S34) (hl : cs.length ≤ 1000) : ∀ (suf pre : List S34), cs = pre ++ suf →
    (∀ k a b, deedT k a b = x → x ≠ [] → (⟨k, a, b⟩ : S34) ∈ suf) → Ev (fun k => spec_ReadDeed.l0 k (ba x) cs (pre.length : Int)) (readD x) := by
  intro suf
  induction suf with
  | nil =>
    intro pre h hd
    have e : cs.length = pre.length := by rw [h]; simp
    refine ev_suc ?_
    simp only [spec_ReadDeed.l0]
    refine ev_neg (by omega) ?_
    rw [readD_not fun k a b h => ?_]
    · exact Ev.now _
    by_cases hx : x = []
    · exact hx
    · exact absurd (hd k a b h hx) (by simp)
  | cons c t ih =>
    intro pre h hd
    have e : cs.length = pre.length + (t.length + 1) := by rw [h]; simp
    have hc : rd_T34 cs (pre.length : Int) = c := by rw [h]; simp [rd_T34]
    refine ev_suc ?_
    simp only [spec_ReadDeed.l0, toList_ba, hc]
    rw [w64 (by omega) (by omega), len_at pre c]
    refine ev_pos (by omega) ?_
    by_cases hx : x = []
    · refine ev_pos hx (ih (pre ++ [c]) (by rw [h]; simp) fun _ _ _ _ h => absurd hx h)
    refine ev_neg hx (ev_pos (by omega) (ev_bind (sdeed_ev _ _ _) ?_))
    simp only [toList_ba]
    by_cases hm : deedT c.f0 c.f1 c.f2 = x
    · refine ev_pos hm ?_
      rw [readD_of hm hx]
      exact Ev.now _
    · refine ev_neg hm (ih (pre ++ [c]) (by rw [h]; simp) fun k a b h1 h2 => ?_)
      rcases List.mem_cons.1 (hd k a b h1 h2) with h3 | h3
      · exact absurd (by rw [← h3]; exact h1) hm
      · exact h3
theorem sread_ev (x : Tx) (hx : x.length ≤ 1048576) : Ev (fun k => spec_ReadDeed.f k (ba x)) (readD x) := by
  unfold spec_ReadDeed.f
  refine ev_bind (scut_ev 32 x (by omega) 32 rfl) ?_
  simp only [Option.bind_some, List.length_map, rdOf_map]
  have hcut : ∀ {k a b : Int}, deedT k a b = x → x ≠ [] → _ := fun {k a b} h h2 => deed_cases (k := k) (a := a) (b := b) (by rw [h]; exact h2)
  have hw := words_small x hx
  obtain ⟨v1, h1⟩ := signed_some _ (Nat.le_trans (hw 1) (by omega))
  obtain ⟨v2, h2⟩ := signed_some _ (Nat.le_trans (hw 2) (by omega))
  have h3 : ∀ cs : List S34, cs.length ≤ 4 → (∀ k a b, deedT k a b = x → x ≠ [] → (⟨k, a, b⟩ : S34) ∈ cs) → Ev (fun k => spec_ReadDeed.j1 k (ba x) cs) (readD x) := fun cs hl hd =>
    ev_suc (by simp only [spec_ReadDeed.j1]; exact cand_loop x cs (by omega) cs [] rfl hd)
  by_cases hl2 : ((cutA 32 [] x).length : Int) = 2
  · refine ev_pos hl2 (ev_pos (by omega) (ev_bind h1 (ev_pos (by simp) (ev_suc ?_))))
    simp only [spec_ReadDeed.j0, List.length_map]
    refine ev_neg (by omega) (h3 _ (by simp) fun k a b e hx0 => ?_)
    obtain ⟨⟨⟨r1, r2⟩, _⟩, c⟩ := hcut e hx0
    rw [e] at c
    rcases c with ⟨_, _, c⟩ | ⟨rfl, rfl, _, c⟩ | ⟨rfl, rfl, _, c⟩ | ⟨rfl, rfl, rfl, _, c⟩ | ⟨rfl, rfl, rfl, _, c⟩ <;> rw [c] at hl2 h1 <;> simp at hl2
    · have : v1 = a := ev_uniq h1 (signed_ev r1 r2)
      subst this; simp
    · have : v1 = a := ev_uniq h1 (signed_ev r1 r2)
      subst this; simp
  refine ev_neg hl2 (ev_suc ?_)
  simp only [spec_ReadDeed.j0, List.length_map, rdOf_map]
  by_cases hl3 : ((cutA 32 [] x).length : Int) = 3
  · refine ev_pos hl3 (ev_pos (by omega) (ev_bind h1 (ev_pos (by omega) (ev_bind h2 (ev_pos (by simp) (h3 _ (by simp) fun k a b e hx0 => ?_))))))
    obtain ⟨⟨⟨r1, r2⟩, r3, r4⟩, c⟩ := hcut e hx0
    rw [e] at c
    rcases c with ⟨rfl, _, c⟩ | ⟨rfl, rfl, _, c⟩ | ⟨rfl, rfl, _, c⟩ | ⟨rfl, rfl, rfl, _, c⟩ | ⟨rfl, rfl, rfl, _, c⟩ <;> rw [c] at hl3 h1 h2 <;> simp at hl3
    have e1 : v1 = a := ev_uniq h1 (signed_ev r1 r2)
    have e2 : v2 = b := ev_uniq h2 (signed_ev r3 r4)
    subst e1; subst e2; simp
  · refine ev_neg hl3 (h3 _ (by simp) fun k a b e hx0 => ?_)
    obtain ⟨_, c⟩ := hcut e hx0
    rw [e] at c
    rcases c with ⟨rfl, _, c⟩ | ⟨rfl, rfl, _, c⟩ | ⟨rfl, rfl, _, c⟩ | ⟨rfl, rfl, rfl, _, c⟩ | ⟨rfl, rfl, rfl, _, c⟩ <;> rw [c] at hl2 hl3 <;> simp at hl2 hl3 ⊢
theorem sreadj_loop (x : Tx) (hx : x.length ≤ 1048576) : ∀ (suf acc pre : Tx) (ds : List (Int × Int × Int)), x = pre ++ (acc ++ suf) → ds.length ≤ pre.length →
    Ev (fun k => spec_ReadJournal.l0 k (ba x) (ds.map mkD) (pre.length : Int) ((pre ++ acc).length : Int)) ((rjL (cutA 10 acc suf) ds pre.length).1.map mkD, ((rjL (cutA 10 acc suf) ds pre.length).2 : Int)) := by
  intro suf
  induction suf with
  | nil =>
    intro acc pre ds h hd
    have e : x.length = pre.length + acc.length := by rw [h]; simp
    have ha : (pre ++ acc).length = pre.length + acc.length := List.length_append
    refine ev_suc ?_
    simp only [spec_ReadJournal.l0]
    refine ev_neg (by rw [ba_size]; omega) ?_
    simp only [cutA, rjL]
    exact Ev.now _
  | cons b t ih =>
    intro acc pre ds h hd
    have e : x.length = pre.length + (acc.length + (t.length + 1)) := by rw [h]; simp
    have ha : (pre ++ acc).length = pre.length + acc.length := List.length_append
    have hb : bt (ba x) ((pre ++ acc).length : Int) = (b.toNat : Int) := by rw [h, ← List.append_assoc]; exact bt_ba _ _ _
    refine ev_suc ?_
    simp only [spec_ReadJournal.l0]
    refine ev_pos (by rw [ba_size]; omega) (ev_pos (by omega) ?_)
    rw [hb]
    by_cases hc : b = 10
    · subst hc
      refine ev_pos rfl (ev_pos (by omega) (ev_pos (by omega) (ev_pos (by rw [ba_size]; omega) ?_)))
      rw [ba_extract]
      have e2 : (x.drop (pre.length : Int).toNat).take (((pre ++ acc).length : Int).toNat - (pre.length : Int).toNat) = acc := by
        rw [Int.toNat_natCast, Int.toNat_natCast, ha, Nat.add_sub_cancel_left, h, List.drop_left, List.take_left]
      rw [e2]
      refine ev_bind (sread_ev acc (by omega)) ?_
      rw [cutA, if_pos rfl, rjL_cut]
      by_cases ho : (readD acc).2.2.2 = true
      · refine ev_pos ho (ev_pos (by rw [List.length_map]; omega) ?_)
        rw [w64 (by omega) (by omega), if_pos ho]
        have := ih [] (pre ++ acc ++ [10]) (ds ++ [((readD acc).1, (readD acc).2.1, (readD acc).2.2.1)]) (h.trans (by simp [List.append_assoc])) (by simp; omega)
        have e3 : (((pre ++ acc).length : Int) + 1) = ((pre ++ acc ++ [10]).length : Int) := len_at _ _
        have e4 : (pre ++ acc ++ [10]).length = pre.length + acc.length + 1 := by simp; omega
        rw [e3]
        rw [List.append_nil, e4] at this
        simp only [List.map_append, List.map_cons, List.map_nil, mkD] at this
        rw [e4]
        exact this
      · refine ev_neg ho ?_
        rw [if_neg ho]
        exact Ev.now _
    · have h10 : (10 : UInt8).toNat = 10 := rfl
      refine ev_neg (fun e => hc (UInt8.toNat_inj.1 (by omega))) ?_
      rw [w64 (by omega) (by omega)]
      have := ih (acc ++ [b]) pre ds (by rw [h]; simp) hd
      have e3 : (((pre ++ acc).length : Int) + 1) = ((pre ++ (acc ++ [b])).length : Int) := by rw [← List.append_assoc]; exact len_at _ _
      rw [e3, cutA, if_neg hc]
      exact this
theorem sreadj_ev (x : Tx) (hx : x.length ≤ 1048576) : Ev (fun k => spec_ReadJournal.f k (ba x)) ((readJ x).1.map mkD, ((readJ x).2 : Int)) := by
  unfold spec_ReadJournal.f readJ
  exact sreadj_loop x hx x [] [] [] rfl (Nat.le_refl _)
def sumL : List Tx → Nat
  | [] => 0
  | p :: t => p.length + 1 + sumL t
theorem cutA_sum (c : UInt8) : ∀ (s acc : Tx), sumL (cutA c acc s) = acc.length + s.length + 1
  | [], acc => by simp [cutA, sumL]
  | b :: s, acc => by
    unfold cutA
    split
    · simp [sumL, cutA_sum c s []]; omega
    · rw [cutA_sum c s]; simp; omega
theorem rjL_le : ∀ (ps : List Tx) (ds : List (Int × Int × Int)) (n : Nat), 1 ≤ ps.length → (rjL ps ds n).2 + 1 ≤ n + sumL ps
  | p :: q :: t, ds, n, _ => by
    rw [rjL]
    split
    · have := rjL_le (q :: t) (ds ++ [((readD p).1, (readD p).2.1, (readD p).2.2.1)]) (n + p.length + 1) (by simp)
      simp only [sumL] at this ⊢; omega
    · simp only [sumL]; omega
  | [p], ds, n, _ => by simp only [rjL, sumL]; omega
  | [], _, _, h => by simp at h
theorem readJ_le (x : Tx) : (readJ x).2 ≤ x.length := by
  have h1 := rjL_le (cutA 10 [] x) [] 0 (cutA_pos 10 x [])
  rw [cutA_sum] at h1
  unfold readJ
  simp at h1 ⊢; omega

end FnExactStoreMend_parts
open FnExactStoreMend_parts
theorem FnExactStoreMend (x0 x1 : ByteArray) (x2 : Int) (ok : x0.size ≤ maxLen ∧ x1.size ≤ maxLen ∧ (Lit.int .i64 x2).wf = true) : ∃ k, laws_FnExactStoreMend.f k x0 x1 x2 = some true := by
  refine Ev.rounds ?_
  unfold laws_FnExactStoreMend.f
  obtain ⟨r, hr, h⟩ := szStore_eq x0 x1 x2 ok.1 ok.2.1
  rw [hr]
  simp only [Option.bind_some]
  rcases h with h | ⟨h2, h0, h1⟩
  · exact ev_pos h (Ev.now _)
  refine ev_neg (by omega) ?_
  obtain ⟨x, rfl⟩ := ba_get x0
  obtain ⟨y, rfl⟩ := ba_get x1
  rw [ba_size] at h0 h1
  have hl := readJ_le y
  have e1 : Ev (fun k => spec_StoreMend.f k (ba x) (ba y) x2) (if storeB x y x2 = true then (ba x, (ba y).extract 0 (((readJ y).2 : Int)).toNat, mn x2 ((readJ y).2 : Int), true) else (ba [], ba [], 0, false)) := by
    unfold spec_StoreMend.f
    refine ev_bind (sstore_ev x y x2 h0) ?_
    by_cases hs : storeB x y x2 = true
    · exact ev_pos hs (ev_bind (sreadj_ev y h1) (ev_pos (by simp) (ev_pos (by rw [ba_size]; simp only []; omega) (ev_eq (Ev.now _) (by rw [if_pos hs])))))
    · exact ev_neg hs (ev_eq (Ev.now _) (by rw [if_neg hs]; rfl))
  have e2 : Ev (fun k => impl_StoreMend.f k (ba x) (ba y) x2) (if storeB x y x2 = true then (ba x, (ba y).extract 0 (((readJ y).2 : Int)).toNat, mn x2 ((readJ y).2 : Int), true) else (ba [], ba [], 0, false)) := by
    unfold impl_StoreMend.f
    refine ev_bind (istore_ev x y x2 h0) ?_
    by_cases hs : storeB x y x2 = true
    · exact ev_pos hs (ev_bind (ireadj_ev y h1) (ev_pos (by simp) (ev_pos (by rw [ba_size]; simp only []; omega) (ev_eq (Ev.now _) (by rw [if_pos hs])))))
    · exact ev_neg hs (ev_eq (Ev.now _) (by rw [if_neg hs]; rfl))
  simp only [laws_toStore.f, Option.bind_some]
  refine ev_bind e1 (ev_bind e2 ?_)
  simp only [laws_eqStore.f, if_true, Option.bind_some, bne_self_eq_false]
  exact ev_neg (by simp) (Ev.now _)
end Go.Proofs.YtfibbdefcppfcaaGreatDoor.Pure
