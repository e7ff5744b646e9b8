/- For the law FnExactStoreOpen: every store is opened by the program as by the reference, and the desk that is handed back is of its own. The conditions: the bytes or numbers that come in are of their kinds, as the statement says. -/
import Derived.Test.YtmodbemkflkbeaaGreatDoorMFnExactStoreOpenx16
import Derived.Test.YtmodbemkflkbeaaGreatDoorBase
import Derived.Test.YtmodbemkflkbeaaGreatDoorMath
import Derived.Test.YtmodbemkflkbeaaGreatDoorPlace
import Derived.Test.YtmodbemkflkbeaaGreatDoorDeed
import Derived.Test.YtmodbemkflkbeaaGreatDoorText
namespace Go.Proofs.YtmodbemkflkbeaaGreatDoor.Pure
open Go.RowKit Go.Proofs.YtmodbemkflkbeaaGreatDoor.MFnExactStoreOpen Go.Proofs.YtmodbemkflkbeaaGreatDoorW.PrintWords Go.Proofs.YtmodbemkflkbeaaGreatDoorW.PrintLast Go.Proofs.YtmodbemkflkbeaaGreatDoor.Base
namespace FnExactStoreOpen_parts
theorem colours_ev (n : Int) : impl_coloursOk.f n = some (decide (1 ≤ n) && decide (n ≤ 3)) := by
  unfold impl_coloursOk.f
  by_cases h : n ≥ 1
  · rw [if_pos h]; simp; omega
  · rw [if_neg h]; simp; omega
theorem urnB_no {u : List Int} {x : Int} (hx : x ∈ u) (h : ¬ (0 ≤ x ∧ x ≤ 40)) : urnB u = false := by
  cases e : urnB u with
  | false => rfl
  | true => exact absurd (((urnB_iff u).1 e).1 x hx) h
theorem implUrn_loop (l : List Int) (hl : (l.length : Int) ≤ 1000000000000) : ∀ (suf pre : List Int), l = pre ++ suf → (∀ x ∈ pre, 0 ≤ x ∧ x ≤ 40) →
    Ev (fun k => impl_UrnOk.l0 k l l (l.length : Int) (pre.length : Int)) (urnB l) := by
  intro suf
  induction suf with
  | nil =>
    intro pre h hr
    have e : l.length = pre.length := by rw [h]; simp
    refine ev_suc ?_
    simp (disch := omega) only [impl_UrnOk.l0, if_neg, colours_ev]
    refine ev_now ?_
    rw [List.append_nil] at h
    subst h
    rw [Bool.eq_iff_iff, urnB_iff]
    simp only [Bool.and_eq_true, decide_eq_true_eq]
    exact ⟨fun h => ⟨hr, by omega, by omega⟩, fun h => ⟨by omega, by omega⟩⟩
  | cons x t ih =>
    intro pre h hr
    have e : l.length = pre.length + (t.length + 1) := by rw [h]; simp
    have hx : rd l (pre.length : Int) = x := by rw [h]; exact rd_at _ _ _
    have hxl : x ∈ l := by rw [h]; simp
    refine ev_suc ?_
    simp (disch := omega) only [impl_UrnOk.l0, hx, if_pos]
    by_cases h1 : x < 0
    · exact ev_pos h1 (ev_now (urnB_no hxl (by omega)).symm)
    · refine ev_neg h1 ?_
      by_cases h2 : x > 40
      · exact ev_pos h2 (ev_now (urnB_no hxl (by omega)).symm)
      · refine ev_neg h2 ?_
        rw [w64 (by omega) (by omega), len_at pre x]
        refine ih (pre ++ [x]) (by rw [h]; simp) ?_
        intro y hy
        rcases List.mem_append.1 hy with hy | hy
        · exact hr y hy
        · rw [List.mem_singleton] at hy; subst hy; omega
theorem implUrnOk_ev (l : List Int) (hl : (l.length : Int) ≤ 1000000000000) : Ev (fun k => impl_UrnOk.f k l) (urnB l) := by
  simp only [impl_UrnOk.f]
  exact implUrn_loop l hl l [] rfl (by simp)
theorem implStart_loop (l : List Int) (hl : (l.length : Int) ≤ 1000000000000) : ∀ (suf pre : List Int), l = pre ++ suf → (∀ x ∈ pre, x ≤ 10) →
    Ev (fun k => impl_StartOk.l0 k l l (l.length : Int) (pre.length : Int)) (startB l) := by
  intro suf
  induction suf with
  | nil =>
    intro pre h hr
    have e : l.length = pre.length := by rw [h]; simp
    refine ev_suc ?_
    simp (disch := omega) only [impl_StartOk.l0, if_neg]
    refine ev_bind (implUrnOk_ev l hl) (ev_now ?_)
    rw [List.append_nil] at h
    subst h
    have : (l.all fun x => decide (x ≤ 10)) = true := by simpa using hr
    simp [startB, this]
  | cons x t ih =>
    intro pre h hr
    have e : l.length = pre.length + (t.length + 1) := by rw [h]; simp
    have hx : rd l (pre.length : Int) = x := by rw [h]; exact rd_at _ _ _
    have hxl : x ∈ l := by rw [h]; simp
    refine ev_suc ?_
    simp (disch := omega) only [impl_StartOk.l0, hx, if_pos]
    by_cases h1 : x > 10
    · refine ev_pos h1 (ev_now ?_)
      cases e : startB l with
      | false => rfl
      | true => have := ((startB_iff l).1 e).1 x hxl; omega
    · refine ev_neg h1 ?_
      rw [w64 (by omega) (by omega), len_at pre x]
      refine ih (pre ++ [x]) (by rw [h]; simp) ?_
      intro y hy
      rcases List.mem_append.1 hy with hy | hy
      · exact hr y hy
      · rw [List.mem_singleton] at hy; subst hy; omega
theorem implStartOk_ev (l : List Int) (hl : (l.length : Int) ≤ 1000000000000) : Ev (fun k => impl_StartOk.f k l) (startB l) := by
  simp only [impl_StartOk.f]
  exact implStart_loop l hl l [] rfl (by simp)
theorem wordB_no {n : Int} {w : List Int} {x : Int} (hx : x ∈ w) (h : ¬ (0 ≤ x ∧ x < n)) : wordB n w = false := by
  cases e : wordB n w with
  | false => rfl
  | true => exact absurd (((wordB_iff n w).1 e).1 x hx) h
theorem implWord_loop (n : Int) (l : List Int) (hl : (l.length : Int) ≤ 1000000000000) : ∀ (suf pre : List Int), l = pre ++ suf → (∀ x ∈ pre, 0 ≤ x ∧ x < n) →
    Ev (fun k => impl_WordOk.l0 k n l l (l.length : Int) (pre.length : Int)) (wordB n l) := by
  intro suf
  induction suf with
  | nil =>
    intro pre h hr
    have e : l.length = pre.length := by rw [h]; simp
    refine ev_suc ?_
    simp (disch := omega) only [impl_WordOk.l0, if_neg, colours_ev, Option.bind_some]
    rw [List.append_nil] at h
    subst h
    by_cases hn : 1 ≤ n ∧ n ≤ 3
    · refine ev_pos (by simp [hn]) (ev_now ?_)
      rw [Bool.eq_iff_iff, wordB_iff]
      simp only [decide_eq_true_eq]
      exact ⟨fun h => ⟨hr, by omega, hn⟩, fun h => by omega⟩
    · refine ev_neg (by simp only [Bool.and_eq_true, decide_eq_true_eq]; exact hn) (ev_now ?_)
      cases e : wordB n l with
      | false => rfl
      | true => exact absurd ((wordB_iff n l).1 e).2.2 hn
  | cons x t ih =>
    intro pre h hr
    have e : l.length = pre.length + (t.length + 1) := by rw [h]; simp
    have hx : rd l (pre.length : Int) = x := by rw [h]; exact rd_at _ _ _
    have hxl : x ∈ l := by rw [h]; simp
    refine ev_suc ?_
    simp (disch := omega) only [impl_WordOk.l0, hx, if_pos]
    by_cases h1 : x < 0
    · exact ev_pos h1 (ev_now (wordB_no hxl (by omega)).symm)
    · refine ev_neg h1 ?_
      by_cases h2 : x ≥ n
      · exact ev_pos h2 (ev_now (wordB_no hxl (by omega)).symm)
      · refine ev_neg h2 ?_
        rw [w64 (by omega) (by omega), len_at pre x]
        refine ih (pre ++ [x]) (by rw [h]; simp) ?_
        intro y hy
        rcases List.mem_append.1 hy with hy | hy
        · exact hr y hy
        · rw [List.mem_singleton] at hy; subst hy; omega
theorem implWordOk_ev (n : Int) (l : List Int) (hl : (l.length : Int) ≤ 1000000000000) : Ev (fun k => impl_WordOk.f k n l) (wordB n l) := by
  simp only [impl_WordOk.f]
  exact implWord_loop n l hl l [] rfl (by simp)
theorem clone_eq (l : List Int) (hl : (l.length : Int) ≤ 1000000000000) : slices_Clone_int_int.f l = some l := by
  unfold slices_Clone_int_int.f
  rw [if_pos (by omega)]
theorem added_loop (b : List Int) (hb : (b.length : Int) ≤ 1000000000) (hB : Within 1000000000 b) : ∀ (bs q p zs : List Int), b = q ++ bs → p.length = q.length → bs.length ≤ zs.length → Within 1000000000 zs →
    Ev (fun k => impl_added.l0 k (p ++ zs) b (b.length : Int) (q.length : Int)) (p ++ zipAdd zs bs) := by
  intro bs
  induction bs with
  | nil =>
    intro q p zs h _ _ _
    have e : b.length = q.length := by rw [h]; simp
    refine ev_suc ?_
    simp (disch := omega) only [impl_added.l0, if_neg]
    exact ev_now (by cases zs <;> simp [zipAdd])
  | cons y t ih =>
    intro q p zs h hpq hle hA
    cases zs with
    | nil => simp at hle
    | cons x zs =>
      have e : b.length = q.length + (t.length + 1) := by rw [h]; simp
      have hy : rd b (q.length : Int) = y := by rw [h]; exact rd_at _ _ _
      have hx : rd (p ++ x :: zs) (q.length : Int) = x := by rw [← hpq]; exact rd_at _ _ _
      have hl : ((p ++ x :: zs).length : Int) = (q.length : Int) + (zs.length + 1) := by simp; omega
      have by_ := hB y (by rw [h]; simp)
      have bx_ := hA x (by simp)
      refine ev_suc ?_
      simp (disch := omega) only [impl_added.l0, hl, hx, hy, if_pos, w64, Int.toNat_natCast]
      have hset : (p ++ x :: zs).set q.length (x + y) = p ++ [x + y] ++ zs := by rw [← hpq, set_at]; simp
      rw [hset, len_at q y]
      have := ih (q ++ [y]) (p ++ [x + y]) zs (by rw [h]; simp) (by simp [hpq]) (by simpa using hle) (fun z hz => hA z (by simp [hz]))
      simpa [zipAdd] using this
theorem added_ev (u : List Int) (s c : Int) (hu : u.length ≤ 3) (hs : -3 ≤ s ∧ s ≤ 3) (hc : 0 ≤ c ∧ c < (u.length : Int)) (hw : Within 1000000 u) :
    Ev (fun k => impl_added.f k u (rd_L2 (ruleM u.length s) c)) (bump s u c) := by
  have er : rd_L2 (ruleM u.length s) c = (List.replicate u.length (0 : Int)).set c.toNat s := ruleM_row hc.1 hc.2
  have hlen : ((List.replicate u.length (0 : Int)).set c.toNat s).length = u.length := by simp
  simp only [impl_added.f, clone_eq u (by omega), er, Option.bind_some]
  have hW := within_row (n := u.length) (c := c) hs
  have := added_loop ((List.replicate u.length (0 : Int)).set c.toNat s) (by omega) (fun x hx => by have := hW x hx; omega) ((List.replicate u.length (0 : Int)).set c.toNat s) [] [] u (by simp) rfl (by omega) (fun x hx => by have := hw x hx; omega)
  refine ev_eq this ?_
  rw [List.nil_append]
  exact zipAdd_row hu hc.1 hc.2
theorem after_loop (n : Nat) (s : Int) (hn : n ≤ 3) (hs : -3 ≤ s ∧ s ≤ 3) (w : List Int) (hw : w.length ≤ 100) (hwn : ∀ c ∈ w, 0 ≤ c ∧ c < (n : Int)) : ∀ (suf pre u : List Int) (b : Int), w = pre ++ suf → u.length = n → Within b u → 0 ≤ b → b + 3 * suf.length ≤ 1000000 →
    Ev (fun k => impl_after.l0 k (ruleM n s) u w (w.length : Int) (pre.length : Int)) (afterM s u suf) := by
  intro suf
  induction suf with
  | nil =>
    intro pre u b h _ _ _ _
    have e : w.length = pre.length := by rw [h]; simp
    refine ev_suc ?_
    simp (disch := omega) only [impl_after.l0, if_neg]
    exact ev_now rfl
  | cons x t ih =>
    intro pre u b h hu hb hb0 hb1
    have e : w.length = pre.length + (t.length + 1) := by rw [h]; simp
    have hx : rd w (pre.length : Int) = x := by rw [h]; exact rd_at _ _ _
    have hxn := hwn x (by rw [h]; simp)
    have hrl := ruleM_len n s
    simp only [List.length_cons] at hb1
    refine ev_suc ?_
    simp (disch := omega) only [impl_after.l0, hx, if_pos, hrl]
    subst hu
    refine ev_bind (added_ev u s x hn hs hxn (fun y hy => by have := hb y hy; omega)) ?_
    rw [w64 (by omega) (by omega), len_at pre x]
    rw [afterM_cons]
    have := ih (pre ++ [x]) (bump s u x) (b + 3) (by rw [h]; simp) (bump_len _ _ _) (within_bump hb hs x hxn) (by omega) (by omega)
    exact this
theorem after_ev (u : List Int) (s : Int) (w : List Int) (hu : u.length ≤ 3) (hs : -3 ≤ s ∧ s ≤ 3) (hw : w.length ≤ 100) (hwn : ∀ c ∈ w, 0 ≤ c ∧ c < (u.length : Int)) (hb : Within 1000 u) :
    Ev (fun k => impl_after.f k u (ruleM u.length s) w) (afterM s u w) := by
  simp only [impl_after.f, clone_eq u (by omega), Option.bind_some]
  exact after_loop u.length s hu hs w hw hwn w [] u 1000 rfl rfl hb (by omega) (by omega)
theorem ruleWays_loop (u : List Int) (s : Int) (w : List Int) (hu : u.length ≤ 3) (hs : -3 ≤ s ∧ s ≤ 3) (hw : w.length ≤ 6) (hwn : ∀ c ∈ w, 0 ≤ c ∧ c < (u.length : Int)) (hb : Within 10 u) : ∀ (suf pre : List Int) (m : Int), w = pre ++ suf → 0 ≤ m → m ≤ pw pre.length →
    Ev (fun k => impl_ruleWays.l0 k u (ruleM u.length s) w m w (w.length : Int) (pre.length : Int)) (m * waysM s (afterM s u pre) suf) := by
  intro suf
  induction suf with
  | nil =>
    intro pre m h h0 h1
    have e : w.length = pre.length := by rw [h]; simp
    refine ev_suc ?_
    simp (disch := omega) only [impl_ruleWays.l0, if_neg]
    exact ev_now (by simp [waysM])
  | cons x t ih =>
    intro pre m h h0 h1
    have e : w.length = pre.length + (t.length + 1) := by rw [h]; simp
    have hx : rd w (pre.length : Int) = x := by rw [h]; exact rd_at _ _ _
    have hxn := hwn x (by rw [h]; simp)
    have hpn : ∀ c ∈ pre, 0 ≤ c ∧ c < (u.length : Int) := fun c hc => hwn c (by rw [h]; simp [hc])
    have htake : w.take ((pre.length : Int)).toNat = pre := by rw [h]; simp
    have hal := afterM_len s pre u
    have hwi := within_after hs pre 10 u hb hpn
    have hv := hwi _ (rd_mem (b := afterM s u pre) (i := x) hxn.1 (by omega))
    have hmx : 0 ≤ mx 0 (rd (afterM s u pre) x) ∧ mx 0 (rd (afterM s u pre) x) ≤ 40 := by unfold mx; split <;> omega
    have hle := mul_le40 (n := pre.length) h0 h1 hmx.1 hmx.2
    have hnn := Int.mul_nonneg h0 hmx.1
    have hpw := pw_le (n := pre.length + 1) (by omega)
    refine ev_suc ?_
    simp (disch := omega) only [impl_ruleWays.l0, hx, if_pos, htake]
    refine ev_bind (after_ev u s pre hu hs (by omega) hpn (fun y hy => by have := hb y hy; omega)) ?_
    simp (disch := omega) only [hal, if_pos, w64]
    simp only [waysM, ← Int.mul_assoc]
    by_cases hz : m * mx 0 (rd (afterM s u pre) x) = 0
    · exact ev_pos hz (ev_now (by rw [hz]; simp))
    · refine ev_neg hz ?_
      rw [len_at pre x]
      have := ih (pre ++ [x]) (m * mx 0 (rd (afterM s u pre) x)) (by rw [h]; simp) hnn (by simpa using hle)
      rw [afterM_snoc] at this
      exact this
theorem ruleWays_ev (u : List Int) (s : Int) (w : List Int) (hu : u.length ≤ 3) (hs : -3 ≤ s ∧ s ≤ 3) (hw : w.length ≤ 6) (hwn : ∀ c ∈ w, 0 ≤ c ∧ c < (u.length : Int)) (hb : Within 10 u) :
    Ev (fun k => impl_ruleWays.f k u (ruleM u.length s) w) (waysM s u w) := by
  simp only [impl_ruleWays.f]
  exact ev_eq (ruleWays_loop u s w hu hs hw hwn hb w [] 1 rfl (by omega) (by decide)) (by simp [afterM])
theorem iSameRule_all : ∀ n : Fin 4, ∀ s : Fin 5, n.val = 0 ∨ impl_SameRule.f 20 (n.val : Int) ((s.val : Int) - 1) = some (ruleM n.val ((s.val : Int) - 1)) := by decide +kernel
theorem iSameRule_ev (n : Nat) (s : Int) (h1 : 1 ≤ n) (h3 : n ≤ 3) (hs : -1 ≤ s ∧ s ≤ 3) : Ev (fun k => impl_SameRule.f k (n : Int) s) (ruleM n s) := by
  have h := (iSameRule_all ⟨n, by omega⟩ ⟨(s + 1).toNat, by omega⟩).resolve_left (by simp only []; omega)
  have e : (((s + 1).toNat : Nat) : Int) - 1 = s := by omega
  simp only [e] at h
  exact Ev.of (fun k => impl_SameRule.mono _ _ k) h
theorem implPlace_ev (u : List Int) (s : Int) (w : List Int) (hu : (u.length : Int) ≤ 1000000000000) (hw : (w.length : Int) ≤ 1000000000000) : Ev (fun k => impl_PlaceOk.f k u s w) (placeB u s w) := by
  have hj : ∀ r, r = placeB u s w → r = false → Ev (fun k => impl_PlaceOk.j0 k true u s w) r := by
    rintro r _ rfl
    refine ev_suc ?_
    simp only [impl_PlaceOk.j0, if_true]
    exact Ev.now _
  simp only [impl_PlaceOk.f]
  refine ev_bind (implStartOk_ev u hu) ?_
  by_cases hS : startB u = true
  · refine ev_pos hS ?_
    by_cases h1 : s < -1
    · refine ev_pos h1 (hj _ rfl ?_)
      unfold placeB; simp; omega
    · refine ev_neg h1 ?_
      by_cases h2 : s > 3
      · refine ev_pos h2 (hj _ rfl ?_)
        unfold placeB; simp; omega
      · refine ev_neg h2 (ev_bind (implWordOk_ev (u.length : Int) w hw) ?_)
        have hu3 := (startB_iff u).1 hS
        by_cases hW : wordB (u.length : Int) w = true
        · have hw6 := (wordB_iff _ _).1 hW
          refine ev_suc ?_
          simp only [impl_PlaceOk.j0, hW, Bool.not_true]
          refine ev_neg (by simp) (ev_bind (iSameRule_ev u.length s hu3.2.1 hu3.2.2 ⟨by omega, by omega⟩) (ev_bind (ruleWays_ev u s w hu3.2.2 ⟨by omega, by omega⟩ hw6.2.1 hw6.1 (fun x hx => by have := hu3.1 x hx; omega)) (ev_now ?_)))
          have e1 : decide (-1 ≤ s) = true := by simp; omega
          have e2 : decide (s ≤ 3) = true := by simp; omega
          simp [placeB, hS, hW, e1, e2]
        · have hf : wordB (u.length : Int) w = false := by simpa using hW
          rw [hf]
          exact hj _ rfl (by simp [placeB, hf])
  · refine ev_neg hS (hj _ rfl ?_)
    have hf : startB u = false := by simpa using hS
    simp [placeB, hf]
theorem itoa_ev {n : Int} (h0 : -99 ≤ n) (h1 : n ≤ 99) : strconv_Itoa.f n = some (ba (numT n)) := by
  unfold strconv_Itoa.f
  rw [if_pos ⟨by omega, by omega⟩, itoa_small h0 h1]
  rfl
theorem irow_loop (l : List Int) (hl : l.length ≤ 3) (h1 : 1 ≤ l.length) (hv : ∀ x ∈ l, 0 ≤ x ∧ x ≤ 10) : ∀ (suf pre : List Int), l = pre ++ suf →
    Ev (fun k => impl_rowText.l0 k ((pre.map numT).map ba) l (l.length : Int) (pre.length : Int)) (ba (rowT l)) := by
  intro suf
  induction suf with
  | nil =>
    intro pre h
    rw [List.append_nil] at h
    subst h
    refine ev_suc ?_
    simp only [impl_rowText.l0]
    refine ev_neg (by omega) ?_
    match l, h1 with
    | n :: t, _ =>
      have hj : Lib.join ((((n :: t).map numT).map ba).map (·.data.toList)) (⟨#[44]⟩ : ByteArray).data.toList = rowT (n :: t) := by
        rw [List.map_map, show ((fun x : ByteArray => x.data.toList) ∘ ba) = id from rfl, List.map_id]
        exact join_rowT t n
      have hr := rowT_len (n :: t) hv
      unfold strings_Join.f
      rw [hj, if_pos ⟨by simp at hl ⊢; omega, by omega⟩]
      exact ev_bind (Ev.now _) (Ev.now _)
  | cons x t ih =>
    intro pre h
    have e : l.length = pre.length + (t.length + 1) := by rw [h]; simp
    have hx : rd l (pre.length : Int) = x := by rw [h]; exact rd_at _ _ _
    have hxv := hv x (by rw [h]; simp)
    refine ev_suc ?_
    simp only [impl_rowText.l0, hx, itoa_ev (n := x) (by omega) (by omega), Option.bind_some]
    refine ev_pos (by omega) (ev_pos (by omega) (ev_pos (by omega) (ev_pos (by simp; omega) ?_)))
    rw [w64 (by omega) (by omega), len_at pre x]
    have := ih (pre ++ [x]) (by rw [h]; simp)
    simpa using this
theorem irow_ev (l : List Int) (h1 : 1 ≤ l.length) (hl : l.length ≤ 3) (hv : ∀ x ∈ l, 0 ≤ x ∧ x ≤ 10) : Ev (fun k => impl_rowText.f k l) (ba (rowT l)) := by
  unfold impl_rowText.f
  exact irow_loop l hl h1 hv l [] rfl
theorem strNums_ba (l : List Int) : strOfNums l = ba (l.map fun n => UInt8.ofNat n.toNat) := by
  unfold strOfNums ba
  first | rfl | simp
theorem iplace_end (u : List Int) (s : Int) (w : List Int) (y : List Int) (x : Tx) (h : placeB u s w = true) (hy : strOfNums y = ba x) (hx : x.length ≤ 7) :
    Ev (fun k => (impl_rowText.f k u).bind fun t1 => if t1.size + 1 ≤ 9223372036854775807 then (strconv_Itoa.f s).bind fun t2 => if (t1 ++ (⟨#[32]⟩ : ByteArray)).size + t2.size ≤ 9223372036854775807 then if ((t1 ++ (⟨#[32]⟩ : ByteArray)) ++ t2).size + 1 ≤ 9223372036854775807 then if (((t1 ++ (⟨#[32]⟩ : ByteArray)) ++ t2) ++ (⟨#[32]⟩ : ByteArray)).size + (strOfNums y).size ≤ 9223372036854775807 then some ((((t1 ++ (⟨#[32]⟩ : ByteArray)) ++ t2) ++ (⟨#[32]⟩ : ByteArray)) ++ strOfNums y) else none else none else none else none)
      (ba (rowT u ++ 32 :: (numT s ++ 32 :: x))) := by
  obtain ⟨a1, a2, a3, a4, a5, _, _⟩ := place_data h
  have hr := rowT_len u a1
  obtain ⟨_, n1, n2⟩ := numT_bytes (n := s) (by omega) (by omega)
  have e32 : (⟨#[32]⟩ : ByteArray) = ba [32] := rfl
  rw [hy]
  refine ev_bind (irow_ev u a2 a3 a1) (ev_pos (by rw [ba_size]; omega) ?_)
  rw [itoa_ev (n := s) (by omega) (by omega)]
  simp only [Option.bind_some, e32, ba_append, ba_size]
  refine ev_pos (by simp; omega) (ev_pos (by simp; omega) (ev_pos (by simp; omega) (ev_eq (Ev.now _) ?_)))
  simp
theorem iplacew_loop (u : List Int) (s : Int) (w : List Int) (h : placeB u s w = true) : ∀ (suf pre : List Int), w = pre ++ suf →
    Ev (fun k => impl_PlaceText.l0 k (pre.map fun c => (97 + c) % 256) w (w.length : Int) (pre.length : Int) u s w) (ba (rowT u ++ 32 :: (numT s ++ 32 :: (wordT w)))) := by
  obtain ⟨_, _, _, _, _, hw, hl⟩ := place_data h
  intro suf
  induction suf with
  | nil =>
    intro pre e
    rw [List.append_nil] at e
    subst e
    refine ev_suc ?_
    simp only [impl_PlaceText.l0, List.length_map]
    refine ev_neg (by omega) ?_
    by_cases h0 : (w.length : Int) = 0
    · have e0 : w = [] := List.eq_nil_of_length_eq_zero (by omega)
      refine ev_pos h0 (ev_pos (by omega) ?_)
      subst e0
      simp only [Option.bind_some, List.map_nil, List.nil_append]
      exact iplace_end u s [] [46] [46] h rfl (by simp)
    · refine ev_neg h0 ?_
      have hne : w ≠ [] := by rintro rfl; exact h0 rfl
      refine iplace_end u s w _ (wordT w) h ?_ (by have := wordT_len w; omega)
      rw [strNums_ba, wordT, if_neg hne, ba_inj, List.map_map]
      refine List.map_congr_left fun c hc => ?_
      have := hw c hc
      show UInt8.ofNat (((97 + c) % 256).toNat) = letT c
      unfold letT
      congr 1
      omega
  | cons c t ih =>
    intro pre e
    have el : w.length = pre.length + (t.length + 1) := by rw [e]; simp
    have hc : rd w (pre.length : Int) = c := by rw [e]; exact rd_at _ _ _
    have hcv := hw c (by rw [e]; simp)
    refine ev_suc ?_
    simp only [impl_PlaceText.l0, hc, List.length_map]
    refine ev_pos (by omega) (ev_pos (by omega) (ev_pos (by omega) (ev_pos (by omega) ?_)))
    rw [w64 (n := 97 + c) (by omega) (by omega), w64 (by omega) (by omega), len_at pre c]
    have := ih (pre ++ [c]) (by rw [e]; simp)
    simpa using this
theorem iplacet_ev (u : List Int) (s : Int) (w : List Int) (hu : (u.length : Int) ≤ 1000000000000) (hw : (w.length : Int) ≤ 1000000000000) : Ev (fun k => impl_PlaceText.f k u s w) (ba (placeT u s w)) := by
  unfold impl_PlaceText.f placeT
  refine ev_bind (implPlace_ev u s w hu hw) ?_
  by_cases h : placeB u s w = true
  case neg => rw [if_neg h]; exact ev_neg h (Ev.now _)
  rw [if_pos h]
  exact ev_pos h (iplacew_loop u s w h w [] rfl)
/-- The numbers that the library reads. -/
def numA (w : Tx) : Int := match Lib.atoiAll w with | .ok v => v | Lib.NumEnd.syntax => 0 | .range => Lib.atoiSat w
theorem atoi_ev (w : Tx) (h : w.length ≤ 1048576) : ∃ e, strconv_Atoi.f (ba w) = some (numA w, e) := by
  unfold strconv_Atoi.f numA
  rw [if_pos (by rw [ba_size]; omega)]
  simp only [ba_list]
  cases Lib.atoiAll w <;> exact ⟨_, rfl⟩
theorem numA_numT {n : Int} (h0 : -99 ≤ n) (h1 : n ≤ 99) : numA (numT n) = n := by unfold numA; rw [atoi_numT h0 h1]
theorem isplit_ev (c : UInt8) (l : Tx) (hl : l.length ≤ 4000000000) : strings_Split.f (ba l) (ba [c]) = some ((cutA c [] l).map ba) := by
  unfold strings_Split.f
  rw [if_pos ⟨by rw [ba_size]; omega, by simp⟩, split_cut]
theorem rdOf_map (l : List Tx) (i : Int) : rdOf ByteArray.empty (l.map ba) i = ba (l.getD i.toNat []) := by
  unfold rdOf
  rw [List.getD_eq_getElem?_getD, List.getD_eq_getElem?_getD, List.getElem?_map]
  cases l[i.toNat]? <;> rfl
/-- What is told of a place of which the text is to be this. -/
noncomputable def chkP (x : Tx) (u : List Int) (s : Int) (w : List Int) : List Int × Int × List Int × Bool := if x ≠ [] ∧ placeT u s w = x then (u, s, w, true) else ([], 0, [], false)
theorem pieces_small (c : UInt8) : ∀ (l acc p : Tx), p ∈ cutA c acc l → p.length ≤ acc.length + l.length := by
  intro l
  induction l with
  | nil => intro acc p hp; simp [cutA] at hp; subst hp; simp
  | cons b l ih =>
    intro acc p hp
    unfold cutA at hp
    split at hp
    · rcases List.mem_cons.1 hp with rfl | hp
      · simp
      · have := ih [] p hp; simp at this ⊢; omega
    · have := ih _ p hp; simp at this ⊢; omega
theorem ichk_ev (x : Tx) (hx : x ≠ []) (u : List Int) (s : Int) (w : List Int) (hu : (u.length : Int) ≤ 1000000000000) (hw : (w.length : Int) ≤ 1000000000000) :
    Ev (fun k => (impl_PlaceText.f k u s w).bind fun t => if t.toList = (ba x).toList then some (u, s, w, true) else some (([] : List Int), (0 : Int), ([] : List Int), false)) (chkP x u s w) := by
  refine ev_bind (iplacet_ev u s w hu hw) ?_
  simp only [toList_ba]
  by_cases h2 : placeT u s w = x
  · have hc : chkP x u s w = (u, s, w, true) := if_pos ⟨hx, h2⟩
    rw [hc]; exact ev_pos h2 (Ev.now _)
  · have hc : chkP x u s w = ([], 0, [], false) := if_neg (fun e => h2 e.2)
    rw [hc]; exact ev_neg h2 (Ev.now _)
theorem iword_loop (x : Tx) (hx : x ≠ []) (a b t : Tx) (u : List Int) (s : Int) (hu : (u.length : Int) ≤ 1000000000000) (ht : t.length ≤ 1048576) : ∀ (suf pre : Tx), t = pre ++ suf →
    Ev (fun k => impl_ReadPlace.l1 k (ba x) ([a, b, t].map ba) (t.length : Int) (pre.length : Int) u s (pre.map fun c => (c.toNat : Int) - 97)) (chkP x u s (t.map fun c => (c.toNat : Int) - 97)) := by
  have h2 : rdOf ByteArray.empty ([a, b, t].map ba) 2 = ba t := rfl
  intro suf
  induction suf with
  | nil =>
    intro pre h
    rw [List.append_nil] at h
    subst h
    refine ev_suc ?_
    simp only [impl_ReadPlace.l1]
    exact ev_neg (by omega) (ichk_ev x hx u s _ hu (by rw [List.length_map]; omega))
  | cons c r ih =>
    intro pre h
    have e : t.length = pre.length + (r.length + 1) := by rw [h]; simp
    have hb : bt (ba t) (pre.length : Int) = (c.toNat : Int) := by rw [h]; exact bt_ba _ _ _
    have hc : c.toNat < 256 := c.toNat_lt
    refine ev_suc ?_
    simp only [impl_ReadPlace.l1, h2, hb]
    refine ev_pos (by omega) (ev_pos (by simp) (ev_pos (by omega) (ev_pos (by rw [ba_size]; omega) (ev_pos (by rw [List.length_map]; omega) ?_))))
    rw [w64 (n := (c.toNat : Int)) (by omega) (by omega), w64 (n := (c.toNat : Int) - 97) (by omega) (by omega), w64 (by omega) (by omega), len_at pre c]
    have := ih (pre ++ [c]) (by rw [h]; simp)
    simpa using this
theorem atoi_num_ev {n : Int} (h0 : -99 ≤ n) (h1 : n ≤ 99) : strconv_Atoi.f (ba (numT n)) = some (n, none) := by
  unfold strconv_Atoi.f
  have := (numT_bytes h0 h1).2.2
  rw [if_pos (by rw [ba_size]; omega), ba_list, atoi_numT h0 h1]
theorem atoi_any (w : Tx) (h : w.length ≤ 1048576) : ∃ v e, strconv_Atoi.f (ba w) = some (v, e) := by
  unfold strconv_Atoi.f
  rw [if_pos (by rw [ba_size]; omega)]
  exact ⟨_, _, rfl⟩
/-- The row is read whole, or what is read is no place of this text. -/
theorem irows_loop (x : Tx) (a b t : Tx) (ps : List Tx) (hl : ps.length ≤ 1048577) (hp : ∀ p ∈ ps, p.length ≤ 1048576) (r : List Int × Int × List Int × Bool)
    (hfail : (¬ ∃ u : List Int, ps = u.map numT ∧ (∀ n ∈ u, 0 ≤ n ∧ n ≤ 10) ∧ u.length ≤ 3) → r = ([], 0, [], false))
    (hend : ∀ u : List Int, u.length ≤ 5 → ((∃ v : List Int, ps = v.map numT ∧ (∀ n ∈ v, 0 ≤ n ∧ n ≤ 10) ∧ v.length ≤ 3) → ps = u.map numT ∧ ∀ n ∈ u, 0 ≤ n ∧ n ≤ 10) → Ev (fun k => impl_ReadPlace.l0 k (ba x) ([a, b, t].map ba) (ps.map ba) (ps.length : Int) (ps.length : Int) u 0) r) :
    ∀ (suf pre : List Tx) (u : List Int), ps = pre ++ suf → u.length = pre.length → u.length ≤ 4 → ((∃ v : List Int, ps = v.map numT ∧ (∀ n ∈ v, 0 ≤ n ∧ n ≤ 10) ∧ v.length ≤ 3) → pre = u.map numT ∧ ∀ n ∈ u, 0 ≤ n ∧ n ≤ 10) →
      Ev (fun k => impl_ReadPlace.l0 k (ba x) ([a, b, t].map ba) (ps.map ba) (ps.length : Int) (pre.length : Int) u 0) r := by
  intro suf
  induction suf with
  | nil =>
    intro pre u h hu hu4 hg
    rw [List.append_nil] at h
    subst h
    exact hend u (by omega) hg
  | cons p q ih =>
    intro pre u h hu hu4 hg
    have e : ps.length = pre.length + (q.length + 1) := by rw [h]; simp
    have hr : rdOf ByteArray.empty (ps.map ba) (pre.length : Int) = ba p := by rw [rdOf_map, h]; simp
    have hpl := hp p (by rw [h]; simp)
    obtain ⟨v, er, hv⟩ := atoi_any p hpl
    refine ev_suc ?_
    simp only [impl_ReadPlace.l0, hr, hv, Option.bind_some]
    refine ev_pos (by omega) (ev_pos (by omega) (ev_pos (by rw [List.length_map]; omega) ?_))
    have hnum : (∃ w : List Int, ps = w.map numT ∧ (∀ n ∈ w, 0 ≤ n ∧ n ≤ 10) ∧ w.length ≤ 3) → ∃ n, p = numT n ∧ (0 ≤ n ∧ n ≤ 10) ∧ ps.length ≤ 3 := by
      rintro ⟨w, hw, hn, hw3⟩
      have hm : p ∈ w.map numT := by rw [← hw, h]; simp
      obtain ⟨n, hn1, hn2⟩ := List.mem_map.1 hm
      exact ⟨n, hn2.symm, hn n hn1, by rw [hw, List.length_map]; exact hw3⟩
    by_cases hn : er.isNone = true
    · refine ev_pos hn ?_
      by_cases hlen : (u.length : Int) > 3
      · refine ev_pos hlen ?_
        rw [hfail fun he => by obtain ⟨_, _, _, h3⟩ := hnum he; omega]
        exact Ev.now _
      · refine ev_neg hlen (ev_pos (by omega) ?_)
        rw [w64 (by omega) (by omega), len_at pre p]
        refine ih (pre ++ [p]) (u ++ [v]) (by rw [h]; simp) (by simp [hu]) (by simp; omega) fun he => ?_
        obtain ⟨g1, g2⟩ := hg he
        obtain ⟨n, rfl, hn1, _⟩ := hnum he
        rw [atoi_num_ev (by omega) (by omega)] at hv
        simp only [Option.some.injEq, Prod.mk.injEq] at hv
        obtain ⟨rfl, _⟩ := hv
        refine ⟨by simp [g1], fun m hm => ?_⟩
        rcases List.mem_append.1 hm with hm | hm
        · exact g2 m hm
        · rw [List.mem_singleton] at hm; subst hm; exact hn1
    · refine ev_neg hn ?_
      rw [hfail fun he => by
        obtain ⟨n, rfl, hn1, _⟩ := hnum he
        rw [atoi_num_ev (by omega) (by omega)] at hv
        simp only [Option.some.injEq, Prod.mk.injEq] at hv
        exact hn (by rw [← hv.2]; rfl)]
      exact Ev.now _
theorem ireadp_ev (x : Tx) (hx : x.length ≤ 1048576) : Ev (fun k => impl_ReadPlace.f k (ba x)) (readP x) := by
  unfold impl_ReadPlace.f
  have e32 : (⟨#[32]⟩ : ByteArray) = ba [32] := rfl
  have e44 : (⟨#[44]⟩ : ByteArray) = ba [44] := rfl
  simp only [e32, e44, isplit_ev 32 x (by omega), Option.bind_some]
  have hne : ∀ {u : List Int} {s : Int} {w : List Int}, placeT u s w = x → x ≠ [] → placeB u s w = true ∧ cutA 32 [] x = [rowT u, numT s, wordT w] ∧ cutA 44 [] (rowT u) = u.map numT := fun {u s w} h h2 => by
    have := place_cut (u := u) (s := s) (w := w) (by rw [h]; exact h2)
    rwa [h] at this
  rw [List.length_map]
  by_cases h3 : ((cutA 32 [] x).length : Int) = 3
  case neg =>
    refine ev_neg h3 ?_
    rw [readP_not fun u s w h => Classical.byContradiction fun h2 => by
      have := (hne h h2).2.1
      rw [this] at h3; simp at h3]
    exact Ev.now _
  have hx0 : x ≠ [] := by rintro rfl; simp [cutA] at h3
  obtain ⟨a, b, t, hc⟩ : ∃ a b t, cutA 32 [] x = [a, b, t] := by
    match hc : cutA 32 [] x with
    | [a, b, t] => exact ⟨a, b, t, rfl⟩
    | [] | [_] | [_, _] | _ :: _ :: _ :: _ :: _ => rw [hc] at h3; simp at h3; try omega
  have hs : ∀ p ∈ cutA 32 [] x, p.length ≤ 1048576 := fun p hp => by have := pieces_small 32 x [] p hp; simp at this; omega
  rw [hc] at hs hne h3 ⊢
  have ha := hs a (by simp)
  have hb := hs b (by simp)
  have ht := hs t (by simp)
  have e1 : rdOf ByteArray.empty ([a, b, t].map ba) 1 = ba b := rfl
  have e0 : rdOf ByteArray.empty ([a, b, t].map ba) 0 = ba a := rfl
  have e2 : rdOf ByteArray.empty ([a, b, t].map ba) 2 = ba t := rfl
  simp only [e0, isplit_ev 44 a (by omega), Option.bind_some]
  have hps : ∀ p ∈ cutA 44 [] a, p.length ≤ 1048576 := fun p hp => by have := pieces_small 44 a [] p hp; simp at this; omega
  have hpl : (cutA 44 [] a).length ≤ 1048577 := by have := cutA_len 44 a []; omega
  refine ev_pos h3 (ev_pos (by simp) ?_)
  rw [List.length_map]
  have hrow : ∀ {u : List Int} {s : Int} {w : List Int}, placeT u s w = x → ∃ v : List Int, cutA 44 [] a = v.map numT ∧ (∀ n ∈ v, 0 ≤ n ∧ n ≤ 10) ∧ v.length ≤ 3 := fun {u s w} h => by
    obtain ⟨p, q, r⟩ := hne h hx0
    obtain ⟨b1, b2, b3, _⟩ := place_data p
    simp only [List.cons.injEq, and_true] at q
    rw [q.1]
    exact ⟨u, r, b1, b3⟩
  refine irows_loop x a b t (cutA 44 [] a) hpl hps (readP x) (fun hf => readP_not fun u s w h => absurd (hrow h) hf) (fun u hu hg => ?_) (cutA 44 [] a) [] [] rfl rfl (by simp) (fun _ => ⟨rfl, by simp⟩)
  obtain ⟨er, hv⟩ := atoi_ev b hb
  refine ev_suc ?_
  simp only [impl_ReadPlace.l0, e1, e2, hv, Option.bind_some, toList_ba, ba_size]
  have hfin : chkP x u (numA b) (decW t) = readP x := by
    unfold chkP
    by_cases hm : x ≠ [] ∧ placeT u (numA b) (decW t) = x
    · rw [if_pos hm, readP_of hm.2 hm.1]
    · rw [if_neg hm, readP_not fun u' s w h => Classical.byContradiction fun h2 => hm ⟨h2, ?_⟩]
      obtain ⟨g1, g2⟩ := hg (hrow h)
      obtain ⟨p, q, r⟩ := hne h h2
      obtain ⟨b1, b2, b3, b4, b5, b6, _⟩ := place_data p
      simp only [List.cons.injEq, and_true] at q
      obtain ⟨q1, rfl, rfl⟩ := q
      rw [q1, r] at g1
      rw [← map_numT_inj b1 g2 g1, numA_numT (by omega) (by omega), decW_wordT b6, h]
  refine ev_neg (by omega) (ev_pos (by simp) (ev_pos (by simp) ?_))
  rw [← hfin]
  by_cases h46 : t = [46]
  · refine ev_pos h46 ?_
    rw [h46]
    have := ichk_ev x hx0 u (numA b) [] (by omega) (by simp)
    simpa [decW, toList_ba] using this
  · refine ev_neg h46 ?_
    have := iword_loop x hx0 a b t u (numA b) (by omega) ht t [] rfl
    unfold decW
    rw [if_neg h46]
    exact this
theorem l1In_eq (a b c : Int) : spec_l1In.f a b c = some (decide (b ≤ a) && decide (a ≤ c)) := by
  unfold spec_l1In.f
  by_cases h : a ≥ b
  · rw [if_pos h]; simp; omega
  · rw [if_neg h]; simp; omega
theorem urnB_no' {u : List Int} {x : Int} (hx : x ∈ u) (h : ¬ (0 ≤ x ∧ x ≤ 40)) : urnB u = false := by
  cases e : urnB u with
  | false => rfl
  | true => exact absurd (((urnB_iff u).1 e).1 x hx) h
theorem specUrn_loop (l : List Int) (hl : (l.length : Int) ≤ 1000000000000) : ∀ (suf pre : List Int), l = pre ++ suf → (∀ x ∈ pre, 0 ≤ x ∧ x ≤ 40) →
    Ev (fun k => spec_UrnOk.l0 k l (pre.length : Int)) (urnB l) := by
  intro suf
  induction suf with
  | nil =>
    intro pre h hr
    have e : l.length = pre.length := by rw [h]; simp
    refine ev_suc ?_
    simp (disch := omega) only [spec_UrnOk.l0, if_neg, l1In_eq]
    refine ev_now ?_
    rw [List.append_nil] at h
    subst h
    rw [Bool.eq_iff_iff, urnB_iff]
    simp only [Bool.and_eq_true, decide_eq_true_eq]
    exact ⟨fun h => ⟨hr, by omega, by omega⟩, fun h => ⟨by omega, by omega⟩⟩
  | cons x t ih =>
    intro pre h hr
    have e : l.length = pre.length + (t.length + 1) := by rw [h]; simp
    have hx : rd l (pre.length : Int) = x := by rw [h]; exact rd_at _ _ _
    have hxl : x ∈ l := by rw [h]; simp
    refine ev_suc ?_
    simp (disch := omega) only [spec_UrnOk.l0, hx, if_pos, l1In_eq, Option.bind_some]
    by_cases h1 : 0 ≤ x ∧ x ≤ 40
    · refine ev_pos (by simp [h1]) ?_
      rw [w64 (by omega) (by omega), len_at pre x]
      refine ih (pre ++ [x]) (by rw [h]; simp) ?_
      intro y hy
      rcases List.mem_append.1 hy with hy | hy
      · exact hr y hy
      · rw [List.mem_singleton] at hy; subst hy; exact h1
    · exact ev_neg (by simp only [Bool.and_eq_true, decide_eq_true_eq]; exact h1) (ev_now (urnB_no' hxl h1).symm)
theorem specUrnOk_ev (l : List Int) (hl : (l.length : Int) ≤ 1000000000000) : Ev (fun k => spec_UrnOk.f k l) (urnB l) := by
  simp only [spec_UrnOk.f]
  exact specUrn_loop l hl l [] rfl (by simp)
theorem specStart_loop (l : List Int) (hl : (l.length : Int) ≤ 1000000000000) : ∀ (suf pre : List Int), l = pre ++ suf → (∀ x ∈ pre, x ≤ 10) →
    Ev (fun k => spec_StartOk.l0 k l (pre.length : Int)) (startB l) := by
  intro suf
  induction suf with
  | nil =>
    intro pre h hr
    have e : l.length = pre.length := by rw [h]; simp
    refine ev_suc ?_
    simp (disch := omega) only [spec_StartOk.l0, if_neg]
    refine ev_bind (specUrnOk_ev l hl) (ev_now ?_)
    rw [List.append_nil] at h
    subst h
    have : (l.all fun x => decide (x ≤ 10)) = true := by simpa using hr
    simp [startB, this]
  | cons x t ih =>
    intro pre h hr
    have e : l.length = pre.length + (t.length + 1) := by rw [h]; simp
    have hx : rd l (pre.length : Int) = x := by rw [h]; exact rd_at _ _ _
    have hxl : x ∈ l := by rw [h]; simp
    refine ev_suc ?_
    simp (disch := omega) only [spec_StartOk.l0, hx, if_pos]
    by_cases h1 : x > 10
    · refine ev_pos h1 (ev_now ?_)
      cases e : startB l with
      | false => rfl
      | true => have := ((startB_iff l).1 e).1 x hxl; omega
    · refine ev_neg h1 ?_
      rw [w64 (by omega) (by omega), len_at pre x]
      refine ih (pre ++ [x]) (by rw [h]; simp) ?_
      intro y hy
      rcases List.mem_append.1 hy with hy | hy
      · exact hr y hy
      · rw [List.mem_singleton] at hy; subst hy; omega
theorem specStartOk_ev (l : List Int) (hl : (l.length : Int) ≤ 1000000000000) : Ev (fun k => spec_StartOk.f k l) (startB l) := by
  simp only [spec_StartOk.f]
  exact specStart_loop l hl l [] rfl (by simp)
theorem wordB_no' {n : Int} {w : List Int} {x : Int} (hx : x ∈ w) (h : ¬ (0 ≤ x ∧ x < n)) : wordB n w = false := by
  cases e : wordB n w with
  | false => rfl
  | true => exact absurd (((wordB_iff n w).1 e).1 x hx) h
theorem specWord_loop (n : Int) (l : List Int) (hl : (l.length : Int) ≤ 1000000000000) : ∀ (suf pre : List Int), l = pre ++ suf → (∀ x ∈ pre, 0 ≤ x ∧ x < n) →
    Ev (fun k => spec_WordOk.l0 k n l (pre.length : Int)) (wordB n l) := by
  intro suf
  induction suf with
  | nil =>
    intro pre h hr
    have e : l.length = pre.length := by rw [h]; simp
    refine ev_suc ?_
    simp (disch := omega) only [spec_WordOk.l0, if_neg, l1In_eq, Option.bind_some]
    rw [List.append_nil] at h
    subst h
    by_cases hn : 1 ≤ n ∧ n ≤ 3
    · refine ev_pos (by simp [hn]) (ev_now ?_)
      rw [Bool.eq_iff_iff, wordB_iff]
      simp only [decide_eq_true_eq]
      exact ⟨fun h => ⟨hr, by omega, hn⟩, fun h => by omega⟩
    · refine ev_neg (by simp only [Bool.and_eq_true, decide_eq_true_eq]; exact hn) (ev_now ?_)
      cases e : wordB n l with
      | false => rfl
      | true => exact absurd ((wordB_iff n l).1 e).2.2 hn
  | cons x t ih =>
    intro pre h hr
    have e : l.length = pre.length + (t.length + 1) := by rw [h]; simp
    have hx : rd l (pre.length : Int) = x := by rw [h]; exact rd_at _ _ _
    have hxl : x ∈ l := by rw [h]; simp
    refine ev_suc ?_
    simp (disch := omega) only [spec_WordOk.l0, hx, if_pos]
    by_cases h1 : x < 0
    · exact ev_pos h1 (ev_now (wordB_no' hxl (by omega)).symm)
    · refine ev_neg h1 ?_
      by_cases h2 : x ≥ n
      · exact ev_pos h2 (ev_now (wordB_no' hxl (by omega)).symm)
      · refine ev_neg h2 ?_
        rw [w64 (by omega) (by omega), len_at pre x]
        refine ih (pre ++ [x]) (by rw [h]; simp) ?_
        intro y hy
        rcases List.mem_append.1 hy with hy | hy
        · exact hr y hy
        · rw [List.mem_singleton] at hy; subst hy; omega
theorem specWordOk_ev (n : Int) (l : List Int) (hl : (l.length : Int) ≤ 1000000000000) : Ev (fun k => spec_WordOk.f k n l) (wordB n l) := by
  simp only [spec_WordOk.f]
  exact specWord_loop n l hl l [] rfl (by simp)
theorem l4After_loop (u : List Int) (R : List (List Int)) (c : Int) (row : List Int) (hc : 0 ≤ c ∧ c < (R.length : Int)) (hrow : rd_L2 R c = row) (hl : row.length = u.length) (hu : u.length ≤ 3) (hB : Within 1000000000 row) (hA : Within 1000000000 u) : ∀ (su sr pu pr acc : List Int), u = pu ++ su → row = pr ++ sr → pu.length = pr.length → acc.length = pu.length →
    Ev (fun k => spec_l4After.l0 k u R c acc (pu.length : Int)) (acc ++ zipAdd su sr) := by
  intro su
  induction su with
  | nil =>
    intro sr pu pr acc h h' hp ha
    have e : u.length = pu.length := by rw [h]; simp
    have e' : row.length = pr.length + sr.length := by rw [h']; simp
    obtain rfl : sr = [] := List.eq_nil_of_length_eq_zero (by omega)
    refine ev_suc ?_
    simp (disch := omega) only [spec_l4After.l0, if_neg]
    exact ev_now (by simp [zipAdd])
  | cons x t ih =>
    intro sr pu pr acc h h' hp ha
    have e : u.length = pu.length + (t.length + 1) := by rw [h]; simp
    have e' : row.length = pr.length + sr.length := by rw [h']; simp
    cases sr with
    | nil => simp at e'; omega
    | cons y r =>
      have hx : rd u (pu.length : Int) = x := by rw [h]; exact rd_at _ _ _
      have hy : rd row (pu.length : Int) = y := by rw [h', hp]; exact rd_at _ _ _
      have bx := hA x (by rw [h]; simp)
      have bY := hB y (by rw [h']; simp)
      refine ev_suc ?_
      simp (disch := omega) only [spec_l4After.l0, hrow, hl, hx, hy, if_pos, w64]
      rw [len_at pu x]
      have := ih r (pu ++ [x]) (pr ++ [y]) (acc ++ [x + y]) (by rw [h]; simp) (by rw [h']; simp) (by simp [hp]) (by simp [ha])
      simpa [zipAdd] using this
theorem l4After_ev (u : List Int) (s c : Int) (hu : u.length ≤ 3) (hs : -3 ≤ s ∧ s ≤ 3) (hc : 0 ≤ c ∧ c < (u.length : Int)) (hw : Within 1000000 u) :
    Ev (fun k => spec_l4After.f k u (ruleM u.length s) c) (bump s u c) := by
  have er : rd_L2 (ruleM u.length s) c = (List.replicate u.length (0 : Int)).set c.toNat s := ruleM_row hc.1 hc.2
  have hW := within_row (n := u.length) (c := c) hs
  simp only [spec_l4After.f]
  have := l4After_loop u (ruleM u.length s) c _ (by rw [ruleM_len]; exact hc) er (by simp) hu (fun x hx => by have := hW x hx; omega) (fun x hx => by have := hw x hx; omega) u ((List.replicate u.length (0 : Int)).set c.toNat s) [] [] [] rfl (by simp) rfl rfl
  refine ev_eq this ?_
  rw [List.nil_append]
  exact zipAdd_row hu hc.1 hc.2
/-- What AfterWord tells. -/
def afterWordM (s : Int) (u w : List Int) : List Int × Bool := if 0 < waysM s u w then (afterM s u w, true) else ([], false)
theorem afterWord_loop (n : Nat) (s : Int) (hn : n ≤ 3) (hs : -3 ≤ s ∧ s ≤ 3) (w : List Int) (hw : w.length ≤ 100) (hwn : ∀ c ∈ w, 0 ≤ c ∧ c < (n : Int)) : ∀ (suf pre u : List Int) (b : Int), w = pre ++ suf → u.length = n → Within b u → 0 ≤ b → b + 3 * suf.length ≤ 1000000 →
    Ev (fun k => spec_AfterWord.l0 k (ruleM n s) w u (pre.length : Int)) (afterWordM s u suf) := by
  intro suf
  induction suf with
  | nil =>
    intro pre u b h _ _ _ _
    have e : w.length = pre.length := by rw [h]; simp
    refine ev_suc ?_
    simp (disch := omega) only [spec_AfterWord.l0, if_neg]
    exact ev_now (by simp [afterWordM, waysM, afterM])
  | cons x t ih =>
    intro pre u b h hu hb hb0 hb1
    have e : w.length = pre.length + (t.length + 1) := by rw [h]; simp
    have hx : rd w (pre.length : Int) = x := by rw [h]; exact rd_at _ _ _
    have hxn := hwn x (by rw [h]; simp)
    simp only [List.length_cons] at hb1
    refine ev_suc ?_
    simp (disch := omega) only [spec_AfterWord.l0, hx, if_pos]
    subst hu
    have hcp := waysM_cons_pos s u x t
    by_cases h1 : rd u x < 1
    · refine ev_pos h1 (ev_now ?_)
      unfold afterWordM
      rw [if_neg (fun hp => by have := (hcp.1 hp).1; omega)]
    · refine ev_neg h1 (ev_bind (l4After_ev u s x hn hs hxn (fun y hy => by have := hb y hy; omega)) ?_)
      rw [w64 (by omega) (by omega), len_at pre x]
      have := ih (pre ++ [x]) (bump s u x) (b + 3) (by rw [h]; simp) (bump_len _ _ _) (within_bump hb hs x hxn) (by omega) (by omega)
      refine ev_eq this ?_
      unfold afterWordM
      by_cases h2 : 0 < waysM s (bump s u x) t
      · rw [if_pos h2, if_pos (hcp.2 ⟨by omega, h2⟩), afterM_cons]
      · rw [if_neg h2, if_neg (fun hp => h2 (hcp.1 hp).2)]
theorem ruleOk_all : ∀ n : Fin 4, ∀ s : Fin 5, n.val = 0 ∨ spec_RuleOk.f 30 (n.val : Int) (ruleM n.val ((s.val : Int) - 1)) = some true := by decide +kernel
theorem ruleOk_ev (n : Nat) (s : Int) (h1 : 1 ≤ n) (h3 : n ≤ 3) (hs : -1 ≤ s ∧ s ≤ 3) : Ev (fun k => spec_RuleOk.f k (n : Int) (ruleM n s)) true := by
  have h := (ruleOk_all ⟨n, by omega⟩ ⟨(s + 1).toNat, by omega⟩).resolve_left (by simp only []; omega)
  have e : (((s + 1).toNat : Nat) : Int) - 1 = s := by omega
  simp only [e] at h
  exact Ev.of (fun k => spec_RuleOk.mono _ _ k) h
theorem sSameRule_all : ∀ n : Fin 4, ∀ s : Fin 5, n.val = 0 ∨ spec_SameRule.f 20 (n.val : Int) ((s.val : Int) - 1) = some (ruleM n.val ((s.val : Int) - 1)) := by decide +kernel
theorem sSameRule_ev (n : Nat) (s : Int) (h1 : 1 ≤ n) (h3 : n ≤ 3) (hs : -1 ≤ s ∧ s ≤ 3) : Ev (fun k => spec_SameRule.f k (n : Int) s) (ruleM n s) := by
  have h := (sSameRule_all ⟨n, by omega⟩ ⟨(s + 1).toNat, by omega⟩).resolve_left (by simp only []; omega)
  have e : (((s + 1).toNat : Nat) : Int) - 1 = s := by omega
  simp only [e] at h
  exact Ev.of (fun k => spec_SameRule.mono _ _ k) h
theorem afterWord_ev (u : List Int) (s : Int) (w : List Int) (hS : startB u = true) (hs : -1 ≤ s ∧ s ≤ 3) (hw : (w.length : Int) ≤ 1000000000000) :
    Ev (fun k => spec_AfterWord.f k u (ruleM u.length s) w) (if wordB (u.length : Int) w = true then afterWordM s u w else ([], false)) := by
  have hu3 := (startB_iff u).1 hS
  simp only [spec_AfterWord.f]
  refine ev_bind (specStartOk_ev u (by omega)) (ev_pos hS (ev_bind (ruleOk_ev u.length s hu3.2.1 hu3.2.2 hs) (ev_pos rfl (ev_bind (specWordOk_ev (u.length : Int) w hw) (ev_suc ?_)))))
  by_cases hW : wordB (u.length : Int) w = true
  · have hw6 := (wordB_iff _ _).1 hW
    rw [if_pos hW]
    simp only [spec_AfterWord.j0, hW, Bool.not_true]
    refine ev_neg (by simp) (ev_bind (Ev.now _) (ev_pos (by simp; omega) ?_))
    rw [List.nil_append]
    exact afterWord_loop u.length s hu3.2.2 ⟨by omega, by omega⟩ w (by omega) hw6.1 w [] u 10 rfl rfl (fun x hx => by have := hu3.1 x hx; omega) (by omega) (by omega)
  · have hf : wordB (u.length : Int) w = false := by simpa using hW
    rw [if_neg hW]
    simp only [spec_AfterWord.j0, hf, Bool.not_false, if_true]
    exact Ev.now _
theorem specPlace_ev (u : List Int) (s : Int) (w : List Int) (hu : (u.length : Int) ≤ 1000000000000) (hw : (w.length : Int) ≤ 1000000000000) : Ev (fun k => spec_PlaceOk.f k u s w) (placeB u s w) := by
  have hj : ∀ r, r = placeB u s w → r = false → Ev (fun k => spec_PlaceOk.j0 k true u s w) r := by
    rintro r _ rfl
    refine ev_suc ?_
    simp only [spec_PlaceOk.j0, if_true]
    exact Ev.now _
  simp only [spec_PlaceOk.f]
  refine ev_bind (specStartOk_ev u hu) ?_
  by_cases hS : startB u = true
  · refine ev_pos hS ?_
    simp only [l1In_eq, Option.bind_some]
    have hu3 := (startB_iff u).1 hS
    by_cases h1 : -1 ≤ s ∧ s ≤ 3
    · have e : (decide (-1 ≤ s) && decide (s ≤ 3)) = true := by simp [h1]
      refine ev_suc ?_
      simp only [spec_PlaceOk.j0, e, Bool.not_true]
      refine ev_neg (by simp) (ev_bind (sSameRule_ev u.length s hu3.2.1 hu3.2.2 h1) (ev_bind (afterWord_ev u s w hS h1 hw) (ev_now ?_)))
      by_cases hW : wordB (u.length : Int) w = true
      · rw [if_pos hW]
        unfold afterWordM
        by_cases h2 : 0 < waysM s u w
        · rw [if_pos h2]; simp [placeB, hS, hW, h1, h2]
        · rw [if_neg h2]; simp [placeB, hS, hW, h1, h2]
      · rw [if_neg hW]
        have hf : wordB (u.length : Int) w = false := by simpa using hW
        simp [placeB, hf]
    · have e : (decide (-1 ≤ s) && decide (s ≤ 3)) = false := by
        rw [Bool.and_eq_false_iff]; simp only [decide_eq_false_iff_not]; omega
      rw [e]
      refine hj _ rfl ?_
      unfold placeB
      rw [Bool.and_eq_false_iff] at e
      rcases e with e | e <;> simp [e]
  · refine ev_neg hS (hj _ rfl ?_)
    have hf : startB u = false := by simpa using hS
    simp [placeB, hf]
theorem l15Step_ev {n : Int} (h0 : -99 ≤ n) (h1 : n ≤ 99) : Ev (fun k => spec_l15Step.f k n) (ba (numT n)) := by
  have := small_all (p := fun n => decide (spec_l15Step.f 5 n = some (ba (numT n)))) (by decide +kernel) h0 h1
  exact Ev.of (fun k => spec_l15Step.mono _ _) (of_decide_eq_true this)
theorem litb (l : Tx) : (⟨⟨l⟩⟩ : ByteArray) = ba l := rfl
theorem l1Number_ev {n : Int} (h0 : 0 ≤ n) (h1 : n ≤ 99) : Ev (fun k => spec_l1Number.f k n) (ba (numT n)) := by
  have := small_all (p := fun n => decide (n < 0) || decide (spec_l1Number.f 5 n = some (ba (numT n)))) (by decide +kernel) (n := n) (by omega) h1
  rw [decide_eq_false (by omega), Bool.false_or] at this
  exact Ev.of (fun k => spec_l1Number.mono _ _) (of_decide_eq_true this)
theorem srow_loop (l : List Int) (hl : l.length ≤ 3) (hv : ∀ x ∈ l, 0 ≤ x ∧ x ≤ 10) (hne : l ≠ []) : ∀ (suf pre : List Int) (acc : Tx), l = pre ++ suf → pre ≠ [] → acc.length ≤ 100 * pre.length →
    Ev (fun k => spec_l15Row.l0 k l (ba acc) (pre.length : Int)) (ba (acc ++ tailT suf)) := by
  intro suf
  induction suf with
  | nil =>
    intro pre acc h hp _
    rw [List.append_nil] at h
    subst h
    have : 0 < l.length := List.length_pos_iff.2 hne
    refine ev_suc ?_
    simp only [spec_l15Row.l0]
    exact ev_neg (by omega) (ev_neg (by omega) (ev_eq (Ev.now _) (by simp [tailT])))
  | cons x t ih =>
    intro pre acc h hp ha
    have e : l.length = pre.length + (t.length + 1) := by rw [h]; simp
    have hx : rd l (pre.length : Int) = x := by rw [h]; exact rd_at _ _ _
    have hxv := hv x (by rw [h]; simp)
    have hpp : 0 < pre.length := List.length_pos_iff.2 hp
    obtain ⟨_, n1, n2⟩ := numT_bytes (n := x) (by omega) (by omega)
    refine ev_suc ?_
    simp only [spec_l15Row.l0, hx]
    refine ev_pos (by omega) (ev_pos (by omega) (ev_pos (by rw [ba_size]; omega) (ev_pos (by omega) (ev_bind (l1Number_ev hxv.1 (by omega)) ?_))))
    rw [litb, ba_append, ba_append, ba_size, ba_size]
    refine ev_pos (by simp; omega) ?_
    rw [w64 (by omega) (by omega), len_at pre x]
    refine ev_eq (ih (pre ++ [x]) _ (by rw [h]; simp) (by simp) (by simp; omega)) ?_
    simp [tailT]
theorem srow_ev (l : List Int) (h1 : 1 ≤ l.length) (hl : l.length ≤ 3) (hv : ∀ x ∈ l, 0 ≤ x ∧ x ≤ 10) : Ev (fun k => spec_l15Row.f k l) (ba (rowT l)) := by
  match l, h1 with
  | x :: t, _ =>
    have hxv := hv x (by simp)
    obtain ⟨_, n1, n2⟩ := numT_bytes (n := x) (by omega) (by omega)
    unfold spec_l15Row.f
    have hx : rd (x :: t) 0 = x := by simp [rd]
    refine ev_suc ?_
    simp only [spec_l15Row.l0, hx]
    refine ev_pos (by simp <;> omega) (ev_neg (by omega) (ev_pos (by omega) (ev_bind (l1Number_ev hxv.1 (by omega)) ?_)))
    rw [litb, ba_append, ba_size, ba_size]
    refine ev_pos (by simp; omega) ?_
    rw [w64 (by omega) (by omega)]
    have := srow_loop (x :: t) hl hv (by simp) t [x] (numT x) rfl (by simp) (by simp; omega)
    simpa [rowT] using this
theorem abc_ev {c : Int} (h : 0 ≤ c ∧ c < 3) : (ba [97, 98, 99]).extract c.toNat (c + 1).toNat = ba [letT c] := by
  rw [ba_extract]
  obtain ⟨m, rfl⟩ := Int.eq_ofNat_of_zero_le h.1
  have : m = 0 ∨ m = 1 ∨ m = 2 := by omega
  rcases this with rfl | rfl | rfl <;> rfl
theorem splace_end (u : List Int) (s : Int) (w : List Int) (x : Tx) (h : placeB u s w = true) (hx : x.length ≤ 7) :
    Ev (fun k => (spec_l15Row.f k u).bind fun t1 => if t1.size + 1 ≤ 9223372036854775807 then (spec_l15Step.f k s).bind fun t2 => if (t1 ++ (⟨#[32]⟩ : ByteArray)).size + t2.size ≤ 9223372036854775807 then if ((t1 ++ (⟨#[32]⟩ : ByteArray)) ++ t2).size + 1 ≤ 9223372036854775807 then if (((t1 ++ (⟨#[32]⟩ : ByteArray)) ++ t2) ++ (⟨#[32]⟩ : ByteArray)).size + (ba x).size ≤ 9223372036854775807 then some ((((t1 ++ (⟨#[32]⟩ : ByteArray)) ++ t2) ++ (⟨#[32]⟩ : ByteArray)) ++ ba x) else none else none else none else none)
      (ba (rowT u ++ 32 :: (numT s ++ 32 :: x))) := by
  obtain ⟨a1, a2, a3, a4, a5, _, _⟩ := place_data h
  have hr := rowT_len u a1
  obtain ⟨_, n1, n2⟩ := numT_bytes (n := s) (by omega) (by omega)
  refine ev_bind (srow_ev u a2 a3 a1) (ev_pos (by rw [ba_size]; omega) (ev_bind (l15Step_ev (by omega) (by omega)) ?_))
  simp only [litb, ba_append, ba_size]
  refine ev_pos (by simp; omega) (ev_pos (by simp; omega) (ev_pos (by simp; omega) (ev_eq (Ev.now _) ?_)))
  simp
theorem splacew_loop (u : List Int) (s : Int) (w : List Int) (h : placeB u s w = true) : ∀ (suf pre : List Int) (x : Tx), w = pre ++ suf → pre ≠ [] → x = pre.map letT →
    Ev (fun k => spec_PlaceText.l0 k (ba x) (pre.length : Int) u s w) (ba (rowT u ++ 32 :: (numT s ++ 32 :: (w.map letT)))) := by
  obtain ⟨_, _, _, _, _, hw, hl⟩ := place_data h
  intro suf
  induction suf with
  | nil =>
    intro pre x e hp hx
    rw [List.append_nil] at e
    subst e
    refine ev_suc ?_
    simp only [spec_PlaceText.l0]
    refine ev_neg (by omega) ?_
    subst hx
    exact splace_end u s w _ h (by simp; omega)
  | cons c t ih =>
    intro pre x e hp hx
    have el : w.length = pre.length + (t.length + 1) := by rw [e]; simp
    have hc : rd w (pre.length : Int) = c := by rw [e]; exact rd_at _ _ _
    have hcv := hw c (by rw [e]; simp)
    have hpp : 0 < pre.length := List.length_pos_iff.2 hp
    refine ev_suc ?_
    simp only [spec_PlaceText.l0, hc, litb]
    rw [w64 (n := c + 1) (by omega) (by omega), abc_ev hcv]
    refine ev_pos (by omega) (ev_neg (by omega) (ev_pos (by omega) (ev_pos hcv.1 (ev_pos (by omega) (ev_pos (by omega) (ev_pos ?_ ?_))))))
    · rw [ba_size, ba_size, hx]; simp; omega
    · rw [w64 (by omega) (by omega), len_at pre c, ba_append]
      exact ih (pre ++ [c]) _ (by rw [e]; simp) (by simp) (by rw [hx]; simp)
theorem splacet_ev (u : List Int) (s : Int) (w : List Int) (hu : (u.length : Int) ≤ 1000000000000) (hw : (w.length : Int) ≤ 1000000000000) : Ev (fun k => spec_PlaceText.f k u s w) (ba (placeT u s w)) := by
  unfold spec_PlaceText.f placeT
  refine ev_bind (specPlace_ev u s w hu hw) ?_
  by_cases h : placeB u s w = true
  case neg => rw [if_neg h]; exact ev_neg h (Ev.now _)
  rw [if_pos h]
  refine ev_pos h ?_
  obtain ⟨_, _, _, _, _, hwv, hl⟩ := place_data h
  rcases w with _ | ⟨c, t⟩
  ·
    refine ev_suc ?_
    simp only [spec_PlaceText.l0, wordT, litb]
    exact ev_neg (by simp) (splace_end u s [] [46] h (by simp))
  ·
    have hcv := hwv c (by simp)
    have hc : rd (c :: t) 0 = c := by simp [rd]
    refine ev_suc ?_
    simp only [spec_PlaceText.l0, hc, litb, wordT]
    rw [w64 (n := c + 1) (by omega) (by omega), abc_ev hcv]
    refine ev_pos (by simp <;> omega) (ev_pos trivial (ev_pos (by omega) (ev_pos hcv.1 (ev_pos (by omega) (ev_pos (by omega) (ev_pos (by rw [ba_size]; simp) ?_))))))
    rw [w64 (by omega) (by omega), ba_append]
    have := splacew_loop u s (c :: t) h t [c] [letT c] rfl (by simp) rfl
    simpa using this
theorem cut_loop (c : UInt8) (l : Tx) (hl : l.length ≤ 1000000000000) : ∀ (suf acc pre : Tx) (done : List ByteArray), l = pre ++ (acc ++ suf) → done.length ≤ pre.length →
    Ev (fun k => spec_l1Cut.l0 k (ba l) (c.toNat : Int) done (pre.length : Int) ((pre ++ acc).length : Int)) (done ++ (cutA c acc suf).map ba) := by
  intro suf
  induction suf with
  | nil =>
    intro acc pre done h hd
    have e : l.length = pre.length + acc.length := by rw [h]; simp
    have ha : (pre ++ acc).length = pre.length + acc.length := List.length_append
    refine ev_suc ?_
    simp only [spec_l1Cut.l0]
    refine ev_neg (by rw [ba_size]; omega) (ev_pos (by omega) (ev_pos (by rw [ba_size]; omega) (ev_pos (by omega) (ev_eq (Ev.now _) ?_))))
    rw [ba_extract, ba_size]
    have e2 : (l.drop (pre.length : Int).toNat).take (l.length - (pre.length : Int).toNat) = acc := by
      rw [List.append_nil] at h
      subst h
      simp
    rw [e2]
    rfl
  | cons b t ih =>
    intro acc pre done h hd
    have e : l.length = pre.length + (acc.length + (t.length + 1)) := by rw [h]; simp
    have ha : (pre ++ acc).length = pre.length + acc.length := List.length_append
    have hb : bt (ba l) ((pre ++ acc).length : Int) = (b.toNat : Int) := by rw [h, ← List.append_assoc]; exact bt_ba _ _ _
    refine ev_suc ?_
    simp only [spec_l1Cut.l0]
    refine ev_pos (by rw [ba_size]; omega) (ev_pos (by omega) ?_)
    rw [hb]
    by_cases hc : b = c
    · subst hc
      refine ev_pos rfl (ev_pos (by omega) (ev_pos (by omega) (ev_pos (by rw [ba_size]; omega) (ev_pos (by omega) ?_))))
      rw [ba_extract]
      have e2 : (l.drop (pre.length : Int).toNat).take (((pre ++ acc).length : Int).toNat - (pre.length : Int).toNat) = acc := by
        rw [Int.toNat_natCast, Int.toNat_natCast, ha, Nat.add_sub_cancel_left, h, List.drop_left, List.take_left]
      rw [e2, w64 (by omega) (by omega)]
      have := ih [] (pre ++ acc ++ [b]) (done ++ [ba acc]) (by rw [h]; simp) (by simp; omega)
      have e3 : (((pre ++ acc).length : Int) + 1) = ((pre ++ acc ++ [b]).length : Int) := len_at _ _
      rw [e3]
      rw [List.append_nil] at this
      refine ev_eq this ?_
      rw [cutA, if_pos rfl]
      simp
    · refine ev_neg (fun e => hc (UInt8.toNat_inj.1 (by omega))) ?_
      rw [w64 (by omega) (by omega)]
      have := ih (acc ++ [b]) pre done (by rw [h]; simp) hd
      have e3 : (((pre ++ acc).length : Int) + 1) = ((pre ++ (acc ++ [b])).length : Int) := by rw [← List.append_assoc]; exact len_at _ _
      rw [e3]
      refine ev_eq this ?_
      rw [cutA, if_neg hc]
theorem scut_ev (c : UInt8) (l : Tx) (hl : l.length ≤ 1000000000000) (n : Int) (hn : n = (c.toNat : Int)) : Ev (fun k => spec_l1Cut.f k (ba l) n) ((cutA c [] l).map ba) := by
  subst hn
  have := cut_loop c l hl l [] [] [] rfl (Nat.le_refl _)
  simpa [spec_l1Cut.f] using this
theorem specIn_ev (a b c : Int) : spec_l1In.f a b c = some (decide (b ≤ a ∧ a ≤ c)) := by
  unfold spec_l1In.f
  split <;> simp <;> omega
theorem digits_loop (x : Tx) (hx : x.length ≤ 1000000000000) : ∀ (suf pre : Tx), x = pre ++ suf → ∀ a, ∃ v, Ev (fun k => spec_l1Digits.l0 k (ba x) a (pre.length : Int)) v := by
  intro suf
  induction suf with
  | nil =>
    intro pre h a
    have e : x.length = pre.length := by rw [h]; simp
    exact ⟨a, ev_suc (by simp only [spec_l1Digits.l0]; exact ev_neg (by rw [ba_size]; omega) (Ev.now _))⟩
  | cons b t ih =>
    intro pre h a
    have e : x.length = pre.length + (t.length + 1) := by rw [h]; simp
    have hb : bt (ba x) (pre.length : Int) = (b.toNat : Int) := by rw [h]; exact bt_ba _ _ _
    by_cases h1 : (b.toNat : Int) < 48
    · refine ⟨-1, ev_suc ?_⟩
      simp only [spec_l1Digits.l0, hb]
      exact ev_pos (by rw [ba_size]; omega) (ev_pos (by omega) (ev_pos h1 (Ev.now _)))
    by_cases h2 : (b.toNat : Int) > 57
    · refine ⟨-1, ev_suc ?_⟩
      simp only [spec_l1Digits.l0, hb]
      exact ev_pos (by rw [ba_size]; omega) (ev_pos (by omega) (ev_neg h1 (ev_pos h2 (Ev.now _))))
    obtain ⟨v, hv⟩ := ih (pre ++ [b]) (by rw [h]; simp) (wrap64 ((wrap64 (10 * a)) + (((b.toNat : Int) - 48) % 256)))
    refine ⟨v, ev_suc ?_⟩
    simp only [spec_l1Digits.l0, hb]
    refine ev_pos (by rw [ba_size]; omega) (ev_pos (by omega) (ev_neg h1 (ev_neg h2 ?_)))
    rw [w64 (n := (pre.length : Int) + 1) (by omega) (by omega), len_at pre b]
    exact hv
theorem digits_some (x : Tx) (hx : x.length ≤ 1000000000000) : ∃ v, Ev (fun k => spec_l1Digits.f k (ba x)) v := by
  have hf : ∃ v, Ev (fun k => spec_l1Digits.j0 k (ba x) false) v := by
    obtain ⟨v, hv⟩ := digits_loop x hx x [] rfl 0
    exact ⟨v, ev_suc (by simp only [spec_l1Digits.j0]; exact ev_neg (by decide) hv)⟩
  have ht : ∃ v, Ev (fun k => spec_l1Digits.j0 k (ba x) true) v := ⟨-1, ev_suc (by simp only [spec_l1Digits.j0]; exact ev_pos trivial (Ev.now _))⟩
  have hj : ∀ b, ∃ v, Ev (fun k => spec_l1Digits.j0 k (ba x) b) v := fun b => match b with | false => hf | true => ht
  unfold spec_l1Digits.f
  simp only [specIn_ev, Option.bind_some, decide_eq_true_eq]
  split
  · split
    · obtain ⟨v, hv⟩ := hj ((bt (ba x) 0) == 48)
      exact ⟨v, ev_pos (by omega) hv⟩
    · exact hf
  · exact ht
theorem signed_some (x : Tx) (hx : x.length ≤ 1000000000000) : ∃ v, Ev (fun k => spec_l15Signed.f k (ba x)) v := by
  obtain ⟨d, hd⟩ := digits_some x hx
  have hf : ∃ v, Ev (fun k => spec_l15Signed.j0 k (ba x) false) v := by
    by_cases h : d < 0
    · exact ⟨-100, ev_suc (by simp only [spec_l15Signed.j0]; exact ev_neg (by decide) (ev_bind hd (ev_pos h (Ev.now _))))⟩
    · exact ⟨d, ev_suc (by simp only [spec_l15Signed.j0]; exact ev_neg (by decide) (ev_bind hd (ev_neg h (Ev.now _))))⟩
  unfold spec_l15Signed.f
  split
  · rename_i h1
    rw [ba_size] at h1
    obtain ⟨e, he⟩ := digits_some (x.drop 1) (by rw [List.length_drop]; omega)
    have e1 : (ba x).extract 1 (ba x).size = ba (x.drop 1) := by
      rw [ba_extract, ba_size]
      congr 1
      exact List.take_of_length_le (by simp)
    have ht : ∃ v, Ev (fun k => spec_l15Signed.j0 k (ba x) true) v :=
      ⟨wrap64 (-e), ev_suc (by simp only [spec_l15Signed.j0, e1]; exact ev_pos trivial (ev_pos (by rw [ba_size]; omega) (ev_bind he (Ev.now _))))⟩
    have hj : ∀ b, ∃ v, Ev (fun k => spec_l15Signed.j0 k (ba x) b) v := fun b => match b with | false => hf | true => ht
    simp only [e1]
    split
    · split
      · obtain ⟨v, hv⟩ := hj (decide (e > 0))
        exact ⟨v, ev_pos (by rw [ba_size]; omega) (ev_bind he hv)⟩
      · exact hf
    · rename_i h2; rw [ba_size] at h2; omega
  · exact hf
theorem signed_ev {n : Int} (h0 : -99 ≤ n) (h1 : n ≤ 99) : Ev (fun k => spec_l15Signed.f k (ba (numT n))) n := by
  have := small_all (p := fun n => decide (spec_l15Signed.f 20 (ba (numT n)) = some n)) (by decide +kernel) h0 h1
  exact Ev.of (fun k => spec_l15Signed.mono _ _) (of_decide_eq_true this)
open Classical in
noncomputable def dgv (p : Tx) : Int := if h : ∃ v, Ev (fun k => spec_l1Digits.f k (ba p)) v then h.choose else 0
theorem dgv_ev (p : Tx) (hp : p.length ≤ 1000000000000) : Ev (fun k => spec_l1Digits.f k (ba p)) (dgv p) := by
  have h := digits_some p hp
  unfold dgv
  rw [dif_pos h]
  exact h.choose_spec
theorem digits_ev {n : Int} (h0 : 0 ≤ n) (h1 : n ≤ 99) : Ev (fun k => spec_l1Digits.f k (ba (numT n))) n := by
  have := small_all (p := fun n => decide (n < 0) || decide (spec_l1Digits.f 20 (ba (numT n)) = some n)) (by decide +kernel) (n := n) (by omega) h1
  rw [decide_eq_false (by omega), Bool.false_or] at this
  exact Ev.of (fun k => spec_l1Digits.mono _ _) (of_decide_eq_true this)
theorem dgv_num {n : Int} (h0 : 0 ≤ n) (h1 : n ≤ 99) : dgv (numT n) = n := ev_uniq (dgv_ev _ (by have := (numT_bytes (n := n) (by omega) h1).2.2; omega)) (digits_ev h0 h1)
theorem chk_ev (x : Tx) (u : List Int) (s : Int) (w : List Int) (hu : (u.length : Int) ≤ 1000000000000) (hw : (w.length : Int) ≤ 1000000000000) :
    Ev (fun k => if (ba x).toList = ([] : List UInt8) then some (([] : List Int), (0 : Int), ([] : List Int), false) else (spec_PlaceText.f k u s w).bind fun t => if t.toList = (ba x).toList then some (u, s, w, true) else some (([] : List Int), (0 : Int), ([] : List Int), false)) (chkP x u s w) := by
  simp only [toList_ba]
  by_cases h : x = []
  · have hc : chkP x u s w = ([], 0, [], false) := if_neg (fun e => e.1 h)
    rw [hc]; exact ev_pos h (Ev.now _)
  refine ev_neg h (ev_bind (splacet_ev u s w hu hw) ?_)
  simp only [toList_ba]
  by_cases h2 : placeT u s w = x
  · have hc : chkP x u s w = (u, s, w, true) := if_pos ⟨h, h2⟩
    rw [hc]; exact ev_pos h2 (Ev.now _)
  · have hc : chkP x u s w = ([], 0, [], false) := if_neg (fun e => h2 e.2)
    rw [hc]; exact ev_neg h2 (Ev.now _)
theorem sword_loop (x a b t : Tx) (u : List Int) (s : Int) (hu : (u.length : Int) ≤ 1000000000000) (ht : t.length ≤ 1048576) (hne : t ≠ [46]) : ∀ (suf pre : Tx), t = pre ++ suf →
    Ev (fun k => spec_ReadPlace.l1 k (ba x) ([a, b, t].map ba) (pre.length : Int) u s (pre.map fun c => (c.toNat : Int) - 97)) (chkP x u s (t.map fun c => (c.toNat : Int) - 97)) := by
  have h2 : rdOf ByteArray.empty ([a, b, t].map ba) 2 = ba t := rfl
  intro suf
  induction suf with
  | nil =>
    intro pre h
    rw [List.append_nil] at h
    subst h
    refine ev_suc ?_
    simp only [spec_ReadPlace.l1, h2]
    refine ev_pos (by simp) (ev_neg (by rw [ba_size]; omega) (chk_ev x u s _ hu (by rw [List.length_map]; omega)))
  | cons c r ih =>
    intro pre h
    have e : t.length = pre.length + (r.length + 1) := by rw [h]; simp
    have hb : bt (ba t) (pre.length : Int) = (c.toNat : Int) := by rw [h]; exact bt_ba _ _ _
    have hc : c.toNat < 256 := c.toNat_lt
    refine ev_suc ?_
    simp only [spec_ReadPlace.l1, h2, hb]
    refine ev_pos (by simp) (ev_pos (by rw [ba_size]; omega) (ev_neg (by rw [toList_ba]; exact hne) (ev_pos (by omega) (ev_pos (by rw [List.length_map]; omega) ?_))))
    rw [w64 (n := (c.toNat : Int)) (by omega) (by omega), w64 (n := (c.toNat : Int) - 97) (by omega) (by omega), w64 (by omega) (by omega), len_at pre c]
    have := ih (pre ++ [c]) (by rw [h]; simp)
    simpa using this
theorem sword_ev (x a b t : Tx) (u : List Int) (s : Int) (hu : (u.length : Int) ≤ 1000000000000) (ht : t.length ≤ 1048576) : Ev (fun k => spec_ReadPlace.l1 k (ba x) ([a, b, t].map ba) 0 u s []) (chkP x u s (decW t)) := by
  by_cases hne : t = [46]
  · subst hne
    have h2 : rdOf ByteArray.empty ([a, b, [46]].map ba) 2 = ba [46] := rfl
    refine ev_suc ?_
    simp only [spec_ReadPlace.l1, h2]
    refine ev_pos (by simp) (ev_pos (by decide) (ev_pos (by rw [toList_ba]) ?_))
    exact chk_ev x u s [] hu (by simp)
  · unfold decW
    rw [if_neg hne]
    exact sword_loop x a b t u s hu ht hne t [] rfl
theorem srows_loop (x a b t : Tx) (ps : List Tx) (s : Int) (hl : ps.length ≤ 1048577) (hp : ∀ p ∈ ps, p.length ≤ 1048576) (r : List Int × Int × List Int × Bool)
    (hend : Ev (fun k => spec_ReadPlace.l1 k (ba x) ([a, b, t].map ba) 0 (ps.map dgv) s []) r) : ∀ (suf pre : List Tx), ps = pre ++ suf → Ev (fun k => spec_ReadPlace.l0 k (ba x) ([a, b, t].map ba) (ps.map ba) (pre.length : Int) (pre.map dgv) s) r := by
  intro suf
  induction suf with
  | nil =>
    intro pre h
    rw [List.append_nil] at h
    subst h
    refine ev_suc ?_
    simp only [spec_ReadPlace.l0]
    exact ev_neg (by rw [List.length_map]; omega) hend
  | cons p q ih =>
    intro pre h
    have e : ps.length = pre.length + (q.length + 1) := by rw [h]; simp
    have hr : rdOf ByteArray.empty (ps.map ba) (pre.length : Int) = ba p := by rw [rdOf_map, h]; simp
    have hpl := hp p (by rw [h]; simp)
    refine ev_suc ?_
    simp only [spec_ReadPlace.l0, hr]
    refine ev_pos (by rw [List.length_map]; omega) (ev_pos (by omega) (ev_bind (dgv_ev p (by omega)) (ev_pos (by rw [List.length_map]; omega) ?_)))
    rw [w64 (by omega) (by omega), len_at pre p]
    have := ih (pre ++ [p]) (by rw [h]; simp)
    simpa using this
theorem sreadp_ev (x : Tx) (hx : x.length ≤ 1048576) : Ev (fun k => spec_ReadPlace.f k (ba x)) (readP x) := by
  unfold spec_ReadPlace.f
  refine ev_bind (scut_ev 32 x (by omega) 32 rfl) ?_
  have hne : ∀ {u : List Int} {s : Int} {w : List Int}, placeT u s w = x → x ≠ [] → placeB u s w = true ∧ cutA 32 [] x = [rowT u, numT s, wordT w] ∧ cutA 44 [] (rowT u) = u.map numT := fun {u s w} h h2 => by
    have := place_cut (u := u) (s := s) (w := w) (by rw [h]; exact h2)
    rwa [h] at this
  rw [List.length_map]
  by_cases h3 : ((cutA 32 [] x).length : Int) = 3
  case neg =>
    refine ev_neg h3 ?_
    rw [readP_not fun u s w h => Classical.byContradiction fun h2 => by
      have := (hne h h2).2.1
      rw [this] at h3; simp at h3]
    exact Ev.now _
  obtain ⟨a, b, t, hc⟩ : ∃ a b t, cutA 32 [] x = [a, b, t] := by
    match hc : cutA 32 [] x with
    | [a, b, t] => exact ⟨a, b, t, rfl⟩
    | [] | [_] | [_, _] | _ :: _ :: _ :: _ :: _ => rw [hc] at h3; simp at h3; try omega
  have hs : ∀ p ∈ cutA 32 [] x, p.length ≤ 1048576 := fun p hp => by have := pieces_small 32 x [] p hp; simp at this; omega
  rw [hc] at hs hne h3 ⊢
  have ha := hs a (by simp)
  have hb := hs b (by simp)
  have ht := hs t (by simp)
  obtain ⟨v, hv⟩ := signed_some b (by omega)
  have e1 : rdOf ByteArray.empty ([a, b, t].map ba) 1 = ba b := rfl
  have e0 : rdOf ByteArray.empty ([a, b, t].map ba) 0 = ba a := rfl
  simp only [e0, e1]
  have hps : ∀ p ∈ cutA 44 [] a, p.length ≤ 1048576 := fun p hp => by have := pieces_small 44 a [] p hp; simp at this; omega
  have hpl : (cutA 44 [] a).length ≤ 1048577 := by have := cutA_len 44 a []; omega
  refine ev_pos h3 (ev_pos (by simp) (ev_bind hv (ev_pos (by simp) (ev_bind (scut_ev 44 a (by omega) 44 rfl) ?_))))
  have hw := srows_loop x a b t (cutA 44 [] a) v hpl hps _ (sword_ev x a b t _ v (by rw [List.length_map]; omega) ht) (cutA 44 [] a) [] rfl
  refine ev_eq hw ?_
  unfold chkP
  by_cases hm : x ≠ [] ∧ placeT ((cutA 44 [] a).map dgv) v (decW t) = x
  · rw [if_pos hm, readP_of hm.2 hm.1]
  · rw [if_neg hm, readP_not fun u s w h => Classical.byContradiction fun h2 => hm ⟨h2, ?_⟩]
    obtain ⟨p, q, r⟩ := hne h h2
    obtain ⟨b1, b2, b3, b4, b5, b6, _⟩ := place_data p
    simp only [List.cons.injEq, and_true] at q
    obtain ⟨rfl, rfl, rfl⟩ := q
    have hv' : v = s := ev_uniq hv (signed_ev (by omega) (by omega))
    rw [r, decW_wordT b6, hv', List.map_map]
    have : u.map (dgv ∘ numT) = u := by
      conv => rhs; rw [← List.map_id u]
      exact List.map_congr_left fun c hc => dgv_num (b1 c hc).1 (by have := (b1 c hc).2; omega)
    rw [this, h]
noncomputable def storeB (x y : Tx) (n : Int) : Bool := (readP x).2.2.2 && decide (y.length ≤ 1000) && decide (0 ≤ n ∧ n ≤ y.length)
theorem istore_ev (x y : Tx) (n : Int) (hx : x.length ≤ 1048576) : Ev (fun k => impl_StoreOk.f k (ba x) (ba y) n) (storeB x y n) := by
  unfold impl_StoreOk.f storeB
  refine ev_bind (ireadp_ev x hx) ?_
  by_cases h1 : (readP x).2.2.2 = true
  · refine ev_pos h1 ?_
    rw [h1, ba_size]
    by_cases h2 : (y.length : Int) ≤ 1000
    · refine ev_pos h2 ?_
      by_cases h3 : n ≥ 0
      · exact ev_pos h3 (ev_eq (Ev.now _) (by rw [Bool.eq_iff_iff]; simp; omega))
      · exact ev_neg h3 (ev_eq (Ev.now _) (by rw [Bool.eq_iff_iff]; simp; omega))
    · exact ev_neg h2 (ev_eq (Ev.now _) (by rw [Bool.eq_iff_iff]; simp; omega))
  · exact ev_neg h1 (ev_eq (Ev.now _) (by rw [Bool.eq_false_iff.2 h1]; rfl))
theorem sstore_ev (x y : Tx) (n : Int) (hx : x.length ≤ 1048576) : Ev (fun k => spec_StoreOk.f k (ba x) (ba y) n) (storeB x y n) := by
  unfold spec_StoreOk.f storeB
  refine ev_bind (sreadp_ev x hx) ?_
  by_cases h1 : (readP x).2.2.2 = true
  · refine ev_pos h1 ?_
    rw [h1, ba_size]
    by_cases h2 : (y.length : Int) ≤ 1000
    · refine ev_pos h2 ?_
      rw [l1In_eq]
      exact ev_eq (Ev.now _) (by rw [Bool.eq_iff_iff]; simp; omega)
    · exact ev_neg h2 (ev_eq (Ev.now _) (by rw [Bool.eq_iff_iff]; simp; omega))
  · exact ev_neg h1 (ev_eq (Ev.now _) (by rw [Bool.eq_false_iff.2 h1]; rfl))
theorem szStore_eq (x0 x1 : ByteArray) (n : Int) (h0 : x0.size ≤ maxLen) (h1 : x1.size ≤ maxLen) :
    ∃ r, laws_szStore.f x0 x1 n 1048576 = some r ∧ (r < 0 ∨ (0 ≤ r ∧ x0.size ≤ 1048576 ∧ x1.size ≤ 1048576)) := by
  unfold maxLen at h0 h1
  unfold laws_szStore.f
  rw [w64 (n := 1048576 - (x0.size : Int)) (by omega) (by omega)]
  by_cases h : (1048576 : Int) - (x0.size : Int) < 0
  · rw [if_pos h]; exact ⟨-1, rfl, .inl (by omega)⟩
  rw [if_neg h, w64 (n := 1048576 - (x0.size : Int) - (x1.size : Int)) (by omega) (by omega)]
  by_cases h2 : (1048576 : Int) - (x0.size : Int) - (x1.size : Int) < 0
  · rw [if_pos h2]; exact ⟨-1, rfl, .inl (by omega)⟩
  · rw [if_neg h2]; exact ⟨_, rfl, .inr ⟨by omega, by omega, by omega⟩⟩
theorem rdP_at (p : List S27) (a : S27) (t : List S27) : rd_T27 (p ++ a :: t) (p.length : Int) = a := by simp [rd_T27]
/-- A place whose lists aren't too long to be counted. -/
def Sized1 (q : S27) : Prop := (q.f0.length : Int) ≤ 1000000000000 ∧ (q.f2.length : Int) ≤ 1000000000000
def deskB (u : List Int) (s : Int) (w : List Int) (a : List S27) : Bool := (a.all fun q => placeB q.f0 q.f1 q.f2) && (placeB u s w && decide (a.length ≤ 8))
theorem deskB_iff (u : List Int) (s : Int) (w : List Int) (a : List S27) : deskB u s w a = true ↔ (∀ q ∈ a, placeB q.f0 q.f1 q.f2 = true) ∧ placeB u s w = true ∧ a.length ≤ 8 := by simp [deskB]
theorem placeT_nil {u : List Int} {s : Int} {w : List Int} (h : placeT u s w = []) : ¬ placeB u s w = true := fun hp => by
  unfold placeT at h
  rw [if_pos hp] at h
  simp at h
theorem readP_cases (x : Tx) : (∃ u s w, readP x = (u, s, w, true) ∧ placeT u s w = x ∧ x ≠ []) ∨ readP x = ([], 0, [], false) := by
  by_cases h : ∃ u s w, placeT u s w = x ∧ x ≠ []
  · obtain ⟨u, s, w, h1, h2⟩ := h
    exact Or.inl ⟨u, s, w, readP_of h1 h2, h1, h2⟩
  · exact Or.inr (readP_not fun u s w h1 => Classical.byContradiction fun h2 => h ⟨u, s, w, h1, h2⟩)
/-- The urn with so many balls of a colour more. -/
def putM (u : List Int) (a b : Int) : List Int × Bool :=
  if urnB u = true ∧ (0 ≤ a ∧ a < (u.length : Int)) ∧ (-40 ≤ b ∧ b ≤ 40) ∧ urnB (u.set a.toNat (rd u a + b)) = true then (u.set a.toNat (rd u a + b), true) else ([], false)
/-- What a deed makes of a place, if it can be tried. -/
def madeM (u : List Int) (s : Int) (w : List Int) (x y z : Int) : Option (List Int × Int × List Int) :=
  if x = 0 then (if (putM u y z).2 = true ∧ w = [] then some ((putM u y z).1, s, []) else none)
  else if z = 0 then
    (if x = 1 then (if w = [] then some (u, y, []) else none)
    else if x = 2 then some (u, s, w ++ [y])
    else if x = 3 ∧ y = 0 then some (u, s, []) else none)
  else none
def pastM (l : List S27) : List S27 := if l.length > 8 then l.drop 1 else l
/-- A place that comes of a deed is taken, if it is one, and another one. -/
def takeM (u : List Int) (s : Int) (w : List Int) (a : List S27) (u' : List Int) (s' : Int) (w' : List Int) : List Int × Int × List Int × List S27 × Bool :=
  if placeB u' s' w' = true ∧ ¬ (u' = u ∧ s' = s ∧ w' = w) then (u', s', w', pastM (a ++ [⟨u, s, w⟩]), true) else (u, s, w, a, false)
def backM (u : List Int) (s : Int) (w : List Int) (a : List S27) : List Int × Int × List Int × List S27 × Bool :=
  match a.getLast? with
  | some q => (q.f0, q.f1, q.f2, a.dropLast, true)
  | none => (u, s, w, a, false)
/-- The desk after a deed, and whether it was done. -/
def doM (u : List Int) (s : Int) (w : List Int) (a : List S27) (x y z : Int) : List Int × Int × List Int × List S27 × Bool :=
  if deskB u s w a = true then
    if x = 4 ∧ y = 0 ∧ z = 0 then backM u s w a
    else match madeM u s w x y z with
      | some d => takeM u s w a d.1 d.2.1 d.2.2
      | none => (u, s, w, a, false)
  else ([], 0, [], [], false)
theorem urn_small {u : List Int} (h : urnB u = true) {i : Int} (h0 : 0 ≤ i) (h1 : i < (u.length : Int)) : 0 ≤ rd u i ∧ rd u i ≤ 40 := ((urnB_iff u).1 h).1 _ (rd_mem h0 h1)
theorem text_same {u : List Int} {s : Int} {w : List Int} (hp : placeB u s w = true) (u' : List Int) (s' : Int) (w' : List Int) (hp' : placeB u' s' w' = true) : (placeT u' s' w' == placeT u s w) = true ↔ (u' = u ∧ s' = s ∧ w' = w) := by
  constructor
  · intro h
    exact place_inj (fun hn => placeT_nil hn hp') (beq_iff_eq.1 h)
  · rintro ⟨rfl, rfl, rfl⟩; simp
theorem desk_data {u : List Int} {s : Int} {w : List Int} {a : List S27} (h : deskB u s w a = true) : u.length ≤ 3 ∧ w.length ≤ 6 ∧ a.length ≤ 8 ∧ placeB u s w = true ∧ ∀ q ∈ a, placeB q.f0 q.f1 q.f2 = true ∧ q.f0.length ≤ 3 ∧ q.f2.length ≤ 6 := by
  obtain ⟨h1, h2, h3⟩ := (deskB_iff _ _ _ _).1 h
  obtain ⟨_, _, p3, _, _, _, p7⟩ := place_data h2
  refine ⟨p3, p7, h3, h2, fun q hq => ?_⟩
  obtain ⟨_, _, q3, _, _, _, q7⟩ := place_data (h1 q hq)
  exact ⟨h1 q hq, q3, q7⟩
theorem putM_len (u : List Int) (a b : Int) : (putM u a b).1.length ≤ u.length := by unfold putM; split <;> simp
theorem last_split {a : List S27} {q : S27} (h : a.getLast? = some q) : a = a.dropLast ++ [q] := by
  rcases List.eq_nil_or_concat a with rfl | ⟨p, r, rfl⟩
  · simp at h
  · simp at h; subst h; simp
theorem doM_desk {u : List Int} {s : Int} {w : List Int} {a : List S27} (h : deskB u s w a = true) (x y z : Int) : deskB (doM u s w a x y z).1 (doM u s w a x y z).2.1 (doM u s w a x y z).2.2.1 (doM u s w a x y z).2.2.2.1 = true := by
  obtain ⟨h1, h2, h3⟩ := (deskB_iff _ _ _ _).1 h
  unfold doM
  rw [if_pos h]
  split
  · unfold backM
    split
    · rename_i q hq
      have e := last_split hq
      rw [deskB_iff]
      refine ⟨fun r hr => h1 r (by rw [e]; simp [hr]), h1 q (by rw [e]; simp), by rw [List.length_dropLast]; omega⟩
    · exact h
  · split
    · rename_i d _
      unfold takeM
      split
      · rename_i hp
        rw [deskB_iff]
        have hm : ∀ r ∈ a ++ [(⟨u, s, w⟩ : S27)], placeB r.f0 r.f1 r.f2 = true := by
          intro r hr
          rcases List.mem_append.1 hr with hr | hr
          · exact h1 r hr
          · rw [List.mem_singleton] at hr; subst hr; exact h2
        refine ⟨fun r hr => hm r ?_, hp.1, ?_⟩
        · unfold pastM at hr
          split at hr
          · exact List.mem_of_mem_drop hr
          · exact hr
        · unfold pastM
          dsimp only
          split
          · simp; omega
          · omega
      · exact h
    · exact h

theorem doM_some {u : List Int} {s : Int} {w : List Int} {a : List S27} {x y z : Int} {d : List Int × Int × List Int} (hd : deskB u s w a = true) (h4 : ¬ (x = 4 ∧ y = 0 ∧ z = 0)) (hm : madeM u s w x y z = some d) : doM u s w a x y z = takeM u s w a d.1 d.2.1 d.2.2 := by
  unfold doM; rw [if_pos hd, if_neg h4, hm]
theorem doM_none {u : List Int} {s : Int} {w : List Int} {a : List S27} {x y z : Int} (hd : deskB u s w a = true) (h4 : ¬ (x = 4 ∧ y = 0 ∧ z = 0)) (hm : madeM u s w x y z = none) : doM u s w a x y z = (u, s, w, a, false) := by
  unfold doM; rw [if_pos hd, if_neg h4, hm]
theorem doM_back {u : List Int} {s : Int} {w : List Int} {a : List S27} {x y z : Int} (hd : deskB u s w a = true) (h4 : x = 4 ∧ y = 0 ∧ z = 0) : doM u s w a x y z = backM u s w a := by
  unfold doM; rw [if_pos hd, if_pos h4]
/-- The desk after deeds, those left out that can't be done, and how many were done. -/
def runM : List S57 → List Int → Int → List Int → List S27 → List Int × Int × List Int × List S27 × Nat
  | [], u, s, w, a => (u, s, w, a, 0)
  | e :: t, u, s, w, a =>
    if (doM u s w a e.f0 e.f1 e.f2).2.2.2.2 = true then
      ((runM t (doM u s w a e.f0 e.f1 e.f2).1 (doM u s w a e.f0 e.f1 e.f2).2.1 (doM u s w a e.f0 e.f1 e.f2).2.2.1 (doM u s w a e.f0 e.f1 e.f2).2.2.2.1).1,
       (runM t (doM u s w a e.f0 e.f1 e.f2).1 (doM u s w a e.f0 e.f1 e.f2).2.1 (doM u s w a e.f0 e.f1 e.f2).2.2.1 (doM u s w a e.f0 e.f1 e.f2).2.2.2.1).2.1,
       (runM t (doM u s w a e.f0 e.f1 e.f2).1 (doM u s w a e.f0 e.f1 e.f2).2.1 (doM u s w a e.f0 e.f1 e.f2).2.2.1 (doM u s w a e.f0 e.f1 e.f2).2.2.2.1).2.2.1,
       (runM t (doM u s w a e.f0 e.f1 e.f2).1 (doM u s w a e.f0 e.f1 e.f2).2.1 (doM u s w a e.f0 e.f1 e.f2).2.2.1 (doM u s w a e.f0 e.f1 e.f2).2.2.2.1).2.2.2.1,
       (runM t (doM u s w a e.f0 e.f1 e.f2).1 (doM u s w a e.f0 e.f1 e.f2).2.1 (doM u s w a e.f0 e.f1 e.f2).2.2.1 (doM u s w a e.f0 e.f1 e.f2).2.2.2.1).2.2.2.2 + 1)
    else runM t u s w a
theorem runM_desk : ∀ (l : List S57) (u : List Int) (s : Int) (w : List Int) (a : List S27), deskB u s w a = true → deskB (runM l u s w a).1 (runM l u s w a).2.1 (runM l u s w a).2.2.1 (runM l u s w a).2.2.2.1 = true := by
  intro l
  induction l with
  | nil => intro u s w a h; exact h
  | cons e t ih =>
    intro u s w a h
    unfold runM
    split
    · exact ih _ _ _ _ (doM_desk h _ _ _)
    · exact ih _ _ _ _ h
theorem desk_sized {u : List Int} {s : Int} {w : List Int} {a : List S27} (h : deskB u s w a = true) : (u.length : Int) ≤ 1000000 ∧ (w.length : Int) ≤ 1000000 ∧ (a.length : Int) ≤ 1000000 ∧ ∀ q ∈ a, Sized1 q := by
  obtain ⟨d1, d2, d3, _, d5⟩ := desk_data h
  exact ⟨by omega, by omega, by omega, fun q hq => ⟨by have := (d5 q hq).2.1; omega, by have := (d5 q hq).2.2; omega⟩⟩
def mkD (d : Int × Int × Int) : S57 := ⟨d.1, d.2.1, d.2.2⟩
theorem rjL_len' : ∀ (l : List Tx) (ds : List (Int × Int × Int)) (n : Nat), (rjL l ds n).1.length ≤ ds.length + l.length
  | [], ds, n => by simp [rjL]
  | [_], ds, n => by simp [rjL]
  | p :: q :: t, ds, n => by
    rw [rjL]
    split
    · have := rjL_len' (q :: t) (ds ++ [((readD p).1, (readD p).2.1, (readD p).2.2.1)]) (n + p.length + 1)
      simp only [List.length_append, List.length_cons, List.length_nil] at this ⊢
      omega
    · simp
theorem readJ_len' (y : Tx) : (readJ y).1.length ≤ y.length + 1 := by
  have h1 := rjL_len' (cutA 10 [] y) [] 0
  have h2 := cutA_len 10 y []
  simp only [List.length_nil] at h1
  unfold readJ; omega
/-- The desk of a store: of the saved place, after the deeds of the log. -/
noncomputable def openM (x y : Tx) : List Int × Int × List Int × List S27 × Nat := runM ((readJ y).1.map mkD) (readP x).1 (readP x).2.1 (readP x).2.2.1 []
theorem store_data {x y : Tx} {z : Int} (h : storeB x y z = true) : y.length ≤ 1000 ∧ 0 ≤ z ∧ z ≤ y.length ∧ placeB (readP x).1 (readP x).2.1 (readP x).2.2.1 = true ∧ placeT (readP x).1 (readP x).2.1 (readP x).2.2.1 = x ∧ x ≠ [] ∧ (readP x).2.2.2 = true := by
  unfold storeB at h
  simp only [Bool.and_eq_true, decide_eq_true_eq] at h
  obtain ⟨⟨h1, h2⟩, h3⟩ := h
  rcases readP_cases x with ⟨u, s, w, e1, e2, e3⟩ | e1
  · obtain ⟨hp, _⟩ := place_cut (u := u) (s := s) (w := w) (by rw [e2]; exact e3)
    rw [e1]
    exact ⟨h2, h3.1, h3.2, hp, e2, e3, rfl⟩
  · rw [e1] at h1; simp at h1
theorem desk0 {u : List Int} {s : Int} {w : List Int} (h : placeB u s w = true) : deskB u s w [] = true := (deskB_iff _ _ _ _).2 ⟨by simp, h, by simp⟩
theorem openM_desk {x y : Tx} {z : Int} (h : storeB x y z = true) : deskB (openM x y).1 (openM x y).2.1 (openM x y).2.2.1 (openM x y).2.2.2.1 = true := runM_desk _ _ _ _ _ (desk0 (store_data h).2.2.2.1)
theorem implDesk_loop (u : List Int) (s : Int) (w : List Int) (a : List S27) (hu : (u.length : Int) ≤ 1000000000000) (hw : (w.length : Int) ≤ 1000000000000) (hl : (a.length : Int) ≤ 1000000000000) (hA : ∀ q ∈ a, Sized1 q) : ∀ (x p : List S27), a = p ++ x → (∀ q ∈ p, placeB q.f0 q.f1 q.f2 = true) →
    Ev (fun k => impl_DeskOk.l0 k a (a.length : Int) (p.length : Int) u s w a) (deskB u s w a) := by
  intro x
  induction x with
  | nil =>
    intro p h hp
    have e : a.length = p.length := by rw [h]; simp
    refine ev_suc ?_
    simp (disch := omega) only [impl_DeskOk.l0, if_neg]
    rw [List.append_nil] at h
    subst h
    refine ev_bind (implPlace_ev u s w hu hw) ?_
    have hall : (a.all fun q => placeB q.f0 q.f1 q.f2) = true := by simpa using hp
    by_cases hP : placeB u s w = true
    · refine ev_pos hP (ev_now ?_)
      simp only [deskB, hall, hP, Bool.true_and]
      rw [Bool.eq_iff_iff]; simp only [decide_eq_true_eq]; omega
    · refine ev_neg hP (ev_now ?_)
      have hf : placeB u s w = false := by simpa using hP
      simp [deskB, hf]
  | cons c x ih =>
    intro p h hp
    have e : a.length = p.length + (x.length + 1) := by rw [h]; simp
    have hx : rd_T27 a (p.length : Int) = c := by rw [h]; exact rdP_at _ _ _
    have hca : c ∈ a := by rw [h]; simp
    have hc := hA c hca
    refine ev_suc ?_
    simp (disch := omega) only [impl_DeskOk.l0, hx, if_pos, w64]
    refine ev_bind (implPlace_ev c.f0 c.f1 c.f2 hc.1 hc.2) ?_
    by_cases hP : placeB c.f0 c.f1 c.f2 = true
    · refine ev_pos hP ?_
      rw [len_at p c]
      refine ih (p ++ [c]) (by rw [h]; simp) ?_
      intro q hq
      rcases List.mem_append.1 hq with hq | hq
      · exact hp q hq
      · rw [List.mem_singleton] at hq; subst hq; exact hP
    · refine ev_neg hP (ev_now ?_)
      cases e : deskB u s w a with
      | false => rfl
      | true => exact absurd (((deskB_iff u s w a).1 e).1 c hca) hP
theorem implDesk_ev (u : List Int) (s : Int) (w : List Int) (a : List S27) (hu : (u.length : Int) ≤ 1000000000000) (hw : (w.length : Int) ≤ 1000000000000) (hl : (a.length : Int) ≤ 1000000000000) (hA : ∀ q ∈ a, Sized1 q) :
    Ev (fun k => impl_DeskOk.f k u s w a) (deskB u s w a) := by
  simp only [impl_DeskOk.f]
  exact implDesk_loop u s w a hu hw hl hA a [] rfl (by simp)
theorem l15Place_eq (u : List Int) (s : Int) (w : List Int) (hu : (u.length : Int) ≤ 1000000000000) (hw : (w.length : Int) ≤ 1000000000000) : spec_l15Place.f u s w = some (u, s, w) := by
  unfold spec_l15Place.f
  simp only [Option.bind_some, List.nil_append, List.length_nil]
  rw [if_pos (by omega), if_pos (by omega)]
theorem copyPlace_eq (u : List Int) (s : Int) (w : List Int) (hu : (u.length : Int) ≤ 1000000000000) (hw : (w.length : Int) ≤ 1000000000000) : impl_copyPlace.f u s w = some (u, s, w) := by
  simp [impl_copyPlace.f, clone_eq u hu, clone_eq w hw]
theorem iputin_ev (u : List Int) (a b : Int) (hu : (u.length : Int) ≤ 1000000) : Ev (fun k => impl_PutIn.f k u a b) (putM u a b) := by
  have hT : Ev (fun k => impl_PutIn.j0 k u a b true) ([], false) := ev_suc (by simp only [impl_PutIn.j0]; exact ev_pos trivial (Ev.now _))
  unfold impl_PutIn.f
  refine ev_bind (implUrnOk_ev u (by omega)) ?_
  by_cases h : urnB u = true
  case neg =>
    refine ev_neg h (ev_eq hT ?_)
    unfold putM; rw [if_neg (fun k => h k.1)]
  refine ev_pos h ?_
  by_cases h1 : a < 0
  · refine ev_pos h1 (ev_eq hT ?_)
    unfold putM; rw [if_neg (fun k => by omega)]
  refine ev_neg h1 ?_
  by_cases h2 : a ≥ (u.length : Int)
  · refine ev_pos h2 (ev_eq hT ?_)
    unfold putM; rw [if_neg (fun k => by omega)]
  refine ev_neg h2 ?_
  by_cases h3 : b > 40
  · refine ev_pos h3 (ev_eq hT ?_)
    unfold putM; rw [if_neg (fun k => by omega)]
  refine ev_neg h3 ?_
  by_cases h4 : b < -40
  · rw [decide_eq_true h4]
    refine ev_eq hT ?_
    unfold putM; rw [if_neg (fun k => by omega)]
  rw [decide_eq_false h4]
  refine ev_suc ?_
  simp only [impl_PutIn.j0]
  have hs := urn_small h (i := a) (by omega) (by omega)
  refine ev_neg (by simp) ?_
  rw [clone_eq u (by omega)]
  refine ev_bind (Ev.now _) (ev_pos (by omega) (ev_pos (by omega) ?_))
  rw [w64 (by omega) (by omega)]
  refine ev_bind (Ev.now _) (ev_bind (implUrnOk_ev _ (by simp; omega)) ?_)
  by_cases h5 : urnB (u.set a.toNat (rd u a + b)) = true
  · refine ev_pos h5 (ev_now ?_)
    unfold putM; rw [if_pos ⟨h, by omega, by omega, h5⟩]
  · refine ev_neg h5 (ev_now ?_)
    unfold putM; rw [if_neg (fun k => h5 k.2.2.2)]
theorem icopy_loop (u : List Int) (s : Int) (w : List Int) (a : List S27) (hl : a.length ≤ 1000) (hA : ∀ q ∈ a, Sized1 q) : ∀ (x p : List S27), a = p ++ x →
    Ev (fun k => impl_copyDesk.l0 k a (a.length : Int) (p.length : Int) u s w p) (u, s, w, a) := by
  intro x
  induction x with
  | nil =>
    intro p h
    rw [List.append_nil] at h
    subst h
    refine ev_suc ?_
    simp only [impl_copyDesk.l0]
    exact ev_neg (by omega) (Ev.now _)
  | cons q t ih =>
    intro p h
    have e : a.length = p.length + (t.length + 1) := by rw [h]; simp
    have hq : rd_T27 a (p.length : Int) = q := by rw [h]; exact rdP_at _ _ _
    have hs := hA q (by rw [h]; simp)
    refine ev_suc ?_
    simp only [impl_copyDesk.l0, hq]
    refine ev_pos (by omega) (ev_pos (by omega) (ev_pos (by omega) ?_))
    rw [copyPlace_eq q.f0 q.f1 q.f2 hs.1 hs.2]
    refine ev_bind (Ev.now _) (ev_pos (by omega) ?_)
    rw [w64 (by omega) (by omega)]
    have := ih (p ++ [q]) (by rw [h]; simp)
    have e2 : ((p ++ [q]).length : Int) = (p.length : Int) + 1 := by simp
    rw [e2] at this
    exact this
theorem icopy_ev (u : List Int) (s : Int) (w : List Int) (a : List S27) (hu : (u.length : Int) ≤ 1000000) (hw : (w.length : Int) ≤ 1000000) (hl : a.length ≤ 1000) (hA : ∀ q ∈ a, Sized1 q) :
    Ev (fun k => impl_copyDesk.f k u s w a) (u, s, w, a) := by
  unfold impl_copyDesk.f
  rw [copyPlace_eq u s w (by omega) (by omega)]
  exact ev_bind (Ev.now _) (icopy_loop u s w a hl hA a [] rfl)
theorem ideskdo_ev (u : List Int) (s : Int) (w : List Int) (a : List S27) (x y z : Int) (hu : (u.length : Int) ≤ 1000000) (hw : (w.length : Int) ≤ 1000000) (hl : (a.length : Int) ≤ 1000000) (hA : ∀ q ∈ a, Sized1 q) :
    Ev (fun k => impl_DeskDo.f k u s w a x y z) (doM u s w a x y z) := by
  unfold impl_DeskDo.f
  refine ev_bind (implDesk_ev u s w a (by omega) (by omega) (by omega) hA) ?_
  by_cases hd : deskB u s w a = true
  case neg =>
    refine ev_neg hd (ev_now ?_)
    unfold doM; rw [if_neg hd]
  obtain ⟨d1, d2, d3, d4, d5⟩ := desk_data hd
  have hC := icopy_ev u s w a hu hw (by omega) hA
  have hj2 : ∀ (t : Bool) (u' : List Int) (s' : Int) (w' : List Int), (u'.length : Int) ≤ 1000 → (w'.length : Int) ≤ 1000 →
      Ev (fun k => impl_DeskDo.j2 k t u s w a u s w a u' s' w' a) (if t = true then (u, s, w, a, false) else (u', s', w', pastM (a ++ [⟨u, s, w⟩]), true)) := by
    intro t u' s' w' g1 g2
    refine ev_suc ?_
    simp only [impl_DeskDo.j2]
    cases t with
    | true => exact ev_pos rfl (Ev.now _)
    | false =>
      refine ev_neg (by simp) ?_
      rw [if_neg (by simp), copyPlace_eq u s w (by omega) (by omega)]
      have hm : ∀ q ∈ a ++ [(⟨u, s, w⟩ : S27)], Sized1 q := by
        intro q hq
        rcases List.mem_append.1 hq with hq | hq
        · exact hA q hq
        · obtain rfl := List.mem_singleton.1 hq
          exact ⟨by simp only; omega, by simp only; omega⟩
      refine ev_bind (Ev.now _) (ev_pos (by omega) (ev_bind (Ev.now _) ?_))
      dsimp only
      unfold pastM
      by_cases h8 : (a ++ [(⟨u, s, w⟩ : S27)]).length > 8
      · rw [if_pos h8]
        exact ev_pos (by omega) (ev_pos (by omega) (ev_bind (icopy_ev u' s' w' _ (by omega) (by omega) (by simp; omega) (fun q hq => hm q (List.mem_of_mem_drop hq))) (Ev.now _)))
      · rw [if_neg h8]
        exact ev_neg (by omega) (ev_bind (icopy_ev u' s' w' _ (by omega) (by omega) (by simp at h8 ⊢; omega) hm) (Ev.now _))
  have hj1 : ∀ (u' : List Int) (s' : Int) (w' : List Int), (u'.length : Int) ≤ 1000 → (w'.length : Int) ≤ 1000 →
      Ev (fun k => impl_DeskDo.j1 k u s w a u s w a u' s' w' a) (takeM u s w a u' s' w') := by
    intro u' s' w' g1 g2
    refine ev_suc ?_
    simp only [impl_DeskDo.j1]
    refine ev_bind (implPlace_ev u' s' w' (by omega) (by omega)) ?_
    by_cases hp : placeB u' s' w' = true
    · refine ev_pos hp (ev_bind (iplacet_ev u' s' w' (by omega) (by omega)) (ev_bind (iplacet_ev u s w (by omega) (by omega)) (ev_eq (hj2 _ u' s' w' g1 g2) ?_)))
      rw [toList_ba, toList_ba]
      unfold takeM
      by_cases he : u' = u ∧ s' = s ∧ w' = w
      · rw [if_pos ((text_same d4 u' s' w' hp).2 he), if_neg (fun k => k.2 he)]
      · rw [if_neg (fun k => he ((text_same d4 u' s' w' hp).1 k)), if_pos ⟨hp, he⟩]
    · refine ev_neg hp (ev_eq (hj2 true u' s' w' g1 g2) ?_)
      rw [if_pos rfl]
      unfold takeM; rw [if_neg (fun k => hp k.1)]
  have hT : Ev (fun k => impl_DeskDo.j0 k true u s w a x y z u s w a u s w a) (u, s, w, a, false) := ev_suc (by simp only [impl_DeskDo.j0]; exact ev_pos trivial (Ev.now _))
  have hF : (x = 0 ∨ z = 0 ∧ (x ≥ 3 → y = 0)) → Ev (fun k => impl_DeskDo.j0 k false u s w a x y z u s w a u s w a) (doM u s w a x y z) := by
    intro hz
    refine ev_suc ?_
    simp only [impl_DeskDo.j0]
    refine ev_neg (by simp) ?_
    by_cases x0 : x = 0
    · have hpl := putM_len u y z
      refine ev_pos x0 (ev_bind (iputin_ev u y z hu) ?_)
      by_cases h1 : (putM u y z).2 = true
      · refine ev_pos h1 ?_
        by_cases h2 : w = []
        · have := hj1 (putM u y z).1 s w (by omega) (by omega)
          subst h2
          exact ev_neg (by simp) (ev_eq this (doM_some (d := ((putM u y z).1, s, [])) hd (by omega) (by unfold madeM; rw [if_pos x0, if_pos ⟨h1, rfl⟩])).symm)
        · have : 0 < w.length := List.length_pos_iff.2 h2
          exact ev_pos (by omega) (ev_eq (Ev.now _) (doM_none hd (by omega) (by unfold madeM; rw [if_pos x0, if_neg (fun k => h2 k.2)])).symm)
      · exact ev_neg h1 (ev_eq (Ev.now _) (doM_none hd (by omega) (by unfold madeM; rw [if_pos x0, if_neg (fun k => h1 k.1)])).symm)
    refine ev_neg x0 ?_
    obtain ⟨z0, hy⟩ : z = 0 ∧ (x ≥ 3 → y = 0) := by omega
    have hm : madeM u s w x y z = if x = 1 then (if w = [] then some (u, y, []) else none) else if x = 2 then some (u, s, w ++ [y]) else if x = 3 ∧ y = 0 then some (u, s, []) else none := by unfold madeM; rw [if_neg x0, if_pos z0]
    by_cases x1 : x = 1
    · refine ev_pos x1 ?_
      by_cases h2 : w = []
      · have := hj1 u y w (by omega) (by omega)
        subst h2
        exact ev_neg (by simp) (ev_eq this (doM_some (d := (u, y, [])) hd (by omega) (by rw [hm, if_pos x1, if_pos rfl])).symm)
      · have : 0 < w.length := List.length_pos_iff.2 h2
        exact ev_pos (by omega) (ev_eq (Ev.now _) (doM_none hd (by omega) (by rw [hm, if_pos x1, if_neg h2])).symm)
    refine ev_neg x1 ?_
    by_cases x2 : x = 2
    · have := hj1 u s (w ++ [y]) (by omega) (by simp; omega)
      exact ev_pos x2 (ev_pos (by omega) (ev_eq this (doM_some (d := (u, s, w ++ [y])) hd (by omega) (by rw [hm, if_neg x1, if_pos x2])).symm))
    refine ev_neg x2 ?_
    by_cases x3 : x = 3
    · have := hj1 u s [] (by omega) (by simp)
      exact ev_pos x3 (ev_eq this (doM_some (d := (u, s, [])) hd (by omega) (by rw [hm, if_neg x1, if_neg x2, if_pos ⟨x3, hy (by omega)⟩])).symm)
    refine ev_neg x3 ?_
    by_cases x4 : x = 4
    · refine ev_pos x4 ?_
      rw [doM_back hd ⟨x4, hy (by omega), z0⟩, w64 (by omega) (by omega)]
      rcases hg : a.getLast? with _ | q
      · have : a = [] := List.getLast?_eq_none_iff.1 hg
        subst this
        exact ev_pos (by simp) (ev_eq (Ev.now _) (by simp [backM]))
      · obtain ⟨t, rfl⟩ : ∃ t, a = t ++ [q] := ⟨_, last_split hg⟩
        have el : (t ++ [q]).length = t.length + 1 := by simp
        have ej : (((t ++ [q]).length : Int) - 1) = (t.length : Int) := by omega
        have hq : rd_T27 (t ++ [q]) (t.length : Int) = q := rdP_at _ _ _
        have ht : (t ++ [q]).take ((t.length : Int)).toNat = t := by simp
        have hP : impl_Place.f t = some t := by
          unfold impl_Place.f
          rw [if_pos (by omega), if_pos (by omega)]
          simp
        have hb : backM u s w (t ++ [q]) = (q.f0, q.f1, q.f2, t, true) := by simp [backM]
        rw [ej, hb, ht, hq, hP]
        exact ev_neg (by omega) (ev_pos (by omega) (ev_pos (by omega) (ev_pos (by omega) (ev_bind (Ev.now _) (Ev.now _)))))
    · exact ev_neg x4 (ev_eq (Ev.now _) (doM_none hd (fun k => x4 k.1) (by rw [hm, if_neg x1, if_neg x2, if_neg (fun k => x3 k.1)])).symm)
  have hN : x ≠ 0 → (z ≠ 0 ∨ x ≥ 3 ∧ y ≠ 0) → doM u s w a x y z = (u, s, w, a, false) := by
    intro x0 h
    refine doM_none hd (by omega) ?_
    unfold madeM
    rw [if_neg x0]
    by_cases z0 : z = 0
    · rw [if_pos z0, if_neg (by omega), if_neg (by omega), if_neg (fun k => by omega)]
    · rw [if_neg z0]
  refine ev_pos hd (ev_bind hC (ev_bind hC ?_))
  by_cases x0 : x = 0
  · exact ev_pos x0 (ev_neg (by omega) (hF (.inl x0)))
  refine ev_neg x0 ?_
  by_cases z0 : z = 0
  · refine ev_pos z0 ?_
    by_cases x3 : x ≥ 3
    · refine ev_pos x3 ?_
      by_cases y0 : y = 0
      · have : (y != 0) = false := by simp [y0]
        rw [this]
        exact hF (.inr ⟨z0, fun _ => y0⟩)
      · have : (y != 0) = true := by simp [y0]
        rw [this, hN x0 (.inr ⟨x3, y0⟩)]
        exact hT
    · exact ev_neg x3 (hF (.inr ⟨z0, fun h => absurd h x3⟩))
  · refine ev_neg z0 ?_
    rw [hN x0 (.inl z0)]
    exact hT
theorem idoall_loop (l : List S57) (hl : l.length ≤ 1048576) : ∀ (x p : List S57), l = p ++ x → ∀ (n : Int), 0 ≤ n → n ≤ p.length → ∀ (u : List Int) (s : Int) (w : List Int) (a : List S27), deskB u s w a = true →
    Ev (fun k => impl_doAll.l0 k n l (l.length : Int) (p.length : Int) u s w a) ((runM x u s w a).1, (runM x u s w a).2.1, (runM x u s w a).2.2.1, (runM x u s w a).2.2.2.1, n + ((runM x u s w a).2.2.2.2 : Int)) := by
  intro x
  induction x with
  | nil =>
    intro p h n h0 h1 u s w a hF
    rw [List.append_nil] at h
    subst h
    refine ev_suc ?_
    simp only [impl_doAll.l0, runM]
    exact ev_neg (by omega) (ev_now (by simp))
  | cons d t ih =>
    intro p h n h0 h1 u s w a hF
    have e : l.length = p.length + (t.length + 1) := by rw [h]; simp
    have hd : rd_T57 l (p.length : Int) = d := by rw [h]; simp [rd_T57]
    obtain ⟨z1, z2, z3, z4⟩ := desk_sized hF
    have hv := ideskdo_ev u s w a d.f0 d.f1 d.f2 z1 z2 z3 z4
    have ew : wrap64 ((p.length : Int) + 1) = ((p ++ [d]).length : Int) := by rw [w64 (by omega) (by omega)]; simp
    refine ev_suc ?_
    simp only [impl_doAll.l0, hd, ew]
    refine ev_pos (by omega) (ev_pos (by omega) (ev_pos (by omega) (ev_bind hv ?_)))
    by_cases ho : (doM u s w a d.f0 d.f1 d.f2).2.2.2.2 = true
    · refine ev_pos ho ?_
      rw [w64 (by omega) (by omega)]
      refine ev_eq (ih (p ++ [d]) (by rw [h]; simp) (n + 1) (by omega) (by simp; omega) _ _ _ _ (doM_desk hF _ _ _)) ?_
      rw [runM, if_pos ho]
      simp only [Prod.mk.injEq, true_and]
      omega
    · refine ev_neg ho ?_
      refine ev_eq (ih (p ++ [d]) (by rw [h]; simp) n h0 (by simp; omega) u s w a hF) ?_
      rw [runM, if_neg ho]
theorem idoall_ev (l : List S57) (hl : l.length ≤ 1048576) (u : List Int) (s : Int) (w : List Int) (a : List S27) (hF : deskB u s w a = true) :
    Ev (fun k => impl_doAll.f k u s w a l) ((runM l u s w a).1, (runM l u s w a).2.1, (runM l u s w a).2.2.1, (runM l u s w a).2.2.2.1, ((runM l u s w a).2.2.2.2 : Int)) := by
  obtain ⟨z1, z2, z3, z4⟩ := desk_sized hF
  unfold impl_doAll.f
  refine ev_bind (icopy_ev u s w a z1 z2 (by have := (desk_data hF).2.2.1; omega) z4) ?_
  exact ev_eq (idoall_loop l hl l [] rfl 0 (by omega) (by simp) u s w a hF) (by simp)
theorem sdeed_far (k a b : Int) : Ev (fun n => spec_DeedText.j0 n true k a b) (ba []) := ev_suc (by simp only [spec_DeedText.j0]; exact ev_pos trivial (Ev.now _))
theorem sdeed_ev (k a b : Int) : Ev (fun n => spec_DeedText.f n k a b) (ba (deedT k a b)) := by
  unfold deedT spec_DeedText.f
  simp only [specIn_ev, Option.bind_some, decide_eq_true_eq]
  by_cases ha : -99 ≤ a ∧ a ≤ 99
  case neg => rw [if_neg (fun h => ha h.1)]; exact ev_neg ha (sdeed_far k a b)
  by_cases hb : -99 ≤ b ∧ b ≤ 99
  case neg =>
    rw [if_neg (fun h => hb h.2)]
    refine ev_pos ha ?_
    rw [decide_eq_false hb]
    exact sdeed_far k a b
  rw [if_pos ⟨ha, hb⟩]
  refine ev_pos ha ?_
  rw [decide_eq_true hb]
  refine ev_suc ?_
  simp only [spec_DeedText.j0, Bool.not_true, Bool.false_eq_true, if_false, Bool.and_eq_true, beq_iff_eq]
  obtain ⟨_, l1, l2⟩ := numT_bytes ha.1 ha.2
  obtain ⟨_, m1, m2⟩ := numT_bytes hb.1 hb.2
  split
  · refine ev_bind (l15Step_ev ha.1 ha.2) (ev_pos (by rw [ba_size]; omega) (ev_pos (by rw [litb, ba_append, ba_size, List.length_append]; simp; omega) (ev_bind (l15Step_ev hb.1 hb.2) (ev_pos ?_ ?_))))
    · rw [litb, litb, ba_append, ba_append, ba_size, ba_size]; simp; omega
    · rw [litb, litb, ba_append, ba_append, ba_append]
      refine ev_eq (Ev.now _) ?_
      simp [putW]
  split
  · exact ev_bind (l15Step_ev ha.1 ha.2) (ev_pos (by rw [ba_size]; omega) (ev_eq (Ev.now _) (by rw [litb, ba_append]; simp [stepW])))
  split
  · exact ev_bind (l15Step_ev ha.1 ha.2) (ev_pos (by rw [ba_size]; omega) (ev_eq (Ev.now _) (by rw [litb, ba_append]; simp [drawW])))
  split
  · exact Ev.now _
  split
  · exact Ev.now _
  · exact Ev.now _
theorem ideed_far (k a b : Int) : Ev (fun n => impl_DeedText.j0 n true k a b) (ba []) := ev_suc (by simp only [impl_DeedText.j0]; exact ev_pos trivial (Ev.now _))
theorem ideed_ev (k a b : Int) : Ev (fun n => impl_DeedText.f n k a b) (ba (deedT k a b)) := by
  unfold deedT impl_DeedText.f
  by_cases h1 : a < -99
  · rw [if_neg (fun h => by omega)]; exact ev_pos h1 (ideed_far k a b)
  refine ev_neg h1 ?_
  by_cases h2 : a > 99
  · rw [if_neg (fun h => by omega)]; exact ev_pos h2 (ideed_far k a b)
  refine ev_neg h2 ?_
  by_cases h3 : b < -99
  · rw [if_neg (fun h => by omega)]; exact ev_pos h3 (ideed_far k a b)
  refine ev_neg h3 ?_
  by_cases h4 : b > 99
  · rw [if_neg (fun h => by omega), decide_eq_true h4]; exact ideed_far k a b
  rw [if_pos (by omega), decide_eq_false h4]
  have ha : -99 ≤ a ∧ a ≤ 99 := by omega
  have hb : -99 ≤ b ∧ b ≤ 99 := by omega
  refine ev_suc ?_
  simp only [impl_DeedText.j0, Bool.false_eq_true, if_false, Bool.and_eq_true, beq_iff_eq, itoa_ev ha.1 ha.2, itoa_ev hb.1 hb.2, Option.bind_some]
  obtain ⟨_, l1, l2⟩ := numT_bytes ha.1 ha.2
  obtain ⟨_, m1, m2⟩ := numT_bytes hb.1 hb.2
  refine ev_pos (by rw [ba_size]; omega) ?_
  simp only [litb, ba_append, ba_size]
  split
  · rename_i hk
    refine ev_pos (by simp; omega) (ev_pos (by simp; omega) (ev_pos (by simp; omega) (ev_eq (Ev.now _) ?_)))
    simp [putW]
  rename_i hk
  by_cases hb0 : b = 0
  · refine ev_pos hb0 ?_
    simp only [hb0, and_true]
    split
    · exact ev_pos (by simp; omega) (ev_eq (Ev.now _) (by simp [stepW]))
    split
    · exact ev_pos (by simp; omega) (ev_eq (Ev.now _) (by simp [drawW]))
    by_cases ha0 : a = 0
    · refine ev_pos ha0 ?_
      simp only [ha0, and_true]
      split
      · exact Ev.now _
      split
      · exact Ev.now _
      · exact Ev.now _
    · refine ev_neg ha0 ?_
      simp only [ha0, and_false, if_false]
      exact Ev.now _
  · refine ev_neg hb0 ?_
    simp only [hb0, and_false, if_false]
    exact Ev.now _
theorem words_small (x : Tx) (hx : x.length ≤ 1048576) : ∀ i, ((cutA 32 [] x).getD i []).length ≤ 1048576 := by
  have : ∀ (l acc : Tx) (p : Tx), p ∈ cutA 32 acc l → p.length ≤ acc.length + l.length := by
    intro l
    induction l with
    | nil => intro acc p hp; simp [cutA] at hp; subst hp; simp
    | cons b l ih =>
      intro acc p hp
      unfold cutA at hp
      split at hp
      · rcases List.mem_cons.1 hp with rfl | hp
        · simp
        · have := ih [] p hp; simp at this ⊢; omega
      · have := ih _ p hp; simp at this ⊢; omega
  intro i
  rw [List.getD_eq_getElem?_getD]
  cases hg : (cutA 32 [] x)[i]? with
  | none => simp
  | some p =>
    have := this x [] p (List.mem_of_getElem? hg)
    simp at this ⊢; omega
/-- The word's number among the five. -/
def kindOf (w : Tx) : Int := if w = putW then 0 else if w = stepW then 1 else if w = drawW then 2 else if w = againW then 3 else if w = backW then 4 else -1
theorem kind_ev (w : Tx) : Ev (fun k => slices_Index_string_string.f k [ba putW, ba stepW, ba drawW, ba againW, ba backW] (ba w)) (kindOf w) := by
  unfold slices_Index_string_string.f kindOf
  refine ev_suc ?_
  simp only [slices_Index_string_string.l0]
  refine ev_pos (by decide) (ev_pos (by decide) (ev_pos (by decide) ?_))
  simp only [rdOf, toList_ba, List.length_cons, List.length_nil, Int.toNat_zero, List.getD_cons_zero, w64 (n := 0 + 1) (by decide) (by decide)]
  split
  · exact Ev.now _
  refine ev_suc ?_
  simp only [slices_Index_string_string.l0]
  refine ev_pos (by decide) (ev_pos (by decide) (ev_pos (by decide) ?_))
  have t1 : (0 + 1 : Int).toNat = 1 := rfl
  simp only [rdOf, toList_ba, t1, List.getD_cons_zero, List.getD_cons_succ, w64 (n := 0 + 1 + 1) (by decide) (by decide)]
  split
  · exact Ev.now _
  refine ev_suc ?_
  simp only [slices_Index_string_string.l0]
  refine ev_pos (by decide) (ev_pos (by decide) (ev_pos (by decide) ?_))
  have t2 : (0 + 1 + 1 : Int).toNat = 2 := rfl
  simp only [rdOf, toList_ba, t2, List.getD_cons_zero, List.getD_cons_succ, w64 (n := 0 + 1 + 1 + 1) (by decide) (by decide)]
  split
  · exact Ev.now _
  refine ev_suc ?_
  simp only [slices_Index_string_string.l0]
  refine ev_pos (by decide) (ev_pos (by decide) (ev_pos (by decide) ?_))
  have t3 : (0 + 1 + 1 + 1 : Int).toNat = 3 := rfl
  simp only [rdOf, toList_ba, t3, List.getD_cons_zero, List.getD_cons_succ, w64 (n := 0 + 1 + 1 + 1 + 1) (by decide) (by decide)]
  split
  · exact Ev.now _
  refine ev_suc ?_
  simp only [slices_Index_string_string.l0]
  refine ev_pos (by decide) (ev_pos (by decide) (ev_pos (by decide) ?_))
  have t4 : (0 + 1 + 1 + 1 + 1 : Int).toNat = 4 := rfl
  simp only [rdOf, toList_ba, t4, List.getD_cons_zero, List.getD_cons_succ, w64 (n := 0 + 1 + 1 + 1 + 1 + 1) (by decide) (by decide)]
  split
  · exact Ev.now _
  refine ev_suc ?_
  simp only [slices_Index_string_string.l0]
  exact ev_neg (by decide) (Ev.now _)
theorem kindOf_lt (w : Tx) : kindOf w < 5 := by unfold kindOf; repeat' split <;> try omega
theorem iread_end (x : Tx) (k a b : Int) (hd : ∀ k' a' b', deedT k' a' b' = x → x ≠ [] → (k, a, b) = (k', a', b')) (hx : x ≠ []) :
    (if (ba (deedT k a b)).toList = (ba x).toList then some (k, a, b, true) else some (0, 0, 0, false)) = some (readD x) := by
  simp only [toList_ba]
  split
  · rename_i h; rw [readD_of h hx]
  · rename_i h
    rw [readD_not fun k' a' b' h' => ?_]
    by_cases h0 : x = []
    · exact h0
    · have := hd k' a' b' h' h0
      simp only [Prod.mk.injEq] at this
      obtain ⟨rfl, rfl, rfl⟩ := this
      exact absurd h' h
theorem iread_ev (x : Tx) (hx : x.length ≤ 1048576) : Ev (fun k => impl_ReadDeed.f k (ba x)) (readD x) := by
  have hw := words_small x hx
  unfold impl_ReadDeed.f
  have hs := isplit_ev 32 x (by omega)
  have e32 : (⟨#[32]⟩ : ByteArray) = ba [32] := rfl
  simp only [e32, hs, Option.bind_some, List.length_map, rdOf_map]
  have hp := cutA_pos 32 x []
  have hcut : ∀ {k a b : Int}, deedT k a b = x → x ≠ [] → _ := fun {k a b} h h2 => deed_cases (k := k) (a := a) (b := b) (by rw [h]; exact h2)
  refine ev_pos (by omega) (ev_bind (kind_ev _) ?_)
  have t0 : (0 : Int).toNat = 0 := rfl
  rw [t0]
  by_cases hk : kindOf ((cutA 32 [] x).getD 0 []) < 0
  · refine ev_pos hk (ev_suc ?_)
    simp only [impl_ReadDeed.j0]
    refine ev_pos trivial ?_
    rw [readD_not fun k a b e => ?_]
    · exact Ev.now _
    by_cases h0 : x = []
    · exact h0
    obtain ⟨_, c⟩ := hcut e h0
    rw [e] at c
    exfalso
    rcases c with ⟨_, _, c⟩ | ⟨_, _, _, c⟩ | ⟨_, _, _, c⟩ | ⟨_, _, _, _, c⟩ | ⟨_, _, _, _, c⟩ <;> rw [c, List.getD_cons_zero] at hk <;> exact absurd hk (by decide)
  refine ev_neg hk ?_
  have hx0 : x ≠ [] := by rintro rfl; exact hk (by decide)
  by_cases h3 : ((cutA 32 [] x).length : Int) > 3
  · rw [decide_eq_true h3]
    refine ev_suc ?_
    simp only [impl_ReadDeed.j0]
    refine ev_pos trivial ?_
    rw [readD_not fun k a b e => ?_]
    · exact Ev.now _
    obtain ⟨_, c⟩ := hcut e hx0
    rw [e] at c
    exfalso
    rcases c with ⟨_, _, c⟩ | ⟨_, _, _, c⟩ | ⟨_, _, _, c⟩ | ⟨_, _, _, _, c⟩ | ⟨_, _, _, _, c⟩ <;> rw [c] at h3 <;> simp at h3
  rw [decide_eq_false h3]
  refine ev_suc ?_
  simp only [impl_ReadDeed.j0, Bool.false_eq_true, if_false, Option.bind_some, List.length_map, rdOf_map, List.length_cons, List.length_nil]
  have hk5 := kindOf_lt ((cutA 32 [] x).getD 0 [])
  have hrd : rd [0, 1, 2, 3, 4] (kindOf ((cutA 32 [] x).getD 0 [])) = kindOf ((cutA 32 [] x).getD 0 []) := by
    generalize kindOf ((cutA 32 [] x).getD 0 []) = n at hk hk5
    obtain ⟨m, rfl⟩ := Int.eq_ofNat_of_zero_le (Int.not_lt.1 hk)
    have : m = 0 ∨ m = 1 ∨ m = 2 ∨ m = 3 ∨ m = 4 := by omega
    rcases this with rfl | rfl | rfl | rfl | rfl <;> rfl
  refine ev_pos (by omega) (ev_pos (by simpa using hk5) ?_)
  rw [hrd]
  obtain ⟨e1, h1⟩ := atoi_ev _ (hw 1)
  obtain ⟨e2, h2⟩ := atoi_ev _ (hw 2)
  have t1 : (1 : Int).toNat = 1 := rfl
  have t2 : (2 : Int).toNat = 2 := rfl
  rw [t1, h1]
  by_cases hl1 : ((cutA 32 [] x).length : Int) > 1
  · refine ev_pos hl1 (ev_pos (by omega) ?_)
    simp only [Option.bind_some]
    refine ev_suc ?_
    simp only [impl_ReadDeed.j1, List.length_map, rdOf_map, t2, h2, Option.bind_some]
    by_cases hl2 : ((cutA 32 [] x).length : Int) > 2
    · refine ev_pos hl2 (ev_pos (by omega) (ev_bind (ideed_ev _ _ _) ?_))
      refine Ev.congr (fun _ => iread_end x _ _ _ (fun k a b e h0 => ?_) hx0) (Ev.now _)
      obtain ⟨⟨⟨r1, r2⟩, r3, r4⟩, c⟩ := hcut e h0
      rw [e] at c
      rcases c with ⟨rfl, _, c⟩ | ⟨_, _, _, c⟩ | ⟨_, _, _, c⟩ | ⟨_, _, _, _, c⟩ | ⟨_, _, _, _, c⟩ <;> rw [c] at hl2 ⊢ <;> simp at hl2
      simp [numA_numT r1 r2, numA_numT r3 r4, kindOf]
    · refine ev_neg hl2 (ev_bind (ideed_ev _ _ _) ?_)
      refine Ev.congr (fun _ => iread_end x _ _ _ (fun k a b e h0 => ?_) hx0) (Ev.now _)
      obtain ⟨⟨⟨r1, r2⟩, r3, r4⟩, c⟩ := hcut e h0
      rw [e] at c
      rcases c with ⟨rfl, _, c⟩ | ⟨rfl, rfl, _, c⟩ | ⟨rfl, rfl, _, c⟩ | ⟨_, _, _, _, c⟩ | ⟨_, _, _, _, c⟩ <;> rw [c] at hl1 hl2 ⊢ <;> simp at hl1 hl2
      · simp [numA_numT r1 r2, kindOf, putW, stepW]
      · simp [numA_numT r1 r2, kindOf, putW, stepW, drawW]
  · refine ev_neg hl1 (ev_suc ?_)
    simp only [impl_ReadDeed.j1, List.length_map]
    refine ev_neg (by omega) (ev_bind (ideed_ev _ _ _) ?_)
    refine Ev.congr (fun _ => iread_end x _ _ _ (fun k a b e h0 => ?_) hx0) (Ev.now _)
    obtain ⟨_, c⟩ := hcut e h0
    rw [e] at c
    rcases c with ⟨rfl, _, c⟩ | ⟨rfl, rfl, _, c⟩ | ⟨rfl, rfl, _, c⟩ | ⟨rfl, rfl, rfl, _, c⟩ | ⟨rfl, rfl, rfl, _, c⟩ <;> rw [c] at hl1 ⊢ <;> simp at hl1
    · simp [kindOf, putW, stepW, drawW, againW]
    · simp [kindOf, putW, stepW, drawW, againW, backW]
theorem cut_one (s : Tx) : (Lib.cut s [10] = (s, [], false) ∧ (10 : UInt8) ∉ s) ∨ ∃ l r, s = l ++ 10 :: r ∧ (10 : UInt8) ∉ l ∧ Lib.cut s [10] = (l, r, true) := by
  rcases index_one 10 s with ⟨h1, h2⟩ | ⟨l, r, rfl, h2, h3⟩
  · exact Or.inl ⟨by simp [Lib.cut, h1], h2⟩
  · refine Or.inr ⟨l, r, rfl, h2, ?_⟩
    have : ¬ ((l.length : Int) = -1) := by omega
    simp [Lib.cut, h3, this]
theorem ireadj_loop (x : Tx) (hx : x.length ≤ 1048576) : ∀ (n : Nat) (s pre : Tx) (ds : List (Int × Int × Int)), s.length ≤ n → x = pre ++ s → ds.length ≤ pre.length →
    Ev (fun k => impl_ReadJournal.l0 k (ba x) (ds.map mkD) (pre.length : Int)) ((rjL (cutA 10 [] s) ds pre.length).1.map mkD, ((rjL (cutA 10 [] s) ds pre.length).2 : Int)) := by
  intro n
  induction n with
  | zero =>
    intro s pre ds hs h hd
    obtain rfl := List.eq_nil_of_length_eq_zero (Nat.le_zero.1 hs)
    have e : x.length = pre.length := by rw [h]; simp
    refine ev_suc ?_
    simp only [impl_ReadJournal.l0]
    refine ev_pos (by omega) (ev_pos (by rw [ba_size]; omega) ?_)
    have e2 : (ba x).extract (pre.length : Int).toNat (ba x).size = ba [] := by rw [ba_extract]; congr 1; rw [h]; simp
    simp only [e2, strings_Cut.f]
    refine ev_bind (Ev.now _) ?_
    refine ev_bind (iread_ev [] (by simp)) ?_
    refine ev_neg (by decide) ?_
    simp only [cutA, rjL]
    exact Ev.now _
  | succ n ih =>
    intro s pre ds hs h hd
    have e : x.length = pre.length + s.length := by rw [h]; simp
    refine ev_suc ?_
    simp only [impl_ReadJournal.l0]
    refine ev_pos (by omega) (ev_pos (by rw [ba_size]; omega) ?_)
    have e2 : (ba x).extract (pre.length : Int).toNat (ba x).size = ba s := by rw [ba_extract]; congr 1; rw [h, ba_size]; simp
    have e3 : (⟨#[10]⟩ : ByteArray) = ba [10] := rfl
    simp only [e2, e3, strings_Cut.f]
    simp only [ba_size, ba_list]
    rw [if_pos (by omega)]
    simp only [Option.bind_some]
    rcases cut_one s with ⟨h1, h2⟩ | ⟨l, r, rfl, h2, h3⟩
    · rw [h1]
      refine ev_bind (iread_ev s (by omega)) (ev_neg (by simp) ?_)
      rw [cutA_none s [] h2]
      simp only [rjL]
      exact Ev.now _
    · rw [h3]
      have el : (l ++ 10 :: r).length = l.length + (r.length + 1) := by simp
      refine ev_bind (iread_ev l (by omega)) (ev_pos rfl ?_)
      rw [cutA_hit l [] r h2, List.nil_append, rjL_cut]
      by_cases ho : (readD l).2.2.2 = true
      · refine ev_pos ho (ev_pos (by rw [List.length_map]; omega) ?_)
        rw [if_pos ho]
        have e4 : (⟨l.toArray⟩ : ByteArray).size = l.length := ba_size l
        rw [e4, w64 (n := (l.length : Int) + 1) (by omega) (by omega), w64 (by omega) (by omega)]
        have := ih r (pre ++ l ++ [10]) (ds ++ [((readD l).1, (readD l).2.1, (readD l).2.2.1)]) (by omega) (by rw [h]; simp) (by simp; omega)
        have e5 : (pre ++ l ++ [10]).length = pre.length + l.length + 1 := by simp; omega
        rw [e5] at this
        simp only [List.map_append, List.map_cons, List.map_nil, mkD] at this
        have e6 : (pre.length : Int) + ((l.length : Int) + 1) = ((pre.length + l.length + 1 : Nat) : Int) := by omega
        rw [e6]
        exact this
      · refine ev_neg ho ?_
        rw [if_neg ho]
        exact Ev.now _
theorem ireadj_ev (x : Tx) (hx : x.length ≤ 1048576) : Ev (fun k => impl_ReadJournal.f k (ba x)) ((readJ x).1.map mkD, ((readJ x).2 : Int)) := by
  unfold impl_ReadJournal.f readJ
  exact ireadj_loop x hx _ x [] [] (Nat.le_refl _) rfl (Nat.le_refl _)
theorem iopened_ev {x y : Tx} {z : Int} (h : storeB x y z = true) (hx : x.length ≤ 1048576) : Ev (fun k => impl_opened.f k (ba x) (ba y) z) ((openM x y).1, (openM x y).2.1, (openM x y).2.2.1, (openM x y).2.2.2.1) := by
  obtain ⟨h1, h2, h3, h4, h5, h6, h7⟩ := store_data h
  have hj := readJ_len' y
  unfold impl_opened.f
  exact ev_bind (ireadp_ev x hx) (ev_bind (ireadj_ev y (by omega)) (ev_bind (idoall_ev _ (by rw [List.length_map]; omega) _ _ _ _ (desk0 h4)) (Ev.now _)))
theorem iopenM_ev (x y : Tx) (z : Int) (hx : x.length ≤ 1048576) : Ev (fun k => impl_StoreOpen.f k (ba x) (ba y) z) (if storeB x y z = true then ((openM x y).1, (openM x y).2.1, (openM x y).2.2.1, (openM x y).2.2.2.1, true) else ([], 0, [], [], false)) := by
  unfold impl_StoreOpen.f
  refine ev_bind (istore_ev x y z hx) ?_
  by_cases hs : storeB x y z = true
  · rw [if_pos hs]
    exact ev_pos hs (ev_bind (iopened_ev hs hx) (Ev.now _))
  · rw [if_neg hs]
    exact ev_neg hs (Ev.now _)
theorem specDesk_loop (u : List Int) (s : Int) (w : List Int) (a : List S27) (hu : (u.length : Int) ≤ 1000000000000) (hw : (w.length : Int) ≤ 1000000000000) (hl : (a.length : Int) ≤ 1000000000000) (hA : ∀ q ∈ a, Sized1 q) : ∀ (x p : List S27), a = p ++ x → (∀ q ∈ p, placeB q.f0 q.f1 q.f2 = true) →
    Ev (fun k => spec_DeskOk.l0 k (p.length : Int) u s w a) (deskB u s w a) := by
  intro x
  induction x with
  | nil =>
    intro p h hp
    have e : a.length = p.length := by rw [h]; simp
    refine ev_suc ?_
    simp (disch := omega) only [spec_DeskOk.l0, if_neg]
    rw [List.append_nil] at h
    subst h
    refine ev_bind (specPlace_ev u s w hu hw) ?_
    have hall : (a.all fun q => placeB q.f0 q.f1 q.f2) = true := by simpa using hp
    by_cases hP : placeB u s w = true
    · refine ev_pos hP (ev_now ?_)
      simp only [deskB, hall, hP, Bool.true_and]
      rw [Bool.eq_iff_iff]; simp only [decide_eq_true_eq]; omega
    · refine ev_neg hP (ev_now ?_)
      have hf : placeB u s w = false := by simpa using hP
      simp [deskB, hf]
  | cons c x ih =>
    intro p h hp
    have e : a.length = p.length + (x.length + 1) := by rw [h]; simp
    have hx : rd_T27 a (p.length : Int) = c := by rw [h]; exact rdP_at _ _ _
    have hca : c ∈ a := by rw [h]; simp
    have hc := hA c hca
    refine ev_suc ?_
    simp (disch := omega) only [spec_DeskOk.l0, hx, if_pos, w64]
    refine ev_bind (specPlace_ev c.f0 c.f1 c.f2 hc.1 hc.2) ?_
    by_cases hP : placeB c.f0 c.f1 c.f2 = true
    · refine ev_pos hP ?_
      rw [len_at p c]
      refine ih (p ++ [c]) (by rw [h]; simp) ?_
      intro q hq
      rcases List.mem_append.1 hq with hq | hq
      · exact hp q hq
      · rw [List.mem_singleton] at hq; subst hq; exact hP
    · refine ev_neg hP (ev_now ?_)
      cases e : deskB u s w a with
      | false => rfl
      | true => exact absurd (((deskB_iff u s w a).1 e).1 c hca) hP
theorem l15Copy_loop (u : List Int) (s : Int) (w : List Int) (a : List S27) (hl : a.length ≤ 1000) (hA : ∀ q ∈ a, Sized1 q) : ∀ (x p : List S27), a = p ++ x →
    Ev (fun k => spec_l15Copy.l0 k (p.length : Int) u s w a u s w p) (u, s, w, a) := by
  intro x
  induction x with
  | nil =>
    intro p h
    rw [List.append_nil] at h
    subst h
    refine ev_suc ?_
    simp only [spec_l15Copy.l0]
    exact ev_neg (by omega) (Ev.now _)
  | cons q t ih =>
    intro p h
    have e : a.length = p.length + (t.length + 1) := by rw [h]; simp
    have hq : rd_T27 a (p.length : Int) = q := by rw [h]; exact rdP_at _ _ _
    have hs := hA q (by rw [h]; simp)
    refine ev_suc ?_
    simp only [spec_l15Copy.l0, hq]
    refine ev_pos (by omega) (ev_pos (by omega) ?_)
    rw [l15Place_eq q.f0 q.f1 q.f2 hs.1 hs.2]
    refine ev_bind (Ev.now _) (ev_pos (by omega) ?_)
    rw [w64 (by omega) (by omega)]
    have := ih (p ++ [q]) (by rw [h]; simp)
    have e2 : ((p ++ [q]).length : Int) = (p.length : Int) + 1 := by simp
    rw [e2] at this
    exact this
theorem l15Copy_ev (u : List Int) (s : Int) (w : List Int) (a : List S27) (hu : (u.length : Int) ≤ 1000000) (hw : (w.length : Int) ≤ 1000000) (hl : a.length ≤ 1000) (hA : ∀ q ∈ a, Sized1 q) :
    Ev (fun k => spec_l15Copy.f k u s w a) (u, s, w, a) := by
  unfold spec_l15Copy.f
  rw [l15Place_eq u s w (by omega) (by omega)]
  exact ev_bind (Ev.now _) (l15Copy_loop u s w a hl hA a [] rfl)
theorem sputinM_ev (u : List Int) (a b : Int) (hu : (u.length : Int) ≤ 1000000) : Ev (fun k => spec_PutIn.f k u a b) (putM u a b) := by
  have hT : Ev (fun k => spec_PutIn.j0 k u a b true) ([], false) := ev_suc (by simp only [spec_PutIn.j0]; exact ev_pos trivial (Ev.now _))
  unfold spec_PutIn.f
  refine ev_bind (specUrnOk_ev u (by omega)) ?_
  by_cases h : urnB u = true
  case neg =>
    refine ev_neg h (ev_eq hT ?_)
    unfold putM; rw [if_neg (fun k => h k.1)]
  refine ev_pos h ?_
  rw [l1In_eq, w64 (by omega) (by omega)]
  refine ev_bind (Ev.now _) ?_
  by_cases h1 : 0 ≤ a ∧ a < (u.length : Int)
  case neg =>
    refine ev_neg (by simp; omega) (ev_eq hT ?_)
    unfold putM; rw [if_neg (fun k => h1 k.2.1)]
  refine ev_pos (by simp; omega) ?_
  rw [l1In_eq]
  refine ev_bind (Ev.now _) ?_
  by_cases h2 : -40 ≤ b ∧ b ≤ 40
  case neg =>
    have : (!(decide (-40 ≤ b) && decide (b ≤ 40))) = true := by simp; omega
    rw [this]
    refine ev_eq hT ?_
    unfold putM; rw [if_neg (fun k => h2 k.2.2.1)]
  have : (!(decide (-40 ≤ b) && decide (b ≤ 40))) = false := by simp; omega
  rw [this]
  have hs := urn_small h h1.1 h1.2
  refine ev_suc ?_
  simp only [spec_PutIn.j0]
  refine ev_neg (by simp) (ev_bind (Ev.now _) (ev_pos (by simp; omega) (ev_bind (Ev.now _) (ev_pos h1.1 (ev_pos (by simpa using h1.2) ?_)))))
  simp only [List.nil_append]
  rw [w64 (by omega) (by omega)]
  refine ev_bind (Ev.now _) (ev_bind (specUrnOk_ev _ (by simp; omega)) ?_)
  by_cases h5 : urnB (u.set a.toNat (rd u a + b)) = true
  · refine ev_pos h5 (ev_now ?_)
    unfold putM; rw [if_pos ⟨h, h1, h2, h5⟩]
  · refine ev_neg h5 (ev_now ?_)
    unfold putM; rw [if_neg (fun k => h5 k.2.2.2)]
/-- What the reference makes of a place: none where it can't be tried. -/
def smadeM (u : List Int) (s : Int) (w : List Int) (x y z : Int) : List Int × Int × List Int :=
  if x = 0 ∧ w = [] then ((putM u y z).1, s, [])
  else if x = 1 ∧ z = 0 ∧ w = [] then (u, y, w)
  else if x = 2 ∧ z = 0 then (u, s, w ++ [y])
  else if x = 3 ∧ y = 0 ∧ z = 0 then (u, s, [])
  else ([], 0, [])
theorem smadeM_ev (u : List Int) (s : Int) (w : List Int) (x y z : Int) (hu : (u.length : Int) ≤ 1000000) (hw : (w.length : Int) ≤ 1000000) : Ev (fun k => spec_l15Made.f k u s w x y z) (smadeM u s w x y z) := by
  have hl : (((w.length : Int) == 0) = true) ↔ w = [] := by
    rw [beq_iff_eq]
    constructor
    · intro h; exact List.length_eq_zero_iff.1 (by omega)
    · rintro rfl; rfl
  have hj1 : ∀ t : Bool, (x ≠ 0 ∨ w ≠ []) → (t = true → x = 1 ∧ z = 0 ∧ w = []) → (t = false → ¬ (x = 1 ∧ z = 0 ∧ w = [])) → Ev (fun k => spec_l15Made.j1 k t u s w x y z u s w) (smadeM u s w x y z) := by
    intro t h0 ht hf
    refine ev_suc ?_
    simp only [spec_l15Made.j1]
    have e0 : smadeM u s w x y z = if x = 1 ∧ z = 0 ∧ w = [] then (u, y, w) else if x = 2 ∧ z = 0 then (u, s, w ++ [y]) else if x = 3 ∧ y = 0 ∧ z = 0 then (u, s, []) else ([], 0, []) := by
      unfold smadeM; rw [if_neg (fun k => h0.elim (fun h => h k.1) (fun h => h k.2))]
    rw [e0]
    cases t with
    | true =>
      rw [if_pos (ht rfl)]
      exact ev_pos rfl (Ev.now _)
    | false =>
      rw [if_neg (hf rfl)]
      refine ev_neg (by simp) ?_
      by_cases h2 : x = 2 ∧ z = 0
      · rw [if_pos h2]
        exact ev_pos (by simp [h2]) (ev_pos (by omega) (Ev.now _))
      rw [if_neg h2]
      refine ev_neg (by simp; omega) ?_
      by_cases h3 : x = 3 ∧ y = 0 ∧ z = 0
      · rw [if_pos h3]
        exact ev_pos (by simp [h3]) (Ev.now _)
      · rw [if_neg h3]
        exact ev_neg (by simp; omega) (Ev.now _)
  have hj0 : ∀ t : Bool, (t = true ↔ x = 0 ∧ w = []) → Ev (fun k => spec_l15Made.j0 k t u s w x y z u s w) (smadeM u s w x y z) := by
    intro t ht
    refine ev_suc ?_
    simp only [spec_l15Made.j0]
    cases t with
    | true =>
      have h := ht.1 rfl
      refine ev_pos rfl (ev_bind (sputinM_ev u y z hu) (ev_now ?_))
      unfold smadeM; rw [if_pos h]
    | false =>
      have h : ¬ (x = 0 ∧ w = []) := fun k => by have := ht.2 k; simp at this
      have h' : x ≠ 0 ∨ w ≠ [] := by
        by_cases hx : x = 0
        · exact .inr (fun hw => h ⟨hx, hw⟩)
        · exact .inl hx
      refine ev_neg (by simp) ?_
      by_cases h1 : (x == 1 && (z == 0)) = true
      · refine ev_pos h1 (hj1 _ h' ?_ ?_)
        · intro k; simp at h1; exact ⟨h1.1, h1.2, hl.1 k⟩
        · intro k hh; rw [hl.2 hh.2.2] at k; cases k
      · refine ev_neg h1 (hj1 false h' (fun k => by cases k) (fun _ hh => h1 (by simp [hh])))
  unfold spec_l15Made.f
  rw [l15Place_eq u s w (by omega) (by omega)]
  refine ev_bind (Ev.now _) ?_
  by_cases h0 : (x == 0) = true
  · exact ev_pos h0 (hj0 _ ⟨fun k => ⟨beq_iff_eq.1 h0, hl.1 k⟩, fun k => hl.2 k.2⟩)
  · exact ev_neg h0 (hj0 false ⟨fun k => (by cases k), fun k => absurd (beq_iff_eq.2 k.1) h0⟩)
theorem place_nil (s : Int) (w : List Int) : ¬ placeB [] s w = true := by
  intro h
  have := (place_data h).2.1
  simp at this
theorem sdeskdoM_ev (u : List Int) (s : Int) (w : List Int) (a : List S27) (x y z : Int) (hu : (u.length : Int) ≤ 1000000) (hw : (w.length : Int) ≤ 1000000) (hl : (a.length : Int) ≤ 1000000) (hA : ∀ q ∈ a, Sized1 q) :
    Ev (fun k => spec_DeskDo.f k u s w a x y z) (doM u s w a x y z) := by
  have hD : Ev (fun k => spec_DeskOk.f k u s w a) (deskB u s w a) := by
    unfold spec_DeskOk.f
    exact specDesk_loop u s w a (by omega) (by omega) (by omega) hA _ [] rfl (by simp)
  unfold spec_DeskDo.f
  refine ev_bind hD ?_
  by_cases hd : deskB u s w a = true
  case neg =>
    refine ev_neg hd (ev_now ?_)
    unfold doM; rw [if_neg hd]
  obtain ⟨d1, d2, d3, d4, d5⟩ := desk_data hd
  have hj1 : ∀ (t : Bool) (u' : List Int) (s' : Int) (w' : List Int),
      Ev (fun k => spec_DeskDo.j1 k t u s w a u' s' w') (if t = true then (u, s, w, a, false) else (u', s', w', pastM (a ++ [⟨u, s, w⟩]), true)) := by
    intro t u' s' w'
    refine ev_suc ?_
    simp only [spec_DeskDo.j1]
    cases t with
    | true => exact ev_pos rfl (Ev.now _)
    | false =>
      refine ev_neg (by simp) (ev_pos (by omega) (ev_bind (Ev.now _) ?_))
      show Ev _ (u', s', w', pastM (a ++ [(⟨u, s, w⟩ : S27)]), true)
      unfold pastM
      by_cases h8 : (a ++ [(⟨u, s, w⟩ : S27)]).length > 8
      · rw [if_pos h8]; exact ev_pos (by omega) (ev_pos (by omega) (Ev.now _))
      · rw [if_neg h8]; exact ev_neg (by omega) (Ev.now _)
  have htake : ∀ (u' : List Int) (s' : Int) (w' : List Int), (u'.length : Int) ≤ 1000 → (w'.length : Int) ≤ 1000 → Ev (fun k => spec_l15Made.f k u s w x y z) (u', s', w') →
      Ev (fun k => spec_DeskDo.j0 k false u s w a x y z u s w a) (takeM u s w a u' s' w') := by
    intro u' s' w' g1 g2 hm
    refine ev_suc ?_
    simp only [spec_DeskDo.j0]
    refine ev_neg (by simp) (ev_bind hm (ev_bind (specPlace_ev u' s' w' (by omega) (by omega)) ?_))
    by_cases hp : placeB u' s' w' = true
    · refine ev_pos hp (ev_bind (splacet_ev u' s' w' (by omega) (by omega)) (ev_bind (splacet_ev u s w (by omega) (by omega)) (ev_eq (hj1 _ u' s' w') ?_)))
      rw [toList_ba, toList_ba]
      unfold takeM
      by_cases he : u' = u ∧ s' = s ∧ w' = w
      · rw [if_pos ((text_same d4 u' s' w' hp).2 he), if_neg (fun k => k.2 he)]
      · rw [if_neg (fun k => he ((text_same d4 u' s' w' hp).1 k)), if_pos ⟨hp, he⟩]
    · refine ev_neg hp (ev_eq (hj1 true u' s' w') ?_)
      rw [if_pos rfl]
      unfold takeM; rw [if_neg (fun k => hp k.1)]
  have hF : (x = 4 ∧ y = 0 ∧ z = 0 → a = []) → Ev (fun k => spec_DeskDo.j0 k false u s w a x y z u s w a) (doM u s w a x y z) := by
    intro h4
    have hpl := putM_len u y z
    have e1 : (smadeM u s w x y z).1.length ≤ u.length ∧ (smadeM u s w x y z).2.2.length ≤ w.length + 1 := by
      unfold smadeM
      repeat' split
      all_goals simp
      all_goals omega
    refine ev_eq (htake (smadeM u s w x y z).1 (smadeM u s w x y z).2.1 (smadeM u s w x y z).2.2 (by omega) (by omega) (smadeM_ev u s w x y z hu hw)) ?_
    have hn : ∀ v : List Int × Int × List Int, v = ([], 0, []) → takeM u s w a v.1 v.2.1 v.2.2 = (u, s, w, a, false) := by
      rintro _ rfl
      unfold takeM; rw [if_neg (fun k => place_nil _ _ k.1)]
    unfold doM
    rw [if_pos hd]
    by_cases x4 : x = 4 ∧ y = 0 ∧ z = 0
    · rw [if_pos x4, h4 x4]
      have : smadeM u s w x y z = ([], 0, []) := by
        unfold smadeM; rw [if_neg (fun k => by omega), if_neg (fun k => by omega), if_neg (fun k => by omega), if_neg (fun k => by omega)]
      have h := hn _ this
      rw [h4 x4] at h
      rw [h]
      simp [backM]
    rw [if_neg x4]
    unfold madeM
    by_cases x0 : x = 0
    · rw [if_pos x0]
      by_cases hw0 : w = []
      · have hs : smadeM u s w x y z = ((putM u y z).1, s, []) := by unfold smadeM; rw [if_pos ⟨x0, hw0⟩]
        rw [hs]
        by_cases hp : (putM u y z).2 = true
        · rw [if_pos ⟨hp, hw0⟩]
        · rw [if_neg (fun k => hp k.1)]
          have : (putM u y z).1 = [] := by
            unfold putM at hp ⊢
            split
            · rename_i h; rw [if_pos h] at hp; simp at hp
            · rfl
          rw [this]
          unfold takeM; rw [if_neg (fun k => place_nil _ _ k.1)]
      · rw [if_neg (fun k => hw0 k.2)]
        refine hn _ ?_
        unfold smadeM; rw [if_neg (fun k => hw0 k.2), if_neg (fun k => by omega), if_neg (fun k => by omega), if_neg (fun k => by omega)]
    rw [if_neg x0]
    have s0 : smadeM u s w x y z = if x = 1 ∧ z = 0 ∧ w = [] then (u, y, w) else if x = 2 ∧ z = 0 then (u, s, w ++ [y]) else if x = 3 ∧ y = 0 ∧ z = 0 then (u, s, []) else ([], 0, []) := by
      unfold smadeM; rw [if_neg (fun k => x0 k.1)]
    by_cases z0 : z = 0
    · rw [if_pos z0]
      by_cases x1 : x = 1
      · rw [if_pos x1]
        by_cases hw0 : w = []
        · rw [if_pos hw0, s0, if_pos ⟨x1, z0, hw0⟩, hw0]
        · rw [if_neg hw0]
          refine hn _ ?_
          rw [s0, if_neg (fun k => hw0 k.2.2), if_neg (fun k => by omega), if_neg (fun k => by omega)]
      rw [if_neg x1]
      by_cases x2 : x = 2
      · rw [if_pos x2, s0, if_neg (fun k => x1 k.1), if_pos ⟨x2, z0⟩]
      rw [if_neg x2]
      by_cases x3 : x = 3 ∧ y = 0
      · rw [if_pos x3, s0, if_neg (fun k => x1 k.1), if_neg (fun k => x2 k.1), if_pos ⟨x3.1, x3.2, z0⟩]
      · rw [if_neg x3]
        refine hn _ ?_
        rw [s0, if_neg (fun k => x1 k.1), if_neg (fun k => x2 k.1), if_neg (fun k => x3 ⟨k.1, k.2.1⟩)]
    · rw [if_neg z0]
      refine hn _ ?_
      rw [s0, if_neg (fun k => z0 k.2.1), if_neg (fun k => z0 k.2), if_neg (fun k => z0 k.2.2)]
  refine ev_pos hd (ev_bind (l15Copy_ev u s w a hu hw (by omega) hA) ?_)
  by_cases h4 : (x == 4 && (y == 0 && (z == 0))) = true
  · refine ev_pos h4 ?_
    have hx : x = 4 ∧ y = 0 ∧ z = 0 := by simpa using h4
    by_cases ha : (a.length : Int) > 0
    · rw [decide_eq_true ha]
      rcases hg : a.getLast? with _ | q
      · have : a = [] := List.getLast?_eq_none_iff.1 hg
        subst this; simp at ha
      obtain ⟨t, rfl⟩ : ∃ t, a = t ++ [q] := ⟨_, last_split hg⟩
      have el : (t ++ [q]).length = t.length + 1 := by simp
      have ej : wrap64 (((t ++ [q]).length : Int) - 1) = (t.length : Int) := by rw [w64 (by omega) (by omega)]; omega
      have hq : rd_T27 (t ++ [q]) (t.length : Int) = q := rdP_at _ _ _
      have ht : (t ++ [q]).take ((t.length : Int)).toNat = t := by simp
      have hb : backM u s w (t ++ [q]) = (q.f0, q.f1, q.f2, t, true) := by simp [backM]
      rw [doM_back hd hx, hb]
      refine ev_suc ?_
      simp only [spec_DeskDo.j0, ej, hq, ht]
      exact ev_pos trivial (ev_pos (by omega) (ev_pos (by omega) (ev_pos (by omega) (Ev.now _))))
    · rw [decide_eq_false ha]
      exact hF (fun _ => List.length_eq_zero_iff.1 (by omega))
  · exact ev_neg h4 (hF (fun k => absurd (by simp [k]) h4))
theorem srunM_loop (l : List S57) (hl : l.length ≤ 1048576) : ∀ (x p : List S57), l = p ++ x → ∀ (n : Int), 0 ≤ n → n ≤ p.length → ∀ (u : List Int) (s : Int) (w : List Int) (a : List S27), deskB u s w a = true →
    Ev (fun k => spec_l15Run.l0 k l n (p.length : Int) u s w a) ((runM x u s w a).1, (runM x u s w a).2.1, (runM x u s w a).2.2.1, (runM x u s w a).2.2.2.1, n + ((runM x u s w a).2.2.2.2 : Int)) := by
  intro x
  induction x with
  | nil =>
    intro p h n h0 h1 u s w a hF
    rw [List.append_nil] at h
    subst h
    refine ev_suc ?_
    simp only [spec_l15Run.l0, runM]
    exact ev_neg (by omega) (ev_now (by simp))
  | cons d t ih =>
    intro p h n h0 h1 u s w a hF
    have e : l.length = p.length + (t.length + 1) := by rw [h]; simp
    have hd : rd_T57 l (p.length : Int) = d := by rw [h]; simp [rd_T57]
    obtain ⟨z1, z2, z3, z4⟩ := desk_sized hF
    have hv := sdeskdoM_ev u s w a d.f0 d.f1 d.f2 z1 z2 z3 z4
    have ew : wrap64 ((p.length : Int) + 1) = ((p ++ [d]).length : Int) := by rw [w64 (by omega) (by omega)]; simp
    refine ev_suc ?_
    simp only [spec_l15Run.l0, hd, ew]
    refine ev_pos (by omega) (ev_pos (by omega) (ev_bind hv ?_))
    by_cases ho : (doM u s w a d.f0 d.f1 d.f2).2.2.2.2 = true
    · refine ev_pos ho ?_
      rw [w64 (by omega) (by omega)]
      refine ev_eq (ih (p ++ [d]) (by rw [h]; simp) (n + 1) (by omega) (by simp; omega) _ _ _ _ (doM_desk hF _ _ _)) ?_
      rw [runM, if_pos ho]
      simp only [Prod.mk.injEq, true_and]
      omega
    · refine ev_neg ho ?_
      refine ev_eq (ih (p ++ [d]) (by rw [h]; simp) n h0 (by simp; omega) u s w a hF) ?_
      rw [runM, if_neg ho]
theorem srunM_ev (l : List S57) (hl : l.length ≤ 1048576) (u : List Int) (s : Int) (w : List Int) (a : List S27) (hF : deskB u s w a = true) :
    Ev (fun k => spec_l15Run.f k u s w a l) ((runM l u s w a).1, (runM l u s w a).2.1, (runM l u s w a).2.2.1, (runM l u s w a).2.2.2.1, ((runM l u s w a).2.2.2.2 : Int)) := by
  obtain ⟨z1, z2, z3, z4⟩ := desk_sized hF
  unfold spec_l15Run.f
  refine ev_bind (l15Copy_ev u s w a z1 z2 (by have := (desk_data hF).2.2.1; omega) z4) ?_
  exact ev_eq (srunM_loop l hl l [] rfl 0 (by omega) (by simp) u s w a hF) (by simp)
theorem cand_loop (x : Tx) (cs : List S57) (hl : cs.length ≤ 1000) : ∀ (suf pre : List S57), cs = pre ++ suf →
    (∀ k a b, deedT k a b = x → x ≠ [] → (⟨k, a, b⟩ : S57) ∈ suf) → Ev (fun k => spec_ReadDeed.l0 k (ba x) cs (pre.length : Int)) (readD x) := by
  intro suf
  induction suf with
  | nil =>
    intro pre h hd
    have e : cs.length = pre.length := by rw [h]; simp
    refine ev_suc ?_
    simp only [spec_ReadDeed.l0]
    refine ev_neg (by omega) ?_
    rw [readD_not fun k a b h => ?_]
    · exact Ev.now _
    by_cases hx : x = []
    · exact hx
    · exact absurd (hd k a b h hx) (by simp)
  | cons c t ih =>
    intro pre h hd
    have e : cs.length = pre.length + (t.length + 1) := by rw [h]; simp
    have hc : rd_T57 cs (pre.length : Int) = c := by rw [h]; simp [rd_T57]
    refine ev_suc ?_
    simp only [spec_ReadDeed.l0, toList_ba, hc]
    rw [w64 (by omega) (by omega), len_at pre c]
    refine ev_pos (by omega) ?_
    by_cases hx : x = []
    · refine ev_pos hx (ih (pre ++ [c]) (by rw [h]; simp) fun _ _ _ _ h => absurd hx h)
    refine ev_neg hx (ev_pos (by omega) (ev_bind (sdeed_ev _ _ _) ?_))
    simp only [toList_ba]
    by_cases hm : deedT c.f0 c.f1 c.f2 = x
    · refine ev_pos hm ?_
      rw [readD_of hm hx]
      exact Ev.now _
    · refine ev_neg hm (ih (pre ++ [c]) (by rw [h]; simp) fun k a b h1 h2 => ?_)
      rcases List.mem_cons.1 (hd k a b h1 h2) with h3 | h3
      · exact absurd (by rw [← h3]; exact h1) hm
      · exact h3
theorem sread_ev (x : Tx) (hx : x.length ≤ 1048576) : Ev (fun k => spec_ReadDeed.f k (ba x)) (readD x) := by
  unfold spec_ReadDeed.f
  refine ev_bind (scut_ev 32 x (by omega) 32 rfl) ?_
  simp only [Option.bind_some, List.length_map, rdOf_map]
  have hcut : ∀ {k a b : Int}, deedT k a b = x → x ≠ [] → _ := fun {k a b} h h2 => deed_cases (k := k) (a := a) (b := b) (by rw [h]; exact h2)
  have hw := words_small x hx
  obtain ⟨v1, h1⟩ := signed_some _ (Nat.le_trans (hw 1) (by omega))
  obtain ⟨v2, h2⟩ := signed_some _ (Nat.le_trans (hw 2) (by omega))
  have h3 : ∀ cs : List S57, cs.length ≤ 4 → (∀ k a b, deedT k a b = x → x ≠ [] → (⟨k, a, b⟩ : S57) ∈ cs) → Ev (fun k => spec_ReadDeed.j1 k (ba x) cs) (readD x) := fun cs hl hd =>
    ev_suc (by simp only [spec_ReadDeed.j1]; exact cand_loop x cs (by omega) cs [] rfl hd)
  by_cases hl2 : ((cutA 32 [] x).length : Int) = 2
  · refine ev_pos hl2 (ev_pos (by omega) (ev_bind h1 (ev_pos (by simp) (ev_suc ?_))))
    simp only [spec_ReadDeed.j0, List.length_map]
    refine ev_neg (by omega) (h3 _ (by simp) fun k a b e hx0 => ?_)
    obtain ⟨⟨⟨r1, r2⟩, _⟩, c⟩ := hcut e hx0
    rw [e] at c
    rcases c with ⟨_, _, c⟩ | ⟨rfl, rfl, _, c⟩ | ⟨rfl, rfl, _, c⟩ | ⟨rfl, rfl, rfl, _, c⟩ | ⟨rfl, rfl, rfl, _, c⟩ <;> rw [c] at hl2 h1 <;> simp at hl2
    · have : v1 = a := ev_uniq h1 (signed_ev r1 r2)
      subst this; simp
    · have : v1 = a := ev_uniq h1 (signed_ev r1 r2)
      subst this; simp
  refine ev_neg hl2 (ev_suc ?_)
  simp only [spec_ReadDeed.j0, List.length_map, rdOf_map]
  by_cases hl3 : ((cutA 32 [] x).length : Int) = 3
  · refine ev_pos hl3 (ev_pos (by omega) (ev_bind h1 (ev_pos (by omega) (ev_bind h2 (ev_pos (by simp) (h3 _ (by simp) fun k a b e hx0 => ?_))))))
    obtain ⟨⟨⟨r1, r2⟩, r3, r4⟩, c⟩ := hcut e hx0
    rw [e] at c
    rcases c with ⟨rfl, _, c⟩ | ⟨rfl, rfl, _, c⟩ | ⟨rfl, rfl, _, c⟩ | ⟨rfl, rfl, rfl, _, c⟩ | ⟨rfl, rfl, rfl, _, c⟩ <;> rw [c] at hl3 h1 h2 <;> simp at hl3
    have e1 : v1 = a := ev_uniq h1 (signed_ev r1 r2)
    have e2 : v2 = b := ev_uniq h2 (signed_ev r3 r4)
    subst e1; subst e2; simp
  · refine ev_neg hl3 (h3 _ (by simp) fun k a b e hx0 => ?_)
    obtain ⟨_, c⟩ := hcut e hx0
    rw [e] at c
    rcases c with ⟨rfl, _, c⟩ | ⟨rfl, rfl, _, c⟩ | ⟨rfl, rfl, _, c⟩ | ⟨rfl, rfl, rfl, _, c⟩ | ⟨rfl, rfl, rfl, _, c⟩ <;> rw [c] at hl2 hl3 <;> simp at hl2 hl3 ⊢
theorem sreadj_loop (x : Tx) (hx : x.length ≤ 1048576) : ∀ (suf acc pre : Tx) (ds : List (Int × Int × Int)), x = pre ++ (acc ++ suf) → ds.length ≤ pre.length →
    Ev (fun k => spec_ReadJournal.l0 k (ba x) (ds.map mkD) (pre.length : Int) ((pre ++ acc).length : Int)) ((rjL (cutA 10 acc suf) ds pre.length).1.map mkD, ((rjL (cutA 10 acc suf) ds pre.length).2 : Int)) := by
  intro suf
  induction suf with
  | nil =>
    intro acc pre ds h hd
    have e : x.length = pre.length + acc.length := by rw [h]; simp
    have ha : (pre ++ acc).length = pre.length + acc.length := List.length_append
    refine ev_suc ?_
    simp only [spec_ReadJournal.l0]
    refine ev_neg (by rw [ba_size]; omega) ?_
    simp only [cutA, rjL]
    exact Ev.now _
  | cons b t ih =>
    intro acc pre ds h hd
    have e : x.length = pre.length + (acc.length + (t.length + 1)) := by rw [h]; simp
    have ha : (pre ++ acc).length = pre.length + acc.length := List.length_append
    have hb : bt (ba x) ((pre ++ acc).length : Int) = (b.toNat : Int) := by rw [h, ← List.append_assoc]; exact bt_ba _ _ _
    refine ev_suc ?_
    simp only [spec_ReadJournal.l0]
    refine ev_pos (by rw [ba_size]; omega) (ev_pos (by omega) ?_)
    rw [hb]
    by_cases hc : b = 10
    · subst hc
      refine ev_pos rfl (ev_pos (by omega) (ev_pos (by omega) (ev_pos (by rw [ba_size]; omega) ?_)))
      rw [ba_extract]
      have e2 : (x.drop (pre.length : Int).toNat).take (((pre ++ acc).length : Int).toNat - (pre.length : Int).toNat) = acc := by
        rw [Int.toNat_natCast, Int.toNat_natCast, ha, Nat.add_sub_cancel_left, h, List.drop_left, List.take_left]
      rw [e2]
      refine ev_bind (sread_ev acc (by omega)) ?_
      rw [cutA, if_pos rfl, rjL_cut]
      by_cases ho : (readD acc).2.2.2 = true
      · refine ev_pos ho (ev_pos (by rw [List.length_map]; omega) ?_)
        rw [w64 (by omega) (by omega), if_pos ho]
        have := ih [] (pre ++ acc ++ [10]) (ds ++ [((readD acc).1, (readD acc).2.1, (readD acc).2.2.1)]) (h.trans (by simp [List.append_assoc])) (by simp; omega)
        have e3 : (((pre ++ acc).length : Int) + 1) = ((pre ++ acc ++ [10]).length : Int) := len_at _ _
        have e4 : (pre ++ acc ++ [10]).length = pre.length + acc.length + 1 := by simp; omega
        rw [e3]
        rw [List.append_nil, e4] at this
        simp only [List.map_append, List.map_cons, List.map_nil, mkD] at this
        rw [e4]
        exact this
      · refine ev_neg ho ?_
        rw [if_neg ho]
        exact Ev.now _
    · have h10 : (10 : UInt8).toNat = 10 := rfl
      refine ev_neg (fun e => hc (UInt8.toNat_inj.1 (by omega))) ?_
      rw [w64 (by omega) (by omega)]
      have := ih (acc ++ [b]) pre ds (by rw [h]; simp) hd
      have e3 : (((pre ++ acc).length : Int) + 1) = ((pre ++ (acc ++ [b])).length : Int) := by rw [← List.append_assoc]; exact len_at _ _
      rw [e3, cutA, if_neg hc]
      exact this
theorem sreadj_ev (x : Tx) (hx : x.length ≤ 1048576) : Ev (fun k => spec_ReadJournal.f k (ba x)) ((readJ x).1.map mkD, ((readJ x).2 : Int)) := by
  unfold spec_ReadJournal.f readJ
  exact sreadj_loop x hx x [] [] [] rfl (Nat.le_refl _)
theorem sopenM_ev (x y : Tx) (z : Int) (hx : x.length ≤ 1048576) : Ev (fun k => spec_StoreOpen.f k (ba x) (ba y) z) (if storeB x y z = true then ((openM x y).1, (openM x y).2.1, (openM x y).2.2.1, (openM x y).2.2.2.1, true) else ([], 0, [], [], false)) := by
  unfold spec_StoreOpen.f
  refine ev_bind (sstore_ev x y z hx) ?_
  by_cases hs : storeB x y z = true
  · obtain ⟨h1, h2, h3, h4, h5, h6, h7⟩ := store_data hs
    have hj := readJ_len' y
    rw [if_pos hs]
    exact ev_pos hs (ev_bind (sreadp_ev x hx) (ev_bind (sreadj_ev y (by omega)) (ev_bind (srunM_ev _ (by rw [List.length_map]; omega) _ _ _ _ (desk0 h4)) (Ev.now _))))
  · rw [if_neg hs]
    exact ev_neg hs (Ev.now _)
/-- A desk's place and those of before, out of what tells more. -/
abbrev d4 {β : Type} (r : List Int × Int × List Int × List S27 × β) : List Int × Int × List Int × List S27 := (r.1, r.2.1, r.2.2.1, r.2.2.2.1)
theorem eqInts_loop (l : List Int) (hl : l.length ≤ 1048576) : ∀ (suf pre : List Int), l = pre ++ suf → Ev (fun k => laws_eqIntS.l0 k l l (pre.length : Int)) true := by
  intro suf
  induction suf with
  | nil =>
    intro pre h
    rw [List.append_nil] at h
    subst h
    refine ev_suc ?_
    simp only [laws_eqIntS.l0]
    exact ev_neg (by omega) (Ev.now _)
  | cons x t ih =>
    intro pre h
    have e : l.length = pre.length + (t.length + 1) := by rw [h]; simp
    refine ev_suc ?_
    simp only [laws_eqIntS.l0]
    refine ev_pos (by omega) (ev_pos (by omega) (ev_pos (by omega) (ev_pos trivial ?_)))
    rw [w64 (by omega) (by omega), len_at pre x]
    exact ih (pre ++ [x]) (by rw [h]; simp)
theorem eqInts_ev (l : List Int) (hl : l.length ≤ 1048576) : Ev (fun k => laws_eqIntS.f k l l) true := by
  unfold laws_eqIntS.f
  exact ev_pos rfl (eqInts_loop l hl l [] rfl)
theorem eqPlace_ev (u : List Int) (s : Int) (w : List Int) (hu : u.length ≤ 1048576) (hw : w.length ≤ 1048576) : Ev (fun k => laws_eqPlace.f k u s w u s w) true := by
  unfold laws_eqPlace.f
  exact ev_bind (eqInts_ev u hu) (ev_pos rfl (ev_pos rfl (ev_bind (eqInts_ev w hw) (ev_pos rfl (Ev.now _)))))
theorem eqPlaces_loop (l : List S27) (hl : l.length ≤ 1048576) (hs : ∀ x ∈ l, x.f0.length ≤ 1048576 ∧ x.f2.length ≤ 1048576) : ∀ (suf pre : List S27), l = pre ++ suf → Ev (fun k => laws_eqPlaceS.l0 k l l (pre.length : Int)) true := by
  intro suf
  induction suf with
  | nil =>
    intro pre h
    rw [List.append_nil] at h
    subst h
    refine ev_suc ?_
    simp only [laws_eqPlaceS.l0]
    exact ev_neg (by omega) (Ev.now _)
  | cons x t ih =>
    intro pre h
    have e : l.length = pre.length + (t.length + 1) := by rw [h]; simp
    have hx : rd_T27 l (pre.length : Int) = x := by rw [h]; simp [rd_T27]
    have hsx := hs x (by rw [h]; simp)
    refine ev_suc ?_
    simp only [laws_eqPlaceS.l0, hx]
    refine ev_pos (by omega) (ev_pos (by omega) (ev_pos (by omega) (ev_bind (eqPlace_ev _ _ _ hsx.1 hsx.2) (ev_pos rfl ?_))))
    rw [w64 (by omega) (by omega), len_at pre x]
    exact ih (pre ++ [x]) (by rw [h]; simp)
theorem eqPlaces_ev (l : List S27) (hl : l.length ≤ 1048576) (hs : ∀ x ∈ l, x.f0.length ≤ 1048576 ∧ x.f2.length ≤ 1048576) : Ev (fun k => laws_eqPlaceS.f k l l) true := by
  unfold laws_eqPlaceS.f
  exact ev_pos rfl (eqPlaces_loop l hl hs l [] rfl)
def iota (a : Int) (n : Nat) : List Int := (List.range n).map fun i : Nat => a + (i : Int)
theorem markI_loop (a : Int) (ha : 0 ≤ a ∧ a ≤ 1000000000000000) (l : List Int) (hl : l.length ≤ 1048577) : ∀ (suf : List Int) (n : Nat), l.length = n + suf.length →
    Ev (fun k => laws_markIntS.l0 k (iota a n ++ suf) (a + (n : Int)) (n : Int)) (a + (l.length : Int), iota a l.length) := by
  intro suf
  induction suf with
  | nil =>
    intro n h
    simp at h
    refine ev_suc ?_
    simp only [laws_markIntS.l0]
    refine ev_neg (by simp [iota]) ?_
    rw [h, List.append_nil]
    exact Ev.now _
  | cons y t ih =>
    intro n h
    simp at h
    have hm : (iota a n).length = n := by simp [iota]
    refine ev_suc ?_
    simp only [laws_markIntS.l0]
    refine ev_pos (by simp [iota]; omega) (ev_pos (by omega) ?_)
    have h2 : (iota a n ++ y :: t).set (n : Int).toNat (a + (n : Int)) = iota a n ++ (a + (n : Int)) :: t := by have := set_at (iota a n) y (a + (n : Int)) t; rw [hm] at this; simpa using this
    rw [h2, w64 (n := a + (n : Int) + 1) (by omega) (by omega), w64 (n := (n : Int) + 1) (by omega) (by omega)]
    have := ih (n + 1) (by omega)
    have e1 : iota a (n + 1) = iota a n ++ [a + (n : Int)] := by simp [iota, List.range_succ]
    rw [e1, show (((n + 1 : Nat) : Int)) = (n : Int) + 1 from by omega, show a + ((n : Int) + 1) = a + (n : Int) + 1 from by omega] at this
    simpa using this
theorem markI_ev (a : Int) (ha : 0 ≤ a ∧ a ≤ 1000000000000000) (l : List Int) (hl : l.length ≤ 1048577) : Ev (fun k => laws_markIntS.f k l a) (a + (l.length : Int), iota a l.length) := by
  unfold laws_markIntS.f
  have := markI_loop a ha l hl l 0 (by simp)
  simpa [iota] using this
theorem heldI_loop (a : Int) (ha : 0 ≤ a ∧ a ≤ 1000000000000000) (m : Nat) (hl : m ≤ 1048577) : ∀ (j n : Nat), m = n + j → Ev (fun k => laws_heldIntS.l0 k (iota a m) (a + (n : Int)) (n : Int)) (a + (m : Int)) := by
  intro j
  induction j with
  | zero =>
    intro n h
    refine ev_suc ?_
    simp only [laws_heldIntS.l0]
    refine ev_neg (by simp [iota]; omega) ?_
    rw [show n = m from by omega]
    exact Ev.now _
  | succ j ih =>
    intro n h
    have hr : rd (iota a m) (n : Int) = a + (n : Int) := by
      unfold rd iota
      rw [List.getD_eq_getElem?_getD, List.getElem?_map, Int.toNat_natCast, List.getElem?_range (by omega)]
      rfl
    refine ev_suc ?_
    simp only [laws_heldIntS.l0, hr]
    rw [w64 (n := a + (n : Int) + 1) (by omega) (by omega), w64 (n := (n : Int) + 1) (by omega) (by omega)]
    refine ev_pos (by simp [iota]; omega) (ev_pos (by omega) (ev_pos trivial ?_))
    have := ih (n + 1) (by omega)
    rw [show (((n + 1 : Nat) : Int)) = (n : Int) + 1 from by omega, show a + ((n : Int) + 1) = a + (n : Int) + 1 from by omega] at this
    exact this
theorem heldI_ev (a : Int) (ha : 0 ≤ a ∧ a ≤ 1000000000000000) (m : Nat) (hl : m ≤ 1048577) : Ev (fun k => laws_heldIntS.f k (iota a m) a) (a + (m : Int)) := by
  unfold laws_heldIntS.f
  have := heldI_loop a ha m hl m 0 (by omega)
  simpa using this
theorem markP_ev (u : List Int) (s : Int) (w : List Int) (hu : u.length ≤ 1048576) (hw : w.length ≤ 1048576) : Ev (fun k => laws_markPlace.f k u s w 1) (1 + (u.length : Int) + (w.length : Int), iota 1 u.length, iota (1 + (u.length : Int)) w.length) := by
  unfold laws_markPlace.f
  exact ev_bind (markI_ev 1 (by omega) u (by omega)) (ev_bind (markI_ev _ (by omega) w (by omega)) (Ev.now _))
theorem heldP_ev (m : Nat) (s : Int) (n : Nat) (hu : m ≤ 1048576) (hw : n ≤ 1048576) : Ev (fun k => laws_heldPlace.f k (iota 1 m) s (iota (1 + (m : Int)) n) 1) (1 + (m : Int) + (n : Int)) := by
  unfold laws_heldPlace.f
  exact ev_bind (heldI_ev 1 (by omega) m (by omega)) (ev_neg (by omega) (ev_bind (heldI_ev _ (by omega) n (by omega)) (ev_neg (by omega) (Ev.now _))))
/-- The marks that a row of places bears, and how many. -/
def mkS : List S27 → Int → List S27
  | [], _ => []
  | q :: t, n => ⟨iota n q.f0.length, n + (q.f0.length : Int), iota (n + (q.f0.length : Int) + 1) q.f2.length⟩ :: mkS t (n + (q.f0.length : Int) + 1 + (q.f2.length : Int))
def cntS : List S27 → Nat
  | [] => 0
  | q :: t => q.f0.length + 1 + q.f2.length + cntS t
theorem mkS_len : ∀ (l : List S27) (n : Int), (mkS l n).length = l.length
  | [], _ => rfl
  | q :: t, n => by rw [mkS, List.length_cons, mkS_len t, List.length_cons]
theorem cntS_le (l : List S27) (hs : ∀ x ∈ l, x.f0.length ≤ 1048576 ∧ x.f2.length ≤ 1048576) : cntS l ≤ 2097153 * l.length := by
  induction l with
  | nil => simp [cntS]
  | cons q t ih =>
    have h1 := hs q (by simp)
    have h2 := ih (fun x hx => hs x (by simp [hx]))
    rw [cntS, List.length_cons]
    omega
theorem mkS_append : ∀ (p t : List S27) (n : Int), mkS (p ++ t) n = mkS p n ++ mkS t (n + (cntS p : Int))
  | [], t, n => by simp [mkS, cntS]
  | q :: p, t, n => by
    rw [List.cons_append, mkS, mkS, mkS_append p t, List.cons_append]
    congr 3
    rw [cntS]
    omega
theorem cntS_append : ∀ (p t : List S27), cntS (p ++ t) = cntS p + cntS t
  | [], t => by simp [cntS]
  | q :: p, t => by rw [List.cons_append, cntS, cntS, cntS_append p t]; omega
theorem markS_loop (l : List S27) (hl : l.length ≤ 1048576) (hs : ∀ x ∈ l, x.f0.length ≤ 1048576 ∧ x.f2.length ≤ 1048576) (n : Int) (h0 : 0 ≤ n) (h1 : n ≤ 100000000) : ∀ (suf pre : List S27), l = pre ++ suf →
    Ev (fun k => laws_markPlaceS.l0 k (mkS pre n ++ suf) (n + (cntS pre : Int)) (pre.length : Int)) (n + (cntS l : Int), mkS l n) := by
  have hc := cntS_le l hs
  intro suf
  induction suf with
  | nil =>
    intro pre h
    rw [List.append_nil] at h
    subst h
    refine ev_suc ?_
    simp only [laws_markPlaceS.l0]
    exact ev_neg (by rw [List.length_append, mkS_len]; simp) (ev_eq (Ev.now _) (by simp))
  | cons q t ih =>
    intro pre h
    have hq := hs q (by rw [h]; simp)
    have hcl : cntS l = cntS pre + (q.f0.length + 1 + q.f2.length + cntS t) := by rw [h, cntS_append, cntS]
    have el : (mkS pre n ++ q :: t).length = pre.length + (t.length + 1) := by rw [List.length_append, mkS_len]; simp
    have hx : rd_T27 (mkS pre n ++ q :: t) (pre.length : Int) = q := by
      have := mkS_len pre n
      simp [rd_T27, List.getD_eq_getElem?_getD, List.getElem?_append_right, this]
    have hlen : l.length = pre.length + (t.length + 1) := by rw [h]; simp
    refine ev_suc ?_
    simp only [laws_markPlaceS.l0, hx]
    refine ev_pos (by rw [el]; omega) (ev_pos (by omega) (ev_bind (markI_ev _ (by omega) q.f0 (by omega)) ?_))
    rw [w64 (by omega) (by omega), w64 (by omega) (by omega)]
    refine ev_bind (markI_ev _ (by omega) q.f2 (by omega)) ?_
    have := ih (pre ++ [q]) (by rw [h]; simp)
    have e1 : (mkS pre n ++ q :: t).set (pre.length : Int).toNat (⟨iota (n + (cntS pre : Int)) q.f0.length, n + (cntS pre : Int) + (q.f0.length : Int), iota (n + (cntS pre : Int) + (q.f0.length : Int) + 1) q.f2.length⟩ : S27) = mkS (pre ++ [q]) n ++ t := by
      rw [Int.toNat_natCast, mkS_append, show pre.length = (mkS pre n).length from (mkS_len pre n).symm, List.set_append_right _ _ (Nat.le_refl _)]
      simp [mkS]
    have e2 : n + (cntS (pre ++ [q]) : Int) = n + (cntS pre : Int) + (q.f0.length : Int) + 1 + (q.f2.length : Int) := by rw [cntS_append, cntS, cntS]; omega
    rw [e2, show ((pre ++ [q]).length : Int) = (pre.length : Int) + 1 by simp] at this
    simp only []
    rw [e1]
    exact this
theorem markS_ev (l : List S27) (hl : l.length ≤ 1048576) (hs : ∀ x ∈ l, x.f0.length ≤ 1048576 ∧ x.f2.length ≤ 1048576) (n : Int) (h0 : 0 ≤ n) (h1 : n ≤ 100000000) : Ev (fun k => laws_markPlaceS.f k l n) (n + (cntS l : Int), mkS l n) := by
  unfold laws_markPlaceS.f
  have := markS_loop l hl hs n h0 h1 l [] rfl
  simpa [mkS, cntS] using this
theorem heldS_loop (l : List S27) (hl : l.length ≤ 1048576) (hs : ∀ x ∈ l, x.f0.length ≤ 1048576 ∧ x.f2.length ≤ 1048576) (n : Int) (h0 : 0 ≤ n) (h1 : n ≤ 100000000) : ∀ (suf pre : List S27), l = pre ++ suf →
    Ev (fun k => laws_heldPlaceS.l0 k (mkS l n) (n + (cntS pre : Int)) (pre.length : Int)) (n + (cntS l : Int)) := by
  have hc := cntS_le l hs
  intro suf
  induction suf with
  | nil =>
    intro pre h
    rw [List.append_nil] at h
    subst h
    refine ev_suc ?_
    simp only [laws_heldPlaceS.l0]
    exact ev_neg (by rw [mkS_len]; omega) (Ev.now _)
  | cons q t ih =>
    intro pre h
    have hq := hs q (by rw [h]; simp)
    have hcl : cntS l = cntS pre + (q.f0.length + 1 + q.f2.length + cntS t) := by rw [h, cntS_append, cntS]
    have hlen : l.length = pre.length + (t.length + 1) := by rw [h]; simp
    have hx : rd_T27 (mkS l n) (pre.length : Int) = ⟨iota (n + (cntS pre : Int)) q.f0.length, n + (cntS pre : Int) + (q.f0.length : Int), iota (n + (cntS pre : Int) + (q.f0.length : Int) + 1) q.f2.length⟩ := by
      have := mkS_len pre n
      rw [h, mkS_append, mkS]
      simp [rd_T27, List.getD_eq_getElem?_getD, List.getElem?_append_right, this]
    have := ih (pre ++ [q]) (by rw [h]; simp)
    have e2 : n + (cntS (pre ++ [q]) : Int) = n + (cntS pre : Int) + (q.f0.length : Int) + 1 + (q.f2.length : Int) := by rw [cntS_append, cntS, cntS]; omega
    rw [e2, show ((pre ++ [q]).length : Int) = (pre.length : Int) + 1 by simp] at this
    refine ev_suc ?_
    simp only [laws_heldPlaceS.l0, hx]
    refine ev_pos (by rw [mkS_len]; omega) (ev_pos (by omega) (ev_bind (heldI_ev _ (by omega) q.f0.length (by omega)) (ev_neg (by omega) (ev_pos rfl ?_))))
    rw [w64 (by omega) (by omega), w64 (by omega) (by omega)]
    exact ev_bind (heldI_ev _ (by omega) q.f2.length (by omega)) (ev_neg (by omega) this)
theorem heldS_ev (l : List S27) (hl : l.length ≤ 1048576) (hs : ∀ x ∈ l, x.f0.length ≤ 1048576 ∧ x.f2.length ≤ 1048576) (n : Int) (h0 : 0 ≤ n) (h1 : n ≤ 100000000) : Ev (fun k => laws_heldPlaceS.f k (mkS l n) n) (n + (cntS l : Int)) := by
  unfold laws_heldPlaceS.f
  have := heldS_loop l hl hs n h0 h1 l [] rfl
  simpa [cntS] using this
structure DFin (u w : List Int) (a : List S27) : Prop where
  h1 : u.length ≤ 1048576
  h2 : w.length ≤ 1048576
  h3 : a.length ≤ 1048576
  h4 : ∀ x ∈ a, x.f0.length ≤ 1048576 ∧ x.f2.length ≤ 1048576
theorem DFin.desk {u : List Int} {s : Int} {w : List Int} {a : List S27} (h : deskB u s w a = true) : DFin u w a := by
  obtain ⟨h1, h2, h3, _, h5⟩ := desk_data h
  exact ⟨by omega, by omega, by omega, fun x hx => ⟨by have := (h5 x hx).2.1; omega, by have := (h5 x hx).2.2; omega⟩⟩
theorem DFin.nil : DFin [] [] [] := ⟨by simp, by simp, by simp, by simp⟩
/-- All marks of a desk. -/
def cntD (u w : List Int) (a : List S27) : Int := 1 + (u.length : Int) + (w.length : Int) + (cntS a : Int)
theorem markD_ev {u w : List Int} (s : Int) {a : List S27} (h : DFin u w a) : Ev (fun k => laws_markDesk.f k u s w a 1) (cntD u w a, iota 1 u.length, iota (1 + (u.length : Int)) w.length, mkS a (1 + (u.length : Int) + (w.length : Int))) := by
  have := h.h1; have := h.h2
  unfold laws_markDesk.f
  exact ev_bind (markP_ev u s w h.h1 h.h2) (ev_bind (markS_ev a h.h3 h.h4 _ (by omega) (by omega)) (Ev.now _))
theorem heldD_ev {u w : List Int} (s : Int) {a : List S27} (h : DFin u w a) : Ev (fun k => laws_heldDesk.f k (iota 1 u.length) s (iota (1 + (u.length : Int)) w.length) (mkS a (1 + (u.length : Int) + (w.length : Int))) 1) (cntD u w a) := by
  have := h.h1; have := h.h2
  unfold laws_heldDesk.f
  exact ev_bind (heldP_ev u.length s w.length h.h1 h.h2) (ev_neg (by omega) (ev_bind (heldS_ev a h.h3 h.h4 _ (by omega) (by omega)) (ev_neg (by omega) (Ev.now _))))
theorem eqD_ev {u w : List Int} (s : Int) {a : List S27} (h : DFin u w a) : Ev (fun k => laws_eqDesk.f k u s w a u s w a) true := by
  unfold laws_eqDesk.f
  exact ev_bind (eqPlace_ev u s w h.h1 h.h2) (ev_pos rfl (ev_bind (eqPlaces_ev a h.h3 h.h4) (ev_pos rfl (Ev.now _))))
theorem cntD_pos (u w : List Int) (a : List S27) : 0 < cntD u w a := by unfold cntD; omega

end FnExactStoreOpen_parts
open FnExactStoreOpen_parts
theorem FnExactStoreOpen (x0 x1 : ByteArray) (x2 : Int) (ok : x0.size ≤ maxLen ∧ x1.size ≤ maxLen ∧ (Lit.int .i64 x2).wf = true) : ∃ k, laws_FnExactStoreOpen.f k x0 x1 x2 = some true := by
  refine Ev.rounds ?_
  unfold laws_FnExactStoreOpen.f
  obtain ⟨r, hr, h⟩ := szStore_eq x0 x1 x2 ok.1 ok.2.1
  rw [hr]
  simp only [Option.bind_some]
  rcases h with h | ⟨h2, h0, h1⟩
  · exact ev_pos h (Ev.now _)
  refine ev_neg (by omega) ?_
  obtain ⟨x, rfl⟩ := ba_get x0
  obtain ⟨y, rfl⟩ := ba_get x1
  rw [ba_size] at h0 h1
  simp only [laws_toStore.f, Option.bind_some]
  have hi := iopenM_ev x y x2 h0
  have hs := sopenM_ev x y x2 h0
  obtain ⟨g0, g1, g2, g3, g4, hg, hG⟩ : ∃ g0 g1 g2 g3 g4, (if storeB x y x2 = true then ((openM x y).1, (openM x y).2.1, (openM x y).2.2.1, (openM x y).2.2.2.1, true) else ([], 0, [], [], false)) = (g0, g1, g2, g3, g4) ∧ DFin g0 g2 g3 := by
    by_cases hb : storeB x y x2 = true
    · exact ⟨_, _, _, _, _, if_pos hb, DFin.desk (openM_desk hb)⟩
    · exact ⟨_, _, _, _, _, if_neg hb, DFin.nil⟩
  rw [hg] at hi hs
  have hq := cntD_pos g0 g2 g3
  have hE := eqD_ev g1 hG
  have hH := heldD_ev g1 hG
  refine ev_bind hs (ev_bind hi (ev_bind hE (ev_pos rfl (ev_suc ?_))))
  simp only [laws_FnExactStoreOpen.j0, laws_toStore.f, Option.bind_some]
  refine ev_neg (by simp) (ev_bind (markD_ev g1 hG) (ev_bind hH (ev_neg (by omega) (ev_pos rfl (ev_bind hi (ev_bind hE (ev_pos rfl (ev_suc ?_))))))))
  simp only [laws_FnExactStoreOpen.j1]
  exact ev_neg (by simp) (ev_bind hH (ev_neg (by omega) (ev_pos rfl (Ev.now _))))
end Go.Proofs.YtmodbemkflkbeaaGreatDoor.Pure
