/- Plain words about deeds and their texts: no program in sight. -/
import Derived.Test.YtmodbemkflkbeaaGreatDoorText
namespace Go.Proofs.YtmodbemkflkbeaaGreatDoor.Base
open Go.RowKit Go.Proofs.YtmodbemkflkbeaaGreatDoorW.PrintWords Go.Proofs.YtmodbemkflkbeaaGreatDoorW.PrintLast
def putW : Tx := [112, 117, 116]
def stepW : Tx := [115, 116, 101, 112]
def drawW : Tx := [100, 114, 97, 119]
def againW : Tx := [97, 103, 97, 105, 110]
def backW : Tx := [98, 97, 99, 107]
/-- The text of a deed; none, if there is none. -/
def deedT (k a b : Int) : Tx :=
  if (-99 ≤ a ∧ a ≤ 99) ∧ -99 ≤ b ∧ b ≤ 99 then
    if k = 0 then putW ++ 32 :: (numT a ++ 32 :: numT b)
    else if k = 1 ∧ b = 0 then stepW ++ 32 :: numT a
    else if k = 2 ∧ b = 0 then drawW ++ 32 :: numT a
    else if k = 3 ∧ a = 0 ∧ b = 0 then againW
    else if k = 4 ∧ a = 0 ∧ b = 0 then backW
    else []
  else []
theorem numT_clean {n : Int} (h0 : -99 ≤ n) (h1 : n ≤ 99) : (32 : UInt8) ∉ numT n ∧ (10 : UInt8) ∉ numT n := by
  have h := List.all_eq_true.1 (numT_bytes h0 h1).1
  constructor <;> intro hm <;> have := h _ hm <;> simp at this
/-- What there is, if a deed has a text: its numbers are small, and its words are these. -/
theorem deed_cases {k a b : Int} (h : deedT k a b ≠ []) : ((-99 ≤ a ∧ a ≤ 99) ∧ -99 ≤ b ∧ b ≤ 99) ∧
    ((k = 0 ∧ deedT k a b = putW ++ 32 :: (numT a ++ 32 :: numT b) ∧ cutA 32 [] (deedT k a b) = [putW, numT a, numT b]) ∨ (k = 1 ∧ b = 0 ∧ deedT k a b = stepW ++ 32 :: numT a ∧ cutA 32 [] (deedT k a b) = [stepW, numT a]) ∨
      (k = 2 ∧ b = 0 ∧ deedT k a b = drawW ++ 32 :: numT a ∧ cutA 32 [] (deedT k a b) = [drawW, numT a]) ∨ (k = 3 ∧ a = 0 ∧ b = 0 ∧ deedT k a b = againW ∧ cutA 32 [] (deedT k a b) = [againW]) ∨ (k = 4 ∧ a = 0 ∧ b = 0 ∧ deedT k a b = backW ∧ cutA 32 [] (deedT k a b) = [backW])) := by
  unfold deedT at h
  split at h
  case isFalse => exact absurd rfl h
  case isTrue hr =>
    refine ⟨hr, ?_⟩
    have ca := (numT_clean hr.1.1 hr.1.2).1
    have cb := (numT_clean hr.2.1 hr.2.2).1
    have e : deedT k a b = (if k = 0 then putW ++ 32 :: (numT a ++ 32 :: numT b)
      else if k = 1 ∧ b = 0 then stepW ++ 32 :: numT a else if k = 2 ∧ b = 0 then drawW ++ 32 :: numT a
      else if k = 3 ∧ a = 0 ∧ b = 0 then againW else if k = 4 ∧ a = 0 ∧ b = 0 then backW else []) := by unfold deedT; rw [if_pos hr]
    split at h
    · rename_i hk
      refine Or.inl ⟨hk, ?_⟩
      rw [e, if_pos hk]
      refine ⟨rfl, ?_⟩
      rw [cutA_hit putW [] _ (by decide), cutA_hit (numT a) [] _ ca, cutA_none _ [] cb]
      rfl
    rename_i h0
    split at h
    · rename_i hk
      refine Or.inr (Or.inl ⟨hk.1, hk.2, ?_⟩)
      rw [e, if_neg h0, if_pos hk]
      refine ⟨rfl, ?_⟩
      rw [cutA_hit stepW [] _ (by decide), cutA_none _ [] ca]
      rfl
    rename_i h1
    split at h
    · rename_i hk
      refine Or.inr (Or.inr (Or.inl ⟨hk.1, hk.2, ?_⟩))
      rw [e, if_neg h0, if_neg h1, if_pos hk]
      refine ⟨rfl, ?_⟩
      rw [cutA_hit drawW [] _ (by decide), cutA_none _ [] ca]
      rfl
    rename_i h2
    split at h
    · rename_i hk
      refine Or.inr (Or.inr (Or.inr (Or.inl ⟨hk.1, hk.2.1, hk.2.2, ?_⟩)))
      rw [e, if_neg h0, if_neg h1, if_neg h2, if_pos hk]
      exact ⟨rfl, by rw [cutA_none _ [] (by decide)]; rfl⟩
    rename_i h3
    split at h
    · rename_i hk
      refine Or.inr (Or.inr (Or.inr (Or.inr ⟨hk.1, hk.2.1, hk.2.2, ?_⟩)))
      rw [e, if_neg h0, if_neg h1, if_neg h2, if_neg h3, if_pos hk]
      exact ⟨rfl, by rw [cutA_none _ [] (by decide)]; rfl⟩
    · exact absurd rfl h
theorem deed_len (k a b : Int) : (deedT k a b).length ≤ 11 := by
  unfold deedT
  split
  case isFalse => simp
  case isTrue hr =>
    obtain ⟨_, l1, l2⟩ := numT_bytes hr.1.1 hr.1.2
    obtain ⟨_, m1, m2⟩ := numT_bytes hr.2.1 hr.2.2
    repeat' split
    all_goals simp [putW, stepW, drawW, againW, backW]
    all_goals omega
/-- The journal of these deeds behind what stands already; none, if one of them has no text. -/
def journalT : Tx → List (Int × Int × Int) → Tx
  | acc, [] => acc
  | acc, d :: t => if deedT d.1 d.2.1 d.2.2 = [] then [] else journalT (acc ++ deedT d.1 d.2.1 d.2.2 ++ [10]) t
theorem numT_inj {m n : Int} (h0 : -99 ≤ m) (h1 : m ≤ 99) (h2 : -99 ≤ n) (h3 : n ≤ 99) (h : numT m = numT n) : m = n := by
  have := atoi_numT h0 h1
  rw [h, atoi_numT h2 h3] at this
  cases this; rfl
theorem deed_inj {k a b k' a' b' : Int} (h : deedT k a b ≠ []) (e : deedT k a b = deedT k' a' b') : (k, a, b) = (k', a', b') := by
  obtain ⟨⟨⟨r1, r2⟩, r3, r4⟩, c⟩ := deed_cases h
  obtain ⟨⟨⟨s1, s2⟩, s3, s4⟩, c'⟩ := deed_cases (k := k') (a := a') (b := b') (e ▸ h)
  rw [← e] at c'
  rcases c with ⟨rfl, _, c⟩ | ⟨rfl, rfl, _, c⟩ | ⟨rfl, rfl, _, c⟩ | ⟨rfl, rfl, rfl, _, c⟩ | ⟨rfl, rfl, rfl, _, c⟩ <;>
    rcases c' with ⟨rfl, _, c'⟩ | ⟨rfl, rfl, _, c'⟩ | ⟨rfl, rfl, _, c'⟩ | ⟨rfl, rfl, rfl, _, c'⟩ | ⟨rfl, rfl, rfl, _, c'⟩ <;> rw [c] at c' <;>
    simp only [List.cons.injEq, and_true, true_and, reduceCtorEq, and_false, putW, stepW, drawW, againW, backW] at c' <;> first | rfl | (exfalso; revert c'; decide) | (obtain ⟨x, y⟩ := c'; rw [numT_inj r1 r2 s1 s2 x, numT_inj r3 r4 s3 s4 y]) | (rw [numT_inj r1 r2 s1 s2 c']) | skip
  all_goals (exfalso; revert c'; simp)
open Classical in
/-- The deed whose text this is; none, if there is none. -/
noncomputable def readD (x : Tx) : Int × Int × Int × Bool :=
  if h : ∃ d : Int × Int × Int, deedT d.1 d.2.1 d.2.2 = x ∧ x ≠ [] then (h.choose.1, h.choose.2.1, h.choose.2.2, true) else (0, 0, 0, false)
theorem readD_of {k a b : Int} {x : Tx} (h : deedT k a b = x) (hx : x ≠ []) : readD x = (k, a, b, true) := by
  have hex : ∃ d : Int × Int × Int, deedT d.1 d.2.1 d.2.2 = x ∧ x ≠ [] := ⟨(k, a, b), h, hx⟩
  unfold readD
  rw [dif_pos hex]
  have hc := hex.choose_spec
  have := deed_inj (k := hex.choose.1) (a := hex.choose.2.1) (b := hex.choose.2.2) (k' := k) (a' := a) (b' := b) (by rw [hc.1]; exact hx) (hc.1.trans h.symm)
  simp only [Prod.mk.injEq] at this ⊢
  exact ⟨this.1, this.2.1, this.2.2, trivial⟩
theorem readD_not {x : Tx} (h : ∀ k a b, deedT k a b = x → x = []) : readD x = (0, 0, 0, false) := by
  unfold readD
  rw [dif_neg]
  rintro ⟨⟨k, a, b⟩, h1, h2⟩
  exact h2 (h k a b h1)
/-- What is read of a journal's lines (the last one has no end): the deeds behind those read already, and how many bytes they take. -/
noncomputable def rjL : List Tx → List (Int × Int × Int) → Nat → List (Int × Int × Int) × Nat
  | p :: q :: t, ds, n => if (readD p).2.2.2 = true then rjL (q :: t) (ds ++ [((readD p).1, (readD p).2.1, (readD p).2.2.1)]) (n + p.length + 1) else (ds, n)
  | [_], ds, n => (ds, n)
  | [], ds, n => (ds, n)
theorem rjL_cut (p s : Tx) (ds : List (Int × Int × Int)) (n : Nat) : rjL (p :: cutA 10 [] s) ds n = if (readD p).2.2.2 = true then rjL (cutA 10 [] s) (ds ++ [((readD p).1, (readD p).2.1, (readD p).2.2.1)]) (n + p.length + 1) else (ds, n) := by
  have h := cutA_pos 10 s []
  match hc : cutA 10 [] s, h with
  | q :: t, _ => rw [rjL]
/-- What is read of a journal. -/
noncomputable def readJ (x : Tx) : List (Int × Int × Int) × Nat := rjL (cutA 10 [] x) [] 0
end Go.Proofs.YtmodbemkflkbeaaGreatDoor.Base
