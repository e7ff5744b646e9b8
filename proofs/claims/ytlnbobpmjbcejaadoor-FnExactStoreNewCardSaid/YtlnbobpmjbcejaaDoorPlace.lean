/- Plain words about places and their texts: no program in sight. -/
import Derived.Test.YtlnbobpmjbcejaaDoorText
import Derived.Test.YtlnbobpmjbcejaaDoorMath
import Derived.Lib.Join
namespace Go.Proofs.YtlnbobpmjbcejaaDoor.Base
open Go.RowKit Go.Proofs.YtlnbobpmjbcejaaDoorW.PrintWords Go.Proofs.YtlnbobpmjbcejaaDoorW.PrintLast
/-- The numbers behind the first one, each with a comma ahead. -/
def tailT : List Int → Tx
  | [] => []
  | n :: t => 44 :: (numT n ++ tailT t)
/-- The text of a row of numbers. -/
def rowT : List Int → Tx
  | [] => []
  | n :: t => numT n ++ tailT t
def letT (c : Int) : UInt8 := UInt8.ofNat (97 + c.toNat)
/-- The text of a word. -/
def wordT (w : List Int) : Tx := if w = [] then [46] else w.map letT
/-- The text of a place; none, if there is none. -/
def placeT (u : List Int) (s : Int) (w : List Int) : Tx := if placeB u s w = true then rowT u ++ 32 :: (numT s ++ 32 :: wordT w) else []
theorem place_data {u : List Int} {s : Int} {w : List Int} (h : placeB u s w = true) : (∀ x ∈ u, 0 ≤ x ∧ x ≤ 10) ∧ 1 ≤ u.length ∧ u.length ≤ 3 ∧ -1 ≤ s ∧ s ≤ 3 ∧ (∀ c ∈ w, 0 ≤ c ∧ c < 3) ∧ w.length ≤ 6 := by
  obtain ⟨h1, h2, h3, h4, _⟩ := (placeB_iff _ _ _).1 h
  obtain ⟨a1, a2, a3⟩ := (startB_iff _).1 h1
  obtain ⟨b1, b2, _⟩ := (wordB_iff _ _).1 h4
  exact ⟨a1, a2, a3, h2, h3, fun c hc => by have := b1 c hc; omega, b2⟩
theorem join_rowT : ∀ (t : List Int) (n : Int), Lib.join ((n :: t).map numT) [44] = numT n ++ tailT t
  | [], n => by rw [List.map_cons, List.map_nil, Lib.join_one]; simp [tailT]
  | m :: t, n => by
    have ih := join_rowT t m
    simp only [Lib.join, List.map_cons] at ih ⊢
    rw [List.intercalate_cons_cons]
    rw [ih]
    simp [tailT]
theorem tailT_len : ∀ (t : List Int), (∀ x ∈ t, 0 ≤ x ∧ x ≤ 10) → (tailT t).length ≤ 4 * t.length
  | [], _ => by simp [tailT]
  | n :: t, h => by
    have h1 := h n (by simp)
    obtain ⟨_, _, h2⟩ := numT_bytes (n := n) (by omega) (by omega)
    have h3 := tailT_len t fun x hx => h x (by simp [hx])
    simp [tailT]; omega
theorem rowT_len (u : List Int) (h : ∀ x ∈ u, 0 ≤ x ∧ x ≤ 10) : (rowT u).length ≤ 4 * u.length := by
  cases u with
  | nil => simp [rowT]
  | cons n t =>
    have := tailT_len (n :: t) h
    simp [rowT, tailT] at this ⊢; omega
theorem wordT_len (w : List Int) : (wordT w).length ≤ w.length + 1 := by
  unfold wordT
  split <;> simp
end Go.Proofs.YtlnbobpmjbcejaaDoor.Base
