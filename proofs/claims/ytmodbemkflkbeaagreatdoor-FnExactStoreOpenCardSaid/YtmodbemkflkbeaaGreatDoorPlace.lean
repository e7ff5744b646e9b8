/- Plain words about places and their texts: no program in sight. -/
import Derived.Test.YtmodbemkflkbeaaGreatDoorText
import Derived.Test.YtmodbemkflkbeaaGreatDoorMath
import Derived.Lib.Join
namespace Go.Proofs.YtmodbemkflkbeaaGreatDoor.Base
open Go.RowKit Go.Proofs.YtmodbemkflkbeaaGreatDoorW.PrintWords Go.Proofs.YtmodbemkflkbeaaGreatDoorW.PrintLast
/-- The numbers behind the first one, each with a comma ahead. -/
def tailT : List Int → Tx
  | [] => []
  | n :: t => 44 :: (numT n ++ tailT t)
/-- The text of a row of numbers. -/
def rowT : List Int → Tx
  | [] => []
  | n :: t => numT n ++ tailT t
def letT (c : Int) : UInt8 := UInt8.ofNat (97 + c.toNat)
/-- The text of a word. -/
def wordT (w : List Int) : Tx := if w = [] then [46] else w.map letT
/-- The text of a place; none, if there is none. -/
def placeT (u : List Int) (s : Int) (w : List Int) : Tx := if placeB u s w = true then rowT u ++ 32 :: (numT s ++ 32 :: wordT w) else []
theorem place_data {u : List Int} {s : Int} {w : List Int} (h : placeB u s w = true) : (∀ x ∈ u, 0 ≤ x ∧ x ≤ 10) ∧ 1 ≤ u.length ∧ u.length ≤ 3 ∧ -1 ≤ s ∧ s ≤ 3 ∧ (∀ c ∈ w, 0 ≤ c ∧ c < 3) ∧ w.length ≤ 6 := by
  obtain ⟨h1, h2, h3, h4, _⟩ := (placeB_iff _ _ _).1 h
  obtain ⟨a1, a2, a3⟩ := (startB_iff _).1 h1
  obtain ⟨b1, b2, _⟩ := (wordB_iff _ _).1 h4
  exact ⟨a1, a2, a3, h2, h3, fun c hc => by have := b1 c hc; omega, b2⟩
theorem join_rowT : ∀ (t : List Int) (n : Int), Lib.join ((n :: t).map numT) [44] = numT n ++ tailT t
  | [], n => by rw [List.map_cons, List.map_nil, Lib.join_one]; simp [tailT]
  | m :: t, n => by
    have ih := join_rowT t m
    simp only [Lib.join, List.map_cons] at ih ⊢
    rw [List.intercalate_cons_cons]
    rw [ih]
    simp [tailT]
theorem tailT_len : ∀ (t : List Int), (∀ x ∈ t, 0 ≤ x ∧ x ≤ 10) → (tailT t).length ≤ 4 * t.length
  | [], _ => by simp [tailT]
  | n :: t, h => by
    have h1 := h n (by simp)
    obtain ⟨_, _, h2⟩ := numT_bytes (n := n) (by omega) (by omega)
    have h3 := tailT_len t fun x hx => h x (by simp [hx])
    simp [tailT]; omega
theorem rowT_len (u : List Int) (h : ∀ x ∈ u, 0 ≤ x ∧ x ≤ 10) : (rowT u).length ≤ 4 * u.length := by
  cases u with
  | nil => simp [rowT]
  | cons n t =>
    have := tailT_len (n :: t) h
    simp [rowT, tailT] at this ⊢; omega
theorem wordT_len (w : List Int) : (wordT w).length ≤ w.length + 1 := by
  unfold wordT
  split <;> simp
theorem tailT_clean : ∀ (t : List Int), (∀ x ∈ t, 0 ≤ x ∧ x ≤ 10) → (32 : UInt8) ∉ tailT t
  | [], _ => by simp [tailT]
  | n :: t, h => by
    have h1 := h n (by simp)
    have h2 := List.all_eq_true.1 (numT_bytes (n := n) (by omega) (by omega)).1
    have h3 := tailT_clean t fun x hx => h x (by simp [hx])
    simp only [tailT, List.mem_cons, List.mem_append, not_or]
    exact ⟨by decide, fun hm => by have := h2 _ hm; simp at this, h3⟩
theorem numT_no44 {n : Int} (h0 : 0 ≤ n) (h1 : n ≤ 10) : (44 : UInt8) ∉ numT n := by
  have := small_all (p := fun n => decide (n < 0) || (numT n).all (fun b => b != 44)) (by decide +kernel) (n := n) (by omega) (by omega)
  rw [decide_eq_false (by omega), Bool.false_or] at this
  intro hm
  have := List.all_eq_true.1 this _ hm
  simp at this
theorem cut_rowT : ∀ (t : List Int) (n : Int), (∀ x ∈ n :: t, 0 ≤ x ∧ x ≤ 10) → cutA 44 [] (numT n ++ tailT t) = (n :: t).map numT
  | [], n, h => by
    have h1 := h n (by simp)
    simp only [tailT, List.append_nil]
    rw [cutA_none _ [] (numT_no44 h1.1 h1.2)]
    rfl
  | m :: t, n, h => by
    have h1 := h n (by simp)
    have ih := cut_rowT t m fun x hx => h x (List.mem_cons_of_mem _ hx)
    rw [tailT, cutA_hit _ [] _ (numT_no44 h1.1 h1.2), ih]
    rfl
/-- The word that a text of letters tells. -/
def decW (t : Tx) : List Int := if t = [46] then [] else t.map fun b => (b.toNat : Int) - 97
theorem decW_wordT {w : List Int} (h : ∀ c ∈ w, 0 ≤ c ∧ c < 3) : decW (wordT w) = w := by
  have hl : ∀ c : Int, 0 ≤ c ∧ c < 3 → ((letT c).toNat : Int) - 97 = c := by
    intro c hc
    obtain ⟨m, rfl⟩ := Int.eq_ofNat_of_zero_le hc.1
    have : m = 0 ∨ m = 1 ∨ m = 2 := by omega
    rcases this with rfl | rfl | rfl <;> rfl
  unfold decW wordT
  by_cases h0 : w = []
  · rw [if_pos h0, if_pos rfl, h0]
  rw [if_neg h0, if_neg, List.map_map]
  · conv => rhs; rw [← List.map_id w]
    exact List.map_congr_left fun c hc => hl c (h c hc)
  · intro e
    match w, h0 with
    | c :: t, _ =>
      simp only [List.map_cons, List.cons.injEq] at e
      have h1 := hl c (h c (by simp))
      rw [e.1] at h1
      have h2 := h c (by simp)
      have : ((46 : UInt8).toNat : Int) = 46 := rfl
      omega
/-- The words of the text of a place. -/
theorem place_cut {u : List Int} {s : Int} {w : List Int} (h : placeT u s w ≠ []) : placeB u s w = true ∧ cutA 32 [] (placeT u s w) = [rowT u, numT s, wordT w] ∧ cutA 44 [] (rowT u) = u.map numT := by
  unfold placeT at h ⊢
  split at h
  case isFalse => exact absurd rfl h
  rename_i hp
  rw [if_pos hp]
  obtain ⟨a1, a2, a3, a4, a5, a6, _⟩ := place_data hp
  refine ⟨hp, ?_, ?_⟩
  · have h1 : (32 : UInt8) ∉ rowT u := by
      match u, a2 with
      | n :: t, _ =>
        have := tailT_clean (n :: t) a1
        simp only [tailT, List.mem_cons, List.mem_append, not_or] at this
        simp only [rowT, List.mem_append, not_or]
        exact this.2
    have h2 : (32 : UInt8) ∉ wordT w := by
      unfold wordT
      split
      · decide
      · intro hm
        obtain ⟨c, hc, e⟩ := List.mem_map.1 hm
        have h3 := a6 c hc
        obtain ⟨m, rfl⟩ := Int.eq_ofNat_of_zero_le h3.1
        have : m = 0 ∨ m = 1 ∨ m = 2 := by omega
        rcases this with rfl | rfl | rfl <;> exact absurd e (by decide)
    rw [cutA_hit _ [] _ h1, cutA_hit _ [] _ (numT_clean' (by omega) (by omega)), cutA_none _ [] h2]
    rfl
  · match u, a2 with
    | n :: t, _ => exact cut_rowT t n a1
theorem map_numT_inj : ∀ {a b : List Int}, (∀ x ∈ a, 0 ≤ x ∧ x ≤ 10) → (∀ x ∈ b, 0 ≤ x ∧ x ≤ 10) → a.map numT = b.map numT → a = b
  | [], [], _, _, _ => rfl
  | [], _ :: _, _, _, h => by simp at h
  | _ :: _, [], _, _, h => by simp at h
  | x :: a, y :: b, ha, hb, h => by
    simp only [List.map_cons, List.cons.injEq] at h
    have h1 := ha x (by simp)
    have h2 := hb y (by simp)
    rw [numT_inj' (by omega) (by omega) (by omega) (by omega) h.1, map_numT_inj (fun z hz => ha z (by simp [hz])) (fun z hz => hb z (by simp [hz])) h.2]
theorem place_inj {u : List Int} {s : Int} {w u' : List Int} {s' : Int} {w' : List Int} (h : placeT u s w ≠ []) (e : placeT u s w = placeT u' s' w') : u = u' ∧ s = s' ∧ w = w' := by
  obtain ⟨p1, c1, r1⟩ := place_cut h
  obtain ⟨p2, c2, r2⟩ := place_cut (u := u') (s := s') (w := w') (e ▸ h)
  obtain ⟨a1, a2, a3, a4, a5, a6, _⟩ := place_data p1
  obtain ⟨b1, b2, b3, b4, b5, b6, _⟩ := place_data p2
  rw [e, c2] at c1
  simp only [List.cons.injEq, and_true] at c1
  refine ⟨?_, ?_, ?_⟩
  · rw [← c1.1, r2] at r1
    exact (map_numT_inj b1 a1 r1).symm
  · exact (numT_inj' (by omega) (by omega) (by omega) (by omega) c1.2.1).symm
  · rw [← decW_wordT a6, ← decW_wordT b6, c1.2.2]
open Classical in
/-- The place whose text this is; none, if there is none. -/
noncomputable def readP (x : Tx) : List Int × Int × List Int × Bool :=
  if h : ∃ d : List Int × Int × List Int, placeT d.1 d.2.1 d.2.2 = x ∧ x ≠ [] then (h.choose.1, h.choose.2.1, h.choose.2.2, true) else ([], 0, [], false)
theorem readP_of {u : List Int} {s : Int} {w : List Int} {x : Tx} (h : placeT u s w = x) (hx : x ≠ []) : readP x = (u, s, w, true) := by
  have hex : ∃ d : List Int × Int × List Int, placeT d.1 d.2.1 d.2.2 = x ∧ x ≠ [] := ⟨(u, s, w), h, hx⟩
  unfold readP
  rw [dif_pos hex]
  have hc := hex.choose_spec
  obtain ⟨e1, e2, e3⟩ := place_inj (u := hex.choose.1) (s := hex.choose.2.1) (w := hex.choose.2.2) (u' := u) (s' := s) (w' := w) (by rw [hc.1]; exact hx) (hc.1.trans h.symm)
  rw [e1, e2, e3]
theorem readP_not {x : Tx} (h : ∀ u s w, placeT u s w = x → x = []) : readP x = ([], 0, [], false) := by
  unfold readP
  rw [dif_neg]
  rintro ⟨⟨u, s, w⟩, h1, h2⟩
  exact h2 (h u s w h1)
theorem readP_short (x : Tx) : (readP x).1.length ≤ 6 ∧ (readP x).2.2.1.length ≤ 6 := by
  by_cases h : ∃ u s w, placeT u s w = x ∧ x ≠ []
  · obtain ⟨u, s, w, h1, h2⟩ := h
    rw [readP_of h1 h2]
    obtain ⟨p, _, _⟩ := place_cut (u := u) (s := s) (w := w) (by rw [h1]; exact h2)
    obtain ⟨_, _, a3, _, _, _, a7⟩ := place_data p
    exact ⟨by show u.length ≤ 6; omega, a7⟩
  · rw [readP_not fun u s w h1 => Classical.byContradiction fun h2 => h ⟨u, s, w, h1, h2⟩]
    simp
end Go.Proofs.YtmodbemkflkbeaaGreatDoor.Base
