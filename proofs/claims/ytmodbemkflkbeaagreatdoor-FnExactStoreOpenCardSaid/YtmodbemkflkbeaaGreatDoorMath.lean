/- Plain words about urns, words of draws, places and their ways, and their laws: no program in sight. -/
import Derived.Test.YtmodbemkflkbeaaGreatDoorBase
namespace Go.Proofs.YtmodbemkflkbeaaGreatDoor.Base
open Go.RowKit Go.Proofs.YtmodbemkflkbeaaGreatDoorW.PrintWords Go.Proofs.YtmodbemkflkbeaaGreatDoorW.PrintLast

/-- The urn behind a draw. -/
def bump (s : Int) (u : List Int) (c : Int) : List Int := u.set c.toNat (rd u c + s)
def waysM (s : Int) : List Int → List Int → Int
  | _, [] => 1
  | u, c :: t => mx 0 (rd u c) * waysM s (bump s u c) t
def urnB (u : List Int) : Bool := (u.all fun x => decide (0 ≤ x) && decide (x ≤ 40)) && (decide (1 ≤ u.length) && decide (u.length ≤ 3))
def startB (u : List Int) : Bool := (u.all fun x => decide (x ≤ 10)) && urnB u
def wordB (n : Int) (w : List Int) : Bool := (w.all fun c => decide (0 ≤ c) && decide (c < n)) && (decide (w.length ≤ 6) && (decide (1 ≤ n) && decide (n ≤ 3)))
def placeB (u : List Int) (s : Int) (w : List Int) : Bool := startB u && (decide (-1 ≤ s) && (decide (s ≤ 3) && (wordB u.length w && decide (0 < waysM s u w))))

theorem urnB_iff (u : List Int) : urnB u = true ↔ (∀ x ∈ u, 0 ≤ x ∧ x ≤ 40) ∧ 1 ≤ u.length ∧ u.length ≤ 3 := by simp [urnB]
theorem startB_iff (u : List Int) : startB u = true ↔ (∀ x ∈ u, 0 ≤ x ∧ x ≤ 10) ∧ 1 ≤ u.length ∧ u.length ≤ 3 := by
  simp only [startB, Bool.and_eq_true, urnB_iff, List.all_eq_true, decide_eq_true_eq]
  constructor
  · rintro ⟨a, b, c⟩; exact ⟨fun x hx => ⟨(b x hx).1, a x hx⟩, c⟩
  · rintro ⟨a, c⟩; exact ⟨fun x hx => (a x hx).2, fun x hx => ⟨(a x hx).1, by have := (a x hx).2; omega⟩, c⟩
theorem wordB_iff (n : Int) (w : List Int) : wordB n w = true ↔ (∀ c ∈ w, 0 ≤ c ∧ c < n) ∧ w.length ≤ 6 ∧ 1 ≤ n ∧ n ≤ 3 := by simp [wordB]
theorem placeB_iff (u : List Int) (s : Int) (w : List Int) : placeB u s w = true ↔ startB u = true ∧ -1 ≤ s ∧ s ≤ 3 ∧ wordB u.length w = true ∧ 0 < waysM s u w := by simp [placeB]
theorem bump_len (s : Int) (u : List Int) (c : Int) : (bump s u c).length = u.length := by simp [bump]
theorem rd_bump (s : Int) (u : List Int) (c d : Int) (hc : 0 ≤ c ∧ c < u.length) (hd : 0 ≤ d ∧ d < u.length) : rd (bump s u c) d = if d = c then rd u c + s else rd u d := by
  unfold bump rd
  rw [List.getD_eq_getElem?_getD, List.getElem?_set]
  by_cases h : d = c
  · subst h
    rw [if_pos rfl, if_pos (by omega), if_pos rfl]
    simp
  · rw [if_neg (by omega), if_neg h]
    simp
theorem waysM_nonneg (s : Int) : ∀ (w u : List Int), 0 ≤ waysM s u w := by
  intro w
  induction w with
  | nil => intro u; simp [waysM]
  | cons c t ih =>
    intro u
    simp only [waysM]
    exact Int.mul_nonneg (by unfold mx; split <;> omega) (ih _)
theorem mul_pos_iff {a b : Int} (ha : 0 ≤ a) (hb : 0 ≤ b) : 0 < a * b ↔ 0 < a ∧ 0 < b := by
  constructor
  · intro h
    have h1 : a ≠ 0 := by rintro rfl; simp at h
    have h2 : b ≠ 0 := by rintro rfl; simp at h
    omega
  · rintro ⟨h1, h2⟩; exact Int.mul_pos h1 h2
theorem waysM_cons_pos (s : Int) (u : List Int) (c : Int) (t : List Int) : 0 < waysM s u (c :: t) ↔ 1 ≤ rd u c ∧ 0 < waysM s (bump s u c) t := by
  simp only [waysM]
  rw [mul_pos_iff (by unfold mx; split <;> omega) (waysM_nonneg _ _ _)]
  unfold mx
  split <;> omega
theorem placeB_nil {u : List Int} {s : Int} {w : List Int} (h : placeB u s w = true) : placeB u s [] = true := by
  rw [placeB_iff] at h ⊢
  obtain ⟨a, b, c, d, e⟩ := h
  rw [wordB_iff] at d ⊢
  exact ⟨a, b, c, ⟨by simp, by simp, d.2.2⟩, by simp [waysM]⟩
/-- The rule by which so many balls of the drawn colour are put in. -/
def ruleM (n : Nat) (s : Int) : List (List Int) := (List.range n).map fun i => (List.replicate n (0 : Int)).set i s
def zipAdd : List Int → List Int → List Int
  | a :: t, b :: r => (a + b) :: zipAdd t r
  | l, [] => l
  | [], _ => []
def afterM (s : Int) (u w : List Int) : List Int := w.foldl (bump s) u
theorem afterM_len (s : Int) : ∀ (w u : List Int), (afterM s u w).length = u.length := by
  intro w
  induction w with
  | nil => intro u; rfl
  | cons c t ih => intro u; simp only [afterM, List.foldl_cons]; exact (ih _).trans (bump_len _ _ _)
theorem afterM_snoc (s : Int) (u w : List Int) (c : Int) : afterM s u (w ++ [c]) = bump s (afterM s u w) c := by simp [afterM]
theorem afterM_cons (s : Int) (u w : List Int) (c : Int) : afterM s u (c :: w) = afterM s (bump s u c) w := rfl
/-- All numbers of a row lie in -b..b. -/
def Within (b : Int) (u : List Int) : Prop := ∀ x ∈ u, -b ≤ x ∧ x ≤ b
theorem within_bump {b s : Int} {u : List Int} (h : Within b u) (hs : -3 ≤ s ∧ s ≤ 3) (c : Int) (hc : 0 ≤ c ∧ c < u.length) : Within (b + 3) (bump s u c) := by
  intro x hx
  unfold bump at hx
  rcases List.mem_or_eq_of_mem_set hx with hx | rfl
  · have := h x hx; omega
  · have := h _ (rd_mem hc.1 hc.2); omega
theorem within_after {s : Int} (hs : -3 ≤ s ∧ s ≤ 3) : ∀ (w : List Int) (b : Int) (u : List Int), Within b u → (∀ c ∈ w, 0 ≤ c ∧ c < u.length) → Within (b + 3 * w.length) (afterM s u w) := by
  intro w
  induction w with
  | nil => intro b u h _; simpa [afterM] using h
  | cons c t ih =>
    intro b u h hw
    have h1 := ih (b + 3) (bump s u c) (within_bump h hs c (hw c (by simp))) (fun d hd => by rw [bump_len]; exact hw d (by simp [hd]))
    rw [afterM_cons]
    intro x hx
    have := h1 x hx
    simp only [List.length_cons]; omega
theorem ruleM_len (n : Nat) (s : Int) : (ruleM n s).length = n := by simp [ruleM]
theorem ruleM_row {n : Nat} {s c : Int} (h0 : 0 ≤ c) (h1 : c < (n : Int)) : (ruleM n s).getD c.toNat [] = (List.replicate n (0 : Int)).set c.toNat s := by
  have h : c.toNat < n := by omega
  simp [ruleM, List.getD_eq_getElem?_getD, h]
theorem zipAdd_row {u : List Int} {s c : Int} (h3 : u.length ≤ 3) (h0 : 0 ≤ c) (h1 : c < (u.length : Int)) : zipAdd u ((List.replicate u.length (0 : Int)).set c.toNat s) = bump s u c := by
  obtain ⟨m, rfl⟩ := Int.eq_ofNat_of_zero_le h0
  rcases u with _ | ⟨a, _ | ⟨b, _ | ⟨d, _ | ⟨e, t⟩⟩⟩⟩
  · exfalso; simp only [List.length_nil] at h1; omega
  · obtain rfl : m = 0 := by simp only [List.length_cons, List.length_nil] at h1; omega
    simp [zipAdd, bump, rd]
  · have : m = 0 ∨ m = 1 := by simp only [List.length_cons, List.length_nil] at h1; omega
    rcases this with rfl | rfl <;> simp [zipAdd, bump, rd, List.replicate]
  · have : m = 0 ∨ m = 1 ∨ m = 2 := by simp only [List.length_cons, List.length_nil] at h1; omega
    rcases this with rfl | rfl | rfl <;> simp [zipAdd, bump, rd, List.replicate]
  · exfalso; simp only [List.length_cons] at h3; omega
theorem within_row {n : Nat} {s c : Int} (hs : -3 ≤ s ∧ s ≤ 3) : Within 3 ((List.replicate n (0 : Int)).set c.toNat s) := by
  intro x hx
  rcases List.mem_or_eq_of_mem_set hx with hx | rfl
  · have := List.eq_of_mem_replicate hx; omega
  · omega
/-- The powers of 40. -/
def pw : Nat → Int
  | 0 => 1
  | n + 1 => 40 * pw n
theorem pw_le {n : Nat} (h : n ≤ 6) : 1 ≤ pw n ∧ pw n ≤ 4096000000 := by
  have : ∀ m : Fin 7, 1 ≤ pw m.val ∧ pw m.val ≤ 4096000000 := by decide
  exact this ⟨n, by omega⟩
theorem mul_le40 {m x : Int} {n : Nat} (h0 : 0 ≤ m) (h1 : m ≤ pw n) (h2 : 0 ≤ x) (h3 : x ≤ 40) : m * x ≤ pw (n + 1) := by
  have e1 : m * x ≤ m * 40 := Int.mul_le_mul_of_nonneg_left h3 h0
  have e2 : m * 40 ≤ pw n * 40 := Int.mul_le_mul_of_nonneg_right h1 (by omega)
  have : pw (n + 1) = 40 * pw n := rfl
  omega
end Go.Proofs.YtmodbemkflkbeaaGreatDoor.Base
