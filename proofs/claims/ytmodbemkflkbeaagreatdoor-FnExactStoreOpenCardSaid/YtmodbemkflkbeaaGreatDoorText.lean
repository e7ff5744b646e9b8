/- Plain words about texts: lists of bytes, their pieces between two separators, the decimal text of a number: no program in sight. -/
import Derived.Test.YtmodbemkflkbeaaGreatDoorBase
import Derived.Lib.SplitLaws
import Derived.Lib.ItoaLen
import Derived.Lib.AtoiAllCases
namespace Go.Proofs.YtmodbemkflkbeaaGreatDoor.Base
open Go.RowKit Go.Proofs.YtmodbemkflkbeaaGreatDoorW.PrintWords Go.Proofs.YtmodbemkflkbeaaGreatDoorW.PrintLast
abbrev Tx := List UInt8
/-- The text of these bytes. -/
def ba (l : Tx) : ByteArray := ⟨l.toArray⟩
theorem ba_data (x : ByteArray) : ba x.data.toList = x := by cases x; rfl
@[simp] theorem ba_list (l : Tx) : (ba l).data.toList = l := rfl
theorem ba_get (x : ByteArray) : ∃ l, x = ba l := ⟨x.data.toList, (ba_data x).symm⟩
@[simp] theorem ba_size (l : Tx) : (ba l).size = l.length := by simp [ba, ByteArray.size]
theorem ba_append (a b : Tx) : ba a ++ ba b = ba (a ++ b) := by
  apply ByteArray.ext
  simp [ba]
theorem ba_inj {a b : Tx} : ba a = ba b ↔ a = b := ⟨fun h => by have := congrArg (·.data.toList) h; simpa using this, fun h => h ▸ rfl⟩
theorem toList_loop (x : ByteArray) : ∀ (n i : Nat) (r : List UInt8), x.size - i = n → ByteArray.toList.loop x i r = r.reverse ++ x.data.toList.drop i := by
  intro n
  induction n with
  | zero =>
    intro i r h
    unfold ByteArray.toList.loop
    have : ¬ i < x.size := by omega
    rw [if_neg this, List.drop_eq_nil_of_le (by rw [Array.length_toList]; exact Nat.le_of_not_lt this), List.append_nil]
  | succ n ih =>
    intro i r h
    unfold ByteArray.toList.loop
    have hi : i < x.size := by omega
    rw [if_pos hi, ih (i + 1) _ (by omega)]
    have hd : i < x.data.toList.length := by rw [Array.length_toList]; exact hi
    rw [List.reverse_cons, List.append_assoc, List.drop_eq_getElem_cons hd]
    congr 1
    show _ = _
    simp only [List.singleton_append, List.cons.injEq, and_true]
    simp only [ByteArray.get!, Array.getElem_toList]
    exact getElem!_pos x.data i _
@[simp] theorem toList_ba (l : Tx) : (ba l).toList = l := by
  unfold ByteArray.toList
  rw [toList_loop _ _ _ _ rfl]
  simp
theorem ba_extract (l : Tx) (a b : Nat) : (ba l).extract a b = ba ((l.drop a).take (b - a)) := by
  apply ByteArray.ext
  simp only [ByteArray.data_extract, ba]
  apply Array.toList_inj.1
  simp [List.extract_eq_take_drop]
theorem bt_ba (p : Tx) (c : UInt8) (r : Tx) : bt (ba (p ++ c :: r)) (p.length : Int) = (c.toNat : Int) := by
  unfold bt
  have h : (p.length : Int).toNat < (ba (p ++ c :: r)).size := by rw [ba_size]; simp
  rw [dif_pos h]
  congr 2
  show (ba (p ++ c :: r)).data[(p.length : Int).toNat]'_ = c
  simp [ba]

/-- The pieces of a text between two of these bytes; the one under way has begun with acc. -/
def cutA (c : UInt8) (acc : Tx) : Tx → List Tx
  | [] => [acc]
  | b :: l => if b = c then acc :: cutA c [] l else cutA c (acc ++ [b]) l
theorem cutA_none {c : UInt8} : ∀ (l acc : Tx), c ∉ l → cutA c acc l = [acc ++ l]
  | [], acc, _ => by simp [cutA]
  | b :: l, acc, h => by
    simp only [List.mem_cons, not_or] at h
    rw [cutA, if_neg (fun e => h.1 e.symm), cutA_none l _ h.2]
    simp
theorem cutA_hit {c : UInt8} : ∀ (l acc r : Tx), c ∉ l → cutA c acc (l ++ c :: r) = (acc ++ l) :: cutA c [] r
  | [], acc, r, _ => by simp [cutA]
  | b :: l, acc, r, h => by
    simp only [List.mem_cons, not_or] at h
    rw [List.cons_append, cutA, if_neg (fun e => h.1 e.symm), cutA_hit l _ r h.2]
    simp
theorem cutA_pos (c : UInt8) : ∀ (l acc : Tx), 1 ≤ (cutA c acc l).length
  | [], acc => by simp [cutA]
  | b :: l, acc => by
    unfold cutA
    split
    · simp
    · exact cutA_pos c l _
theorem cutA_len (c : UInt8) : ∀ (l acc : Tx), (cutA c acc l).length ≤ l.length + 1
  | [], acc => by simp [cutA]
  | b :: l, acc => by
    unfold cutA
    split
    · have := cutA_len c l []
      simp; omega
    · have := cutA_len c l (acc ++ [b])
      simp; omega
theorem index_one (c : UInt8) : ∀ s : Tx, (Lib.index s [c] = -1 ∧ c ∉ s) ∨ ∃ l r, s = l ++ c :: r ∧ c ∉ l ∧ Lib.index s [c] = (l.length : Int)
  | [] => Or.inl ⟨by simp [Lib.index], by simp⟩
  | b :: s => by
    by_cases hb : c = b
    · subst hb
      exact Or.inr ⟨[], s, rfl, by simp, by simp [Lib.index]⟩
    · rcases index_one c s with ⟨h1, h2⟩ | ⟨l, r, rfl, h2, h3⟩
      · refine Or.inl ⟨?_, by simp [h2, hb]⟩
        simp [Lib.index, h1, hb]
      · refine Or.inr ⟨b :: l, r, rfl, by simp [h2, hb], ?_⟩
        have : ¬ ((l.length : Int) = -1) := by omega
        simp [Lib.index, h3, hb, this]
theorem count_hit' (c : UInt8) (l r : Tx) (h : c ∉ l) : (l ++ c :: r).count c = 1 + r.count c := by
  rw [List.count_append, List.count_eq_zero.2 h, List.count_cons_self]
  omega
theorem splitK_cut (c : UInt8) : ∀ (n : Nat) (s : Tx), s.count c = n → Lib.splitK [c] 0 n s = cutA c [] s
  | 0, s, h => by
    rw [cutA_none s [] (List.count_eq_zero.1 h)]
    rfl
  | n + 1, s, h => by
    rcases index_one c s with ⟨_, h2⟩ | ⟨l, r, rfl, h2, h3⟩
    · rw [List.count_eq_zero.2 h2] at h; omega
    · rw [count_hit' c l r h2] at h
      have ih := splitK_cut c n r (by omega)
      have h4 : ¬ ((l.length : Int) = -1) := by omega
      rw [Lib.splitK, h3, cutA_hit l [] r h2]
      simp [h4, ih]
/-- strings.Split at one byte. -/
theorem split_cut (c : UInt8) (s : Tx) : (Lib.splitB (ba [c]) 0 (Lib.countB (ba s) (ba [c])) (ba s)) = (cutA c [] s).map ba := by
  have h := Lib.splitB_data (ba [c]) 0 (Lib.countB (ba s) (ba [c])) (ba s)
  have hc : Lib.countB (ba s) (ba [c]) = s.count c := Lib.count_one c s
  rw [hc] at h ⊢
  have h2 : Lib.splitK (ba [c]).data.toList 0 (s.count c) (ba s).data.toList = cutA c [] s := splitK_cut c _ s rfl
  rw [h2] at h
  rw [← h, List.map_map]
  symm
  conv => rhs; rw [← List.map_id (Lib.splitB _ _ _ _)]
  exact List.map_congr_left fun x _ => ba_data x
/-- The text of a number of at most two digits. -/
def numT (n : Int) : Tx := if n < 0 then 45 :: dig n.natAbs else dig n.toNat
where dig (u : Nat) : Tx := if u < 10 then [UInt8.ofNat (48 + u)] else [UInt8.ofNat (48 + u / 10), UInt8.ofNat (48 + u % 10)]
theorem itoa_small {n : Int} (h0 : -99 ≤ n) (h1 : n ≤ 99) : Lib.itoa n = numT n := by
  have hd : ∀ u : Nat, u < 100 → Lib.decDigits u = numT.dig u := by
    intro u hu
    unfold numT.dig
    split
    · exact Lib.decDigits_one (by assumption)
    · exact Lib.decDigits_two (by assumption) hu
  unfold Lib.itoa numT
  rw [hd _ (by omega), hd _ (by omega)]
theorem small_all {p : Int → Bool} (h : ((List.range 199).all fun i => p ((i : Int) - 99)) = true) {n : Int} (h0 : -99 ≤ n) (h1 : n ≤ 99) : p n = true := by
  have := List.all_eq_true.1 h (n + 99).toNat (List.mem_range.2 (by omega))
  have e : (((n + 99).toNat : Nat) : Int) - 99 = n := by omega
  rwa [e] at this
theorem numT_bytes {n : Int} (h0 : -99 ≤ n) (h1 : n ≤ 99) : (numT n).all (fun b => b != 32 && b != 10) = true ∧ 1 ≤ (numT n).length ∧ (numT n).length ≤ 3 := by
  have := small_all (p := fun n => (numT n).all (fun b => b != 32 && b != 10) && (decide (1 ≤ (numT n).length) && decide ((numT n).length ≤ 3))) (by decide +kernel) h0 h1
  simpa using this
theorem atoi_numT {n : Int} (h0 : -99 ≤ n) (h1 : n ≤ 99) : Lib.atoiAll (numT n) = .ok n := by
  have := small_all (p := fun n => match Lib.atoiAll (numT n) with | .ok v => v == n | _ => false) (by decide +kernel) h0 h1
  revert this
  rcases Lib.atoiAll (numT n) with v | _ | _
  · intro h; rw [beq_iff_eq.1 h]
  · intro h; cases h
  · intro h; cases h
theorem numT_clean' {n : Int} (h0 : -99 ≤ n) (h1 : n ≤ 99) : (32 : UInt8) ∉ numT n := by
  have h := List.all_eq_true.1 (numT_bytes h0 h1).1
  intro hm
  have := h _ hm
  simp at this
theorem numT_inj' {m n : Int} (h0 : -99 ≤ m) (h1 : m ≤ 99) (h2 : -99 ≤ n) (h3 : n ≤ 99) (h : numT m = numT n) : m = n := by
  have := atoi_numT h0 h1
  rw [h, atoi_numT h2 h3] at this
  cases this; rfl
end Go.Proofs.YtmodbemkflkbeaaGreatDoor.Base
