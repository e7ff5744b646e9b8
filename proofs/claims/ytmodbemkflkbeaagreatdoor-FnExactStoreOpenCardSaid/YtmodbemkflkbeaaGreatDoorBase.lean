/- Words that every proof of this seat uses: what is told from some number of rounds on, whole numbers that are not wrapped, and the elements of a list read by their number. -/
import Derived.Test.YtmodbemkflkbeaaGreatDoorV
import Derived.IntWalk
namespace Go.Proofs.YtmodbemkflkbeaaGreatDoor.Base
open Go.RowKit Go.Proofs.YtmodbemkflkbeaaGreatDoorW.PrintWords Go.Proofs.YtmodbemkflkbeaaGreatDoorW.PrintLast

theorem w64 {n : Int} (h1 : -9223372036854775808 ≤ n) (h2 : n ≤ 9223372036854775807) : wrap64 n = n := by unfold wrap64; omega
theorem ev_suc {α : Type} {g : Nat → Option α} {r : α} (h : Ev (fun k => g (k + 1)) r) : Ev g r := Ev.step (fun _ => rfl) h
theorem ev_pos {α : Type} {c : Prop} [Decidable c] {g h : Nat → Option α} {r : α} (hc : c) (he : Ev g r) : Ev (fun k => if c then g k else h k) r := by simpa only [if_pos hc] using he
theorem ev_neg {α : Type} {c : Prop} [Decidable c] {g h : Nat → Option α} {r : α} (hc : ¬ c) (he : Ev h r) : Ev (fun k => if c then g k else h k) r := by simpa only [if_neg hc] using he
theorem ev_bind {α β : Type} {g : Nat → Option α} {f : Nat → α → Option β} {a : α} {r : β} (h : Ev g a) (k : Ev (fun n => f n a) r) : Ev (fun n => (g n).bind (fun x => f n x)) r := Ev.bind h k
theorem ev_now {α : Type} {r r' : α} (h : r' = r) : Ev (fun _ => some r') r := h ▸ Ev.now r'
theorem ev_eq {α : Type} {g : Nat → Option α} {r r' : α} (h : Ev g r') (e : r' = r) : Ev g r := e ▸ h
theorem ev_uniq {α : Type} {g : Nat → Option α} {r r' : α} (h : Ev g r) (h' : Ev g r') : r = r' := by
  obtain ⟨K, h⟩ := h
  obtain ⟨K', h'⟩ := h'
  have h1 := h (max K K') (by omega)
  have h2 := h' (max K K') (by omega)
  rw [h1] at h2
  injection h2
theorem rd_at (p : List Int) (a : Int) (t : List Int) : rd (p ++ a :: t) (p.length : Int) = a := by simp [rd]
theorem rd_mem {b : List Int} {i : Int} (h0 : 0 ≤ i) (h1 : i < (b.length : Int)) : rd b i ∈ b := by
  have h : i.toNat < b.length := by omega
  unfold rd
  rw [List.getD_eq_getElem?_getD, List.getElem?_eq_getElem h]
  exact List.getElem_mem h
theorem set_at (p : List Int) (a x : Int) (t : List Int) : (p ++ a :: t).set p.length x = p ++ x :: t := by simp
theorem len_at {α : Type} (p : List α) (a : α) : (p.length : Int) + 1 = ((p ++ [a]).length : Int) := by simp
end Go.Proofs.YtmodbemkflkbeaaGreatDoor.Base
