/- What an argument that reads as a datum gives the walks: numbers, texts, rows and structs, told by their kinds. The conditions stand in each statement. -/
import Derived.Test.YtmodbemkflkbeaaGreatDoorBase
import Derived.ChangeArms
import Derived.DataReads
import Derived.Deep.Strs
namespace Go.Proofs.YtmodbemkflkbeaaGreatDoor.Base
open Go.RowKit Go.Proofs.YtmodbemkflkbeaaGreatDoorW.PrintWords Go.Proofs.YtmodbemkflkbeaaGreatDoorW.PrintLast
/-- Whatever reads as a datum of this type is an element of this kind to the walks, within these bounds. -/
def Opens {α : Type} (P : Program) (W : World) (t : TypeId) (d : Kd α) (ok : α → Prop) : Prop :=
  P.cellsOf t = d.sz ∧ ∀ {H : Type} {enc : TypeId × Value → H} {base : Nat} {sp : Nat → Bool} {held : Bool} {fuel : Nat} {cs : List Value} {x : DataW H × List MemPlace}, DataW.trod enc P W base sp held fuel t cs = some x → ∃ a, d.K W a cs ∧ ok a
section
variable {P : Program} {W : World}
theorem opens_int {t : TypeId} {k : IntKind} (ht : P.underlying t = some (.int k)) (hc : P.cellsOf t = 1) : Opens P W t (Kd.int k) (fun n => (Lit.int k n).wf = true) :=
  ⟨hc, fun h => by
    obtain ⟨n, rfl, _, hw⟩ := DataW.trod_int ht h
    exact ⟨n, rfl, hw⟩⟩
theorem opens_str {t : TypeId} (ht : P.underlying t = some .string) (hc : P.cellsOf t = 1) : Opens P W t Kd.string (fun s => s.size ≤ maxLen) :=
  ⟨hc, fun h => by
    obtain ⟨s, rfl, _, hs⟩ := DataW.trod_string ht h
    exact ⟨s, rfl, hs⟩⟩
theorem add_add_ (a : Addr) (m n : Nat) : (a.add m).add n = a.add (m + n) := by
  by_cases h1 : m = 0 <;> by_cases h2 : n = 0 <;> simp [Addr.add, h1, h2, Nat.add_assoc]
theorem all_some {α : Type} {Q : Nat → α → Prop} : ∀ n : Nat, (∀ i, i < n → ∃ a, Q i a) → ∃ xs : List α, xs.length = n ∧ ∀ i a, xs[i]? = some a → Q i a
  | 0, _ => ⟨[], rfl, fun i a h => by simp at h⟩
  | n + 1, h => by
    obtain ⟨xs, hl, hx⟩ := all_some n fun i hi => h i (by omega)
    obtain ⟨a, ha⟩ := h n (by omega)
    refine ⟨xs ++ [a], by simp [hl], fun i b hb => ?_⟩
    rw [List.getElem?_append] at hb
    split at hb
    · exact hx i b hb
    · rename_i hi
      have : i = n := by
        have := (List.getElem?_eq_some_iff.1 hb).1
        simp at this; omega
      subst this
      rw [hl, Nat.sub_self] at hb
      cases hb
      exact ha
theorem opens_slice {α : Type} {t e : TypeId} {d : Kd α} {ok : α → Prop} (e' : Nat) (ht : P.underlying t = some (.slice e)) (hc : P.cellsOf t = 1) (h : Opens P W e d ok) :
    Opens P W t (Kd.slice e' d) (fun xs => xs.length ≤ maxLen ∧ ∀ x ∈ xs, ok x) :=
  ⟨hc, fun hx => by
    obtain ⟨he, h⟩ := h
    rcases DataW.trod_slice ht hx with ⟨rfl, _⟩ | ⟨a, len, cap, elems, rest, n, _, rfl, _, _, hl, hm, hlen, hel, _⟩
    · exact ⟨[], ⟨none, 0, rfl, Nat.le_refl _, rfl, by simp, fun h => absurd h (Nat.lt_irrefl _)⟩, Nat.zero_le _, fun _ h => by cases h⟩
    · obtain ⟨xs, hxl, hxs⟩ := all_some (Q := fun i a' => ∃ c, W.cells? _ (a.add (i * d.sz)) d.sz = some c ∧ d.K W a' c ∧ ok a') len fun i hi => by
        have h1 := hel i hi
        rw [List.getElem?_eq_getElem (by omega)] at h1
        obtain ⟨c, hc1, hc2⟩ := Option.bind_eq_some_iff.1 h1
        obtain ⟨a', hk, ho⟩ := h hc2
        rw [he] at hc1
        exact ⟨a', c, hc1, hk, ho⟩
      refine ⟨xs, ⟨some a, cap, by rw [hxl], by omega, rfl, by unfold maxLen at hm; omega, fun _ => ⟨a, rfl, fun j p hj => ?_⟩⟩, by omega, fun x hx => ?_⟩
      · obtain ⟨c, hc1, hk, _⟩ := hxs j p hj
        refine ⟨c, d.K_len hk, hk, fun i u hu => ?_⟩
        obtain ⟨_, hl2, hc2⟩ := World.cells?_some hc1
        have hi : i < d.sz := by
          have := (List.getElem?_eq_some_iff.1 hu).1
          omega
        have h3 := hc2 i hi
        rw [hu, show (a.add (j * d.sz)).add i = a.add (j * d.sz + i) from add_add_ _ _ _] at h3
        exact h3
      · obtain ⟨i, hi⟩ := List.mem_iff_getElem?.1 hx
        obtain ⟨_, _, _, ho⟩ := hxs i x hi
        exact ho⟩
theorem opens_struct3 {α β γ δ : Type} {t : TypeId} {f0 f1 f2 : Field} {a : Kd α} {b : Kd β} {c : Kd γ} {oa : α → Prop} {ob : β → Prop} {oc : γ → Prop} (g : δ → α × β × γ) (m : α → β → γ → δ) (hg : ∀ x y z, g (m x y z) = (x, y, z))
    (ht : P.underlying t = some (.struct #[f0, f1, f2])) (h0 : Opens P W f0.type a oa) (h1 : Opens P W f1.type b ob) (h2 : Opens P W f2.type c oc)
    (ho : f0.offset = 0 ∧ f1.offset = a.sz ∧ f2.offset = a.sz + b.sz ∧ P.cellsOf t = a.sz + (b.sz + c.sz)) : Opens P W t (Kd.iso (Kd.pair a (Kd.pair b c)) g) (fun x => oa (g x).1 ∧ ob (g x).2.1 ∧ oc (g x).2.2) :=
  ⟨ho.2.2.2, fun {H enc base sp held fuel cs x} h => by
    obtain ⟨o0, o1, o2, oT⟩ := ho
    obtain ⟨y0, y1, y2, n, _, hl, t0, t1, t2⟩ := Deep.trod_struct3 ht h
    rw [h0.1, o0, List.drop_zero] at t0
    rw [h1.1, o1] at t1
    rw [h2.1, o2] at t2
    obtain ⟨x, k0, p0⟩ := h0.2 t0
    obtain ⟨y, k1, p1⟩ := h1.2 t1
    obtain ⟨z, k2, p2⟩ := h2.2 t2
    refine ⟨m x y z, ?_, ?_⟩
    · show (Kd.pair a (Kd.pair b c)).K W (g (m x y z)) _
      rw [hg]
      refine ⟨cs.take a.sz, cs.drop a.sz, (List.take_append_drop a.sz _).symm, k0, ⟨(cs.drop a.sz).take b.sz, (cs.drop (a.sz + b.sz)).take c.sz, ?_, k1, k2⟩⟩
      · rw [show (cs.drop (a.sz + b.sz)).take c.sz = (cs.drop a.sz).drop b.sz from by
          rw [List.drop_drop, List.take_of_length_le]
          simp; omega]
        exact (List.take_append_drop b.sz _).symm
    · simp only [hg]; exact ⟨p0, p1, p2⟩⟩
theorem opens_struct2 {α β δ : Type} {t : TypeId} {f0 f1 : Field} {a : Kd α} {b : Kd β} {oa : α → Prop} {ob : β → Prop} (g : δ → α × β) (m : α → β → δ) (hg : ∀ x y, g (m x y) = (x, y))
    (ht : P.underlying t = some (.struct #[f0, f1])) (h0 : Opens P W f0.type a oa) (h1 : Opens P W f1.type b ob)
    (ho : f0.offset = 0 ∧ f1.offset = a.sz ∧ P.cellsOf t = a.sz + b.sz) : Opens P W t (Kd.iso (Kd.pair a b) g) (fun x => oa (g x).1 ∧ ob (g x).2) :=
  ⟨ho.2.2, fun {H enc base sp held fuel cs x} h => by
    obtain ⟨o0, o1, oT⟩ := ho
    obtain ⟨xs, n, _, _, hl, hlen, hf⟩ := DataW.trod_struct ht h
    match xs, hlen with
    | [y0, y1], _ =>
      have t0 := hf 0 f0 rfl
      have t1 := hf 1 f1 rfl
      rw [h0.1, o0, List.drop_zero] at t0
      rw [h1.1, o1] at t1
      obtain ⟨x, k0, p0⟩ := h0.2 t0
      obtain ⟨y, k1, p1⟩ := h1.2 t1
      refine ⟨m x y, ?_, ?_⟩
      · show (Kd.pair a b).K W (g (m x y)) _
        rw [hg]
        refine ⟨cs.take a.sz, (cs.drop a.sz).take b.sz, ?_, k0, k1⟩
        rw [show (cs.drop a.sz).take b.sz = cs.drop a.sz from by
          rw [List.take_of_length_le]
          simp; omega]
        exact (List.take_append_drop a.sz _).symm
      · simp only [hg]; exact ⟨p0, p1⟩⟩
end
end Go.Proofs.YtmodbemkflkbeaaGreatDoor.Base
