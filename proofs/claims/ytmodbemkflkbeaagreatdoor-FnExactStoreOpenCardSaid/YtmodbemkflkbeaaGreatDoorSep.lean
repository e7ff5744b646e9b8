/- What is told of a world, block by block: each fact of a list has blocks of its own, so that a step that turns other blocks leaves it. Each statement bears its conditions. -/
import Derived.Test.YtmodbemkflkbeaaGreatDoorExt5
namespace Go.Proofs.YtmodbemkflkbeaaGreatDoorW.PrintWords
open Go.RowKit Go.Proofs.YtmodbemkflkbeaaGreatDoorW.PrintLast Go.Proofs.YtmodbemkflkbeaaGreatDoorW.PrintMore
/-- What is told of a world over blocks of its own. -/
abbrev Asn := World → (Nat → Prop) → Prop
/-- Told of a world, it is told of each world that has these blocks as they are. -/
class Loc (A : Asn) : Prop where
  mv : ∀ {W W1 : World} {B B' : Nat → Prop}, (∀ k, B k → k < W.heap.size → B' k) → (∀ k, B k → k < W.heap.size → W1.heap[k]? = W.heap[k]?) → A W B → A W1 B'
def Bx (g : Nat) (cs : Array Value) (t : TypeId) : Asn := fun W B => W.heap[g]? = some (.cells cs t (0, 0)) ∧ B g
def AR {α : Type} (d : Kd α) (e n : Nat) (v : Value) (xs : List α) : Asn := fun W B => d.R e W n B v xs
def AS {α : Type} (d : Kd α) (e n : Nat) (v : Value) (xs : List α) : Asn := fun W B => Kd.S d e W n B v xs
def AQ {α : Type} (d : Kd α) (e n : Nat) (v : Value) (xs : List α) : Asn := fun W B => d.Q e W n B v xs
def AV {α : Type} (d : Kd α) (e n : Nat) (v : Value) (xs : List α) : Asn := fun W B => Kd.V d e W n B v xs
def CA {α : Type} (d : Kd α) (w : World) (A : Option Addr) (l : List α) (c : Nat) : Asn := fun _ _ => d.C w A l.length l ∧ l.length ≤ c
def St : List Asn → Asn
  | [] => fun _ _ => True
  | A :: L => fun W B => ∃ B1 B2 : Nat → Prop, (∀ k, B1 k → ¬ B2 k) ∧ (∀ k, B1 k ∨ B2 k → B k) ∧ A W B1 ∧ St L W B2
section
variable {α : Type} {d : Kd α} {e n g : Nat} {cs : Array Value} {t : TypeId} {v : Value} {xs : List α} {w : World} {A : Option Addr} {c : Nat}
instance : Loc (Bx g cs t) := ⟨fun hB hm h => ⟨(hm _ h.2 (blk_lt h.1)).trans h.1, hB _ h.2 (blk_lt h.1)⟩⟩
instance : Loc (AR d e n v xs) := ⟨fun hB hm h => Kd.R_mono (Kd.R_step (Kd.R_bound h) (fun k hk hlt => hm k hk.1 hlt)) (fun k hk => hB k hk.1 hk.2.2.1)⟩
instance : Loc (AS d e n v xs) := ⟨fun hB hm h => Kd.S_mono (Kd.S_step (Kd.S_bound h) (fun k hk hlt => hm k hk.1 hlt)) (fun k hk => hB k hk.1 hk.2.2.1)⟩
instance : Loc (AQ d e n v xs) := ⟨fun hB hm h => Kd.Q_mono (Kd.Q_step (Kd.Q_bound h) (fun k hk hlt => hm k hk.1 hlt)) (fun k hk => hB k hk.1 hk.2.2.1)⟩
instance : Loc (AV d e n v xs) := ⟨fun hB hm h => Kd.V_map h (fun _ hf => Kd.F_mono (Kd.F_step (Kd.F_bound hf) (fun k hk hlt => hm k hk.1 hlt)) (fun k hk => hB k hk.1 hk.2))⟩
instance : Loc (CA d w A xs c) := ⟨fun _ _ h => h⟩
end
instance : Loc (St []) := ⟨fun _ _ _ => trivial⟩
instance {A : Asn} {L : List Asn} [Loc A] [Loc (St L)] : Loc (St (A :: L)) := ⟨fun {W _ _ _} hB hm h => by
  obtain ⟨B1, B2, hd, hs, h1, h2⟩ := h
  exact ⟨fun k => B1 k ∧ k < W.heap.size, fun k => B2 k ∧ k < W.heap.size, fun k h1 h2 => hd k h1.1 h2.1, fun k hk => hk.elim (fun h => hB k (hs k (.inl h.1)) h.2) (fun h => hB k (hs k (.inr h.1)) h.2),
    Loc.mv (fun k hk hlt => ⟨hk, hlt⟩) (fun k hk hlt => hm k (hs k (.inl hk)) hlt) h1, Loc.mv (fun k hk hlt => ⟨hk, hlt⟩) (fun k hk hlt => hm k (hs k (.inr hk)) hlt) h2⟩⟩
section
variable {W : World} {L L' : List Asn} {A C : Asn} {B : Nat → Prop}
theorem St.swap (h : St (A :: C :: L) W B) : St (C :: A :: L) W B := by
  obtain ⟨B1, B2, hd, hs, h1, B3, B4, hd2, hs2, h3, h4⟩ := h
  exact ⟨B3, fun k => B1 k ∨ B4 k, fun k h3 h => h.elim (fun h1 => hd k h1 (hs2 k (.inl h3))) (hd2 k h3), fun k hk => hk.elim (fun h3 => hs k (.inr (hs2 k (.inl h3)))) (fun h => h.elim (fun h1 => hs k (.inl h1)) (fun h4 => hs k (.inr (hs2 k (.inr h4))))),
    h3, B1, B4, fun k h1 h4 => hd k h1 (hs2 k (.inr h4)), fun _ hk => hk, h1, h4⟩
theorem St.tail (f : ∀ {B : Nat → Prop}, St L W B → St L' W B) (h : St (A :: L) W B) : St (A :: L') W B := by
  obtain ⟨B1, B2, hd, hs, h1, h2⟩ := h
  exact ⟨B1, B2, hd, hs, h1, f h2⟩
theorem St.drop (h : St (A :: L) W B) : ∃ B2 : Nat → Prop, (∀ k, B2 k → B k) ∧ St L W B2 := by
  obtain ⟨B1, B2, hd, hs, h1, h2⟩ := h
  exact ⟨B2, fun k hk => hs k (.inr hk), h2⟩
theorem St.up {B' : Nat → Prop} (h : St L W B) (hB : ∀ k, B k → B' k) : St L W B' := by
  cases L with
  | nil => trivial
  | cons A L =>
    obtain ⟨B1, B2, hd, hs, h1, h2⟩ := h
    exact ⟨B1, B2, hd, fun k hk => hB k (hs k hk), h1, h2⟩
end
/-- What is only read: all told over the same blocks. -/
def Po : List Asn → Asn
  | [] => fun _ _ => True
  | A :: P => fun W B => A W B ∧ Po P W B
instance : Loc (Po []) := ⟨fun _ _ _ => trivial⟩
instance {A : Asn} {P : List Asn} [Loc A] [Loc (Po P)] : Loc (Po (A :: P)) := ⟨fun hB hm h => ⟨Loc.mv hB hm h.1, Loc.mv hB hm h.2⟩⟩
/-- The world W is as w0 was, but for what came later and the blocks X. -/
structure Kb (w0 : World) (X : Nat → Prop) (W : World) : Prop where
  os : W.os = w0.os
  tape : W.tape = w0.tape
  output : W.output = w0.output
  size : w0.heap.size ≤ W.heap.size
  block : ∀ k, k < w0.heap.size → ¬ X k → W.heap[k]? = w0.heap[k]?
theorem Kb.refl (w : World) (X : Nat → Prop) : Kb w X w := ⟨rfl, rfl, rfl, Nat.le_refl _, fun _ _ _ => rfl⟩
theorem Kb.below {w0 W W1 : World} {X : Nat → Prop} (h : Kb w0 X W) (hb : Below W.heap.size W W1) : Kb w0 X W1 := ⟨hb.os.trans h.os, hb.tape.trans h.tape, hb.output.trans h.output, Nat.le_trans h.size hb.size, fun k hk hx => (hb.block k (Nat.lt_of_lt_of_le hk h.size)).trans (h.block k hk hx)⟩
theorem Kb.b {w0 W : World} (h : Kb w0 (fun _ => False) W) : Below w0.heap.size w0 W := ⟨h.os, h.tape, h.output, h.size, fun k hk => h.block k hk id⟩
theorem Kb.cell {w0 W : World} {X : Nat → Prop} (h : Kb w0 X W) {g i : Nat} (u : Value) (hg : X g ∨ w0.heap.size ≤ g) : Kb w0 X (W.setCell ⟨g, i, none⟩ u) := ⟨h.os, h.tape, h.output, by simpa [World.setCell] using h.size, fun k hk hx => (Below.heap_setCell W _ u k (by rintro rfl; exact hg.elim hx (fun h2 => Nat.lt_irrefl _ (Nat.lt_of_lt_of_le hk h2)))).trans (h.block k hk hx)⟩
/-- The world as it stands in a call that began at w0: nothing of before has turned; what the lists tell holds over new blocks. -/
def SX (w0 : World) (X : Nat → Prop) (P L : List Asn) (W : World) : Prop := Kb w0 X W ∧ St (Po P :: L) W (fun k => X k ∨ w0.heap.size ≤ k)
abbrev ST (w0 : World) (P L : List Asn) (W : World) : Prop := SX w0 (fun _ => False) P L W
section
variable {w0 W W1 : World} {Xs : Nat → Prop} {P L L' R : List Asn} {A C X Y : Asn} {B : Nat → Prop}
theorem ST.nil (w : World) : ST w [] [] w := ⟨Kb.refl _ _, fun _ => False, fun _ => False, fun _ h => h.elim, fun _ h => h.elim False.elim False.elim, trivial, trivial⟩
theorem SX.b (h : ST w0 P L W) : Below w0.heap.size w0 W := h.1.b
theorem SX.le (h : SX w0 Xs P L W) : w0.heap.size ≤ W.heap.size := h.1.size
theorem SX.ev [Loc (Po P)] [Loc (St L)] (h : SX w0 Xs P L W) (hb : Below W.heap.size W W1) : SX w0 Xs P L W1 := ⟨h.1.below hb, Loc.mv (fun _ hk _ => hk) (fun k _ hlt => hb.block k hlt) h.2⟩
theorem SX.dr [Loc (Po P)] [Loc (St L)] (h : SX w0 Xs P L W) : SX w0 Xs P L W.drew := h.ev (below_drew (Below.refl _ _))
theorem SX.dn [Loc (Po P)] [Loc (St L)] (h : SX w0 Xs P L W) (n : Nat) : SX w0 Xs P L (W.drewN n) := h.ev (pw_below_drewN (Below.refl _ _) n)
theorem SX.c {α : Type} {d : Kd α} {w : World} {A : Option Addr} {l : List α} {c : Nat} (h : SX w0 Xs P L W) (hr : d.C w A l.length l) (hc : l.length ≤ c) : SX w0 Xs (CA d w A l c :: P) L W := by
  obtain ⟨hb, B1, B2, hd, hs, h1, h2⟩ := h
  exact ⟨hb, B1, B2, hd, hs, ⟨⟨hr, hc⟩, h1⟩, h2⟩
theorem SX.box [Loc A] [Loc (Po P)] [Loc (St L)] (h : SX w0 Xs P L W) (hb : Below W.heap.size W W1) (ha : A W1 (fun k => W.heap.size ≤ k)) : SX w0 Xs P (A :: L) W1 := by
  refine ⟨h.1.below hb, ?_⟩
  refine St.swap ⟨fun k => W.heap.size ≤ k, fun k => (Xs k ∨ w0.heap.size ≤ k) ∧ k < W.heap.size, fun k h1 h2 => by have := h2.2; omega, fun k hk => hk.elim (fun h1 => .inr (Nat.le_trans h.1.size h1)) And.left, ha, Loc.mv (fun k hk hlt => ⟨hk, hlt⟩) (fun k _ hlt => hb.block k hlt) h.2⟩
theorem SX.po [Loc (Po P)] [Loc (St L)] (h : SX w0 Xs P L W) (hb : Below W.heap.size W W1) {P' : List Asn} [Loc (Po P')] (ha : Po P' W1 (fun k => W.heap.size ≤ k)) {P2 : List Asn} (hP : ∀ {W : World} {B : Nat → Prop}, Po P' W B → Po P W B → Po P2 W B) : SX w0 Xs P2 L W1 := by
  obtain ⟨h0, B1, B2, hd, hs, h1, h2⟩ := h
  refine ⟨h0.below hb, fun k => W.heap.size ≤ k ∨ B1 k ∧ k < W.heap.size, fun k => B2 k ∧ k < W.heap.size, fun k h3 h4 => h3.elim (fun h5 => by have := h4.2; omega) (fun h5 => hd k h5.1 h4.1), fun k hk => hk.elim (fun h3 => h3.elim (fun h5 => .inr (Nat.le_trans h0.size h5)) (fun h5 => hs k (.inl h5.1))) (fun h4 => hs k (.inr h4.1)), hP (Loc.mv (fun _ hk _ => .inl hk) (fun _ _ _ => rfl) ha) (Loc.mv (fun k hk hlt => .inr ⟨hk, hlt⟩) (fun k _ hlt => hb.block k hlt) h1), Loc.mv (fun k hk hlt => ⟨hk, hlt⟩) (fun k _ hlt => hb.block k hlt) h2⟩
theorem SX.p1 [Loc A] [Loc (Po P)] [Loc (St L)] (h : SX w0 Xs P L W) (hb : Below W.heap.size W W1) (ha : A W1 (fun k => W.heap.size ≤ k)) : SX w0 Xs (A :: P) L W1 := h.po hb (P' := [A]) ⟨ha, trivial⟩ (fun h1 h2 => ⟨h1.1, h2⟩)
theorem SX.p2 [Loc A] [Loc C] [Loc (Po P)] [Loc (St L)] (h : SX w0 Xs P L W) (hb : Below W.heap.size W W1) (ha : A W1 (fun k => W.heap.size ≤ k)) (hc : C W1 (fun k => W.heap.size ≤ k)) : SX w0 Xs (A :: C :: P) L W1 := h.po hb (P' := [A, C]) ⟨ha, hc, trivial⟩ (fun h1 h2 => ⟨h1.1, h1.2.1, h2⟩)
theorem SX.p3 [Loc A] [Loc C] [Loc X] [Loc (Po P)] [Loc (St L)] (h : SX w0 Xs P L W) (hb : Below W.heap.size W W1) (ha : A W1 (fun k => W.heap.size ≤ k)) (hc : C W1 (fun k => W.heap.size ≤ k)) (hx : X W1 (fun k => W.heap.size ≤ k)) : SX w0 Xs (A :: C :: X :: P) L W1 := h.po hb (P' := [A, C, X]) ⟨ha, hc, hx, trivial⟩ (fun h1 h2 => ⟨h1.1, h1.2.1, h1.2.2.1, h2⟩)
theorem SX.p4 [Loc A] [Loc C] [Loc X] [Loc Y] [Loc (Po P)] [Loc (St L)] (h : SX w0 Xs P L W) (hb : Below W.heap.size W W1) (ha : A W1 (fun k => W.heap.size ≤ k)) (hc : C W1 (fun k => W.heap.size ≤ k)) (hx : X W1 (fun k => W.heap.size ≤ k)) (hy : Y W1 (fun k => W.heap.size ≤ k)) : SX w0 Xs (A :: C :: X :: Y :: P) L W1 := h.po hb (P' := [A, C, X, Y]) ⟨ha, hc, hx, hy, trivial⟩ (fun h1 h2 => ⟨h1.1, h1.2.1, h1.2.2.1, h1.2.2.2.1, h2⟩)
end
/-- A fact of the list, and what else it tells. -/
class FocB (L : List Asn) (g : Nat) (cs : outParam (Array Value)) (t : outParam TypeId) (R : outParam (List Asn)) : Prop where
  foc : ∀ {W : World} {B : Nat → Prop}, St L W B → St (Bx g cs t :: R) W B
section
variable {g i : Nat} {cs : Array Value} {t : TypeId} {R L : List Asn} {A : Asn}
instance (priority := high) : FocB (Bx g cs t :: L) g cs t L := ⟨id⟩
instance [h : FocB L g cs t R] : FocB (A :: L) g cs t (A :: R) := ⟨fun hs => St.swap (St.tail h.foc hs)⟩
theorem SX.set {w0 W : World} {Xs : Nat → Prop} {P : List Asn} {v : Value} {cs' : Array Value} (h : SX w0 Xs P L W) (hf : FocB L g cs t R) [Loc (Po P)] [Loc (St R)] (hc : cs.setIfInBounds i v = cs') : SX w0 Xs P (Bx g cs' t :: R) (W.setCell ⟨g, i, none⟩ v) := by
  obtain ⟨B1, B2, hd, hs, ⟨hb, hg⟩, h2⟩ := St.swap (St.tail hf.foc h.2)
  exact ⟨h.1.cell v (hs g (.inl hg)), St.swap ⟨B1, B2, hd, hs, ⟨blk_put hb i v hc, hg⟩, Loc.mv (fun _ hk _ => hk) (fun k hk _ => Below.heap_setCell W _ v k (by rintro rfl; exact hd _ hg hk)) h2⟩⟩
end
/-- What a fact tells of the world that stands. -/
class GetA (w0 : World) (Xs : Nat → Prop) (W : World) (A : Asn) (p : Prop) : Prop where
  g : ∀ {B : Nat → Prop}, Kb w0 Xs W → (∀ k, B k → Xs k ∨ w0.heap.size ≤ k) → A W B → p
class Get (w0 : World) (Xs : Nat → Prop) (W : World) (P : List Asn) (p : Prop) : Prop where
  g : ∀ {B : Nat → Prop}, Kb w0 Xs W → (∀ k, B k → Xs k ∨ w0.heap.size ≤ k) → Po P W B → p
section
variable {w0 W : World} {Xs : Nat → Prop} {P L : List Asn} {A C : Asn} {p : Prop}
theorem gt_ (h : SX w0 Xs P L W) [i : Get w0 Xs W P p] : p := by
  obtain ⟨hb, B1, B2, _, hs, h1, _⟩ := h
  exact i.g hb (fun k hk => hs k (.inl hk)) h1
instance (priority := high) [i : GetA w0 Xs W A p] : Get w0 Xs W (A :: P) p := ⟨fun hb hB h => i.g hb hB h.1⟩
instance [i : Get w0 Xs W P p] : Get w0 Xs W (A :: P) p := ⟨fun hb hB h => i.g hb hB h.2⟩
variable {α : Type} {d : Kd α} {e n c : Nat} {xs : List α} {v : Value} {a : Option Addr}
instance : GetA w0 Xs W (AR d e n (.slice a xs.length c) xs) (d.C W a xs.length xs) := ⟨fun _ _ h => (Kd.R_reads' h).2.2⟩
instance : GetA w0 Xs W (AR d e n (.slice a xs.length c) xs) (xs.length ≤ c) := ⟨fun _ _ h => (Kd.R_reads' h).2.1⟩
instance : GetA w0 (fun _ => False) W (AR d e n v xs) (d.R e W n (fun k => w0.heap.size ≤ k) v xs) := ⟨fun _ hB h => Kd.R_mono h (fun k hk => (hB k hk).elim False.elim id)⟩
instance : GetA w0 Xs W (AR d e n v xs) (d.R e W n (fun _ => True) v xs) := ⟨fun _ _ h => Kd.R_mono h (fun _ _ => trivial)⟩
instance : GetA w0 Xs W (AS d e n (.slice a xs.length c) xs) (d.C W a xs.length xs) := ⟨fun _ _ h => (Kd.S_reads' h).2.2⟩
instance : GetA w0 Xs W (AS d e n (.slice a xs.length c) xs) (xs.length ≤ c) := ⟨fun _ _ h => (Kd.S_reads' h).2.1⟩
instance : GetA w0 (fun _ => False) W (AS d e n v xs) (Kd.S d e W n (fun k => w0.heap.size ≤ k) v xs) := ⟨fun _ hB h => Kd.S_mono h (fun k hk => (hB k hk).elim False.elim id)⟩
instance : GetA w0 Xs W (AS d e n v xs) (Kd.S d e W n (fun _ => True) v xs) := ⟨fun _ _ h => Kd.S_mono h (fun _ _ => trivial)⟩
instance : GetA w0 Xs W (AQ d e n (.slice a xs.length c) xs) (d.C W a xs.length xs) := ⟨fun _ _ h => (Kd.Q_reads' h).2.2⟩
instance : GetA w0 Xs W (AQ d e n (.slice a xs.length c) xs) (xs.length ≤ c) := ⟨fun _ _ h => (Kd.Q_reads' h).2.1⟩
instance : GetA w0 (fun _ => False) W (AQ d e n v xs) (d.Q e W n (fun k => w0.heap.size ≤ k) v xs) := ⟨fun _ hB h => Kd.Q_mono h (fun k hk => (hB k hk).elim False.elim id)⟩
instance : GetA w0 Xs W (AQ d e n v xs) (d.Q e W n (fun _ => True) v xs) := ⟨fun _ _ h => Kd.Q_mono h (fun _ _ => trivial)⟩
instance : GetA w0 Xs W (AV d e n (.slice a xs.length c) xs) (d.C W a xs.length xs) := ⟨fun _ _ h => (Kd.V_reads' h).2.2⟩
instance : GetA w0 Xs W (AV d e n (.slice a xs.length c) xs) (xs.length ≤ c) := ⟨fun _ _ h => (Kd.V_reads' h).2.1⟩
instance : GetA w0 (fun _ => False) W (AV d e n v xs) (Kd.V d e W n (fun k => w0.heap.size ≤ k) v xs) := ⟨fun _ hB h => Kd.V_mono h (fun k hk => (hB k hk).elim False.elim id)⟩
instance : GetA w0 Xs W (AV d e n v xs) (Kd.V d e W n (fun _ => True) v xs) := ⟨fun _ _ h => Kd.V_mono h (fun _ _ => trivial)⟩
instance : GetA w0 Xs W (AR d e n v xs) (d.Q e W n (fun _ => True) v xs) := ⟨fun _ _ h => Kd.Q_of_R (Kd.R_mono h (fun _ _ => trivial))⟩
instance : GetA w0 Xs W (AS d e n v xs) (d.Q e W n (fun _ => True) v xs) := ⟨fun _ _ h => Kd.Q_of_R (Kd.S_R (Kd.S_mono h (fun _ _ => trivial)))⟩
instance : GetA w0 (fun _ => False) W (AR d e n v xs) (Kd.V d e W n (fun k => w0.heap.size ≤ k) v xs) := ⟨fun _ hB h => Kd.R_V (Kd.R_mono h (fun k hk => (hB k hk).elim False.elim id))⟩
instance : GetA w0 (fun _ => False) W (AS d e n v xs) (Kd.V d e W n (fun k => w0.heap.size ≤ k) v xs) := ⟨fun _ hB h => Kd.S_V (Kd.S_mono h (fun k hk => (hB k hk).elim False.elim id))⟩
instance : GetA w0 (fun _ => False) W (AQ d e n v xs) (Kd.V d e W n (fun k => w0.heap.size ≤ k) v xs) := ⟨fun _ hB h => Kd.Q_V (Kd.Q_mono h (fun k hk => (hB k hk).elim False.elim id))⟩
instance : GetA w0 (fun _ => False) W (CA d w0 a xs c) (d.C W a xs.length xs) := ⟨fun hb _ h => Kd.C_below h.1 hb.b⟩
instance {w : World} : GetA w0 Xs W (CA d w a xs c) (xs.length ≤ c) := ⟨fun _ _ h => h.2⟩
theorem gC_ (h : SX w0 Xs P L W) (d : Kd α) (a : Option Addr) (xs : List α) [i : Get w0 Xs W P (d.C W a xs.length xs)] : d.C W a xs.length xs := gt_ h
theorem cb_ {x : Addr} (h : ST w0 P L W) (hv : w0.cell? x = some v) : W.cell? x = some v := (h.b.cell (World.block_lt_of_cell? w0 _ hv)).trans hv
end
theorem sm_ {α β : Type} {a : α} {f : α → Option β} {b : β} (h : (some a).bind f = some b) : f a = some b := h
class GetV {α : Type} (P : List Asn) (d : Kd α) (a : Option Addr) (xs : List α) : Prop where
  f : ∀ {W : World} {B : Nat → Prop}, Po P W B → Kd.F d W B a xs.length xs
section
variable {α : Type} {d : Kd α} {e n c : Nat} {xs : List α} {a : Option Addr} {A : Asn} {P L : List Asn} {w0 W : World} {Xs : Nat → Prop}
instance (priority := high) : GetV (AR d e n (.slice a xs.length c) xs :: P) d a xs := ⟨fun h => Kd.R_F h.1⟩
instance (priority := high) : GetV (AS d e n (.slice a xs.length c) xs :: P) d a xs := ⟨fun h => Kd.R_F (Kd.S_R h.1)⟩
instance (priority := high) : GetV (AQ d e n (.slice a xs.length c) xs :: P) d a xs := ⟨fun h => Kd.Q_F h.1⟩
instance (priority := high) : GetV (AV d e n (.slice a xs.length c) xs :: P) d a xs := ⟨fun h => (Kd.V_at h.1).2.2⟩
instance [i : GetV P d a xs] : GetV (A :: P) d a xs := ⟨fun h => i.f h.2⟩
theorem SX.tk (h : SX w0 Xs P L W) (d : Kd α) (e n : Nat) (a : Option Addr) (xs : List α) (c m : Nat) [i : GetV P d a xs] (hm : m ≤ xs.length) (hc : xs.length ≤ c) : SX w0 Xs (AV d e n (.slice a (xs.take m).length c) (xs.take m) :: P) L W := by
  obtain ⟨hb, B1, B2, hd, hs, h1, h2⟩ := h
  exact ⟨hb, B1, B2, hd, hs, ⟨⟨a, c, rfl, by rw [List.length_take]; omega, Kd.F_take (i.f h1) hm⟩, h1⟩, h2⟩
end
theorem ct_ {P : Program} {t e : TypeId} {α : Type} (xs : List α) (A : Option Addr) (c : Nat) (j : Int) (ht : P.underlying t = some (.slice e)) (h0 : 0 ≤ j) (hm : j ≤ (xs.length : Int)) (hc : xs.length ≤ c) (hi : (P.info? e).isSome = true := by kernel_rfl) : ∀ W : World, (Instr.slice t (.slice A xs.length c) none (some (.int .i64 j)) none).run P W = .ok (.slice A (xs.take j.toNat).length c) W := by
  obtain ⟨inf, hi⟩ := Option.isSome_iff_exists.mp hi
  intro W
  rw [cut_to t e .i64 ht hi A xs.length c j h0 hm hc W, List.length_take]
  congr
  omega
theorem cf_ {P : Program} {t : TypeId} {α : Type} {w0 W : World} {Xs : Nat → Prop} {K L : List Asn} (st : SX w0 Xs K L W) (d : Kd α) (e n : Nat) (A : Option Addr) (xs : List α) (c : Nat) (j : Int) (ht : P.underlying t = some (.slice e)) [i : GetV K d A xs] (h0 : 0 ≤ j) (hm : j ≤ (xs.length : Int)) (hc : xs.length ≤ c) (hi : (P.info? e).map (·.size) = some d.sz := by kernel_rfl) :
    ∃ A' c', (∀ W : World, (Instr.slice t (.slice A xs.length c) (some (.int .i64 j)) none none).run P W = .ok (.slice A' (xs.drop j.toNat).length c') W) ∧ SX w0 Xs (AV d e n (.slice A' (xs.drop j.toNat).length c') (xs.drop j.toNat) :: K) L W := by
  obtain ⟨inf, hi, hs⟩ : ∃ inf, P.info? e = some inf ∧ inf.size = d.sz := by cases hq : P.info? e <;> simp_all
  obtain ⟨hb, B1, B2, hd, hs2, h1, h2⟩ := st
  refine ⟨if c = j.toNat then A else A.map (·.add (j.toNat * d.sz)), c - j.toNat, fun W => ?_, hb, B1, B2, hd, hs2, ⟨⟨_, _, rfl, by rw [List.length_drop]; omega, Kd.F_cut (i.f h1) (by omega) hc⟩, h1⟩, h2⟩
  rw [cut_from t e .i64 ht hi d.sz hs A xs.length c j h0 hm W, List.length_drop]
theorem cq_ {A : Option Addr} {a a' : Addr} (h : A = some a) (h' : A = some a') : a' = a := Option.some.inj (h'.symm.trans h)
theorem bx_ (x : Bool) : x = true ∨ x = false := by cases x <;> simp
section
variable {P : Program} {t e : TypeId} {A : Option Addr} {ad : Addr} {n c : Nat} {i : Int}
theorem ixn_ (sz : Nat) (ht : P.underlying t = some (.slice e)) (he : A = some ad) (h0 : (0 ≤ i) = True) (h1 : (i < (n : Int)) = True) (hs : (P.info? e).map (·.size) = some sz) (W : World) : (Instr.indexAt t (.slice A n c) (.int .i64 i)).run P W = .ok (.pointer (some (ad.add (i.toNat * sz)))) W := by
  obtain ⟨inf, hi, rfl⟩ : ∃ inf, P.info? e = some inf ∧ inf.size = sz := by cases hq : P.info? e <;> simp_all
  subst he
  have hel : P.elem t = e := by simp [Program.elem, ht]
  rw [run_indexAt_slice W t ad n c .i64 i (by rw [hel]; exact ht), if_pos ⟨of_eq_true h0, of_eq_true h1⟩, hel]
  simp [sizeOf, typeInfo, hi, Result.andThen]
theorem ix1_ (ht : P.underlying t = some (.slice e)) (he : A = some ad) (h0 : (0 ≤ i) = True) (h1 : (i < (n : Int)) = True) (hs : (P.info? e).map (·.size) = some 1 := by kernel_rfl) : ∀ W : World, (Instr.indexAt t (.slice A n c) (.int .i64 i)).run P W = .ok (.pointer (some (ad.add i.toNat))) W := fun W => by
  have h := ixn_ (c := c) 1 ht he h0 h1 hs W
  rwa [Nat.mul_one] at h
theorem ix2_ (ht : P.underlying t = some (.slice e)) (he : A = some ad) (h0 : (0 ≤ i) = True) (h1 : (i < (n : Int)) = True) (hs : (P.info? e).map (·.size) = some 2 := by kernel_rfl) : ∀ W : World, (Instr.indexAt t (.slice A n c) (.int .i64 i)).run P W = .ok (.pointer (some (ad.add (i.toNat * 2)))) W := ixn_ 2 ht he h0 h1 hs
theorem ix3_ (ht : P.underlying t = some (.slice e)) (he : A = some ad) (h0 : (0 ≤ i) = True) (h1 : (i < (n : Int)) = True) (hs : (P.info? e).map (·.size) = some 3 := by kernel_rfl) : ∀ W : World, (Instr.indexAt t (.slice A n c) (.int .i64 i)).run P W = .ok (.pointer (some (ad.add (i.toNat * 3)))) W := ixn_ 3 ht he h0 h1 hs
theorem ix4_ (ht : P.underlying t = some (.slice e)) (he : A = some ad) (h0 : (0 ≤ i) = True) (h1 : (i < (n : Int)) = True) (hs : (P.info? e).map (·.size) = some 4 := by kernel_rfl) : ∀ W : World, (Instr.indexAt t (.slice A n c) (.int .i64 i)).run P W = .ok (.pointer (some (ad.add (i.toNat * 4)))) W := ixn_ 4 ht he h0 h1 hs
end
/-- The cells of the list's boxes. -/
class Cl (L : List Asn) (C : outParam (World → Prop)) : Prop where
  c : ∀ {W : World} {B : Nat → Prop}, St L W B → C W
section
variable {w0 W : World} {Xs : Nat → Prop} {L : List Asn} {A : Asn} {C : World → Prop} {g : Nat} {t : TypeId}
theorem cl_ {P : List Asn} (h : SX w0 Xs P L W) [i : Cl L C] : C W := by
  obtain ⟨_, _, _, _, _, _, h2⟩ := h
  exact i.c h2
instance : Cl [] (fun _ => True) := ⟨fun _ => trivial⟩
instance (priority := low) [i : Cl L C] : Cl (A :: L) C := ⟨fun h => by obtain ⟨_, _, _, _, _, h2⟩ := h; exact i.c h2⟩
instance {x0 : Value} [i : Cl L C] : Cl (Bx g #[x0] t :: L) (fun W => (W.cell? ⟨g, 0, none⟩ = some x0 ∧ W.frozen? ⟨g, 0, none⟩ = false) ∧ C W) := ⟨fun h => by obtain ⟨_, _, _, _, h1, h2⟩ := h; exact ⟨⟨cz_ ⟨h1.1⟩ 0, blk_frozen h1.1 0⟩, i.c h2⟩⟩
instance {x0 x1 : Value} [i : Cl L C] : Cl (Bx g #[x0, x1] t :: L) (fun W => (W.cell? ⟨g, 0, none⟩ = some x0 ∧ W.cell? ⟨g, 1, none⟩ = some x1 ∧ W.frozen? ⟨g, 0, none⟩ = false ∧ W.frozen? ⟨g, 1, none⟩ = false) ∧ C W) := ⟨fun h => by obtain ⟨_, _, _, _, h1, h2⟩ := h; exact ⟨⟨cz_ ⟨h1.1⟩ 0, cz_ ⟨h1.1⟩ 1, blk_frozen h1.1 0, blk_frozen h1.1 1⟩, i.c h2⟩⟩
instance {x0 x1 x2 : Value} [i : Cl L C] : Cl (Bx g #[x0, x1, x2] t :: L) (fun W => (W.cell? ⟨g, 0, none⟩ = some x0 ∧ W.cell? ⟨g, 1, none⟩ = some x1 ∧ W.cell? ⟨g, 2, none⟩ = some x2 ∧ W.frozen? ⟨g, 0, none⟩ = false ∧ W.frozen? ⟨g, 1, none⟩ = false ∧ W.frozen? ⟨g, 2, none⟩ = false) ∧ C W) := ⟨fun h => by obtain ⟨_, _, _, _, h1, h2⟩ := h; exact ⟨⟨cz_ ⟨h1.1⟩ 0, cz_ ⟨h1.1⟩ 1, cz_ ⟨h1.1⟩ 2, blk_frozen h1.1 0, blk_frozen h1.1 1, blk_frozen h1.1 2⟩, i.c h2⟩⟩
instance {x0 x1 x2 x3 : Value} [i : Cl L C] : Cl (Bx g #[x0, x1, x2, x3] t :: L) (fun W => (W.cell? ⟨g, 0, none⟩ = some x0 ∧ W.cell? ⟨g, 1, none⟩ = some x1 ∧ W.cell? ⟨g, 2, none⟩ = some x2 ∧ W.cell? ⟨g, 3, none⟩ = some x3 ∧ W.frozen? ⟨g, 0, none⟩ = false ∧ W.frozen? ⟨g, 1, none⟩ = false ∧ W.frozen? ⟨g, 2, none⟩ = false ∧ W.frozen? ⟨g, 3, none⟩ = false) ∧ C W) := ⟨fun h => by obtain ⟨_, _, _, _, h1, h2⟩ := h; exact ⟨⟨cz_ ⟨h1.1⟩ 0, cz_ ⟨h1.1⟩ 1, cz_ ⟨h1.1⟩ 2, cz_ ⟨h1.1⟩ 3, blk_frozen h1.1 0, blk_frozen h1.1 1, blk_frozen h1.1 2, blk_frozen h1.1 3⟩, i.c h2⟩⟩
instance {x0 x1 x2 x3 x4 : Value} [i : Cl L C] : Cl (Bx g #[x0, x1, x2, x3, x4] t :: L) (fun W => (W.cell? ⟨g, 0, none⟩ = some x0 ∧ W.cell? ⟨g, 1, none⟩ = some x1 ∧ W.cell? ⟨g, 2, none⟩ = some x2 ∧ W.cell? ⟨g, 3, none⟩ = some x3 ∧ W.cell? ⟨g, 4, none⟩ = some x4 ∧ W.frozen? ⟨g, 0, none⟩ = false ∧ W.frozen? ⟨g, 1, none⟩ = false ∧ W.frozen? ⟨g, 2, none⟩ = false ∧ W.frozen? ⟨g, 3, none⟩ = false ∧ W.frozen? ⟨g, 4, none⟩ = false) ∧ C W) := ⟨fun h => by obtain ⟨_, _, _, _, h1, h2⟩ := h; exact ⟨⟨cz_ ⟨h1.1⟩ 0, cz_ ⟨h1.1⟩ 1, cz_ ⟨h1.1⟩ 2, cz_ ⟨h1.1⟩ 3, cz_ ⟨h1.1⟩ 4, blk_frozen h1.1 0, blk_frozen h1.1 1, blk_frozen h1.1 2, blk_frozen h1.1 3, blk_frozen h1.1 4⟩, i.c h2⟩⟩
instance {x0 x1 x2 x3 x4 x5 : Value} [i : Cl L C] : Cl (Bx g #[x0, x1, x2, x3, x4, x5] t :: L) (fun W => (W.cell? ⟨g, 0, none⟩ = some x0 ∧ W.cell? ⟨g, 1, none⟩ = some x1 ∧ W.cell? ⟨g, 2, none⟩ = some x2 ∧ W.cell? ⟨g, 3, none⟩ = some x3 ∧ W.cell? ⟨g, 4, none⟩ = some x4 ∧ W.cell? ⟨g, 5, none⟩ = some x5 ∧ W.frozen? ⟨g, 0, none⟩ = false ∧ W.frozen? ⟨g, 1, none⟩ = false ∧ W.frozen? ⟨g, 2, none⟩ = false ∧ W.frozen? ⟨g, 3, none⟩ = false ∧ W.frozen? ⟨g, 4, none⟩ = false ∧ W.frozen? ⟨g, 5, none⟩ = false) ∧ C W) := ⟨fun h => by obtain ⟨_, _, _, _, h1, h2⟩ := h; exact ⟨⟨cz_ ⟨h1.1⟩ 0, cz_ ⟨h1.1⟩ 1, cz_ ⟨h1.1⟩ 2, cz_ ⟨h1.1⟩ 3, cz_ ⟨h1.1⟩ 4, cz_ ⟨h1.1⟩ 5, blk_frozen h1.1 0, blk_frozen h1.1 1, blk_frozen h1.1 2, blk_frozen h1.1 3, blk_frozen h1.1 4, blk_frozen h1.1 5⟩, i.c h2⟩⟩
instance {x0 x1 x2 x3 x4 x5 x6 : Value} [i : Cl L C] : Cl (Bx g #[x0, x1, x2, x3, x4, x5, x6] t :: L) (fun W => (W.cell? ⟨g, 0, none⟩ = some x0 ∧ W.cell? ⟨g, 1, none⟩ = some x1 ∧ W.cell? ⟨g, 2, none⟩ = some x2 ∧ W.cell? ⟨g, 3, none⟩ = some x3 ∧ W.cell? ⟨g, 4, none⟩ = some x4 ∧ W.cell? ⟨g, 5, none⟩ = some x5 ∧ W.cell? ⟨g, 6, none⟩ = some x6 ∧ W.frozen? ⟨g, 0, none⟩ = false ∧ W.frozen? ⟨g, 1, none⟩ = false ∧ W.frozen? ⟨g, 2, none⟩ = false ∧ W.frozen? ⟨g, 3, none⟩ = false ∧ W.frozen? ⟨g, 4, none⟩ = false ∧ W.frozen? ⟨g, 5, none⟩ = false ∧ W.frozen? ⟨g, 6, none⟩ = false) ∧ C W) := ⟨fun h => by obtain ⟨_, _, _, _, h1, h2⟩ := h; exact ⟨⟨cz_ ⟨h1.1⟩ 0, cz_ ⟨h1.1⟩ 1, cz_ ⟨h1.1⟩ 2, cz_ ⟨h1.1⟩ 3, cz_ ⟨h1.1⟩ 4, cz_ ⟨h1.1⟩ 5, cz_ ⟨h1.1⟩ 6, blk_frozen h1.1 0, blk_frozen h1.1 1, blk_frozen h1.1 2, blk_frozen h1.1 3, blk_frozen h1.1 4, blk_frozen h1.1 5, blk_frozen h1.1 6⟩, i.c h2⟩⟩
instance {x0 x1 x2 x3 x4 x5 x6 x7 : Value} [i : Cl L C] : Cl (Bx g #[x0, x1, x2, x3, x4, x5, x6, x7] t :: L) (fun W => (W.cell? ⟨g, 0, none⟩ = some x0 ∧ W.cell? ⟨g, 1, none⟩ = some x1 ∧ W.cell? ⟨g, 2, none⟩ = some x2 ∧ W.cell? ⟨g, 3, none⟩ = some x3 ∧ W.cell? ⟨g, 4, none⟩ = some x4 ∧ W.cell? ⟨g, 5, none⟩ = some x5 ∧ W.cell? ⟨g, 6, none⟩ = some x6 ∧ W.cell? ⟨g, 7, none⟩ = some x7 ∧ W.frozen? ⟨g, 0, none⟩ = false ∧ W.frozen? ⟨g, 1, none⟩ = false ∧ W.frozen? ⟨g, 2, none⟩ = false ∧ W.frozen? ⟨g, 3, none⟩ = false ∧ W.frozen? ⟨g, 4, none⟩ = false ∧ W.frozen? ⟨g, 5, none⟩ = false ∧ W.frozen? ⟨g, 6, none⟩ = false ∧ W.frozen? ⟨g, 7, none⟩ = false) ∧ C W) := ⟨fun h => by obtain ⟨_, _, _, _, h1, h2⟩ := h; exact ⟨⟨cz_ ⟨h1.1⟩ 0, cz_ ⟨h1.1⟩ 1, cz_ ⟨h1.1⟩ 2, cz_ ⟨h1.1⟩ 3, cz_ ⟨h1.1⟩ 4, cz_ ⟨h1.1⟩ 5, cz_ ⟨h1.1⟩ 6, cz_ ⟨h1.1⟩ 7, blk_frozen h1.1 0, blk_frozen h1.1 1, blk_frozen h1.1 2, blk_frozen h1.1 3, blk_frozen h1.1 4, blk_frozen h1.1 5, blk_frozen h1.1 6, blk_frozen h1.1 7⟩, i.c h2⟩⟩
end
/-- What one list tells another one tells, too. -/
class ImA (A X : Asn) : Prop where
  im : ∀ {W : World} {B : Nat → Prop}, A W B → X W B
class Tk (L : List Asn) (X : Asn) (R : outParam (List Asn)) : Prop where
  tk : ∀ {W : World} {B : Nat → Prop}, St L W B → St (X :: R) W B
class Me (P : List Asn) (X : Asn) : Prop where
  me : ∀ {W : World} {B : Nat → Prop}, Po P W B → X W B
class Su (P P' : List Asn) : Prop where
  su : ∀ {W : World} {B : Nat → Prop}, Po P W B → Po P' W B
class En (L C : List Asn) : Prop where
  en : ∀ {W : World} {B : Nat → Prop}, St L W B → St C W B
section
variable {w0 W : World} {Xs : Nat → Prop} {L R C : List Asn} {A X Y : Asn}
theorem SX.en {P P' : List Asn} (h : SX w0 Xs P L W) [j : Su P P'] [i : En L C] : SX w0 Xs P' C W := by
  obtain ⟨hb, B1, B2, hd, hs, h1, h2⟩ := h
  exact ⟨hb, B1, B2, hd, hs, j.su h1, i.en h2⟩
instance {P : List Asn} : Su P [] := ⟨fun _ => trivial⟩
instance {P P' : List Asn} [i : Me P A] [j : Su P P'] : Su P (A :: P') := ⟨fun h => ⟨i.me h, j.su h⟩⟩
instance (priority := high) {P : List Asn} [i : ImA A X] : Me (A :: P) X := ⟨fun h => i.im h.1⟩
instance {P : List Asn} [i : Me P X] : Me (A :: P) X := ⟨fun h => i.me h.2⟩
instance (priority := high) : Su L L := ⟨id⟩
instance (priority := high) : Su (A :: L) L := ⟨fun h => h.2⟩
instance (priority := high) : Su (A :: X :: L) L := ⟨fun h => h.2.2⟩
instance (priority := high) : Su (A :: X :: Y :: L) L := ⟨fun h => h.2.2.2⟩
instance (priority := high) : En L L := ⟨id⟩
instance : En L [] := ⟨fun _ => trivial⟩
instance [i : Tk L X R] [j : En R C] : En L (X :: C) := ⟨fun h => St.tail j.en (i.tk h)⟩
instance (priority := high) [i : ImA A X] : Tk (A :: L) X L := ⟨fun h => by obtain ⟨B1, B2, hd, hs, h1, h2⟩ := h; exact ⟨B1, B2, hd, hs, i.im h1, h2⟩⟩
instance [i : Tk L X R] : Tk (A :: L) X (A :: R) := ⟨fun h => St.swap (St.tail i.tk h)⟩
instance (priority := high) : ImA A A := ⟨id⟩
variable {α : Type} {d : Kd α} {e n n' : Nat} {v : Value} {xs : List α}
instance : ImA (AS d e n v xs) (AR d e n v xs) := ⟨Kd.S_R⟩
instance : ImA (AS d e n v xs) (AV d e n' v xs) := ⟨Kd.S_V⟩
instance : ImA (AR d e n v xs) (AV d e n' v xs) := ⟨Kd.R_V⟩
instance : ImA (AQ d e n v xs) (AV d e n' v xs) := ⟨Kd.Q_V⟩
instance : ImA (AR d e n v xs) (AQ d e n v xs) := ⟨Kd.Q_of_R⟩
instance : ImA (AS d e n v xs) (AQ d e n v xs) := ⟨fun h => Kd.Q_of_R (Kd.S_R h)⟩
end
-- a state that is handed on by its address
/-- What is told of the block g alone. -/
class LcI (I : World → Prop) (g : Nat) : Prop where
  mv : ∀ {W W1 : World}, I W → W1.heap[g]? = W.heap[g]? → I W1
  lt : ∀ {W : World}, I W → g < W.heap.size
def Ai (I : World → Prop) (g : Nat) : Asn := fun W B => I W ∧ B g
instance {I : World → Prop} {g : Nat} [i : LcI I g] : Loc (Ai I g) := ⟨fun hB hm h => ⟨i.mv h.1 (hm _ h.2 (i.lt h.1)), hB _ h.2 (i.lt h.1)⟩⟩
def CG {α : Type} (d : Kd α) (w : World) (A : Option Addr) (l : List α) (c g : Nat) : Asn := fun _ _ => d.C w A l.length l ∧ l.length ≤ c ∧ ∀ ad, A = some ad → 0 < l.length → ad.block ≠ g
/-- Told of whatever blocks. -/
class Cst (P : List Asn) : Prop where
  c : ∀ {W W1 : World} {B B' : Nat → Prop}, Po P W B → Po P W1 B'
instance : Cst [] := ⟨fun _ => trivial⟩
section
variable {α : Type} {d : Kd α} {w0 w W W1 : World} {Xs : Nat → Prop} {P L R : List Asn} {A C D : Asn} {I I' : World → Prop} {g c e n : Nat} {a : Option Addr} {xs : List α}
instance [i : Cst P] : Cst (CA d w a xs c :: P) := ⟨fun h => ⟨h.1, i.c h.2⟩⟩
instance : Loc (CG d w a xs c g) := ⟨fun _ _ h => h⟩
instance {k : IntKind} {xs : List Int} : GetA w0 (fun k => k = g) W (CG (Kd.int k) w0 a xs c g) ((Kd.int k).C W a xs.length xs) := ⟨fun hb _ h => Kd.C_keep (0 : Int) h.1 ⟨hb.size, fun i hi hg _ => hb.block i hi hg⟩ h.2.2⟩
instance : GetA w0 Xs W (CG d w a xs c g) (xs.length ≤ c) := ⟨fun _ _ h => h.2.1⟩
instance : GetA w0 Xs W (CG d w a xs c g) (∀ ad, a = some ad → 0 < xs.length → ad.block ≠ g) := ⟨fun _ _ h => h.2.2⟩
theorem SX.nilS (hI : I w) : SX w (fun k => k = g) [] [Ai I g] w := ⟨Kb.refl _ _, fun _ => False, fun k => k = g, fun _ h => h.elim, fun _ h => h.elim False.elim .inl, trivial, fun k => k = g, fun _ => False, fun _ _ h => h, fun _ h => h.elim id False.elim, ⟨hI, rfl⟩, trivial⟩
theorem SX.cg (h : SX w0 Xs P L W) (hr : d.C w a xs.length xs) (hc : xs.length ≤ c) (hf : ∀ ad, a = some ad → 0 < xs.length → ad.block ≠ g) : SX w0 Xs (CG d w a xs c g :: P) L W := by
  obtain ⟨hb, B1, B2, hd, hs, h1, h2⟩ := h
  exact ⟨hb, B1, B2, hd, hs, ⟨⟨hr, hc, hf⟩, h1⟩, h2⟩
class TkI (L : List Asn) (I : World → Prop) (g : outParam Nat) (R : outParam (List Asn)) : Prop where
  tk : ∀ {W : World} {B : Nat → Prop}, St L W B → St (Ai I g :: R) W B
instance (priority := high) : TkI (Ai I g :: L) I g L := ⟨id⟩
instance [i : TkI L I g R] : TkI (A :: L) I g (A :: R) := ⟨fun h => St.swap (St.tail i.tk h)⟩
theorem sI_ (I : World → Prop) (h : SX w0 Xs P L W) [t : TkI L I g R] : I W := by
  obtain ⟨_, _, _, _, _, _, h2⟩ := h
  obtain ⟨_, _, _, _, h3, _⟩ := t.tk h2
  exact h3.1
theorem bw_ {wo : World} (hB : Below wo.heap.size wo w0) (hge : wo.heap.size ≤ g) (h : SX w0 (fun k => k = g) P L W) : Below wo.heap.size wo W :=
  ⟨h.1.os.trans hB.os, h.1.tape.trans hB.tape, h.1.output.trans hB.output, Nat.le_trans hB.size h.1.size, fun k hk => (h.1.block k (Nat.lt_of_lt_of_le hk hB.size) (by rintro rfl; omega)).trans (hB.block k hk)⟩
class GetF (P : List Asn) (a : Option Addr) {α : Type} (xs : List α) : Prop where
  f : ∀ {W : World} {B : Nat → Prop}, Po P W B → ∀ ad, a = some ad → 0 < xs.length → B ad.block
instance (priority := high) : GetF (AR d e n (.slice a xs.length c) xs :: P) a xs := ⟨fun h ad ha hp => by
  obtain ⟨g, cap, hv, _⟩ := Kd.R_form h.1 hp
  injection hv with h5
  rw [ha] at h5
  obtain rfl := Option.some.inj h5
  exact h.1.1 g (by rw [ha]; simp [Value.ownBlock])⟩
instance [i : GetF P a xs] : GetF (A :: P) a xs := ⟨fun h => i.f h.2⟩
theorem hf_ (h : SX w0 Xs P L W) [t : TkI L I g R] [i : GetF P a xs] : ∀ ad, a = some ad → 0 < xs.length → ad.block ≠ g := fun ad ha hp => by
  obtain ⟨_, B1, B2, hd, _, h1, h2⟩ := h
  obtain ⟨B3, B4, _, hs2, h3, _⟩ := t.tk h2
  rintro rfl
  exact hd _ (i.f h1 ad ha hp) (hs2 _ (.inl h3.2))
theorem kw_ (h : SX w0 (fun k => k = g) P L W) : KeepBut w0 W g none := ⟨h.1.size, fun i hi hg _ => h.1.block i hi hg⟩
/-- Behind a call that turns the block g alone, and makes new ones. -/
theorem SX.sk {P' P2 : List Asn} (h : SX w0 Xs P L W) [i : LcI I g] (t : Tk L (Ai I g) R) [Loc (Po P)] [Loc (St R)] [Loc (Po P')] {wo : World} (hk : KeepBut W W1 g none) (hb0 : Below wo.heap.size wo W) (hb1 : Below wo.heap.size wo W1) (hI : I' W1)
    (ha : Po P' W1 (fun k => W.heap.size ≤ k)) (hP : ∀ {W : World} {B : Nat → Prop}, Po P' W B → Po P W B → Po P2 W B) : SX w0 Xs P2 (Ai I' g :: R) W1 := by
  obtain ⟨h0, B1, B2, hd, hs, h1, h2⟩ := h
  obtain ⟨B3, B4, hd2, hs2, h3, h4⟩ := t.tk h2
  have hg : B2 g := hs2 g (.inl h3.2)
  refine ⟨⟨hb1.os.trans (hb0.os.symm.trans h0.os), hb1.tape.trans (hb0.tape.symm.trans h0.tape), hb1.output.trans (hb0.output.symm.trans h0.output), Nat.le_trans h0.size hk.1, fun k hk2 hx => (hk.2 k (Nat.lt_of_lt_of_le hk2 h0.size) (by rintro rfl; exact (hs k (.inr hg)).elim hx (fun h5 => Nat.lt_irrefl _ (Nat.lt_of_lt_of_le hk2 h5))) (by simp)).trans (h0.block k hk2 hx)⟩,
    fun k => W.heap.size ≤ k ∨ B1 k ∧ k < W.heap.size, fun k => k = g ∧ g < W.heap.size ∨ B4 k ∧ k < W.heap.size, ?_, ?_, hP (Loc.mv (fun _ hk _ => .inl hk) (fun _ _ _ => rfl) ha) (Loc.mv (fun k hk hlt => .inr ⟨hk, hlt⟩) (fun k hB hlt => hk.2 k hlt (by rintro rfl; exact hd _ hB hg) (by simp)) h1), fun k => k = g ∧ g < W.heap.size, fun k => B4 k ∧ k < W.heap.size, ?_, fun k hk => hk, ⟨hI, ?_⟩, Loc.mv (fun k hk hlt => ⟨hk, hlt⟩) (fun k hB hlt => hk.2 k hlt (by rintro rfl; exact hd2 _ h3.2 hB) (by simp)) h4⟩
  · rintro k (h5 | h5) (⟨rfl, h6⟩ | h6)
    · omega
    · have := h6.2; omega
    · exact hd _ h5.1 hg
    · exact hd _ h5.1 (hs2 _ (.inr h6.1))
  · rintro k ((h5 | h5) | (⟨rfl, h6⟩ | h6))
    · exact .inr (Nat.le_trans h0.size h5)
    · exact hs _ (.inl h5.1)
    · exact hs _ (.inr hg)
    · exact hs _ (.inr (hs2 _ (.inr h6.1)))
  · rintro k ⟨rfl, _⟩ h6
    exact hd2 _ h3.2 h6.1
  · exact ⟨rfl, i.lt h3.1⟩
theorem SX.sk0 (h : SX w0 Xs P L W) [i : LcI I g] [t : Tk L (Ai I g) R] [Loc (Po P)] [Loc (St R)] {wo : World} (hk : KeepBut W W1 g none) (hb0 : Below wo.heap.size wo W) (hb1 : Below wo.heap.size wo W1) (hI : I' W1) : SX w0 Xs P (Ai I' g :: R) W1 := h.sk t hk hb0 hb1 hI (P' := []) trivial (fun _ h2 => h2)
theorem SX.sk1 (h : SX w0 Xs P L W) [i : LcI I g] [t : Tk L (Ai I g) R] [Loc (Po P)] [Loc (St R)] [Loc A] {wo : World} (hk : KeepBut W W1 g none) (hb0 : Below wo.heap.size wo W) (hb1 : Below wo.heap.size wo W1) (hI : I' W1) (ha : A W1 (fun k => W.heap.size ≤ k)) : SX w0 Xs (A :: P) (Ai I' g :: R) W1 := h.sk t hk hb0 hb1 hI (P' := [A]) ⟨ha, trivial⟩ (fun h1 h2 => ⟨h1.1, h2⟩)
theorem SX.sk2 (h : SX w0 Xs P L W) [i : LcI I g] [t : Tk L (Ai I g) R] [Loc (Po P)] [Loc (St R)] [Loc A] [Loc C] {wo : World} (hk : KeepBut W W1 g none) (hb0 : Below wo.heap.size wo W) (hb1 : Below wo.heap.size wo W1) (hI : I' W1) (ha : A W1 (fun k => W.heap.size ≤ k)) (hc : C W1 (fun k => W.heap.size ≤ k)) : SX w0 Xs (A :: C :: P) (Ai I' g :: R) W1 := h.sk t hk hb0 hb1 hI (P' := [A, C]) ⟨ha, hc, trivial⟩ (fun h1 h2 => ⟨h1.1, h1.2.1, h2⟩)
theorem SX.sk3 (h : SX w0 Xs P L W) [i : LcI I g] [t : Tk L (Ai I g) R] [Loc (Po P)] [Loc (St R)] [Loc A] [Loc C] [Loc D] {wo : World} (hk : KeepBut W W1 g none) (hb0 : Below wo.heap.size wo W) (hb1 : Below wo.heap.size wo W1) (hI : I' W1) (ha : A W1 (fun k => W.heap.size ≤ k)) (hc : C W1 (fun k => W.heap.size ≤ k)) (hd : D W1 (fun k => W.heap.size ≤ k)) : SX w0 Xs (A :: C :: D :: P) (Ai I' g :: R) W1 := h.sk t hk hb0 hb1 hI (P' := [A, C, D]) ⟨ha, hc, hd, trivial⟩ (fun h1 h2 => ⟨h1.1, h1.2.1, h1.2.2.1, h2⟩)
/-- A state that a call has made, where there is no other block yet. -/
theorem SX.nw (h : ST w0 P [] W) [i : Cst P] (hb : Below W.heap.size W W1) (hI : I W1) (hg : w0.heap.size ≤ g) : ST w0 P [Ai I g] W1 := by
  obtain ⟨h0, B1, B2, hd, hs, h1, h2⟩ := h
  exact ⟨h0.below hb, fun _ => False, fun k => k = g, fun _ h => h.elim, fun k h => h.elim False.elim (by rintro rfl; exact .inr hg), i.c h1, fun k => k = g, fun _ => False, fun _ _ h => h, fun k h => h.elim id False.elim, ⟨hI, rfl⟩, trivial⟩
end
-- without what is handed on by its address
class Dr (L : List Asn) (L' : outParam (List Asn)) : Prop where
  d : ∀ {W : World} {B : Nat → Prop}, St L W B → St L' W B
instance : Dr [] [] := ⟨id⟩
instance (priority := low) {A : Asn} {L L' : List Asn} [i : Dr L L'] : Dr (A :: L) (A :: L') := ⟨fun h => St.tail i.d h⟩
instance {I : World → Prop} {g : Nat} {L L' : List Asn} [i : Dr L L'] : Dr (Ai I g :: L) L' := ⟨fun h => by
  obtain ⟨B2, hB, h2⟩ := St.drop h
  exact St.up (i.d h2) hB⟩
theorem Dr.dr {L L' P : List Asn} {w0 W : World} {Xs : Nat → Prop} (i : Dr L L') (h : SX w0 Xs P L W) : SX w0 Xs P L' W := ⟨h.1, St.tail i.d h.2⟩
-- what a call tells of its rows, over blocks that are new
section
variable {α : Type} {d : Kd α} {e : Nat} {ok : Nat → Prop} {v : Value} {xs : List α} {w0 W W1 : World} {Xs : Nat → Prop} {L : List Asn}
theorem SX.mr {P : List Asn} (h : SX w0 Xs P L W) (hr : d.R e W1 W.heap.size ok v xs) : AR d e w0.heap.size v xs W1 (fun k => W.heap.size ≤ k) := Kd.R_lower (Kd.R_mono (Kd.R_bound hr) (fun _ hk => hk.2.1)) h.le
theorem SX.ms {P : List Asn} (h : SX w0 Xs P L W) (hr : Kd.S d e W1 W.heap.size ok v xs) : AS d e w0.heap.size v xs W1 (fun k => W.heap.size ≤ k) := Kd.S_lower (Kd.S_mono (Kd.S_bound hr) (fun _ hk => hk.2.1)) h.le
theorem SX.mq {P : List Asn} (h : SX w0 Xs P L W) (hr : d.Q e W1 W.heap.size ok v xs) : AQ d e w0.heap.size v xs W1 (fun k => W.heap.size ≤ k) := Kd.Q_lower (Kd.Q_mono (Kd.Q_bound hr) (fun _ hk => hk.2.1)) h.le
theorem SX.mv {P : List Asn} (_h : SX w0 Xs P L W) (hr : Kd.V d e W1 W.heap.size (fun k => W.heap.size ≤ k) v xs) : AV d e w0.heap.size v xs W1 (fun k => W.heap.size ≤ k) := hr
end
theorem SX.bk {w0 W : World} {Xs : Nat → Prop} {P L R : List Asn} {g : Nat} {cs : Array Value} {t : TypeId} (h : SX w0 Xs P L W) (hf : FocB L g cs t R) : W.heap[g]? = some (.cells cs t (0, 0)) := by
  obtain ⟨_, _, _, _, _, _, h2⟩ := h
  obtain ⟨_, _, _, _, h1, _⟩ := hf.foc h2
  exact h1.1
theorem rcc_ {P : Program} {fn : Func} {tmps : Array Value} {w0 W : World} {Xs : Nat → Prop} {K L R : List Asn} {g : Nat} {cs : Array Value} {t : TypeId} {d : TypeDesc} {p : Tmp} {ty : TypeId} (st : SX w0 Xs K L W) (hu : P.underlying ty = some d) (h : fn.results = #[.cell p ty] := by rfl)
    (hp : tmps.getD p undef = .pointer (some ⟨g, 0, none⟩) := by rfl) (hf : FocB L g cs t R := by infer_instance) (hd : (match d with | .struct _ | .array _ _ => true | _ => false) = true := by rfl) (hi : (P.info? ty).map (·.size) = some cs.size := by kernel_rfl) :
    (results fn tmps).run P W = .ok (.agg cs) W := results_cell_row h tmps W g t cs (0, 0) d hp (st.bk hf) hu hd hi
theorem rct_ {P : Program} {fn : Func} {tmps : Array Value} {w0 W : World} {Xs : Nat → Prop} {K L R : List Asn} {g : Nat} {cs : Array Value} {t : TypeId} {d : TypeDesc} {p u : Tmp} {ty : TypeId} (st : SX w0 Xs K L W) (hu : P.underlying ty = some d) (h : fn.results = #[.cell p ty, .tmp u] := by rfl)
    (hp : tmps.getD p undef = .pointer (some ⟨g, 0, none⟩) := by rfl) (hf : FocB L g cs t R := by infer_instance) (hd : (match d with | .struct _ | .array _ _ => true | _ => false) = true := by rfl) (hi : (P.info? ty).map (·.size) = some cs.size := by kernel_rfl) :
    (results fn tmps).run P W = .ok (.tuple #[.agg cs, tmps.getD u undef]) W := results_ct h tmps W g t cs (0, 0) d hp (st.bk hf) hu hd hi
-- steps of a plain region
section
variable {P : Program} {ops : Array Oper} {rest : List Oper} {o : Oper} {a : Act} {Q : Exit → Act → World → Prop} {w0 W : World} {Xs : Nat → Prop} {K L R : List Asn} {g : Nat} {cs cs' : Array Value} {t : TypeId}
theorem al_ [Loc (Po K)] [Loc (St L)] (st : SX w0 Xs K L W) (h : ∀ g w1, SX w0 Xs K (Bx g cs t :: L) w1 → wpList P ops Q rest (a.put o.dst (.pointer (some ⟨g, 0, none⟩))) w1)
    (hgd : o.guard = none := by rfl) (hrun : (execOp a.eval o).run P W = .ok (.value (.pointer (some ⟨W.heap.size, 0, none⟩))) (W.alloc (.cells cs t (0, 0))) := by first | (go_simp; done) | (go_simp; rfl)) : wpList P ops Q (o :: rest) a W :=
  Kd.event_run hgd hrun (h _ _ (st.box (below_alloc (Below.refl _ _) _) ⟨blk_new W _, Nat.le_refl _⟩))
theorem so1_ {i0 : Nat} {v0 : Value} (st : SX w0 Xs K L W) (h : ∀ w1, SX w0 Xs K (Bx g cs' t :: R) w1 → wpList P ops Q rest a w1)
    (hgd : o.guard = none := by rfl) (hN : o.dst = none := by rfl) {t' : TypeId} {p : Tmp} {x : Operand} (ho : o.op = .store t' (.tmp p) x := by rfl) (hrun : (execOp a.eval o).run P W = .ok .skip (W.setCell ⟨g, i0, none⟩ v0) := by (go_simp; rfl))
    (hf : FocB L g cs t R := by infer_instance) (hk : Loc (Po K) := by infer_instance) (hl : Loc (St R) := by infer_instance) (hc : cs.setIfInBounds i0 v0 = cs' := by (simp only [sa_, sb_, sc_]; rfl)) : wpList P ops Q (o :: rest) a W :=
  store_event hgd ho hN hrun (fun w' e => by rw [e]; exact h _ (st.set hf hc))
theorem so2_ {i0 i1 : Nat} {v0 v1 : Value} (st : SX w0 Xs K L W) (h : ∀ w1, SX w0 Xs K (Bx g cs' t :: R) w1 → wpList P ops Q rest a w1)
    (hgd : o.guard = none := by rfl) (hN : o.dst = none := by rfl) {t' : TypeId} {p : Tmp} {x : Operand} (ho : o.op = .store t' (.tmp p) x := by rfl) (hrun : (execOp a.eval o).run P W = .ok .skip ((W.setCell ⟨g, i0, none⟩ v0).setCell ⟨g, i1, none⟩ v1) := by (go_simp; rfl))
    (hf : FocB L g cs t R := by infer_instance) (hk : Loc (Po K) := by infer_instance) (hl : Loc (St R) := by infer_instance) (hc : (cs.setIfInBounds i0 v0).setIfInBounds i1 v1 = cs' := by (simp only [sa_, sb_, sc_]; rfl)) : wpList P ops Q (o :: rest) a W :=
  store_event hgd ho hN hrun (fun w' e => by rw [e]; exact h _ ((st.set hf rfl).set (inferInstance : FocB (Bx g _ t :: R) g _ t R) hc))
theorem so3_ {i0 i1 i2 : Nat} {v0 v1 v2 : Value} (st : SX w0 Xs K L W) (h : ∀ w1, SX w0 Xs K (Bx g cs' t :: R) w1 → wpList P ops Q rest a w1)
    (hgd : o.guard = none := by rfl) (hN : o.dst = none := by rfl) {t' : TypeId} {p : Tmp} {x : Operand} (ho : o.op = .store t' (.tmp p) x := by rfl) (hrun : (execOp a.eval o).run P W = .ok .skip (((W.setCell ⟨g, i0, none⟩ v0).setCell ⟨g, i1, none⟩ v1).setCell ⟨g, i2, none⟩ v2) := by (go_simp; rfl))
    (hf : FocB L g cs t R := by infer_instance) (hk : Loc (Po K) := by infer_instance) (hl : Loc (St R) := by infer_instance) (hc : ((cs.setIfInBounds i0 v0).setIfInBounds i1 v1).setIfInBounds i2 v2 = cs' := by (simp only [sa_, sb_, sc_]; rfl)) : wpList P ops Q (o :: rest) a W :=
  store_event hgd ho hN hrun (fun w' e => by rw [e]; exact h _ (((st.set hf rfl).set (inferInstance : FocB (Bx g _ t :: R) g _ t R) rfl).set (inferInstance : FocB (Bx g _ t :: R) g _ t R) hc))
theorem so4_ {i0 i1 i2 i3 : Nat} {v0 v1 v2 v3 : Value} (st : SX w0 Xs K L W) (h : ∀ w1, SX w0 Xs K (Bx g cs' t :: R) w1 → wpList P ops Q rest a w1)
    (hgd : o.guard = none := by rfl) (hN : o.dst = none := by rfl) {t' : TypeId} {p : Tmp} {x : Operand} (ho : o.op = .store t' (.tmp p) x := by rfl) (hrun : (execOp a.eval o).run P W = .ok .skip ((((W.setCell ⟨g, i0, none⟩ v0).setCell ⟨g, i1, none⟩ v1).setCell ⟨g, i2, none⟩ v2).setCell ⟨g, i3, none⟩ v3) := by (go_simp; rfl))
    (hf : FocB L g cs t R := by infer_instance) (hk : Loc (Po K) := by infer_instance) (hl : Loc (St R) := by infer_instance) (hc : (((cs.setIfInBounds i0 v0).setIfInBounds i1 v1).setIfInBounds i2 v2).setIfInBounds i3 v3 = cs' := by (simp only [sa_, sb_, sc_]; rfl)) : wpList P ops Q (o :: rest) a W :=
  store_event hgd ho hN hrun (fun w' e => by rw [e]; exact h _ ((((st.set hf rfl).set (inferInstance : FocB (Bx g _ t :: R) g _ t R) rfl).set (inferInstance : FocB (Bx g _ t :: R) g _ t R) rfl).set (inferInstance : FocB (Bx g _ t :: R) g _ t R) hc))
theorem nw_ {α : Type} (d : Kd α) (e : Nat) (xs : List α) (inner : List Value) [Loc (Po K)] [Loc (St L)] (st : SX w0 Xs K L W) (h : ∀ A c w1, SX w0 Xs (AR d e w0.heap.size (.slice A xs.length c) xs :: K) L w1 → wpList P ops Q rest (a.put o.dst (.slice A xs.length c)) w1)
    (hgd : o.guard = none := by rfl) (hrun : (execOp a.eval o).run P W = .ok (.value (.slice (some ⟨W.heap.size, 0, none⟩) xs.length xs.length)) (W.alloc (.cells inner.toArray e)) := by first | (go_simp; done) | (go_simp; rfl))
    (hrep : Reps (d.M W W.heap.size (fun _ => True)) d.sz xs inner := by repeat (first | exact Reps.none _ _ | refine Reps.one rfl ?_)) (hm : xs.length ≤ 9223372036854775807 := by simp) : wpList P ops Q (o :: rest) a W := by
  refine Kd.event_run hgd hrun (h _ _ _ (st.p1 (below_alloc (Below.refl _ _) _) (Kd.R_lower (base := W.heap.size) (Kd.R_mono (ok := fun k => W.heap.size ≤ k) ⟨fun k hk => ?_, inner, ?_, ?_⟩ (fun _ hk => hk)) st.le)))
  · have : W.heap.size = k := by simpa [Value.ownBlock] using hk
    omega
  · have h2 := World.ownsRow_lit (base := W.heap.size) (e := e) (size := d.sz) W inner.toArray xs.length (Nat.le_refl _) (by simpa [maxLen] using hm) (by simpa using hrep.1)
    simpa using h2
  · refine hrep.imp_ (fun p c hp => d.M_mono (fun k hk => ⟨hk.2.1, fun he => ?_⟩) (Kd.M_below (d.M_bound hp) (below_alloc (Below.refl _ _) _)))
    have h3 : k = W.heap.size := by simpa [Value.ownBlock] using he
    have := hk.2.2.1
    omega
theorem dw_ [Loc (Po K)] [Loc (St L)] (st : SX w0 Xs K L W) (h : ∀ w1, SX w0 Xs K L w1 → wpList P ops Q rest a w1) : wpList P ops Q rest a W.drew := h _ st.dr
end
-- steps of a region that draws its order
section
variable {P : Program} {Q : Exit → Act → World → Prop} {md : Region.Mode} {ops : Array Oper} {ds : List Nat} {T : Bool × List (List Nat × List Nat)} {B : List Nat} {fuel : Nat} {l : Array Bool} {a a' : Act} {w0 W : World} {Xs : Nat → Prop} {K L R K0 L0 : List Asn} {o : Oper} {g : Nat} {cs cs' : Array Value} {t : TypeId} {Kc : Act → World → Prop} {v : Value} {N : Option Tmp} {op : Op} {ty : TypeId} {ps : String} {af : Array Edge} {gd : Option (Nat × Bool)}
theorem rg_ {id : Nat} {L' : List Asn} [Loc (Po K)] [Loc (St L)] (st : SX w0 Xs K L W) (ds : List Nat) [i : Dr L L'] (h : ∀ w1, SX w0 Xs K L w1 → SX w0 Xs K L' w1 → wpAnyLast P .any ops Q (fun W_ => SX w0 Xs K L' W_) ds ops.size (Array.replicate ops.size false) a w1) (hm : P.follows .mixedOrders = true := by kernel_rfl) : (Code.region id ops true).wp P Q a W :=
  sv_ (S := fun W_ => SX w0 Xs K L' W_) (ds := ds) (i.dr st.dr) (fun h2 => h _ st.dr h2) hm
theorem tu_ (i : Nat) (h : wpAnyLast P md ops Q (fun W_ => SX w0 Xs K0 L0 W_) ds fuel (l.setIfInBounds i true) a' W) (hT : Aside0 (rtab md ops = T) := by assumption) (hB : Aside0 (waitsOk T.2 B = true) := by assumption) (hS : SX w0 Xs K0 L0 W := by assumption) (hi : ops[i]? = some ⟨N, op, ty, ps, af, gd⟩ := by exact rfl)
    (hc : takeW T B ds l.toList (l.setIfInBounds i true).toList i = true := by kernel_rfl) (hQ : ∀ c a w, Q (.panic c) (a.put N v) w → Q (.panic c) a w := by exact fun _ _ _ h => h)
    (hw : Region.wanted ⟨N, op, ty, ps, af, gd⟩ (yielded ops a.tmps) = true := by rfl) (hy : ∀ w' : World, SX w0 Xs K0 L0 w' → (execOp a.eval ⟨N, op, ty, ps, af, gd⟩).run P w' = .ok (.value v) w' := by (intro w' s_; have cl := cl_ s_; go_simp; first | with_reducible rfl | (rw [if_neg (by omega)]; done)))
    (ha : a.put N v = a' := by (simp only [Act.put, sa_, sb_, sc_, i64_w, i32_w]; rfl)) : wpAnyLast P md ops Q (fun W_ => SX w0 Xs K0 L0 W_) ds (fuel + 1) l a W :=
  tv_ i h hT hB hS hi hc hQ hw hy ha
theorem xv_ {S : World → Prop} {w : World} {Ni Nj Nk : Option Tmp} {oi oj ok : Op} {ti tj tk : TypeId} {pi pj pk : String} {fi fj fk : Array Edge} {gi gj gk : Option (Nat × Bool)} (i j k : Nat) (h1 : ∀ K : Act → World → Prop, Shut (∀ a' w', S w' → (S w' → wpAnyLast P md ops Q S ds fuel (l.setIfInBounds i true) a' w') → K a' w') → if Region.wanted ⟨Ni, oi, ti, pi, fi, gi⟩ (yielded ops a.tmps) = true then Oper.wp P ⟨Ni, oi, ti, pi, fi, gi⟩ a w K Q else K (a.put Ni undef) w)
    (h2 : ∀ K : Act → World → Prop, Shut (∀ a' w', S w' → (S w' → wpAnyLast P md ops Q S ds fuel (l.setIfInBounds j true) a' w') → K a' w') → if Region.wanted ⟨Nj, oj, tj, pj, fj, gj⟩ (yielded ops a.tmps) = true then Oper.wp P ⟨Nj, oj, tj, pj, fj, gj⟩ a w K Q else K (a.put Nj undef) w)
    (h3 : ∀ K : Act → World → Prop, Shut (∀ a' w', S w' → (S w' → wpAnyLast P md ops Q S ds fuel (l.setIfInBounds k true) a' w') → K a' w') → if Region.wanted ⟨Nk, ok, tk, pk, fk, gk⟩ (yielded ops a.tmps) = true then Oper.wp P ⟨Nk, ok, tk, pk, fk, gk⟩ a w K Q else K (a.put Nk undef) w)
    (hT : Aside0 (rtab md ops = T) := by assumption) (hi : ops[i]? = some ⟨Ni, oi, ti, pi, fi, gi⟩ := by exact rfl) (hj : ops[j]? = some ⟨Nj, oj, tj, pj, fj, gj⟩ := by exact rfl) (hk : ops[k]? = some ⟨Nk, ok, tk, pk, fk, gk⟩ := by exact rfl)
    (hc : (readyT T.2 l.toList == [i, j, k] && l.toList.set i true == (l.setIfInBounds i true).toList && l.toList.set j true == (l.setIfInBounds j true).toList && l.toList.set k true == (l.setIfInBounds k true).toList) = true := by kernel_rfl) (hd : i ∉ ds := by decide) (hdj : j ∉ ds := by decide) (hdk : k ∉ ds := by decide) :
    wpAnyLast P md ops Q S ds (fuel + 1) l a w := three_ _ _ _ hi hj hk rfl rfl rfl (three_of hT.out hc) hd hdj hdk h1 h2 h3
theorem al2_ [Loc (Po K)] [Loc (St L)] (st : SX w0 Xs K L W) (h : ∀ g w1, SX w0 Xs K (Bx g cs t :: L) w1 → Kc (a.put o.dst (.pointer (some ⟨g, 0, none⟩))) w1)
    (hw : Region.wanted o (yielded ops a.tmps) = true := by rfl) (hrun : (execOp a.eval o).run P W = .ok (.value (.pointer (some ⟨W.heap.size, 0, none⟩))) (W.alloc (.cells cs t (0, 0))) := by first | (go_simp; done) | (go_simp; rfl)) : if Region.wanted o (yielded ops a.tmps) = true then Oper.wp P o a W Kc Q else Kc (a.put o.dst undef) W :=
  event_step hw hrun (h _ _ (st.box (below_alloc (Below.refl _ _) _) ⟨blk_new W _, Nat.le_refl _⟩))
theorem nw2_ {α : Type} (d : Kd α) (e : Nat) (xs : List α) (inner : List Value) [Loc (Po K)] [Loc (St L)] (st : SX w0 Xs K L W) (h : ∀ A c w1, SX w0 Xs (AR d e w0.heap.size (.slice A xs.length c) xs :: K) L w1 → Kc (a.put o.dst (.slice A xs.length c)) w1)
    (hw : Region.wanted o (yielded ops a.tmps) = true := by rfl) (hrun : (execOp a.eval o).run P W = .ok (.value (.slice (some ⟨W.heap.size, 0, none⟩) xs.length xs.length)) (W.alloc (.cells inner.toArray e)) := by first | (go_simp; done) | (go_simp; rfl))
    (hrep : Reps (d.M W W.heap.size (fun _ => True)) d.sz xs inner := by repeat (first | exact Reps.none _ _ | refine Reps.one rfl ?_)) (hm : xs.length ≤ 9223372036854775807 := by simp) : if Region.wanted o (yielded ops a.tmps) = true then Oper.wp P o a W Kc Q else Kc (a.put o.dst undef) W := by
  refine event_step hw hrun (h _ _ _ (st.p1 (below_alloc (Below.refl _ _) _) (Kd.R_lower (base := W.heap.size) (Kd.R_mono (ok := fun k => W.heap.size ≤ k) ⟨fun k hk => ?_, inner, ?_, ?_⟩ (fun _ hk => hk)) st.le)))
  · have : W.heap.size = k := by simpa [Value.ownBlock] using hk
    omega
  · have h2 := World.ownsRow_lit (base := W.heap.size) (e := e) (size := d.sz) W inner.toArray xs.length (Nat.le_refl _) (by simpa [maxLen] using hm) (by simpa using hrep.1)
    simpa using h2
  · refine hrep.imp_ (fun p c hp => d.M_mono (fun k hk => ⟨hk.2.1, fun he => ?_⟩) (Kd.M_below (d.M_bound hp) (below_alloc (Below.refl _ _) _)))
    have h3 : k = W.heap.size := by simpa [Value.ownBlock] using he
    have := hk.2.2.1
    omega
theorem ca2_ {Q1 : Ending → World → Prop} (N : Option Tmp) {f : FuncId} {fn : Func} (hf : P.funcs[f]? = some fn) (args : Array Value) {os : Array Operand} {ts : Array TypeId} (hc : Calls P f args W Q1) (h : ∀ e w', Q1 e w' → ∃ v, e = .returned v ∧ Kc (a.put N v) w')
    (hw : Region.wanted o (yielded ops a.tmps) = true := by rfl) (hN : o.dst = N := by rfl) (hname : (fn.name == "runtime.NumGoroutine") = false := by kernel_rfl) (hb : fn.body.isSome = true := by rfl) (hop : o.op = .call { callee := .value (.func f), args := os, argTypes := ts } := by rfl) (hargs : os.map a.eval = args := by ((try simp only [List.map_toArray, List.map_cons, List.map_nil]); first | done | rfl)) :
    if Region.wanted o (yielded ops a.tmps) = true then Oper.wp P o a W Kc Q else Kc (a.put N undef) W := goes_ hf hname hb args hw hN hop hargs (hc.mono h)
theorem sp1_ {i0 : Nat} {v0 : Value} (st : SX w0 Xs K L W) (h : ∀ w1, SX w0 Xs K (Bx g cs' t :: R) w1 → Kc a w1) (hw : Region.wanted o (yielded ops a.tmps) = true := by rfl) (hN : o.dst = none := by rfl) (hrun : (execOp a.eval o).run P W = .ok .skip (W.setCell ⟨g, i0, none⟩ v0) := by (go_simp; rfl))
    (hf : FocB L g cs t R := by infer_instance) (hk : Loc (Po K) := by infer_instance) (hl : Loc (St R) := by infer_instance) (hc : (cs.setIfInBounds i0 v0) = cs' := by (simp only [sa_, sb_, sc_]; rfl)) : if Region.wanted o (yielded ops a.tmps) = true then Oper.wp P o a W Kc Q else Kc (a.put none undef) W :=
  sk_ hN (h _ (st.set hf hc)) hw hrun
theorem sp2_ {i0 i1 : Nat} {v0 v1 : Value} (st : SX w0 Xs K L W) (h : ∀ w1, SX w0 Xs K (Bx g cs' t :: R) w1 → Kc a w1) (hw : Region.wanted o (yielded ops a.tmps) = true := by rfl) (hN : o.dst = none := by rfl) (hrun : (execOp a.eval o).run P W = .ok .skip ((W.setCell ⟨g, i0, none⟩ v0).setCell ⟨g, i1, none⟩ v1) := by (go_simp; rfl))
    (hf : FocB L g cs t R := by infer_instance) (hk : Loc (Po K) := by infer_instance) (hl : Loc (St R) := by infer_instance) (hc : ((cs.setIfInBounds i0 v0).setIfInBounds i1 v1) = cs' := by (simp only [sa_, sb_, sc_]; rfl)) : if Region.wanted o (yielded ops a.tmps) = true then Oper.wp P o a W Kc Q else Kc (a.put none undef) W :=
  sk_ hN (h _ ((st.set hf rfl).set (inferInstance : FocB (Bx g _ t :: R) g _ t R) hc)) hw hrun
theorem sp3_ {i0 i1 i2 : Nat} {v0 v1 v2 : Value} (st : SX w0 Xs K L W) (h : ∀ w1, SX w0 Xs K (Bx g cs' t :: R) w1 → Kc a w1) (hw : Region.wanted o (yielded ops a.tmps) = true := by rfl) (hN : o.dst = none := by rfl) (hrun : (execOp a.eval o).run P W = .ok .skip (((W.setCell ⟨g, i0, none⟩ v0).setCell ⟨g, i1, none⟩ v1).setCell ⟨g, i2, none⟩ v2) := by (go_simp; rfl))
    (hf : FocB L g cs t R := by infer_instance) (hk : Loc (Po K) := by infer_instance) (hl : Loc (St R) := by infer_instance) (hc : (((cs.setIfInBounds i0 v0).setIfInBounds i1 v1).setIfInBounds i2 v2) = cs' := by (simp only [sa_, sb_, sc_]; rfl)) : if Region.wanted o (yielded ops a.tmps) = true then Oper.wp P o a W Kc Q else Kc (a.put none undef) W :=
  sk_ hN (h _ (((st.set hf rfl).set (inferInstance : FocB (Bx g _ t :: R) g _ t R) rfl).set (inferInstance : FocB (Bx g _ t :: R) g _ t R) hc)) hw hrun
theorem sp4_ {i0 i1 i2 i3 : Nat} {v0 v1 v2 v3 : Value} (st : SX w0 Xs K L W) (h : ∀ w1, SX w0 Xs K (Bx g cs' t :: R) w1 → Kc a w1) (hw : Region.wanted o (yielded ops a.tmps) = true := by rfl) (hN : o.dst = none := by rfl) (hrun : (execOp a.eval o).run P W = .ok .skip ((((W.setCell ⟨g, i0, none⟩ v0).setCell ⟨g, i1, none⟩ v1).setCell ⟨g, i2, none⟩ v2).setCell ⟨g, i3, none⟩ v3) := by (go_simp; rfl))
    (hf : FocB L g cs t R := by infer_instance) (hk : Loc (Po K) := by infer_instance) (hl : Loc (St R) := by infer_instance) (hc : ((((cs.setIfInBounds i0 v0).setIfInBounds i1 v1).setIfInBounds i2 v2).setIfInBounds i3 v3) = cs' := by (simp only [sa_, sb_, sc_]; rfl)) : if Region.wanted o (yielded ops a.tmps) = true then Oper.wp P o a W Kc Q else Kc (a.put none undef) W :=
  sk_ hN (h _ ((((st.set hf rfl).set (inferInstance : FocB (Bx g _ t :: R) g _ t R) rfl).set (inferInstance : FocB (Bx g _ t :: R) g _ t R) rfl).set (inferInstance : FocB (Bx g _ t :: R) g _ t R) hc)) hw hrun
end
end Go.Proofs.YtmodbemkflkbeaaGreatDoorW.PrintWords
