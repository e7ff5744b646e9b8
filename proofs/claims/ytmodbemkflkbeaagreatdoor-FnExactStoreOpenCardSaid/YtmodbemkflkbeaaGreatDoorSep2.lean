/- Rows that turn: they stand among the facts with blocks of their own. -/
import Derived.Test.YtmodbemkflkbeaaGreatDoorSep
namespace Go.Proofs.YtmodbemkflkbeaaGreatDoorW.PrintWords
open Go.RowKit Go.Proofs.YtmodbemkflkbeaaGreatDoorW.PrintLast Go.Proofs.YtmodbemkflkbeaaGreatDoorW.PrintMore
theorem sj2_ {T0 T1 : Type} {a0 b0 : T0} {a1 b1 : T1} (h : some (a0, a1) = some (b0, b1)) : a0 = b0 ∧ a1 = b1 := by simpa using h
theorem sj3_ {T0 T1 T2 : Type} {a0 b0 : T0} {a1 b1 : T1} {a2 b2 : T2} (h : some (a0, a1, a2) = some (b0, b1, b2)) : a0 = b0 ∧ a1 = b1 ∧ a2 = b2 := by simpa using h
theorem sj4_ {T0 T1 T2 T3 : Type} {a0 b0 : T0} {a1 b1 : T1} {a2 b2 : T2} {a3 b3 : T3} (h : some (a0, a1, a2, a3) = some (b0, b1, b2, b3)) : a0 = b0 ∧ a1 = b1 ∧ a2 = b2 ∧ a3 = b3 := by simpa using h
theorem sj5_ {T0 T1 T2 T3 T4 : Type} {a0 b0 : T0} {a1 b1 : T1} {a2 b2 : T2} {a3 b3 : T3} {a4 b4 : T4} (h : some (a0, a1, a2, a3, a4) = some (b0, b1, b2, b3, b4)) : a0 = b0 ∧ a1 = b1 ∧ a2 = b2 ∧ a3 = b3 ∧ a4 = b4 := by simpa using h
theorem sj6_ {T0 T1 T2 T3 T4 T5 : Type} {a0 b0 : T0} {a1 b1 : T1} {a2 b2 : T2} {a3 b3 : T3} {a4 b4 : T4} {a5 b5 : T5} (h : some (a0, a1, a2, a3, a4, a5) = some (b0, b1, b2, b3, b4, b5)) : a0 = b0 ∧ a1 = b1 ∧ a2 = b2 ∧ a3 = b3 ∧ a4 = b4 ∧ a5 = b5 := by simpa using h
theorem sj7_ {T0 T1 T2 T3 T4 T5 T6 : Type} {a0 b0 : T0} {a1 b1 : T1} {a2 b2 : T2} {a3 b3 : T3} {a4 b4 : T4} {a5 b5 : T5} {a6 b6 : T6} (h : some (a0, a1, a2, a3, a4, a5, a6) = some (b0, b1, b2, b3, b4, b5, b6)) : a0 = b0 ∧ a1 = b1 ∧ a2 = b2 ∧ a3 = b3 ∧ a4 = b4 ∧ a5 = b5 ∧ a6 = b6 := by simpa using h
section
variable {P : Program} {ops : Array Oper} {rest : List Oper} {o : Oper} {a : Act} {Q : Exit → Act → World → Prop} {W : World}
theorem gd_ (N : Tmp) (h : wpList P ops Q (o :: rest) a W) (_e : o.dst = some N := by with_reducible rfl) : wpList P ops Q (o :: rest) a W := h
theorem gc_ (f : FuncId) {xs : Array Operand} {ts : Array TypeId} (h : wpList P ops Q (o :: rest) a W) (_e : o.op = .call { callee := .value (.func f), args := xs, argTypes := ts } := by with_reducible rfl) : wpList P ops Q (o :: rest) a W := h
theorem gs_ (p : Tmp) {t : TypeId} {v : Operand} (h : wpList P ops Q (o :: rest) a W) (_e : o.op = .store t (.tmp p) v := by with_reducible rfl) : wpList P ops Q (o :: rest) a W := h
end
theorem adz_ (a : Addr) : a.add 0 = a := by simp [Addr.add]
theorem add0_ (g n : Nat) : (⟨g, 0, none⟩ : Addr).add n = ⟨g, n, none⟩ := by cases n <;> simp [Addr.add]
instance {α : Type} {d : Kd α} {e n : Nat} {v : Value} {xs : List α} {L L' : List Asn} [i : Dr L L'] : Dr (AR d e n v xs :: L) L' := ⟨fun h => by
  obtain ⟨B2, hB, h2⟩ := St.drop h
  exact St.up (i.d h2) hB⟩
/-- What a fact of the list tells of the world that stands. -/
class GetL (w0 : World) (Xs : Nat → Prop) (W : World) (L : List Asn) (p : Prop) : Prop where
  g : ∀ {B : Nat → Prop}, Kb w0 Xs W → (∀ k, B k → Xs k ∨ w0.heap.size ≤ k) → St L W B → p
section
variable {w0 W : World} {Xs : Nat → Prop} {P L : List Asn} {A : Asn} {p : Prop}
theorem gtl_ (h : SX w0 Xs P L W) [i : GetL w0 Xs W L p] : p := by
  obtain ⟨hb, B1, B2, _, hs, _, h2⟩ := h
  exact i.g hb (fun k hk => hs k (.inr hk)) h2
instance (priority := high) [i : GetA w0 Xs W A p] : GetL w0 Xs W (A :: L) p := ⟨fun hb hB h => by obtain ⟨B1, B2, _, hs, h1, _⟩ := h; exact i.g hb (fun k hk => hB k (hs k (.inl hk))) h1⟩
instance [i : GetL w0 Xs W L p] : GetL w0 Xs W (A :: L) p := ⟨fun hb hB h => by obtain ⟨B1, B2, _, hs, _, h2⟩ := h; exact i.g hb (fun k hk => hB k (hs k (.inr hk))) h2⟩
theorem gK_ {α : Type} (h : SX w0 Xs P L W) (d : Kd α) (a : Option Addr) (xs : List α) [i : GetL w0 Xs W L (d.C W a xs.length xs)] : d.C W a xs.length xs := gtl_ h
end
section
variable {α : Type} {d : Kd α} {e n m c : Nat} {xs : List α} {a : Option Addr} {w0 W : World} {Xs : Nat → Prop}
instance (priority := low) : GetA w0 Xs W (AR d e n (.slice a m c) xs) (d.C W a xs.length xs) := ⟨fun _ _ h => (Kd.R_reads' h).2.2⟩
instance : GetA w0 Xs W (AR d e n (.slice a m c) xs) (m = xs.length) := ⟨fun _ _ h => (Kd.R_reads' h).1⟩
instance (priority := low) : ImA (AR d e n (.slice a m c) xs) (AR d e n (.slice a xs.length c) xs) := ⟨fun h => by
  obtain ⟨h1, _⟩ := Kd.R_reads' h
  subst h1
  exact h⟩
theorem iq_ {i : Int} {l : Nat} (h : (i < (l : Int)) = True) (hm : m = l) : (i < (m : Int)) = True := hm ▸ h
instance (priority := low) : GetA w0 Xs W (AR d e n (.slice a m c) xs) (xs.length ≤ c) := ⟨fun _ _ h => (Kd.R_reads' h).1 ▸ (Kd.R_reads' h).2.1⟩
end
/-- A row of the list. -/
class FocR {α : Type} (L : List Asn) (A : Option Addr) (xs : List α) (d : outParam (Kd α)) (e n m c : outParam Nat) (R : outParam (List Asn)) : Prop where
  foc : ∀ {W : World} {B : Nat → Prop}, St L W B → St (AR d e n (.slice A m c) xs :: R) W B
section
variable {α : Type} {d : Kd α} {e n m c : Nat} {xs : List α} {A : Option Addr} {L R : List Asn} {Y : Asn}
instance (priority := high) : FocR (AR d e n (.slice A m c) xs :: L) A xs d e n m c L := ⟨id⟩
instance [i : FocR L A xs d e n m c R] : FocR (Y :: L) A xs d e n m c (Y :: R) := ⟨fun h => St.swap (St.tail i.foc h)⟩
variable {w0 W : World} {Xs : Nat → Prop} {K : List Asn}
theorem SX.grow (st : SX w0 Xs K L W) (A : Option Addr) (xs : List α) [hf : FocR L A xs d e w0.heap.size m c R] [Loc (Po K)] [Loc (St R)] : ∃ ok : Nat → Prop, d.R e W w0.heap.size ok (.slice A m c) xs ∧ (∀ k, W.heap.size ≤ k → ok k) ∧
    ∀ (v1 : Value) (w1 : World) (ys : List α), d.R e w1 w0.heap.size ok v1 ys → W.grownBy w1 (Value.slice A m c).ownBlock → SX w0 Xs K (AR d e w0.heap.size v1 ys :: R) w1 := by
  obtain ⟨hb, B1, B2, hd, hs, h1, h2⟩ := st
  obtain ⟨B3, B4, hd2, hs2, h3, h4⟩ := hf.foc h2
  refine ⟨fun k => B3 k ∨ W.heap.size ≤ k, Kd.R_mono h3 (fun _ hk => .inl hk), fun _ hk => .inr hk, fun v1 w1 ys hr hg => ?_⟩
  have hne : ∀ k, ¬ B3 k → some k ≠ (Value.slice A m c).ownBlock := fun k hk he => hk (h3.1 k he.symm)
  refine ⟨⟨hg.os.trans hb.os, hg.tape.trans hb.tape, hg.output.trans hb.output, Nat.le_trans hb.size hg.size, fun k hk hx => (hg.block k (Nat.lt_of_lt_of_le hk hb.size) (hne k (fun h => (hs k (.inr (hs2 k (.inl h)))).elim hx (fun h => Nat.lt_irrefl _ (Nat.lt_of_lt_of_le hk h))))).trans (hb.block k hk hx)⟩,
    fun k => B1 k ∧ k < W.heap.size, fun k => (B2 k ∧ k < W.heap.size) ∨ W.heap.size ≤ k, ?_, ?_, Loc.mv (fun k hk hlt => ⟨hk, hlt⟩) (fun k hk hlt => hg.block k hlt (hne k (fun h => hd k hk (hs2 k (.inl h))))) h1,
    fun k => (B3 k ∧ k < W.heap.size) ∨ W.heap.size ≤ k, fun k => B4 k ∧ k < W.heap.size, ?_, ?_, Kd.R_mono hr (fun k hk => ?_), Loc.mv (fun k hk hlt => ⟨hk, hlt⟩) (fun k hk hlt => hg.block k hlt (hne k (fun h => hd2 k h hk))) h4⟩
  · rintro k ⟨hk, hlt⟩ (⟨h, _⟩ | h)
    · exact hd k hk h
    · omega
  · rintro k (⟨hk, _⟩ | ⟨hk, _⟩ | hk)
    · exact hs k (.inl hk)
    · exact hs k (.inr hk)
    · exact .inr (Nat.le_trans hb.size hk)
  · rintro k (⟨hk, _⟩ | h) ⟨h5, h6⟩
    · exact hd2 k hk h5
    · omega
  · rintro k ((⟨hk, hlt⟩ | h) | ⟨hk, hlt⟩)
    · exact .inl ⟨hs2 k (.inl hk), hlt⟩
    · exact .inr h
    · exact .inl ⟨hs2 k (.inr hk), hlt⟩
  · rcases Nat.lt_or_ge k W.heap.size with hlt | hge
    · exact .inl ⟨hk.elim id (fun h => absurd hlt (Nat.not_lt.2 h)), hlt⟩
    · exact .inr hge
/-- Behind a call that turns the block g alone, a row of its own joins the list. -/
theorem SX.skb {P : List Asn} {A : Asn} {I I' : World → Prop} {g : Nat} {W1 : World} (h : SX w0 Xs P L W) [i : LcI I g] [t : Tk L (Ai I g) R] [Loc (Po P)] [Loc (St R)] [Loc A] {wo : World} (hk : KeepBut W W1 g none) (hb0 : Below wo.heap.size wo W) (hb1 : Below wo.heap.size wo W1) (hI : I' W1) (ha : A W1 (fun k => W.heap.size ≤ k)) : SX w0 Xs P (A :: Ai I' g :: R) W1 := by
  obtain ⟨h0, B1, B2, hd, hs, h1, h2⟩ := h
  obtain ⟨B3, B4, hd2, hs2, h3, h4⟩ := t.tk h2
  have hg : B2 g := hs2 g (.inl h3.2)
  refine ⟨⟨hb1.os.trans (hb0.os.symm.trans h0.os), hb1.tape.trans (hb0.tape.symm.trans h0.tape), hb1.output.trans (hb0.output.symm.trans h0.output), Nat.le_trans h0.size hk.1, fun k hk2 hx => (hk.2 k (Nat.lt_of_lt_of_le hk2 h0.size) (by rintro rfl; exact (hs k (.inr hg)).elim hx (fun h5 => Nat.lt_irrefl _ (Nat.lt_of_lt_of_le hk2 h5))) (by simp)).trans (h0.block k hk2 hx)⟩,
    fun k => B1 k ∧ k < W.heap.size, fun k => W.heap.size ≤ k ∨ B2 k ∧ k < W.heap.size, ?_, ?_, Loc.mv (fun k hk hlt => ⟨hk, hlt⟩) (fun k hB hlt => hk.2 k hlt (by rintro rfl; exact hd _ hB hg) (by simp)) h1,
    fun k => W.heap.size ≤ k, fun k => B2 k ∧ k < W.heap.size, fun k h5 h6 => by have := h6.2; omega, fun k hk => hk, ha,
    fun k => k = g ∧ g < W.heap.size, fun k => B4 k ∧ k < W.heap.size, ?_, ?_, ⟨hI, ⟨rfl, i.lt h3.1⟩⟩, Loc.mv (fun k hk hlt => ⟨hk, hlt⟩) (fun k hB hlt => hk.2 k hlt (by rintro rfl; exact hd2 _ h3.2 hB) (by simp)) h4⟩
  · rintro k ⟨h5, h6⟩ (h7 | h7)
    · omega
    · exact hd k h5 h7.1
  · rintro k (h5 | h5 | h5)
    · exact hs k (.inl h5.1)
    · exact .inr (Nat.le_trans h0.size h5)
    · exact hs k (.inr h5.1)
  · rintro k ⟨rfl, _⟩ h6
    exact hd2 _ h3.2 h6.1
  · rintro k (⟨rfl, h6⟩ | h6)
    · exact ⟨hg, h6⟩
    · exact ⟨hs2 _ (.inr h6.1), h6.2⟩
/-- Two rows of a call, told apart: both join the list. -/
theorem SX.b2 {α β : Type} {d : Kd α} {d' : Kd β} {enc : α → Value} {h1 : ∀ x, (enc x).oneCell' = true} {enc' : β → Value} {h1' : ∀ x, (enc' x).oneCell' = true} {e e' : Nat} {v v' : Value} {xs : List α} {ys : List β} {P : List Asn} {W1 : World} (h : SX w0 Xs P L W) [Loc (Po P)] [Loc (St L)] (hb : Below W.heap.size W W1)
    (ha : d.R e W1 W.heap.size (fun k => some k ≠ v'.ownBlock) v xs) (hc : d'.R e' W1 W.heap.size (fun k => some k ≠ v.ownBlock) v' ys) (hd : d = Kd.scalar enc h1 := by rfl) (hd' : d' = Kd.scalar enc' h1' := by rfl) : SX w0 Xs P (AR d e w0.heap.size v xs :: AR d' e' w0.heap.size v' ys :: L) W1 := by
  subst hd hd'
  have hA : (Kd.scalar enc h1).R e W1 w0.heap.size (fun k => some k = v.ownBlock ∧ W.heap.size ≤ k) v xs := Kd.R_lower ⟨fun k hk => ⟨hk.symm, (Kd.R_bound ha).1 k hk |>.2.1⟩, ha.2⟩ h.le
  have hC : (Kd.scalar enc' h1').R e' W1 w0.heap.size (fun k => some k = v'.ownBlock ∧ W.heap.size ≤ k) v' ys := Kd.R_lower ⟨fun k hk => ⟨hk.symm, (Kd.R_bound hc).1 k hk |>.2.1⟩, hc.2⟩ h.le
  have hh : St (Po P :: L) W1 (fun k => (Xs k ∨ w0.heap.size ≤ k) ∧ k < W.heap.size) := Loc.mv (fun k hk hlt => ⟨hk, hlt⟩) (fun k _ hlt => hb.block k hlt) h.2
  refine ⟨h.1.below hb, St.swap (St.tail St.swap ⟨fun k => some k = v.ownBlock ∧ W.heap.size ≤ k, fun k => (some k = v'.ownBlock ∧ W.heap.size ≤ k) ∨ ((Xs k ∨ w0.heap.size ≤ k) ∧ k < W.heap.size), ?_, ?_, hA,
    fun k => some k = v'.ownBlock ∧ W.heap.size ≤ k, fun k => (Xs k ∨ w0.heap.size ≤ k) ∧ k < W.heap.size, fun k h5 h6 => by have := h6.2; have := h5.2; omega, fun k hk => hk, hC, hh⟩)⟩
  · rintro k ⟨h5, h6⟩ (⟨h7, _⟩ | ⟨_, h7⟩)
    · exact ha.1 k h5.symm h7
    · omega
  · rintro k (⟨_, h5⟩ | ⟨_, h5⟩ | ⟨h5, _⟩)
    · exact .inr (Nat.le_trans h.1.size h5)
    · exact .inr (Nat.le_trans h.1.size h5)
    · exact h5
/-- The empty row. -/
theorem SX.nl (st : SX w0 Xs K L W) (d : Kd α) (e : Nat) : SX w0 Xs K (AR d e w0.heap.size (.slice none 0 0) [] :: L) W :=
  ⟨st.1, St.swap ⟨fun _ => False, fun k => Xs k ∨ w0.heap.size ≤ k, fun _ h => h.elim, fun _ hk => hk.elim False.elim id, Kd.R_nil d e W _ _, st.2⟩⟩
/-- A row that turns no more. -/
theorem SX.lp (st : SX w0 Xs K L W) (A : Option Addr) (xs : List α) [hf : FocR L A xs d e n m c R] [Loc (Po K)] : SX w0 Xs (AR d e n (.slice A m c) xs :: K) R W := by
  obtain ⟨hb, B1, B2, hd, hs, h1, h2⟩ := st
  obtain ⟨B3, B4, hd2, hs2, h3, h4⟩ := hf.foc h2
  exact ⟨hb, fun k => B1 k ∨ B3 k, B4, fun k hk h => hk.elim (fun h5 => hd k h5 (hs2 k (.inr h))) (fun h5 => hd2 k h5 h), fun k hk => hk.elim (fun h => h.elim (fun h5 => hs k (.inl h5)) (fun h5 => hs k (.inr (hs2 k (.inl h5))))) (fun h5 => hs k (.inr (hs2 k (.inr h5)))),
    ⟨Kd.R_mono h3 (fun _ hk => .inr hk), Loc.mv (fun _ hk _ => .inl hk) (fun _ _ _ => rfl) h1⟩, h4⟩
theorem tap_ {β : Type} {d' : Kd β} {e' n' m' c' : Nat} {R' : List Asn} (st : SX w0 Xs K L W) (A : Option Addr) (xs : List α) (A' : Option Addr) (ys : List β) [hf : FocR L A xs d e n m c R] [hg : FocR R A' ys d' e' n' m' c' R'] :
    d.R e W n (fun k => some k ≠ (Value.slice A' m' c').ownBlock) (.slice A m c) xs ∧ d'.R e' W n' (fun k => some k ≠ (Value.slice A m c).ownBlock) (.slice A' m' c') ys := by
  obtain ⟨_, _, _, _, _, _, h2⟩ := st
  obtain ⟨B3, B4, hd, hs, h3, h4⟩ := hf.foc h2
  obtain ⟨B5, B6, _, hs2, h5, _⟩ := hg.foc h4
  exact ⟨Kd.R_mono h3 (fun k hk he => hd k hk (hs2 k (.inl (h5.1 k he.symm)))), Kd.R_mono h5 (fun k hk he => hd k (h3.1 k he.symm) (hs2 k (.inl hk)))⟩
theorem nn_ {v : Value} (h : d.R e W n (fun _ => True) v xs) : d.R e W n (fun k => some k ≠ (Value.slice none 0 0).ownBlock) v xs := Kd.R_mono h (fun k _ he => by simp [Value.ownBlock] at he)
end
section
variable {P : Program} {ops : Array Oper} {rest : List Oper} {o : Oper} {a : Act} {Q : Exit → Act → World → Prop} {w0 W : World} {Xs : Nat → Prop} {K L R : List Asn} {α : Type} {d : Kd α} {e m c : Nat} {s x : Operand} {t : TypeId}
theorem ap_ (A : Option Addr) (xs : List α) (p : α) (cs : List Value) (z : Value) (bytes : Nat) (st : SX w0 Xs K L W) [hf : FocR L A xs d e w0.heap.size m c R] [Loc (Po K)] [Loc (St R)] (ht : P.underlying t = some (.slice e))
    (h : ∀ A1 c1 w1, SX w0 Xs K (AR d e w0.heap.size (.slice A1 (xs ++ [p]).length c1) (xs ++ [p]) :: R) w1 → wpList P ops Q rest (a.put o.dst (.slice A1 (xs ++ [p]).length c1)) w1)
    (hgd : o.guard = none := by rfl) (ho : o.op = .call { callee := .builtin .append, args := #[s, x], argTypes := #[t, t] } := by rfl) (hinfo : (P.info? e).map (fun i => (i.zero, i.size, i.bytes)) = some (some z, d.sz, bytes) := by kernel_rfl)
    (hz : z.cells.size = d.sz := by rfl) (hs0 : 0 < d.sz := by decide) (hb0 : 0 < bytes := by decide) (hs : a.eval s = .slice A m c := by rfl) (hx : a.eval x = .slice (some ⟨W.heap.size, 0, none⟩) 1 1 := by rfl) (hp : d.M W w0.heap.size (fun _ => False) p cs := by rfl) (hl : (xs.length + 1) * bytes ≤ 140737488355328 := by omega) :
    wpList P ops Q (o :: rest) a (W.alloc (.cells cs.toArray e)) := by
  obtain ⟨ok, hR, hfr, hst⟩ := st.grow A xs
  refine Kd.R_append d w0.heap.size hgd s x t e z bytes ho ht hinfo hz hs0 hb0 _ xs p cs ok (fun _ => False) hs hx hp (fun _ h => h.elim) hfr hR (Below.refl _ _) st.le hl (fun v1 w1 hr _ hg _ => ?_)
  obtain ⟨A1, c1, rfl⟩ := Kd.R_slice hr
  exact h A1 c1 w1 (hst _ _ _ hr hg)
theorem apr_ (A : Option Addr) (xs ys : List α) (B : Option Addr) (c' : Nat) (z : Value) (bytes : Nat) (st : SX w0 Xs K L W) [hf : FocR L A xs d e w0.heap.size m c R] [Loc (Po K)] [Loc (St R)] (ht : P.underlying t = some (.slice e)) (HR : d.C W B ys.length ys)
    (h : ∀ A1 c1 w1, SX w0 Xs K (AR d e w0.heap.size (.slice A1 (xs ++ ys).length c1) (xs ++ ys) :: R) w1 → wpList P ops Q rest (a.put o.dst (.slice A1 (xs ++ ys).length c1)) w1)
    (hKM : ∀ x cs, d.K W x cs → d.M W w0.heap.size (fun _ => False) x cs := by exact fun _ _ h => h) (hgd : o.guard = none := by rfl) (ho : o.op = .call { callee := .builtin .append, args := #[s, x], argTypes := #[t, t] } := by rfl) (hinfo : (P.info? e).map (fun i => (i.zero, i.size, i.bytes)) = some (some z, d.sz, bytes) := by kernel_rfl)
    (hz : z.cells.size = d.sz := by rfl) (hs0 : 0 < d.sz := by decide) (hb0 : 0 < bytes := by decide) (hs : a.eval s = .slice A m c := by rfl) (hx : a.eval x = .slice B ys.length c' := by rfl) (hl : (xs.length + ys.length) * bytes ≤ 140737488355328 := by omega) : wpList P ops Q (o :: rest) a W := by
  obtain ⟨ok, hR, hfr, hst⟩ := st.grow A xs
  refine Kd.R_append_rows d w0.heap.size hgd s x t e z bytes ho ht hinfo hz hs0 hb0 _ xs ys B ys.length c' ok (fun _ => False) hs hx hR HR hKM (fun _ h => h.elim) hfr (Below.refl _ _) st.le hl (fun v1 w1 hr _ hg _ => ?_)
  obtain ⟨A1, c1, rfl⟩ := Kd.R_slice hr
  exact h A1 c1 w1 (hst _ _ _ hr hg)
theorem apr0_ (A : Option Addr) (ys : List α) (B : Option Addr) (c' : Nat) (z : Value) (bytes : Nat) (st : SX w0 Xs K L W) [hf : FocR L A ([] : List α) d e w0.heap.size m c R] [Loc (Po K)] [Loc (St R)] (ht : P.underlying t = some (.slice e)) (HR : d.C W B ys.length ys)
    (h : ∀ A1 c1 w1, SX w0 Xs K (AR d e w0.heap.size (.slice A1 ys.length c1) ys :: R) w1 → wpList P ops Q rest (a.put o.dst (.slice A1 ys.length c1)) w1)
    (hKM : ∀ x cs, d.K W x cs → d.M W w0.heap.size (fun _ => False) x cs := by exact fun _ _ h => h) (hgd : o.guard = none := by rfl) (ho : o.op = .call { callee := .builtin .append, args := #[s, x], argTypes := #[t, t] } := by rfl) (hinfo : (P.info? e).map (fun i => (i.zero, i.size, i.bytes)) = some (some z, d.sz, bytes) := by kernel_rfl)
    (hz : z.cells.size = d.sz := by rfl) (hs0 : 0 < d.sz := by decide) (hb0 : 0 < bytes := by decide) (hs : a.eval s = .slice A m c := by rfl) (hx : a.eval x = .slice B ys.length c' := by rfl) (hl : (0 + ys.length) * bytes ≤ 140737488355328 := by omega) : wpList P ops Q (o :: rest) a W :=
  apr_ A ([] : List α) ys B c' z bytes st ht HR h hKM hgd ho hinfo hz hs0 hb0 hs hx (by simpa using hl)
theorem SX.rc {enc : α → Value} {h1 : ∀ x, (enc x).oneCell' = true} (st : SX w0 Xs K L W) (A : Option Addr) (xs : List α) [hf : FocR L A xs (Kd.scalar enc h1) e w0.heap.size m c R] (i : Int) (z : α) {ad : Addr} (hA : A = some ad) (h0 : 0 ≤ i) (hi : i < (xs.length : Int)) :
    W.cell? (ad.add i.toNat) = some (enc (rdOf z xs i)) ∧ W.frozen? (ad.add i.toNat) = false := by
  obtain ⟨_, _, _, _, _, _, h2⟩ := st
  obtain ⟨_, _, _, _, h3, _⟩ := hf.foc h2
  obtain ⟨g, cap, hv, _⟩ := Kd.R_form h3 (by omega)
  injection hv with h4 h5 h6
  obtain rfl := Option.some.inj (hA.symm.trans h4)
  subst h4
  have h := Kd.R_celln z h3 i h0 (by omega)
  rw [add0_]
  exact h
theorem pt_ {enc : α → Value} {h1 : ∀ x, (enc x).oneCell' = true} (A : Option Addr) (xs : List α) (i : Int) (y : α) {ad : Addr} (hA : A = some ad) (st : SX w0 Xs K L W) [hf : FocR L A xs d e w0.heap.size m c R] [Loc (Po K)] [Loc (St R)] (h0 : 0 ≤ i) (hi : i < (xs.length : Int))
    (h : ∀ w1, SX w0 Xs K (AR d e w0.heap.size (.slice A m c) (xs.set i.toNat y) :: R) w1 → wpList P ops Q rest a w1)
    (hd : d = Kd.scalar enc h1 := by rfl) (hgd : o.guard = none := by rfl) (hN : o.dst = none := by rfl) {t' : TypeId} {p : Tmp} {x : Operand} (ho : o.op = .store t' (.tmp p) x := by rfl) (hrun : (execOp a.eval o).run P W = .ok .skip (W.setCell (ad.add i.toNat) (enc y)) := by first | (go_simp; done) | (go_simp; rfl)) : wpList P ops Q (o :: rest) a W := by
  subst hd
  refine store_event hgd ho hN hrun (fun w' e' => ?_)
  rw [e']
  obtain ⟨ok, hR, hfr, hst⟩ := st.grow A xs
  obtain ⟨g, cap, hv, _⟩ := Kd.R_form hR (by omega)
  injection hv with h4 h5 h6
  obtain rfl := Option.some.inj (hA.symm.trans h4)
  subst h4
  obtain ⟨h7, h8⟩ := Kd.R_putg hR i y
  rw [add0_]
  exact h _ (hst _ _ _ h7 h8)
/-- A row of the call's own, empty or told: it joins the list. -/
theorem nwl_ {α : Type} (d : Kd α) (e : Nat) (xs : List α) (inner : List Value) [Loc (Po K)] [Loc (St L)] (st : SX w0 Xs K L W) (h : ∀ A c w1, SX w0 Xs K (AR d e w0.heap.size (.slice A xs.length c) xs :: L) w1 → wpList P ops Q rest (a.put o.dst (.slice A xs.length c)) w1)
    (hgd : o.guard = none := by rfl) (hrun : (execOp a.eval o).run P W = .ok (.value (.slice (some ⟨W.heap.size, 0, none⟩) xs.length xs.length)) (W.alloc (.cells inner.toArray e)) := by first | (go_simp; done) | (go_simp; rfl))
    (hrep : Reps (d.M W W.heap.size (fun _ => True)) d.sz xs inner := by repeat (first | exact Reps.none _ _ | refine Reps.one rfl ?_)) (hm : xs.length ≤ 9223372036854775807 := by simp) : wpList P ops Q (o :: rest) a W := by
  refine Kd.event_run hgd hrun (h _ _ _ (st.box (A := AR d e w0.heap.size _ xs) (below_alloc (Below.refl _ _) _) (Kd.R_lower (base := W.heap.size) (Kd.R_mono (ok := fun k => W.heap.size ≤ k) ⟨fun k hk => ?_, inner, ?_, ?_⟩ (fun _ hk => hk)) st.le)))
  · have : W.heap.size = k := by simpa [Value.ownBlock] using hk
    omega
  · have h2 := World.ownsRow_lit (base := W.heap.size) (e := e) (size := d.sz) W inner.toArray xs.length (Nat.le_refl _) (by simpa [maxLen] using hm) (by simpa using hrep.1)
    simpa using h2
  · refine hrep.imp_ (fun p c hp => d.M_mono (fun k hk => ⟨hk.2.1, fun he => ?_⟩) (Kd.M_below (d.M_bound hp) (below_alloc (Below.refl _ _) _)))
    have h3 : k = W.heap.size := by simpa [Value.ownBlock] using he
    have := hk.2.2.1
    omega
end
section
variable {P : Program} {Q : Exit → Act → World → Prop} {ops : Array Oper} {o : Oper} {a : Act} {Kc : Act → World → Prop} {w0 W : World} {Xs : Nat → Prop} {K L R : List Asn} {α : Type} {d : Kd α} {e m c : Nat} {s x : Operand} {t : TypeId}
theorem bs2_ (_ : SX w0 Xs K L W) (cs : List Value) (e : Nat) (h : Kc (a.put o.dst (.slice (some ⟨W.heap.size, 0, none⟩) 1 1)) (W.alloc (.cells cs.toArray e)))
    (hw : Region.wanted o (yielded ops a.tmps) = true := by rfl) (hrun : (execOp a.eval o).run P W = .ok (.value (.slice (some ⟨W.heap.size, 0, none⟩) 1 1)) (W.alloc (.cells cs.toArray e)) := by first | (go_simp; done) | (go_simp; rfl)) : if Region.wanted o (yielded ops a.tmps) = true then Oper.wp P o a W Kc Q else Kc (a.put o.dst undef) W := event_step hw hrun h
theorem ap2_ (A : Option Addr) (xs : List α) (p : α) (cs : List Value) (z : Value) (bytes : Nat) (st : SX w0 Xs K L W) [hf : FocR L A xs d e w0.heap.size m c R] [Loc (Po K)] [Loc (St R)] (ht : P.underlying t = some (.slice e))
    (h : ∀ A1 c1 w1, SX w0 Xs K (AR d e w0.heap.size (.slice A1 (xs ++ [p]).length c1) (xs ++ [p]) :: R) w1 → Kc (a.put o.dst (.slice A1 (xs ++ [p]).length c1)) w1)
    (hw : Region.wanted o (yielded ops a.tmps) = true := by rfl) (ho : o.op = .call { callee := .builtin .append, args := #[s, x], argTypes := #[t, t] } := by rfl) (hinfo : (P.info? e).map (fun i => (i.zero, i.size, i.bytes)) = some (some z, d.sz, bytes) := by kernel_rfl)
    (hz : z.cells.size = d.sz := by rfl) (hs0 : 0 < d.sz := by decide) (hb0 : 0 < bytes := by decide) (hs : a.eval s = .slice A m c := by rfl) (hx : a.eval x = .slice (some ⟨W.heap.size, 0, none⟩) 1 1 := by rfl) (hp : d.M W w0.heap.size (fun _ => False) p cs := by rfl) (hl : (xs.length + 1) * bytes ≤ 140737488355328 := by omega) :
    if Region.wanted o (yielded ops a.tmps) = true then Oper.wp P o a (W.alloc (.cells cs.toArray e)) Kc Q else Kc (a.put o.dst undef) (W.alloc (.cells cs.toArray e)) := by
  obtain ⟨ok, hR, hfr, hst⟩ := st.grow A xs
  refine Kd.R_append_step d w0.heap.size hw s x t e z bytes ho ht hinfo hz hs0 hb0 _ xs p cs ok (fun _ => False) hs hx hp (fun _ h => h.elim) hfr hR (Below.refl _ _) st.le hl (fun v1 w1 hr _ hg _ => ?_)
  obtain ⟨A1, c1, rfl⟩ := Kd.R_slice hr
  exact h A1 c1 w1 (hst _ _ _ hr hg)
theorem apr2_ (A : Option Addr) (xs ys : List α) (B : Option Addr) (c' : Nat) (z : Value) (bytes : Nat) (st : SX w0 Xs K L W) [hf : FocR L A xs d e w0.heap.size m c R] [Loc (Po K)] [Loc (St R)] (ht : P.underlying t = some (.slice e)) (HR : d.C W B ys.length ys)
    (h : ∀ A1 c1 w1, SX w0 Xs K (AR d e w0.heap.size (.slice A1 (xs ++ ys).length c1) (xs ++ ys) :: R) w1 → Kc (a.put o.dst (.slice A1 (xs ++ ys).length c1)) w1)
    (hKM : ∀ x cs, d.K W x cs → d.M W w0.heap.size (fun _ => False) x cs := by exact fun _ _ h => h) (hw : Region.wanted o (yielded ops a.tmps) = true := by rfl) (ho : o.op = .call { callee := .builtin .append, args := #[s, x], argTypes := #[t, t] } := by rfl) (hinfo : (P.info? e).map (fun i => (i.zero, i.size, i.bytes)) = some (some z, d.sz, bytes) := by kernel_rfl)
    (hz : z.cells.size = d.sz := by rfl) (hs0 : 0 < d.sz := by decide) (hb0 : 0 < bytes := by decide) (hs : a.eval s = .slice A m c := by rfl) (hx : a.eval x = .slice B ys.length c' := by rfl) (hl : (xs.length + ys.length) * bytes ≤ 140737488355328 := by omega) : if Region.wanted o (yielded ops a.tmps) = true then Oper.wp P o a W Kc Q else Kc (a.put o.dst undef) W := by
  obtain ⟨ok, hR, hfr, hst⟩ := st.grow A xs
  refine Kd.R_append_rows_step d w0.heap.size hw s x t e z bytes ho ht hinfo hz hs0 hb0 _ xs ys B ys.length c' ok (fun _ => False) hs hx hR HR hKM (fun _ h => h.elim) hfr (Below.refl _ _) st.le hl (fun v1 w1 hr _ hg _ => ?_)
  obtain ⟨A1, c1, rfl⟩ := Kd.R_slice hr
  exact h A1 c1 w1 (hst _ _ _ hr hg)
theorem apr02_ (A : Option Addr) (ys : List α) (B : Option Addr) (c' : Nat) (z : Value) (bytes : Nat) (st : SX w0 Xs K L W) [hf : FocR L A ([] : List α) d e w0.heap.size m c R] [Loc (Po K)] [Loc (St R)] (ht : P.underlying t = some (.slice e)) (HR : d.C W B ys.length ys)
    (h : ∀ A1 c1 w1, SX w0 Xs K (AR d e w0.heap.size (.slice A1 ys.length c1) ys :: R) w1 → Kc (a.put o.dst (.slice A1 ys.length c1)) w1)
    (hKM : ∀ x cs, d.K W x cs → d.M W w0.heap.size (fun _ => False) x cs := by exact fun _ _ h => h) (hw : Region.wanted o (yielded ops a.tmps) = true := by rfl) (ho : o.op = .call { callee := .builtin .append, args := #[s, x], argTypes := #[t, t] } := by rfl) (hinfo : (P.info? e).map (fun i => (i.zero, i.size, i.bytes)) = some (some z, d.sz, bytes) := by kernel_rfl)
    (hz : z.cells.size = d.sz := by rfl) (hs0 : 0 < d.sz := by decide) (hb0 : 0 < bytes := by decide) (hs : a.eval s = .slice A m c := by rfl) (hx : a.eval x = .slice B ys.length c' := by rfl) (hl : (0 + ys.length) * bytes ≤ 140737488355328 := by omega) : if Region.wanted o (yielded ops a.tmps) = true then Oper.wp P o a W Kc Q else Kc (a.put o.dst undef) W :=
  apr2_ A ([] : List α) ys B c' z bytes st ht HR h hKM hw ho hinfo hz hs0 hb0 hs hx (by simpa using hl)
theorem nwl2_ {α : Type} (d : Kd α) (e : Nat) (xs : List α) (inner : List Value) [Loc (Po K)] [Loc (St L)] (st : SX w0 Xs K L W) (h : ∀ A c w1, SX w0 Xs K (AR d e w0.heap.size (.slice A xs.length c) xs :: L) w1 → Kc (a.put o.dst (.slice A xs.length c)) w1)
    (hw : Region.wanted o (yielded ops a.tmps) = true := by rfl) (hrun : (execOp a.eval o).run P W = .ok (.value (.slice (some ⟨W.heap.size, 0, none⟩) xs.length xs.length)) (W.alloc (.cells inner.toArray e)) := by first | (go_simp; done) | (go_simp; rfl))
    (hrep : Reps (d.M W W.heap.size (fun _ => True)) d.sz xs inner := by repeat (first | exact Reps.none _ _ | refine Reps.one rfl ?_)) (hm : xs.length ≤ 9223372036854775807 := by simp) : if Region.wanted o (yielded ops a.tmps) = true then Oper.wp P o a W Kc Q else Kc (a.put o.dst undef) W := by
  refine event_step hw hrun (h _ _ _ (st.box (A := AR d e w0.heap.size _ xs) (below_alloc (Below.refl _ _) _) (Kd.R_lower (base := W.heap.size) (Kd.R_mono (ok := fun k => W.heap.size ≤ k) ⟨fun k hk => ?_, inner, ?_, ?_⟩ (fun _ hk => hk)) st.le)))
  · have : W.heap.size = k := by simpa [Value.ownBlock] using hk
    omega
  · have h2 := World.ownsRow_lit (base := W.heap.size) (e := e) (size := d.sz) W inner.toArray xs.length (Nat.le_refl _) (by simpa [maxLen] using hm) (by simpa using hrep.1)
    simpa using h2
  · refine hrep.imp_ (fun p c hp => d.M_mono (fun k hk => ⟨hk.2.1, fun he => ?_⟩) (Kd.M_below (d.M_bound hp) (below_alloc (Below.refl _ _) _)))
    have h3 : k = W.heap.size := by simpa [Value.ownBlock] using he
    have := hk.2.2.1
    omega
end
end Go.Proofs.YtmodbemkflkbeaaGreatDoorW.PrintWords
