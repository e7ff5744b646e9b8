/- More words for the steps of walks: tests by a lemma, a region's steps without its lists. Each statement bears its conditions. -/
import Derived.Test.YtmodbemkflkbeaaGreatDoorExt3
namespace Go.Proofs.YtmodbemkflkbeaaGreatDoorW.PrintWords
open Go.RowKit Go.Proofs.YtmodbemkflkbeaaGreatDoorW.PrintLast Go.Proofs.YtmodbemkflkbeaaGreatDoorW.PrintMore
theorem kn_ {P : Prop} (h : P := by first | exact Kd.R_nil _ _ _ _ _ | exact Kd.N_nil _ _ _ _ _ | exact Kd.V_nil _ _ _ _ _ | exact Kd.Q_nil _ _ _ _ _ | exact Kd.S_nil _ _ _ _ _) : P := h
theorem dz_ {P : Prop} (h : P := by repeat (first | exact Drawn0.refl _ | apply Drawn0.step)) : P := h
theorem a2_ {P Q R : Prop} (f : P → Q → R) (p : P := by first | exact od_ | omega) (q : Q := by first | exact od_ | omega) : (P = True) ∧ (Q = True) ∧ R := ⟨eq_true p, eq_true q, f p q⟩
section
variable {α : Type} {c : Prop} [Decidable c] {a b : Option α} {r : α} {x y : Int}
theorem it_ (H : (if c then a else b) = some r) : (decide c = true ∧ a = some r) ∨ (decide c = false ∧ b = some r) := by
  by_cases h : c
  · rw [if_pos h] at H; exact .inl ⟨decide_eq_true h, H⟩
  · rw [if_neg h] at H; exact .inr ⟨decide_eq_false h, H⟩
theorem ig_ (H : (if x > y then a else b) = some r) : (decide (y < x) = true ∧ a = some r) ∨ (decide (y < x) = false ∧ b = some r) := it_ H
theorem ih_ (H : (if x ≥ y then a else b) = some r) : (decide (y ≤ x) = true ∧ a = some r) ∨ (decide (y ≤ x) = false ∧ b = some r) := it_ H
theorem i0_ (H : (if c then a else none) = some r) : c ∧ a = some r := by
  by_cases h : c
  · rw [if_pos h] at H; exact ⟨h, H⟩
  · rw [if_neg h] at H; cases H
theorem il_ (H : (if c then a else none) = some r) : Aside0 c ∧ a = some r := ⟨⟨(i0_ H).1⟩, (i0_ H).2⟩
theorem in_ (H : (if c then a else none) = some r) : decide c = true ∧ a = some r := ⟨decide_eq_true (i0_ H).1, (i0_ H).2⟩
theorem jg_ (H : (if x > y then a else none) = some r) : decide (y < x) = true ∧ a = some r := in_ H
theorem jh_ (H : (if x ≥ y then a else none) = some r) : decide (y ≤ x) = true ∧ a = some r := in_ H
theorem bt_ (H : (if true = true then a else b) = some r) : a = some r := by rw [if_pos rfl] at H; exact H
theorem bf_ (H : (if false = true then a else b) = some r) : b = some r := by rw [if_neg (by decide)] at H; exact H
end
section
variable {w : World} {a : Addr} {v u0 u1 u2 u3 : Value} {g i0 i1 i2 i3 : Nat}
theorem c2_ (h : a.block ≠ g) (hv : w.cell? a = some v) : ((w.setCell ⟨g, i0, none⟩ u0).setCell ⟨g, i1, none⟩ u1).cell? a = some v := (cell_far (p := ⟨g, _, none⟩) h _).trans ((cell_far (p := ⟨g, _, none⟩) h _).trans hv)
theorem c3_ (h : a.block ≠ g) (hv : w.cell? a = some v) : (((w.setCell ⟨g, i0, none⟩ u0).setCell ⟨g, i1, none⟩ u1).setCell ⟨g, i2, none⟩ u2).cell? a = some v := (cell_far (p := ⟨g, _, none⟩) h _).trans (c2_ h hv)
theorem c4_ (h : a.block ≠ g) (hv : w.cell? a = some v) : ((((w.setCell ⟨g, i0, none⟩ u0).setCell ⟨g, i1, none⟩ u1).setCell ⟨g, i2, none⟩ u2).setCell ⟨g, i3, none⟩ u3).cell? a = some v := (cell_far (p := ⟨g, _, none⟩) h _).trans (c3_ h hv)
end
section
variable {P : Program} {Q : Exit → Act → World → Prop} {S : World → Prop} {md : Region.Mode} {ops : Array Oper} {ds : List Nat} {T : Bool × List (List Nat × List Nat)} {B : List Nat} {fuel : Nat} {l : Array Bool} {a : Act} {w : World} {v : Value} {a' : Act} {N Nj : Option Tmp} {op op' : Op} {ty ty' : TypeId} {ps ps' : String} {af af' : Array Edge} {gd gd' : Option (Nat × Bool)}
theorem pv_ (i : Nat) (h : wpAnyLast P md ops Q S ds fuel (l.setIfInBounds i true) a' w) (hT : Aside0 (rtab md ops = T) := by assumption) (hi : ops[i]? = some ⟨N, op, ty, ps, af, gd⟩ := by exact rfl)
    (hc : anyT T l.toList (l.setIfInBounds i true).toList i = true := by kernel_rfl) (hQ : ∀ c a w, Q (.panic c) (a.put N v) w → Q (.panic c) a w := by exact fun _ _ _ h => h)
    (hw : Region.wanted ⟨N, op, ty, ps, af, gd⟩ (yielded ops a.tmps) = true := by rfl) (hy : ∀ w' : World, (execOp a.eval ⟨N, op, ty, ps, af, gd⟩).run P w' = .ok (.value v) w' := by (intro w'; go_simp; first | with_reducible rfl | (rw [if_neg (by omega)]; done)))
    (ha : a.put N v = a' := by (simp only [Act.put, sa_, sb_, sc_, i64_w, i32_w]; rfl)) : wpAnyLast P md ops Q S ds (fuel + 1) l a w :=
  pure_ _ hi rfl (any_of hT.out hc) hQ (Or.inl ⟨hw, hy⟩) ha h
theorem pz_ (i : Nat) (h : wpAnyLast P md ops Q S ds fuel (l.setIfInBounds i true) a' w) (hT : Aside0 (rtab md ops = T) := by assumption) (hi : ops[i]? = some ⟨N, op, ty, ps, af, gd⟩ := by exact rfl)
    (hc : anyT T l.toList (l.setIfInBounds i true).toList i = true := by kernel_rfl) (hQ : ∀ c a w, Q (.panic c) (a.put N undef) w → Q (.panic c) a w := by exact fun _ _ _ h => h)
    (hw : Region.wanted ⟨N, op, ty, ps, af, gd⟩ (yielded ops a.tmps) = false := by rfl)
    (ha : a.put N undef = a' := by (simp only [Act.put, sa_, sb_, sc_, i64_w, i32_w]; rfl)) : wpAnyLast P md ops Q S ds (fuel + 1) l a w :=
  pure_ _ hi rfl (any_of hT.out hc) hQ (Or.inr ⟨hw, rfl⟩) ha h
theorem tv_ (i : Nat) (h : wpAnyLast P md ops Q S ds fuel (l.setIfInBounds i true) a' w) (hT : Aside0 (rtab md ops = T) := by assumption) (hB : Aside0 (waitsOk T.2 B = true) := by assumption) (hS : S w := by assumption) (hi : ops[i]? = some ⟨N, op, ty, ps, af, gd⟩ := by exact rfl)
    (hc : takeW T B ds l.toList (l.setIfInBounds i true).toList i = true := by kernel_rfl) (hQ : ∀ c a w, Q (.panic c) (a.put N v) w → Q (.panic c) a w := by exact fun _ _ _ h => h)
    (hw : Region.wanted ⟨N, op, ty, ps, af, gd⟩ (yielded ops a.tmps) = true := by rfl) (hy : ∀ w' : World, S w' → (execOp a.eval ⟨N, op, ty, ps, af, gd⟩).run P w' = .ok (.value v) w' := by (intro w' s_; revert s_; (try simp only [and_imp]); intros; go_simp; first | with_reducible rfl | (rw [if_neg (by omega)]; done)))
    (ha : a.put N v = a' := by (simp only [Act.put, sa_, sb_, sc_, i64_w, i32_w]; rfl)) : wpAnyLast P md ops Q S ds (fuel + 1) l a w :=
  take_ _ hi rfl (take_ofW hT.out hB.out hc) hQ (Or.inl ⟨hw, hy⟩) hS ha h
theorem ov_ (i : Nat) (h : ∀ K : Act → World → Prop, Shut (∀ a' w', S w' → (S w' → wpAnyLast P md ops Q S ds fuel (l.setIfInBounds i true) a' w') → K a' w') → if Region.wanted ⟨N, op, ty, ps, af, gd⟩ (yielded ops a.tmps) = true then Oper.wp P ⟨N, op, ty, ps, af, gd⟩ a w K Q else K (a.put N undef) w)
    (hT : Aside0 (rtab md ops = T) := by assumption) (hi : ops[i]? = some ⟨N, op, ty, ps, af, gd⟩ := by exact rfl) (hc : (readyT T.2 l.toList == [i] && l.toList.set i true == (l.setIfInBounds i true).toList) = true := by kernel_rfl) (hd : i ∉ ds := by decide) :
    wpAnyLast P md ops Q S ds (fuel + 1) l a w := one_ _ hi rfl (one_of hT.out hc) hd h
theorem lv_ (i : Nat) (h : ∀ K : Act → World → Prop, Shut (∀ a' w', wpAnyLast P md ops Q S ds fuel (l.setIfInBounds i true) a' w' → K a' w') → if Region.wanted ⟨N, op, ty, ps, af, gd⟩ (yielded ops a.tmps) = true then Oper.wp P ⟨N, op, ty, ps, af, gd⟩ a w K Q else K (a.put N undef) w)
    (hT : Aside0 (rtab md ops = T) := by assumption) (hi : ops[i]? = some ⟨N, op, ty, ps, af, gd⟩ := by exact rfl) (hc : (readyT T.2 l.toList == [i] && l.toList.set i true == (l.setIfInBounds i true).toList) = true := by kernel_rfl) (hd : i ∈ ds := by decide) :
    wpAnyLast P md ops Q S ds (fuel + 1) l a w := last_ _ hi rfl (one_of hT.out hc) hd h
theorem wv_ (i j : Nat) (h1 : ∀ K : Act → World → Prop, Shut (∀ a' w', S w' → (S w' → wpAnyLast P md ops Q S ds fuel (l.setIfInBounds i true) a' w') → K a' w') → if Region.wanted ⟨N, op, ty, ps, af, gd⟩ (yielded ops a.tmps) = true then Oper.wp P ⟨N, op, ty, ps, af, gd⟩ a w K Q else K (a.put N undef) w)
    (h2 : ∀ K : Act → World → Prop, Shut (∀ a' w', S w' → (S w' → wpAnyLast P md ops Q S ds fuel (l.setIfInBounds j true) a' w') → K a' w') → if Region.wanted ⟨Nj, op', ty', ps', af', gd'⟩ (yielded ops a.tmps) = true then Oper.wp P ⟨Nj, op', ty', ps', af', gd'⟩ a w K Q else K (a.put Nj undef) w)
    (hT : Aside0 (rtab md ops = T) := by assumption) (hi : ops[i]? = some ⟨N, op, ty, ps, af, gd⟩ := by exact rfl) (hj : ops[j]? = some ⟨Nj, op', ty', ps', af', gd'⟩ := by exact rfl)
    (hc : (readyT T.2 l.toList == [i, j] && l.toList.set i true == (l.setIfInBounds i true).toList && l.toList.set j true == (l.setIfInBounds j true).toList) = true := by kernel_rfl) (hd : i ∉ ds := by decide) (hdj : j ∉ ds := by decide) :
    wpAnyLast P md ops Q S ds (fuel + 1) l a w := two_ _ _ hi hj rfl rfl (two_of hT.out hc) hd hdj h1 h2
theorem nq_ {l' : Array Bool} {a0 : Act} (h : wpAnyLast P md ops Q S ds fuel l' a0 w) (ha : a = a0 := by simp only [putAll, Act.put, sa_, sb_, sc_]) (hl : (l == l') = true := by kernel_rfl) : wpAnyLast P md ops Q S ds fuel l a w := by
  obtain rfl := eq_of_beq hl
  exact norm_ ha h
theorem sv_ {id : Nat} (h0 : S w.drew) (h : S w.drew → wpAnyLast P .any ops Q S ds ops.size (Array.replicate ops.size false) a w.drew) (hm : P.follows .mixedOrders = true := by kernel_rfl) : (Code.region id ops true).wp P Q a w := start_ _ hm rfl rfl h0 h
end
end Go.Proofs.YtmodbemkflkbeaaGreatDoorW.PrintWords
