/- Words for the facts that one step of a walk tells: each bears its conditions; what carries an elder fact to the world of the step is found by its default. -/
import Derived.Test.YtmodbemkflkbeaaGreatDoorExt
import Derived.KernelRfl
namespace Go.Proofs.YtmodbemkflkbeaaGreatDoorW.PrintWords
open Go.RowKit
-- facts of one step, by words
theorem bb_ {w0 W W1 : World} {g : Nat} {o : Obj} (h : Aside0 (w0.heap[g]? = some o)) (hb : Below W.heap.size W W1) (hp : w0.heap[g]? = some o → W.heap[g]? = some o := by intro h_; exact tk_ h_) : Aside0 (W1.heap[g]? = some o) := ⟨blk_below (hp h.out) hb⟩
theorem kb_ {w0 W W1 : World} {g g' : Nat} {o : Obj} (h : Aside0 (w0.heap[g']? = some o)) (hk : KeepBut W W1 g none) (hne : Aside0 (g' ≠ g)) (hp : w0.heap[g']? = some o → W.heap[g']? = some o := by intro h_; exact tk_ h_) : Aside0 (W1.heap[g']? = some o) := ⟨KeepBut.blk hk (hp h.out) hne.out (by simp)⟩
theorem bg_ {w0 W W1 : World} {g : Nat} {o : Obj} {row : Option Nat} (h : Aside0 (w0.heap[g]? = some o)) (hg : W.grownBy W1 row) (hne : some g ≠ row) (hp : w0.heap[g]? = some o → W.heap[g]? = some o := by intro h_; exact tk_ h_) : Aside0 (W1.heap[g]? = some o) := ⟨blk_grown (hp h.out) hg hne⟩
theorem nl_ {w0 W : World} {g gb : Nat} {o : Obj} (h : Aside0 (w0.heap[g]? = some o)) (hg : gb = W.heap.size) (hp : w0.heap[g]? = some o → W.heap[g]? = some o := by intro h_; exact tk_ h_) : Aside0 (g ≠ gb) := ⟨by rw [hg]; exact Nat.ne_of_lt (blk_lt (hp h.out))⟩
theorem ng_ {w0 W : World} {g gb : Nat} {o : Obj} (h : Aside0 (w0.heap[g]? = some o)) (hg : gb = W.heap.size) (hp : w0.heap[g]? = some o → W.heap[g]? = some o := by intro h_; exact tk_ h_) : Aside0 (gb ≠ g) := ⟨by rw [hg]; exact Nat.ne_of_gt (blk_lt (hp h.out))⟩
theorem kt_ {w W0 W W1 : World} {g : Nat} (h : Aside0 (KeepBut w W0 g none)) (hk : KeepBut W W1 g none) (hp : KeepBut w W0 g none → KeepBut w W g none := by intro h_; exact tc_ h_) : Aside0 (KeepBut w W1 g none) := ⟨KeepBut.trans (hp h.out) hk (.inl rfl)⟩
theorem ko_ {w W0 W W1 : World} {g : Nat} (h : Aside0 (KeepBut w W0 g none)) (hb : Below W.heap.size W W1) (hp : KeepBut w W0 g none → KeepBut w W g none := by intro h_; exact tc_ h_) : Aside0 (KeepBut w W1 g none) := ⟨KeepBut.trans (hp h.out) (KeepBut.of_below hb g none) (.inl rfl)⟩
theorem bs_ {w W0 W W1 : World} (h : Aside0 (Below w.heap.size w W0)) (hb : Below W.heap.size W W1) (hp : Below w.heap.size w W0 → Below w.heap.size w W := by intro h_; exact tb_ h_) : Aside0 (Below w.heap.size w W1) := ⟨below_step (hp h.out) hb⟩
theorem dB_ {w : World} {g : Nat} {o : Obj} (h : Aside0 (w.heap[g]? = some o)) : Aside0 (w.drew.heap[g]? = some o) := ⟨blk_drew h.out⟩
theorem gw_ {w W0 W : World} {g gb : Nat} (h : Aside0 (KeepBut w W0 g none)) (hg : gb = W.heap.size) (hp : KeepBut w W0 g none → KeepBut w W g none := by intro h_; exact tc_ h_) : Aside0 (w.heap.size ≤ gb) := ⟨by rw [hg]; exact keep_size (hp h.out)⟩
theorem gx_ {w W0 W : World} {gb : Nat} (h : Aside0 (Below w.heap.size w W0)) (hg : gb = W.heap.size) (hp : Below w.heap.size w W0 → Below w.heap.size w W := by intro h_; exact tb_ h_) : Aside0 (w.heap.size ≤ gb) := ⟨by rw [hg]; exact below_size (hp h.out)⟩
theorem ge_ {w0 w W0 W : World} {g gb : Nat} (h0 : Aside0 (w0.heap.size ≤ w.heap.size)) (h : Aside0 (KeepBut w W0 g none)) (hg : gb = W.heap.size) (hp : KeepBut w W0 g none → KeepBut w W g none := by intro h_; exact tc_ h_) : Aside0 (w0.heap.size ≤ gb) := ⟨Nat.le_trans h0.out (by rw [hg]; exact keep_size (hp h.out))⟩
theorem nk_ {w W0 W : World} {g gb : Nat} (h0 : Aside0 (g < w.heap.size)) (h : Aside0 (KeepBut w W0 g none)) (hg : gb = W.heap.size) (hp : KeepBut w W0 g none → KeepBut w W g none := by intro h_; exact tc_ h_) : Aside0 (g ≠ gb) := ⟨Nat.ne_of_lt (Nat.lt_of_lt_of_le h0.out (by rw [hg]; exact keep_size (hp h.out)))⟩
theorem nm_ {w W0 W : World} {g gb : Nat} (h0 : Aside0 (g < w.heap.size)) (h : Aside0 (KeepBut w W0 g none)) (hg : gb = W.heap.size) (hp : KeepBut w W0 g none → KeepBut w W g none := by intro h_; exact tc_ h_) : Aside0 (gb ≠ g) := ⟨Nat.ne_of_gt (Nat.lt_of_lt_of_le h0.out (by rw [hg]; exact keep_size (hp h.out)))⟩
theorem rl_ {α : Type} {d : Kd α} {e : Nat} {ok : Nat → Prop} {v : Value} {xs : List α} {w W0 W W1 : World} {g : Nat} (h : d.R e W1 W.heap.size ok v xs) (hk : Aside0 (KeepBut w W0 g none)) (hp : KeepBut w W0 g none → KeepBut w W g none := by intro h_; exact tc_ h_) : Aside0 (d.R e W1 w.heap.size ok v xs) := ⟨Kd.R_lower h (keep_size (hp hk.out))⟩
theorem rx_ {α : Type} {d : Kd α} {e : Nat} {ok : Nat → Prop} {v : Value} {xs : List α} {w W0 W W1 : World} (h : d.R e W1 W.heap.size ok v xs) (hk : Aside0 (Below w.heap.size w W0)) (hp : Below w.heap.size w W0 → Below w.heap.size w W := by intro h_; exact tb_ h_) : Aside0 (d.R e W1 w.heap.size ok v xs) := ⟨Kd.R_lower h (below_size (hp hk.out))⟩
theorem rb_ {α : Type} {d : Kd α} {e base : Nat} {ok : Nat → Prop} {v : Value} {xs : List α} {W0 W W1 : World} (h : Aside0 (d.R e W0 base ok v xs)) (hb : Below W.heap.size W W1) (hp : d.R e W0 base ok v xs → d.R e W base ok v xs := by intro h_; exact rR_ h_) : Aside0 (d.R e W1 base ok v xs) := ⟨Kd.R_below (hp h.out) hb⟩
theorem rd_ {α : Type} {d : Kd α} {e base : Nat} {ok : Nat → Prop} {v : Value} {xs : List α} {W : World} (h : Aside0 (d.R e W base ok v xs)) : Aside0 (d.R e W.drew base ok v xs) := ⟨Kd.R_drew h.out⟩
theorem cz_ {w : World} {g : Nat} {t : TypeId} {cs : Array Value} (h : Aside0 (w.heap[g]? = some (.cells cs t (0, 0)))) (j : Nat) {v : Value} (hv : cs[j]? = some v := by rfl) : w.cell? ⟨g, j, none⟩ = some v := (blk_cell h.out j).trans hv
theorem tw_ {P : Prop} (h : P := by first | rfl | (simp [errW_none, errW_some, Option.map_none, Option.map_some] <;> rfl) | (simp [*, errW_none, errW_some] <;> rfl)) : P := h
theorem bnd_ {α β : Type} {o : Option α} {f : α → Option β} {b : β} (h : o.bind f = some b) : ∃ a, Aside0 (o = some a) ∧ f a = some b := by
  obtain ⟨a, h1, h2⟩ := Option.bind_eq_some_iff.mp h
  exact ⟨a, ⟨h1⟩, h2⟩
theorem yq_ {α : Type} {P Q : Prop} {y e : α} (h : y = e) (H : Q) (hp : y = e → Q → P := by intro h_ H_; first | (rw [h_]; with_reducible exact H_) | (have H2_ := (Option.bind_some _ _).symm.trans H_; rw [h_]; with_reducible exact H2_) | (have H2_ := (Option.bind_some _ _).symm.trans H_; with_reducible exact H2_) | with_reducible exact H_ | (rw [h_]; exact H_) | exact H_) : P := hp h H
open Go.Proofs.YtmodbemkflkbeaaGreatDoorW.PrintLast in
theorem pu_ {P : Program} {Q : Exit → Act → World → Prop} {S : World → Prop} {md : Region.Mode} {ops : Array Oper} {ds : List Nat} {T : Bool × List (List Nat × List Nat)} {fuel : Nat} {l : Array Bool} {a : Act} {w : World} {oi : Oper} {v : Value} {a' : Act} (i : Nat) (N : Option Tmp) (l' : Array Bool)
    (hT : Aside0 (rtab md ops = T)) (hi : ops[i]? = some oi) (hN : oi.dst = N) (h : wpAnyLast P md ops Q S ds fuel l' a' w)
    (hc : anyT T l.toList l'.toList i = true := by kernel_rfl) (hQ : ∀ c a w, Q (.panic c) (a.put oi.dst v) w → Q (.panic c) a w := by exact fun _ _ _ h => h)
    (hw : Region.wanted oi (yielded ops a.tmps) = true := by rfl) (hy : ∀ w' : World, (execOp a.eval oi).run P w' = .ok (.value v) w' := by (intro w'; go_simp; first | with_reducible rfl | (rw [if_neg (by omega)]; done)))
    (ha : a.put N v = a' := by (simp only [Act.put, sa_, sb_, sc_, i64_w, i32_w]; rfl)) : wpAnyLast P md ops Q S ds (fuel + 1) l a w :=
  pure_ l' hi hN (any_of hT.out hc) hQ (Or.inl ⟨hw, hy⟩) ha h
-- a region by one relation
theorem no_ {b c : Nat → Bool} {P : Prop} (h : ∀ d, c d = true → b d = false) (d : Nat) (hc : c d = true := by kernel_rfl) : b d = true → P := fun h2 => absurd ((h d hc).symm.trans h2) (by decide)
theorem nt_ {b c : Nat → Bool} {P : Prop} (h : ∀ d, c d = true → b d = true) (d : Nat) (hc : c d = true := by kernel_rfl) : b d = false → P := fun h2 => absurd ((h d hc).symm.trans h2) (by decide)
theorem on_ {b c : Nat → Bool} (h : ∀ d, c d = true → b d = true) (d : Nat) (hc : c d = true := by kernel_rfl) : b d = true := h d hc
theorem of_ {b c : Nat → Bool} (h : ∀ d, c d = true → b d = false) (d : Nat) (hc : c d = true := by kernel_rfl) : b d = false := h d hc
theorem nf_ {c : Bool} {P : Prop} (hc : c = false := by rfl) : c = true → P := fun h => absurd (hc.symm.trans h) (by decide)
open Go.Proofs.YtmodbemkflkbeaaGreatDoorW.PrintLast in
theorem pk_ {a a0 : Act} {b : Nat → Bool} {i : Nat} {t : Tmp} {v0 v : Value} {L L' : List (Nat × Tmp × Value)} (ha : Aside0 (a = putSel a0 b L)) (k : Nat) (hb : b i = false) (hL : L[k]? = some (i, t, v0) := by rfl) (hL' : L.set k (i, t, v) = L' := by rfl) (hd : ((L.take k ++ L.drop (k + 1)).all fun e => !(e.1 == i) && !(e.2.1 == t)) = true := by rfl) : a.put (some t) v = putSel a0 (up b i) L' := by rw [ha.out]; exact putSel_upk k hb hL hL' hd
-- steps of a region of open order
theorem hh_ {P : Prop} (h : P := by (repeat' apply And.intro) <;> exact cz_ ⟨tk_ (Aside0.out (by assumption))⟩ _) : P := h
section
open Go.Proofs.YtmodbemkflkbeaaGreatDoorW.PrintLast
variable {P : Program} {Q : Exit → Act → World → Prop} {S : World → Prop} {md : Region.Mode} {ops : Array Oper} {ds : List Nat} {T : Bool × List (List Nat × List Nat)} {B : List Nat} {fuel : Nat} {l : Array Bool} {a : Act} {w : World} {oi : Oper} {v : Value} {a' : Act}
theorem ta_ (i : Nat) (N : Option Tmp) (l' : Array Bool) (hT : Aside0 (rtab md ops = T)) (hB : Aside0 (waitsOk T.2 B = true)) (hS : S w) (hi : ops[i]? = some oi) (hN : oi.dst = N) (h : wpAnyLast P md ops Q S ds fuel l' a' w)
    (hc : takeW T B ds l.toList l'.toList i = true := by kernel_rfl) (hQ : ∀ c a w, Q (.panic c) (a.put oi.dst v) w → Q (.panic c) a w := by exact fun _ _ _ h => h)
    (hw : Region.wanted oi (yielded ops a.tmps) = true := by rfl) (hy : ∀ w' : World, S w' → (execOp a.eval oi).run P w' = .ok (.value v) w' := by (intro w' s_; revert s_; (try simp only [and_imp]); intros; go_simp; first | with_reducible rfl | (rw [if_neg (by omega)]; done)))
    (ha : a.put N v = a' := by (simp only [Act.put, sa_, sb_, sc_, i64_w, i32_w]; rfl)) : wpAnyLast P md ops Q S ds (fuel + 1) l a w :=
  take_ l' hi hN (take_ofW hT.out hB.out hc) hQ (Or.inl ⟨hw, hy⟩) hS ha h
theorem nr_ (N : Tmp) (h : wpAnyLast P md ops Q S ds fuel l a' w) (ha : Act.put a (some N) v = a' := by (simp only [Act.put, sa_, sb_, sc_, i64_w, i32_w]; rfl)) : wpAnyLast P md ops Q S ds fuel l (Act.put a (some N) v) w := norm_ ha h
theorem va_ {N : Option Tmp} {w1 : World} {K : Act → World → Prop} (hN : oi.dst = N) (h : K (a.put N v) w1) (hw : Region.wanted oi (yielded ops a.tmps) = true := by rfl) (hrun : (execOp a.eval oi).run P w = .ok (.value v) w1 := by (go_simp; constructor <;> rfl)) :
    if Region.wanted oi (yielded ops a.tmps) = true then Oper.wp P oi a w K Q else K (a.put N undef) w := value_ hw hN hrun h
theorem sk_ {w1 : World} {K : Act → World → Prop} (hN : oi.dst = none) (h : K a w1) (hw : Region.wanted oi (yielded ops a.tmps) = true := by rfl) (hrun : (execOp a.eval oi).run P w = .ok .skip w1 := by (go_simp; rfl)) :
    if Region.wanted oi (yielded ops a.tmps) = true then Oper.wp P oi a w K Q else K (a.put none undef) w := skip_ hw hN hrun h
end
theorem sB_ {α : Type} {d : Kd α} {e base : Nat} {ok : Nat → Prop} {v : Value} {xs : List α} {W0 W W1 : World} (h : Aside0 (d.S e W0 base ok v xs)) (hb : Below W.heap.size W W1) (hp : d.S e W0 base ok v xs → d.S e W base ok v xs := by intro h_; exact rS_ h_) : Aside0 (d.S e W1 base ok v xs) := ⟨Kd.S_below (hp h.out) hb⟩
theorem ps_ {w0 W : World} {g : Nat} {t : TypeId} {cs cs' : Array Value} (h : w0.heap[g]? = some (.cells cs t (0, 0))) (hp : w0.heap[g]? = some (.cells cs t (0, 0)) → W.heap[g]? = some (.cells cs' t (0, 0)) := by intro h_; (with_reducible repeat (first | exact h_ | refine blk_drewN ?_ _ | refine blk_drew ?_ | refine blk_alloc ?_ _ | apply blk_put | exact tk_ h_)); all_goals rfl) : W.heap[g]? = some (.cells cs' t (0, 0)) := hp h
-- more rounds
theorem mr_ {α : Type} {a : Option α} : LeO a a := LeO.refl a
theorem mn_ {α : Type} {b : Option α} : LeO Option.none b := LeO.none b
theorem mi_ {α : Type} {c : Prop} [Decidable c] {a a' b b' : Option α} (h : LeO a a') (k : LeO b b') : LeO (if c then a else b) (if c then a' else b') := LeO.ite h k
theorem mb_ {α β : Type} {a a' : Option α} {f f' : α → Option β} (h : LeO a a') (k : ∀ x, LeO (f x) (f' x)) : LeO (a.bind f) (a'.bind f') := LeO.bind h k
open Go.Proofs.YtmodbemkflkbeaaGreatDoorW.PrintLast in
/-- A call in a plain region. -/
theorem gl_ {P : Program} {ops : Array Oper} {Q : Exit → Act → World → Prop} {w : World} {rest : List Oper} {oi : Oper} {a : Act} (N : Option Tmp) {f : FuncId} {fn : Func} (hf : P.funcs[f]? = some fn) (args : Array Value) {os : Array Operand} {ts : Array TypeId}
    (h : Calls P f args w fun e w' => ∃ v, e = .returned v ∧ wpList P ops Q rest (a.put N v) w') (hd : oi.dst = N := by rfl) (hg : oi.guard = none := by rfl) (hname : (fn.name == "runtime.NumGoroutine") = false := by kernel_rfl) (hb : fn.body.isSome = true := by rfl)
    (hop : oi.op = .call { callee := .value (.func f), args := os, argTypes := ts } := by rfl) (hargs : os.map a.eval = args := by ((try simp only [List.map_toArray, List.map_cons, List.map_nil]); first | done | rfl | (simp only [List.length_drop, List.length_take]; rfl))) : wpList P ops Q (oi :: rest) a w :=
  goesL_ N hd hg hf hname hb args hop hargs h
theorem cut_max {P : Program} (t e : TypeId) (kh : IntKind) {i : TypeInfo} (ht : P.underlying t = some (.slice e)) (hi : P.info? e = some i) (A : Option Addr) (n c : Nat) (j : Int) (h0 : 0 ≤ j) (hm : j ≤ n) (hc : n ≤ c) :
    ∀ W : World, (Instr.slice t (.slice A n c) none (some (.int kh j)) (some (.int kh j))).run P W = .ok (.slice A j.toNat j.toNat) W := by
  intro W
  have hel : P.elem t = e := by simp [Program.elem, ht]
  have hu : P.underlying t = some (.slice (P.elem t)) := by rw [hel]; exact ht
  have ha : (A.map fun x => x.add 0) = A := by cases A <;> simp [Addr.add]
  rw [run_slice_hm W t A n c hu kh kh j j h0 (Int.le_refl _) (by omega), hel]
  simp [sizeOf, typeInfo, hi, sliced, Result.andThen, ha]
end Go.Proofs.YtmodbemkflkbeaaGreatDoorW.PrintWords
