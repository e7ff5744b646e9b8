/- A word on queues of rows that the program's own words lack: what one element of a queue of the call's own leads to. Its conditions stand in its statement. -/
import Derived.Test.YtmodbemkflkbeaaGreatDoorV
import Derived.Test.YtmodbemkflkbeaaGreatDoorShelf
import Derived.Lib.AppendIntMem
import Derived.Lib.AtoiErrMem
import Derived.ChangeAgain
namespace Go.Proofs.YtmodbemkflkbeaaGreatDoorW.PrintWords
open Go.RowKit
-- short names for a long text
theorem sa_ {α : Type _} (l : List α) (i : Nat) (a : α) : l.toArray.setIfInBounds i a = (l.set i a).toArray := List.setIfInBounds_toArray l i a
theorem sb_ {α : Type _} {x : α} {xs : List α} {a : α} : (x :: xs).set 0 a = a :: xs := List.set_cons_zero
theorem sc_ {α : Type _} {x : α} {xs : List α} {i : Nat} {a : α} : (x :: xs).set (i + 1) a = x :: xs.set i a := List.set_cons_succ
theorem bn_ {w : World} {g : Nat} {o : Obj} (h : w.heap[g]? = some o) (n : Nat) : (w.drewN n).heap[g]? = some o := blk_drewN h n
theorem bd_ {w : World} {g : Nat} {o : Obj} (h : w.heap[g]? = some o) : w.drew.heap[g]? = some o := blk_drew h
theorem ba_ {w : World} {g : Nat} {o : Obj} (h : w.heap[g]? = some o) (o' : Obj) : (w.alloc o').heap[g]? = some o := blk_alloc h o'
theorem la_ {w W : World} (h : Below w.heap.size w W) (o : Obj) : Below w.heap.size w (W.alloc o) := below_alloc h o
theorem ln_ {B : Nat} {w W : World} (h : Below B w W) (n : Nat) : Below B w (W.drewN n) := pw_below_drewN h n
theorem ld_ {base : Nat} {w W : World} (h : Below base w W) : Below base w W.drew := below_drew1 h
theorem ka_ {w W : World} {g : Nat} (h : KeepBut w W g none) (o : Obj) : KeepBut w (W.alloc o) g none := keep_alloc h o
theorem ob_ {α β : Type _} {o : Option α} {f : α → Option β} {b : β} : o.bind f = some b ↔ ∃ a, o = some a ∧ f a = some b := Option.bind_eq_some_iff
theorem od_ {p : Prop} [Decidable p] (h : decide p = true := by first | (with_reducible assumption) | assumption) : p := of_decide_eq_true h
theorem tk_ {w0 W : World} {g : Nat} {o : Obj} (h : w0.heap[g]? = some o) (hp : w0.heap[g]? = some o → W.heap[g]? = some o := by intro h_; with_reducible repeat (first | exact h_ | refine blk_drewN ?_ _ | refine blk_drew ?_ | refine blk_alloc ?_ _ | refine blk_far ?_ (Aside0.out (by assumption)) _)) : W.heap[g]? = some o := hp h
theorem bq_ {P Q : Prop} (h : Q) (hp : Q → P := by intro h_; with_reducible repeat (first | refine blk_drewN ?_ _ | refine blk_drew ?_ | refine blk_alloc ?_ _ | exact h_)) : P := hp h
theorem tb_ {B : Nat} {w W0 W : World} (h : Below B w W0) (hp : Below B w W0 → Below B w W := by intro h_; repeat (first | (with_reducible first | exact h_ | apply below_alloc | apply pw_below_drewN | apply below_drew1 | refine below_set ?_ (Aside0.out (by assumption))) | exact h_)) : Below B w W := hp h
theorem tc_ {w W0 W : World} {g : Nat} {row : Option Nat} (h : KeepBut w W0 g row) (hp : KeepBut w W0 g row → KeepBut w W g row := by intro h_; repeat (first | (with_reducible first | exact h_ | apply KeepBut.set_ | apply keep_drewN | apply keep_drew | apply keep_alloc | refine keep_far ?_ (Aside0.out (by assumption)) _) | exact h_)) : KeepBut w W g row := hp h
theorem tx_ {P : Prop} (h : P := by first | rfl | (simp; done) | (simp [*]; done)) : P := h
theorem tz_ {P : Prop} (h : P := by (try simp only [List.map_toArray, List.map_cons, List.map_nil]); first | done | rfl | (simp only [List.length_drop, List.length_take]; rfl)) : P := h
theorem td_ {P : Prop} (h : P := by repeat (first | exact Aside0.out (by first | (with_reducible assumption) | assumption) | (with_reducible refine Kd.C_alloc ?_ _) | (with_reducible refine Kd.C_drewN ?_ _) | (with_reducible refine Kd.C_drew ?_))) : P := h
theorem tD_ {P : Prop} (h : P := by repeat (first | exact Kd.C_below (Aside0.out (by first | (with_reducible assumption) | assumption)) (Aside0.out (by first | (with_reducible assumption) | assumption)) | (with_reducible refine Kd.C_alloc ?_ _) | (with_reducible refine Kd.C_drewN ?_ _) | (with_reducible refine Kd.C_drew ?_))) : P := h
theorem tn_ {P : Prop} (h : P := by first | (simp only [putAll, Act.put, List.setIfInBounds_toArray, List.set_cons_zero, List.set_cons_succ]; done) | (simp only [putAll, Act.put, List.setIfInBounds_toArray, List.set_cons_zero, List.set_cons_succ]; rfl)) : P := h
theorem rR_ {P Q : Prop} (h : Q) (hp : Q → P := by intro h_; (with_reducible repeat (first | apply Kd.R_alloc | apply Kd.R_drewN | apply Kd.R_drew)); exact h_) : P := hp h
theorem rS_ {P Q : Prop} (h : Q) (hp : Q → P := by intro h_; (with_reducible repeat (first | apply Kd.S_alloc | apply Kd.S_drewN | apply Kd.S_drew)); exact h_) : P := hp h
theorem rQ_ {P Q : Prop} (h : Q) (hp : Q → P := by intro h_; (with_reducible repeat (first | apply Kd.Q_alloc | apply Kd.Q_drewN | apply Kd.Q_drew)); exact h_) : P := hp h
theorem rN_ {P Q : Prop} (h : Q) (hp : Q → P := by intro h_; (with_reducible repeat (first | apply Kd.N_alloc | apply Kd.N_drewN | apply Kd.N_drew)); exact h_) : P := hp h
theorem qR_ {P Q : Prop} (h : Q) (hp : Q → P := by intro h_; with_reducible repeat (first | apply Kd.R_alloc | apply Kd.R_drewN | apply Kd.R_drew | exact h_)) : P := hp h
theorem qS_ {P Q : Prop} (h : Q) (hp : Q → P := by intro h_; with_reducible repeat (first | apply Kd.S_alloc | apply Kd.S_drewN | apply Kd.S_drew | exact h_)) : P := hp h
theorem qQ_ {P Q : Prop} (h : Q) (hp : Q → P := by intro h_; with_reducible repeat (first | apply Kd.Q_alloc | apply Kd.Q_drewN | apply Kd.Q_drew | exact h_)) : P := hp h
theorem qN_ {P Q : Prop} (h : Q) (hp : Q → P := by intro h_; with_reducible repeat (first | apply Kd.N_alloc | apply Kd.N_drewN | apply Kd.N_drew | exact h_)) : P := hp h
namespace Kd
theorem Q_get {α : Type} {d : Kd α} {e base n cap : Nat} {ok : Nat → Prop} {W : World} {ad : Addr} {xs : List α} (h : d.Q e W base ok (.slice (some ad) n cap) xs) (z : α) (i : Int) (h0 : 0 ≤ i) (h1 : i < n) :
    ∃ c, c.length = d.sz ∧ d.M W base (fun k => ok k ∧ some k ≠ (Value.slice (some ad) n cap).ownBlock) (xs.getD i.toNat z) c ∧ ∀ j u, c[j]? = some u → W.cell? (ad.add (i.toNat * d.sz + j)) = some u := by
  obtain ⟨hn, _, _⟩ := Q_reads' h
  obtain ⟨_, inner, hq, hr⟩ := h
  subst hn
  have hil : i.toNat < xs.length := by omega
  obtain ⟨ad', he, hc⟩ := q_cells hq (by omega)
  injection he with he
  subst he
  have hseg : i.toNat * d.sz + d.sz ≤ inner.length := by rw [hr.1, ← Nat.succ_mul]; exact Nat.mul_le_mul_right _ hil
  have hM := hr.2 i.toNat _ (List.getElem?_eq_getElem hil)
  refine ⟨(inner.drop (i.toNat * d.sz)).take d.sz, by rw [List.length_take, List.length_drop]; omega, ?_, fun j u hu => ?_⟩
  · rw [List.getD_eq_getElem?_getD, List.getElem?_eq_getElem hil]
    exact hM
  · rw [List.getElem?_take] at hu
    split at hu
    · rw [List.getElem?_drop] at hu
      exact hc _ u hu
    · cases hu
end Kd
end Go.Proofs.YtmodbemkflkbeaaGreatDoorW.PrintWords
namespace Go.Proofs.YtmodbemkflkbeaaGreatDoor
open Go.RowKit Go.Proofs.YtmodbemkflkbeaaGreatDoorW.PrintWords
theorem gTab : Tryz.prog.globalNamed "internal/strconv.uint64pow10" = some 5 := by kernel_rfl
theorem gTabT : (Tryz.prog.globals[5]?).map (·.type) = some 147 := by kernel_rfl
/-- What the library's calls ask of the world: the shape of its variables, and the table of the powers of ten. -/
structure GWa (w : World) : Prop where
  shape : w.ShapedOpen Tryz.prog
  tab : Lib.TabIs Tryz.prog w "internal/strconv.uint64pow10" .u64 Lib.pow10Tab
theorem shape_below {w w1 : World} (h : w.ShapedOpen Tryz.prog) (hb : Below w.heap.size w w1) : w1.ShapedOpen Tryz.prog := h.keptBut (hb.frame (fun _ => False)) (fun _ hp => hp.elim)
theorem var_lt {w : World} {n : String} {g : Nat} {c : Value} {cs : List Value} (hg : Tryz.prog.globalNamed n = some g) (h : w.var? Tryz.prog n = some (c :: cs).toArray) : g < w.heap.size := by
  unfold World.var? at h
  rw [hg] at h
  simp only [Option.bind_some] at h
  rcases Nat.lt_or_ge g w.heap.size with hl | hl
  · exact hl
  · simp [Array.getElem?_eq_none hl] at h
theorem var_below' {w w1 : World} {n : String} {g : Nat} {c : Value} {cs : List Value} (hg : Tryz.prog.globalNamed n = some g) (h : w.var? Tryz.prog n = some (c :: cs).toArray) (hb : Below w.heap.size w w1) : w1.var? Tryz.prog n = some (c :: cs).toArray := by
  have hl := var_lt hg h
  unfold World.var? at h ⊢
  rw [hg] at h ⊢
  simp only [Option.bind_some] at h ⊢
  rw [hb.block g hl]
  exact h
theorem GWa.below {w w1 : World} (h : GWa w) (hb : Below w.heap.size w w1) : GWa w1 := ⟨shape_below h.shape hb, var_below' gTab h.tab hb⟩
theorem atoi_below {w w' : World} {e : TypeId} (h : w' = w ∨ ∃ t, w' = Lib.bytesWorld w e t) : Below w.heap.size w w' := by
  rcases h with rfl | ⟨t, rfl⟩
  · exact Below.refl _ _
  · exact Lib.bytesWorld_below w e t
theorem gSyn : Tryz.prog.globalNamed "strconv.ErrSyntax" = some 0 := by kernel_rfl
theorem gRng : Tryz.prog.globalNamed "strconv.ErrRange" = some 1 := by kernel_rfl
/-- The same, and the two errors of the library's. -/
structure GWb (w : World) : Prop where
  shape : w.ShapedOpen Tryz.prog
  tab : Lib.TabIs Tryz.prog w "internal/strconv.uint64pow10" .u64 Lib.pow10Tab
  esyn : ∃ t p, w.var? Tryz.prog "strconv.ErrSyntax" = some #[.iface t p]
  erng : ∃ t p, w.var? Tryz.prog "strconv.ErrRange" = some #[.iface t p]
theorem GWb.below {w w1 : World} (h : GWb w) (hb : Below w.heap.size w w1) : GWb w1 := by
  obtain ⟨t, p, h1⟩ := h.esyn
  obtain ⟨t', p', h2⟩ := h.erng
  exact ⟨shape_below h.shape hb, var_below' gTab h.tab hb, ⟨t, p, var_below' gSyn h1 hb⟩, ⟨t', p', var_below' gRng h2 hb⟩⟩
end Go.Proofs.YtmodbemkflkbeaaGreatDoor
