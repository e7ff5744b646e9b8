/- Desks whose rows lie apart, told as one: what a call hands back, and what is written into it. Each statement bears its conditions. -/
import Derived.Test.YtmodbemkflkbeaaGreatDoorSep2
namespace Go.Proofs.YtmodbemkflkbeaaGreatDoorW.PrintWords
open Go.RowKit Go.Proofs.YtmodbemkflkbeaaGreatDoorW.PrintLast Go.Proofs.YtmodbemkflkbeaaGreatDoorW.PrintMore
namespace Kd
/-- Two in line, of blocks apart. -/
def pairA {α β : Type} (a : Kd α) (b : Kd β) : Kd (α × β) where
  sz := a.sz + b.sz
  E := a.E ++ b.E
  K := fun w x cs => ∃ c0 c1, cs = c0 ++ c1 ∧ a.K w x.1 c0 ∧ b.K w x.2 c1
  M := fun w base ok x cs => ∃ c0 c1, cs = c0 ++ c1 ∧ ∃ o : Nat → Prop, a.M w base (fun k => ok k ∧ o k) x.1 c0 ∧ b.M w base (fun k => ok k ∧ ¬ o k) x.2 c1
  K_len := (pair a b).K_len
  K_one := (pair a b).K_one
  K_below := (pair a b).K_below
  K_of_M := by
    rintro w base ok x cs ⟨c0, c1, rfl, o, h0, h1⟩
    exact ⟨c0, c1, rfl, a.K_of_M h0, b.K_of_M h1⟩
  M_mono := by
    rintro w base ok ok' x cs hok ⟨c0, c1, rfl, o, h0, h1⟩
    exact ⟨c0, c1, rfl, o, a.M_mono (fun k hk => ⟨hok k hk.1, hk.2⟩) h0, b.M_mono (fun k hk => ⟨hok k hk.1, hk.2⟩) h1⟩
  M_bound := by
    rintro w base ok x cs ⟨c0, c1, rfl, o, h0, h1⟩
    refine ⟨c0, c1, rfl, o, a.M_mono ?_ (a.M_bound h0), b.M_mono ?_ (b.M_bound h1)⟩
    · rintro k ⟨⟨h2, h5⟩, h3, h4, q, hq, hc⟩
      exact ⟨⟨h2, h3, h4, q, List.mem_append_left _ hq, hc⟩, h5⟩
    · rintro k ⟨⟨h2, h5⟩, h3, h4, q, hq, hc⟩
      exact ⟨⟨h2, h3, h4, q, List.mem_append_right _ hq, hc⟩, h5⟩
  M_move := by
    rintro w w1 base ok x cs hm ⟨c0, c1, rfl, o, h0, h1⟩
    exact ⟨c0, c1, rfl, o, a.M_move (fun k hk => hm k hk.1) h0, b.M_move (fun k hk => hm k hk.1) h1⟩
  M_lower := by
    rintro w base base' ok x cs hb ⟨c0, c1, rfl, o, h0, h1⟩
    exact ⟨c0, c1, rfl, o, a.M_lower hb h0, b.M_lower hb h1⟩
section
variable {α : Type} {d : Kd α} {e base : Nat} {w w1 W : World} {ok ok' : Nat → Prop} {v u v0 v2 : Value} {xs : List α} {is js : List Int} {k : IntKind}
theorem R_ownI (h : (Kd.int k).R e w base ok v is) : (Kd.int k).R e w base (fun b => ok b ∧ some b = v.ownBlock) v is := by
  obtain ⟨h0, inner, ho, hr⟩ := h
  exact ⟨fun b hb => ⟨h0 b hb, hb.symm⟩, inner, ho, hr⟩
/-- Two rows of numbers are apart where one of them is none of the other's blocks. -/
theorem ap_1 (h : Aside0 ((Kd.int k).R e w base ok v0 is)) (hk : ∀ b, ok b → some b ≠ v2.ownBlock) : ∀ b, v0.ownBlock = some b → v2.ownBlock ≠ some b := fun b hb h2 => hk b (h.out.1 b hb) h2.symm
theorem ap_2 (h : Aside0 ((Kd.int k).R e w base ok v2 is)) (hk : ∀ b, ok b → some b ≠ v0.ownBlock) : ∀ b, v0.ownBlock = some b → v2.ownBlock ≠ some b := fun b hb h2 => hk b (h.out.1 b h2) hb.symm
theorem pairA_ints {kw : Int} (g0 : (Kd.int .i64).R e w base ok v0 is) (g2 : (Kd.int .i64).R e w base ok v2 js) (ap : ∀ b, v0.ownBlock = some b → v2.ownBlock ≠ some b) :
    (pairA (slice e (int .i64)) (pair (int .i64) (slice e (int .i64)))).M w base ok (is, kw, js) [v0, .int .i64 kw, v2] :=
  ⟨[v0], [.int .i64 kw, v2], rfl, fun b => some b = v0.ownBlock, ⟨v0, rfl, R_ownI g0⟩, ⟨[.int .i64 kw], [v2], rfl, rfl, ⟨v2, rfl, R_mono (R_ownI g2) (fun b hb => ⟨hb.1, fun h => ap b h.symm hb.2.symm⟩)⟩⟩⟩
theorem pairA_open {kw : Int} {cs : List Value} (h : (pairA (slice e (int .i64)) (pair (int .i64) (slice e (int .i64)))).M w base ok (is, kw, js) cs) :
    ∃ v0 v2, cs = [v0, .int .i64 kw, v2] ∧ (Kd.int .i64).R e w base (fun b => ok b ∧ some b ≠ v2.ownBlock) v0 is ∧ (Kd.int .i64).R e w base (fun b => ok b ∧ some b ≠ v0.ownBlock) v2 js := by
  obtain ⟨_, _, rfl, o, ⟨v0, rfl, g0⟩, ⟨_, _, rfl, rfl, ⟨v2, rfl, g2⟩⟩⟩ := h
  exact ⟨v0, v2, rfl, R_mono g0 (fun b hb => ⟨hb.1, fun h => (g2.1 b h.symm).2 hb.2⟩), R_mono g2 (fun b hb => ⟨hb.1, fun h => hb.2 (g0.1 b h.symm).2⟩)⟩
/-- A row as S tells it, whatever its capacity. -/
def Sc (d : Kd α) (e : Nat) (w : World) (base : Nat) (ok : Nat → Prop) (v : Value) (xs : List α) : Prop := ∃ A c c', v = .slice A xs.length c ∧ xs.length ≤ c ∧ S d e w base ok (.slice A xs.length c') xs
theorem Sc_of (h : S d e w base ok v xs) : Sc d e w base ok v xs := by
  obtain ⟨A, c, rfl⟩ := S_slice h
  exact ⟨A, c, c, rfl, (S_reads' h).2.1, h⟩
theorem Sc_clip {A : Option Addr} {c c' : Nat} (h : S d e w base ok (.slice A xs.length c') xs) (hc : xs.length ≤ c) : Sc d e w base ok (.slice A xs.length c) xs := ⟨A, c, c', rfl, hc, h⟩
theorem Sc_nil (d : Kd α) (e : Nat) (w : World) (base : Nat) (ok : Nat → Prop) : Sc d e w base ok (.slice none 0 0) [] := Sc_of (S_nil d e w base ok)
theorem Sc_mono (h : Sc d e w base ok v xs) (hok : ∀ k, ok k → ok' k) : Sc d e w base ok' v xs := by
  obtain ⟨A, c, c', rfl, hc, h⟩ := h
  exact ⟨A, c, c', rfl, hc, S_mono h hok⟩
theorem Sc_bound (h : Sc d e w base ok v xs) : Sc d e w base (fun k => ok k ∧ base ≤ k ∧ k < w.heap.size) v xs := by
  obtain ⟨A, c, c', rfl, hc, h⟩ := h
  exact ⟨A, c, c', rfl, hc, S_mono (S_bound h) (fun k hk => ⟨hk.1, hk.2.1, hk.2.2.1⟩)⟩
theorem Sc_step (h : Sc d e w base ok v xs) (hm : ∀ k, ok k → k < w.heap.size → w1.heap[k]? = w.heap[k]?) : Sc d e w1 base ok v xs := by
  obtain ⟨A, c, c', rfl, hc, h⟩ := h
  exact ⟨A, c, c', rfl, hc, S_step h hm⟩
theorem Sc_lower {base' : Nat} (h : Sc d e w base ok v xs) (hb : base' ≤ base) : Sc d e w base' ok v xs := by
  obtain ⟨A, c, c', rfl, hc, h⟩ := h
  exact ⟨A, c, c', rfl, hc, S_lower h hb⟩
theorem Sc_slice (h : Sc d e w base ok v xs) : ∃ A c, v = .slice A xs.length c := by
  obtain ⟨A, c, c', rfl, _⟩ := h
  exact ⟨A, c, rfl⟩
theorem Sc_reads' {A : Option Addr} {n c : Nat} (h : Sc d e w base ok (.slice A n c) xs) : n = xs.length ∧ n ≤ c ∧ d.C w A xs.length xs := by
  obtain ⟨A', c', c'', hv, hc, h⟩ := h
  injection hv with h1 h2 h3
  subst h1 h2 h3
  exact ⟨rfl, hc, (S_reads' h).2.2⟩
theorem Sc_own (h : Sc d e w base ok v xs) : ∀ b, v.ownBlock = some b → ok b := by
  obtain ⟨A, c, c', rfl, hc, h⟩ := h
  intro b hb
  refine (S_R h).1 b ?_
  cases A with
  | none => simp [Value.ownBlock] at hb
  | some a => simpa [Value.ownBlock] using hb
/-- Element i, lent: what it leads to may be turned, and is put back. -/
theorem Sc_lend {A : Option Addr} {n c : Nat} (h : Sc d e w base ok (.slice A n c) xs) (z : α) (i : Int) (h0 : 0 ≤ i) (h1 : i < (n : Int)) :
    ∃ (g : Nat) (oki : Nat → Prop) (cs : List Value), A = some ⟨g, 0, none⟩ ∧ ok g ∧ d.M w base oki (xs.getD i.toNat z) cs ∧ (∀ j u, cs[j]? = some u → w.cell? ⟨g, i.toNat * d.sz + j, none⟩ = some u) ∧ (∀ j, w.frozen? ⟨g, i.toNat * d.sz + j, none⟩ = false) ∧ (∀ k, oki k → ok k ∧ k ≠ g) ∧
      (∀ {w1 : World} {x' : α}, (∀ k, k < w.heap.size → ¬ oki k → w1.heap[k]? = w.heap[k]?) → d.M w1 base oki x' cs → Sc d e w1 base ok (.slice A n c) (xs.set i.toNat x')) ∧
      (∀ {x' : α} {j : Nat} {u : Value}, j + 1 ≤ d.sz → d.M w base oki x' (cs.take j ++ [u] ++ cs.drop (j + 1)) → Sc d e (w.setCell ⟨g, i.toNat * d.sz + j, none⟩ u) base ok (.slice A n c) (xs.set i.toNat x')) := by
  obtain ⟨A', c', c'', hv, hc, h⟩ := h
  injection hv with e1 e2 e3
  subst e1 e2 e3
  have hp : 0 < xs.length := by omega
  obtain ⟨g, cap, hf, hg1, hg2, _⟩ := S_form h hp
  injection hf with e1 e2 e3
  subst e1
  have hok : ok g := (S_R h).1 g (by simp [Value.ownBlock])
  obtain ⟨oki, cs, hcl, hM, hcc, hfr, hoki, hH⟩ := S_elem h z i h0 h1
  refine ⟨g, oki, cs, rfl, hok, hM, hcc, hfr, hoki, fun {w1 x'} hm hM' => ?_, fun {x' j u} hj hM' => ?_⟩
  · refine ⟨_, c, c'', by rw [List.length_set], by rw [List.length_set]; exact hc, ?_⟩
    rw [List.length_set]
    exact H_back (H_step hH (fun k _ hn hlt => hm k hlt hn)) hM' (fun _ hk => hk)
  · refine ⟨_, c, c'', by rw [List.length_set], by rw [List.length_set]; exact hc, ?_⟩
    rw [List.length_set]
    have h2 := (S_seg (okg := fun _ => False) (seg := [u]) (j := j) (okp := oki) (x' := x') (H_mono hH (fun k hk => ⟨hk, id⟩)) h0 h1 (by simpa using hj) (by simpa using hM') (fun k hk => .inl hk) (fun k hk => hk.elim)).1
    simpa [World.setCells] using h2
/-- The last element, lent, and the row without it: apart. -/
theorem S_last {ad : Addr} {n c : Nat} (h : S d e w base ok (.slice (some ad) n c) xs) (z : α) (i : Int) (h0 : 0 ≤ i) (h1 : i < (n : Int)) (hl : i.toNat + 1 = n) :
    ∃ (oki : Nat → Prop) (cs : List Value), cs.length = d.sz ∧ d.M w base oki (xs.getD i.toNat z) cs ∧ (∀ j u, cs[j]? = some u → w.cell? (ad.add (i.toNat * d.sz + j)) = some u) ∧ (∀ k, oki k → ok k) ∧ S d e w base (fun k => ok k ∧ ¬ oki k) (.slice (some ad) i.toNat c) (xs.take i.toNat) := by
  obtain ⟨g, rfl⟩ := R_head (S_R h)
  have hn := (S_reads' h).1
  obtain ⟨oki, cs, hcl, hM, hcc, hoki, _, f, hR⟩ := S_lend h z i h0 h1
  refine ⟨oki, cs, hcl, hM, fun j u hu => ?_, fun k hk => (hoki k hk).1, f, ?_⟩
  · rw [add_at, Nat.zero_add]; exact hcc j u hu
  have h2 := R_take hR (m := i.toNat) (by rw [List.length_zipIdx]; omega)
  have he : (xs.take i.toNat).zipIdx = xs.zipIdx.take i.toNat := by
    apply List.ext_getElem?
    intro j
    simp only [List.getElem?_zipIdx, List.getElem?_take, Nat.zero_add]
    split <;> simp
  rw [he]
  obtain ⟨h3, inner, ho, hr⟩ := h2
  refine ⟨h3, inner, ho, hr.1, fun j p hj => (hr.2 j p hj).2 ?_⟩
  rw [← he, List.getElem?_zipIdx, Nat.zero_add] at hj
  obtain ⟨x, hx, rfl⟩ := Option.map_eq_some_iff.1 hj
  have : j < (xs.take i.toNat).length := (List.getElem?_eq_some_iff.1 hx).1
  rw [List.length_take] at this
  show j ≠ i.toNat
  omega
end
end Kd
/-- A desk's rows, all apart: of its place, of those of before. -/
def AD {α : Type} (kp : Kd α) (e ei n : Nat) (v0 v2 v3 : Value) (u w : List Int) (a : List α) : Asn := fun W B => (Kd.int .i64).R ei W n (fun b => B b ∧ some b ≠ v2.ownBlock) v0 u ∧ (Kd.int .i64).R ei W n (fun b => B b ∧ some b ≠ v0.ownBlock) v2 w ∧ Kd.Sc kp e W n (fun b => B b ∧ some b ≠ v0.ownBlock ∧ some b ≠ v2.ownBlock) v3 a
section
variable {α : Type} {kp : Kd α} {e ei n c0 c2 c3 : Nat} {v0 v2 v3 : Value} {u w : List Int} {a : List α} {A0 A2 A3 : Option Addr} {w0 W W1 : World} {Xs : Nat → Prop} {P L R : List Asn} {ok0 ok2 : Nat → Prop}
instance : Loc (AD kp e ei n v0 v2 v3 u w a) := ⟨fun hB hm h =>
  ⟨Kd.R_mono (Kd.R_step (Kd.R_bound h.1) (fun k hk hlt => hm k hk.1.1 hlt)) (fun k hk => ⟨hB k hk.1.1 hk.2.2.1, hk.1.2⟩), Kd.R_mono (Kd.R_step (Kd.R_bound h.2.1) (fun k hk hlt => hm k hk.1.1 hlt)) (fun k hk => ⟨hB k hk.1.1 hk.2.2.1, hk.1.2⟩),
    Kd.Sc_mono (Kd.Sc_step (Kd.Sc_bound h.2.2) (fun k hk hlt => hm k hk.1.1 hlt)) (fun k hk => ⟨hB k hk.1.1 hk.2.2, hk.1.2⟩)⟩⟩
instance : GetA w0 Xs W (AD kp e ei n (.slice A0 u.length c0) v2 v3 u w a) ((Kd.int .i64).C W A0 u.length u) := ⟨fun _ _ h => (Kd.R_reads' h.1).2.2⟩
instance : GetA w0 Xs W (AD kp e ei n (.slice A0 u.length c0) v2 v3 u w a) (u.length ≤ c0) := ⟨fun _ _ h => (Kd.R_reads' h.1).2.1⟩
instance : GetA w0 Xs W (AD kp e ei n v0 (.slice A2 w.length c2) v3 u w a) ((Kd.int .i64).C W A2 w.length w) := ⟨fun _ _ h => (Kd.R_reads' h.2.1).2.2⟩
instance : GetA w0 Xs W (AD kp e ei n v0 (.slice A2 w.length c2) v3 u w a) (w.length ≤ c2) := ⟨fun _ _ h => (Kd.R_reads' h.2.1).2.1⟩
instance : GetA w0 Xs W (AD kp e ei n v0 v2 (.slice A3 a.length c3) u w a) (kp.C W A3 a.length a) := ⟨fun _ _ h => (Kd.Sc_reads' h.2.2).2.2⟩
instance : GetA w0 Xs W (AD kp e ei n v0 v2 (.slice A3 a.length c3) u w a) (a.length ≤ c3) := ⟨fun _ _ h => (Kd.Sc_reads' h.2.2).2.1⟩
/-- Nothing told. -/
def Em : Asn := fun _ _ => True
instance : Loc Em := ⟨fun _ _ _ => trivial⟩
/-- Of a call's result. -/
theorem SX.bD [Loc (Po P)] [Loc (St L)] (h : SX w0 Xs P L W) (hb : Below W.heap.size W W1) (h0 : (Kd.int .i64).R ei W1 W.heap.size (fun b => some b ≠ v2.ownBlock) v0 u) (h2 : (Kd.int .i64).R ei W1 W.heap.size (fun b => some b ≠ v0.ownBlock) v2 w) (h3 : Kd.Sc kp e W1 W.heap.size (fun b => some b ≠ v0.ownBlock ∧ some b ≠ v2.ownBlock) v3 a) :
    SX w0 Xs P (AD kp e ei w0.heap.size v0 v2 v3 u w a :: L) W1 :=
  h.box hb ⟨Kd.R_lower (Kd.R_mono (Kd.R_bound h0) (fun _ hk => ⟨hk.2.1, hk.1⟩)) h.le, Kd.R_lower (Kd.R_mono (Kd.R_bound h2) (fun _ hk => ⟨hk.2.1, hk.1⟩)) h.le, Kd.Sc_lower (Kd.Sc_mono (Kd.Sc_bound h3) (fun _ hk => ⟨hk.2.1, hk.1⟩)) h.le⟩
theorem SX.mad (h : SX w0 Xs P L W) (h0 : (Kd.int .i64).R ei W1 W.heap.size (fun b => some b ≠ v2.ownBlock) v0 u) (h2 : (Kd.int .i64).R ei W1 W.heap.size (fun b => some b ≠ v0.ownBlock) v2 w) (h3 : Kd.Sc kp e W1 W.heap.size (fun b => some b ≠ v0.ownBlock ∧ some b ≠ v2.ownBlock) v3 a) :
    AD kp e ei w0.heap.size v0 v2 v3 u w a W1 (fun k => W.heap.size ≤ k) :=
  ⟨Kd.R_lower (Kd.R_mono (Kd.R_bound h0) (fun _ hk => ⟨hk.2.1, hk.1⟩)) h.le, Kd.R_lower (Kd.R_mono (Kd.R_bound h2) (fun _ hk => ⟨hk.2.1, hk.1⟩)) h.le, Kd.Sc_lower (Kd.Sc_mono (Kd.Sc_bound h3) (fun _ hk => ⟨hk.2.1, hk.1⟩)) h.le⟩
instance : GetA w0 Xs W (AD kp e ei n v0 v2 v3 u w a) ((Kd.int .i64).R ei W n (fun k_ => some k_ ≠ v2.ownBlock) v0 u) := ⟨fun _ _ h => Kd.R_mono h.1 (fun _ hk => hk.2)⟩
instance : GetA w0 Xs W (AD kp e ei n v0 v2 v3 u w a) ((Kd.int .i64).R ei W n (fun k_ => some k_ ≠ v0.ownBlock) v2 w) := ⟨fun _ _ h => Kd.R_mono h.2.1 (fun _ hk => hk.2)⟩
instance : GetA w0 Xs W (AD kp e ei n v0 v2 v3 u w a) (Kd.Sc kp e W n (fun k_ => some k_ ≠ v0.ownBlock ∧ some k_ ≠ v2.ownBlock) v3 a) := ⟨fun _ _ h => Kd.Sc_mono h.2.2 (fun _ hk => hk.2)⟩
/-- Only read, as any row. -/
theorem SX.msc (_h : SX w0 Xs P L W) (h3 : Kd.Sc kp e W1 W.heap.size ok0 v3 a) : AV kp e w0.heap.size v3 a W1 (fun k => W.heap.size ≤ k) := by
  obtain ⟨A, c, c', rfl, hc, hs⟩ := Kd.Sc_bound h3
  exact ⟨A, c, rfl, hc, Kd.F_mono (Kd.R_F (Kd.S_R hs)) (fun _ hk => hk.2.1)⟩
/-- A fact of the list, turned by a call over its own blocks. -/
theorem SX.turn {A : Asn} (h : ST w0 P L W) [t : Tk L A R] [Loc (Po P)] [Loc (St R)] : ∃ B : Nat → Prop, A W B ∧ ∀ {A' : Asn} {W1 : World}, Below w0.heap.size w0 W1 → Kept W W1 B → A' W1 B → ST w0 P (A' :: R) W1 := by
  obtain ⟨B1, B2, hd, hs, ⟨ha, h2⟩⟩ := St.swap (St.tail t.tk h.2)
  refine ⟨B1, ha, fun {A' W1} hb hk ha' => ⟨⟨hb.os, hb.tape, hb.output, hb.size, fun k hk _ => hb.block k hk⟩, St.swap ⟨B1, fun k => B2 k ∧ k < W.heap.size, fun k h1 h3 => hd k h1 h3.1, fun k hk => hk.elim (fun h1 => hs k (.inl h1)) (fun h3 => hs k (.inr h3.1)), ha', Loc.mv (fun k hk hlt => ⟨hk, hlt⟩) (fun k hk2 hlt => hk.2 k hlt (fun h1 => hd k h1 hk2)) h2⟩⟩⟩
end
/-- What follows, shown once. -/
theorem kk_ {X G : Prop} (h : X → G) (k : X) : G := h k
/-- Of what is only read, or of the list. -/
class GetE (w0 : World) (Xs : Nat → Prop) (W : World) (P L : List Asn) (p : Prop) : Prop where
  g : SX w0 Xs P L W → p
instance (priority := high) {w0 : World} {Xs : Nat → Prop} {W : World} {P L : List Asn} {p : Prop} [i : Get w0 Xs W P p] : GetE w0 Xs W P L p := ⟨fun h => gt_ h⟩
instance {w0 : World} {Xs : Nat → Prop} {W : World} {P L : List Asn} {p : Prop} [i : GetL w0 Xs W L p] : GetE w0 Xs W P L p := ⟨fun h => gtl_ h⟩
theorem ga_ {w0 : World} {Xs : Nat → Prop} {W : World} {P L : List Asn} {p : Prop} (h : SX w0 Xs P L W) [i : GetE w0 Xs W P L p] : p := i.g h
end Go.Proofs.YtmodbemkflkbeaaGreatDoorW.PrintWords
