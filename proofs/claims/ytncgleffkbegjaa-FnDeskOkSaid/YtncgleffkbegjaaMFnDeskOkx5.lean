/- For the law FnDeskOk: walks of the functions that it reaches: each call returns what the plain function beside it tells. The conditions stand in each statement. -/
import Derived.Test.YtncgleffkbegjaaV
import Derived.Test.YtncgleffkbegjaaMFnDeskOkx0
namespace Go.Proofs.Ytncgleffkbegjaa.MFnDeskOk
open Go.RowKit Go.Proofs.YtncgleffkbegjaaW.PrintWords Go.Proofs.YtncgleffkbegjaaW.PrintLast Go.Proofs.YtncgleffkbegjaaW.PrintMore
attribute [local go_sem] max2_int min2_int max_two min_two max_three min_three max_four min_four   -- for this text's walks alone
set_option linter.unusedVariables false
set_option linter.unusedSimpArgs false

/-- A state of type 69 at block g of W; what its slices lead to came in by w0. -/
def IsS69 (w0 W : World) (g : Nat) (f0 : List Int) (f1 : Int) : Prop := ∃ A0 c0, W.heap[g]? = some (.cells #[.slice A0 f0.length c0, .int .i64 f1] 69 (0, 0)) ∧ w0.heap.size ≤ g ∧ Kd.C (Kd.int .u8) w0 A0 f0.length f0
theorem IsS69.grown {w0 W : World} {g : Nat} {f0 : List Int} {f1 : Int} {W1 : World} {row : Option Nat} (h : IsS69 w0 W g f0 f1) (hw : W.grownBy W1 row) (hne : some g ≠ row) : IsS69 w0 W1 g f0 f1 := by
 obtain ⟨A0, c0, hb, hg, hr0⟩ := h
 exact ⟨A0, c0, blk_grown hb hw hne, hg, hr0⟩
theorem IsS69.own_neN {w0 W : World} {g : Nat} {f0 : List Int} {f1 : Int} {α : Type} {d : Kd α} {e : Nat} {base : Nat} {ok : Nat → Prop} {v : Value} {xs : List α} (h : IsS69 w0 W g f0 f1) (ho : Kd.N d e W base ok v xs) (ht : e ≠ 69) : some g ≠ v.ownBlock := by
 obtain ⟨A0, c0, hb, hg, hr0⟩ := h
 exact Kd.N_ne ho hb ht
theorem IsS69.fresh {w0 W : World} {g : Nat} {f0 : List Int} {f1 : Int} (h : IsS69 w0 W g f0 f1) : ∀ k, W.heap.size ≤ k → k ≠ g := by
 obtain ⟨A0, c0, hb, hg, hr0⟩ := h
 exact Kd.freshB hb
theorem IsS69.kept {w0 W : World} {g : Nat} {f0 : List Int} {f1 : Int} {W1 : World} {S : Nat → Prop} (h : IsS69 w0 W g f0 f1) (hk : Kept W W1 S) (hne : ¬ S g) : IsS69 w0 W1 g f0 f1 := by
 obtain ⟨A0, c0, hb, hg, hr0⟩ := h
 exact ⟨A0, c0, blk_kept hb hk hne, hg, hr0⟩
theorem IsS69.below {w0 W : World} {g : Nat} {f0 : List Int} {f1 : Int} {W1 : World} (h : IsS69 w0 W g f0 f1) (hw : Below W.heap.size W W1) : IsS69 w0 W1 g f0 f1 := h.grown (grown_of_below hw none) (by simp)
theorem IsS69.alloc {w0 W : World} {g : Nat} {f0 : List Int} {f1 : Int} (h : IsS69 w0 W g f0 f1) (o : Obj) : IsS69 w0 (W.alloc o) g f0 f1 := h.below (la_ (Below.refl _ _) o)
theorem IsS69.drewN {w0 W : World} {g : Nat} {f0 : List Int} {f1 : Int} (h : IsS69 w0 W g f0 f1) (m : Nat) : IsS69 w0 (W.drewN m) g f0 f1 := h
theorem IsS69.drew {w0 W : World} {g : Nat} {f0 : List Int} {f1 : Int} (h : IsS69 w0 W g f0 f1) : IsS69 w0 W.drew g f0 f1 := h
theorem IsS69.at_ {w0 W : World} {g : Nat} {f0 : List Int} {f1 : Int} {w' : World} {m : Nat} (hq : W.drewN m = w') (h : IsS69 w0 W g f0 f1) : IsS69 w0 w' g f0 f1 := by subst hq; exact IsS69.drewN h m
theorem IsS69.apart {w0 W : World} {g : Nat} {f0 : List Int} {f1 : Int} {α : Type} {d : Kd α} {e : Nat} {base : Nat} {ok : Nat → Prop} {v : Value} {xs : List α} (h : IsS69 w0 W g f0 f1) (ho : d.R e W base ok v xs) (ht : ∀ q, q ∈ e :: d.E → q ≠ 69) : d.R e W base (fun k => ok k ∧ k ≠ g) v xs := by
 obtain ⟨A0, c0, hb, hg, hr0⟩ := h
 exact Kd.R_types ho hb ht
theorem IsS69.own_ne {w0 W : World} {g : Nat} {f0 : List Int} {f1 : Int} {α : Type} {d : Kd α} {e : Nat} {base : Nat} {ok : Nat → Prop} {v : Value} {xs : List α} (h : IsS69 w0 W g f0 f1) (ho : d.R e W base ok v xs) (ht : e ≠ 69) : some g ≠ v.ownBlock := by
 obtain ⟨A0, c0, hb, hg, hr0⟩ := h
 exact Kd.R_ne ho hb ht
theorem IsS69.apartQ {w0 W : World} {g : Nat} {f0 : List Int} {f1 : Int} {α : Type} {d : Kd α} {e : Nat} {base : Nat} {ok : Nat → Prop} {v : Value} {xs : List α} (h : IsS69 w0 W g f0 f1) (ho : d.Q e W base ok v xs) (ht : ∀ q, q ∈ e :: d.E → q ≠ 69) : d.Q e W base (fun k => ok k ∧ k ≠ g) v xs := by
 obtain ⟨A0, c0, hb, hg, hr0⟩ := h
 exact Kd.Q_types ho hb ht
theorem IsS69.own_neQ {w0 W : World} {g : Nat} {f0 : List Int} {f1 : Int} {α : Type} {d : Kd α} {e : Nat} {base : Nat} {ok : Nat → Prop} {v : Value} {xs : List α} (h : IsS69 w0 W g f0 f1) (ho : d.Q e W base ok v xs) (ht : e ≠ 69) : some g ≠ v.ownBlock := by
 obtain ⟨A0, c0, hb, hg, hr0⟩ := h
 exact Kd.Q_ne ho hb ht
theorem IsS69.apartS {w0 W : World} {g : Nat} {f0 : List Int} {f1 : Int} {α : Type} {d : Kd α} {e : Nat} {base : Nat} {ok : Nat → Prop} {v : Value} {xs : List α} (h : IsS69 w0 W g f0 f1) (ho : d.S e W base ok v xs) (ht : ∀ q, q ∈ e :: d.E → q ≠ 69) : d.S e W base (fun k => ok k ∧ k ≠ g) v xs := by
 obtain ⟨A0, c0, hb, hg, hr0⟩ := h
 exact Kd.S_types ho hb ht
theorem IsS69.own_neS {w0 W : World} {g : Nat} {f0 : List Int} {f1 : Int} {α : Type} {d : Kd α} {e : Nat} {base : Nat} {ok : Nat → Prop} {v : Value} {xs : List α} (h : IsS69 w0 W g f0 f1) (ho : d.S e W base ok v xs) (ht : e ≠ 69) : some g ≠ v.ownBlock := by
 obtain ⟨A0, c0, hb, hg, hr0⟩ := h
 exact Kd.S_ne ho hb ht
theorem IsS69.lt {w0 W : World} {g : Nat} {f0 : List Int} {f1 : Int} (h : IsS69 w0 W g f0 f1) : g < W.heap.size := by
 obtain ⟨A0, c0, hb, hg, hr0⟩ := h
 exact blk_lt hb
theorem IsS69.ge {w0 W : World} {g : Nat} {f0 : List Int} {f1 : Int} (h : IsS69 w0 W g f0 f1) : w0.heap.size ≤ g := by
 obtain ⟨A0, c0, hb, hg, hr0⟩ := h
 exact hg
theorem IsS69.ne_blk {w0 W : World} {g : Nat} {f0 : List Int} {f1 : Int} {a : Nat} {cs : Array Value} {t : TypeId} {fr : Nat × Nat} (h : IsS69 w0 W g f0 f1) (hb2 : W.heap[a]? = some (.cells cs t fr)) (ht : t ≠ 69) : g ≠ a := by
 obtain ⟨A0, c0, hb, hg, hr0⟩ := h
 rintro rfl
 rw [hb] at hb2
 injection hb2 with hb2
 injection hb2 with _ ht2
 exact ht ht2.symm
theorem IsS69.far {w0 W : World} {g : Nat} {f0 : List Int} {f1 : Int} {p : Addr} (h : IsS69 w0 W g f0 f1) (hne : g ≠ p.block) (u : Value) : IsS69 w0 (W.setCell p u) g f0 f1 := by
 obtain ⟨A0, c0, hb, hg, hr0⟩ := h
 exact ⟨A0, c0, blk_far hb hne u, hg, hr0⟩
theorem cellS69_0 {W : World} {g : Nat} {A0 : Option Addr} {c0 : Nat} {f0 : List Int} {f1 : Int} (h : W.heap[g]? = some (.cells #[.slice A0 f0.length c0, .int .i64 f1] 69 (0, 0))) : W.cell? ⟨g, 0, none⟩ = some (.slice A0 f0.length c0) := (blk_cell h 0).trans rfl
theorem cellS69_1 {W : World} {g : Nat} {A0 : Option Addr} {c0 : Nat} {f0 : List Int} {f1 : Int} (h : W.heap[g]? = some (.cells #[.slice A0 f0.length c0, .int .i64 f1] 69 (0, 0))) : W.cell? ⟨g, 1, none⟩ = some (.int .i64 f1) := (blk_cell h 1).trans rfl
theorem IsS69.set_1 {w0 W : World} {g : Nat} {f0 : List Int} {f1 : Int} (h : IsS69 w0 W g f0 f1) (x : Int) : IsS69 w0 (W.setCell ⟨g, 1, none⟩ (.int .i64 x)) g f0 x := by
 obtain ⟨A0, c0, hb, hg, hr0⟩ := h
 exact ⟨A0, c0, by simpa using blk_set hb 1 (.int .i64 x), hg, hr0⟩
theorem IsS69.new (w0 W : World) (A0 : Option Addr) (c0 : Nat) (f0 : List Int) (f1 : Int) (hB : Below w0.heap.size w0 W) (hr0 : Kd.C (Kd.int .u8) w0 A0 f0.length f0) : IsS69 w0 (W.alloc (.cells #[.slice A0 f0.length c0, .int .i64 f1] 69)) W.heap.size f0 f1 := ⟨A0, c0, by simpa using heap_alloc_new W _, hB.size, hr0⟩

theorem ti69_ {P Q : Prop} (h : Q) (hp : Q → P := by intro h_; repeat (first | (with_reducible first | exact h_ | apply IsS69.alloc | apply IsS69.drewN | apply IsS69.drew | apply IsS69.set_1 | refine IsS69.far ?_ (Aside0.out (by assumption)) _) | exact h_)) : P := hp h
theorem tu69_ {B : Nat} {w W0 W : World} (h : Below B w W0) (hp : Below B w W0 → Below B w W := by intro h_; repeat (first | (with_reducible first | exact h_ | apply la_ | apply ln_ | apply ld_ | refine below_set ?_ (IsS69.ge (Aside0.out (by assumption))) | refine below_set ?_ (Aside0.out (by assumption))) | exact h_)) : Below B w W := hp h
theorem tu69_s {w W0 W W2 : World} (h : Aside0 (Below w.heap.size w W0)) (k_ : Below W.heap.size W W2) (hp : Below w.heap.size w W0 → Below w.heap.size w W := by intro h_; exact tu69_ h_) : Aside0 (Below w.heap.size w W2) := ⟨below_step (hp h.out) k_⟩
theorem ti69_b {w0 W0 W W1 : World} {g : Nat} {f0 : List Int} {f1 : Int} (h : Aside0 (IsS69 w0 W0 g f0 f1)) (hb : Below W.heap.size W W1) (hp : IsS69 w0 W0 g f0 f1 → IsS69 w0 W g f0 f1 := by intro h_; exact ti69_ h_) : Aside0 (IsS69 w0 W1 g f0 f1) := ⟨IsS69.below (hp h.out) hb⟩
/-! ### spec_l20Rd_pick: function 44 -/
def spec_l20Rd_pick.j0 : Nat → Int → Bool → List Int → Int → Option (Int × Int)
 | 0, _, _, _, _ => none
 | k + 1, x1, x24, ad, af => if x24 = true then (some (0, af)) else (if (wrap64 (af - 1)) < (ad.length : Int) then (if 0 ≤ (wrap64 (af - 1)) then (if x1 = 0 then (none) else (some (Int.tmod (wrap64 (rd ad (wrap64 (af - 1)))) x1, af))) else (none)) else (if (ad.length : Int) = 0 then (none) else (if 0 ≤ (Int.tmod (wrap64 (af - 1)) (ad.length : Int)) then (if (Int.tmod (wrap64 (af - 1)) (ad.length : Int)) < (ad.length : Int) then (if 0 ≤ (Int.tmod (wrap64 ((wrap64 ((wrap64 (af - 1)) * 7)) + 3)) (ad.length : Int)) then (if (Int.tmod (wrap64 ((wrap64 ((wrap64 (af - 1)) * 7)) + 3)) (ad.length : Int)) < (ad.length : Int) then (if x1 = 0 then (none) else (some (Int.tmod (Go.bits .xor .i64 (wrap64 ((wrap64 ((wrap64 ((wrap64 ((wrap64 (rd ad (Int.tmod (wrap64 (af - 1)) (ad.length : Int)))) * 131)) + (wrap64 ((wrap64 (rd ad (Int.tmod (wrap64 ((wrap64 ((wrap64 (af - 1)) * 7)) + 3)) (ad.length : Int)))) * 1117)))) + (wrap64 ((wrap64 (af - 1)) * 29)))) + (wrap64 ((wrap64 (Int.tdiv (wrap64 (af - 1)) (ad.length : Int))) * 53)))) (wrap64 (Int.tdiv (wrap64 ((wrap64 ((wrap64 ((wrap64 ((wrap64 (rd ad (Int.tmod (wrap64 (af - 1)) (ad.length : Int)))) * 131)) + (wrap64 ((wrap64 (rd ad (Int.tmod (wrap64 ((wrap64 ((wrap64 (af - 1)) * 7)) + 3)) (ad.length : Int)))) * 1117)))) + (wrap64 ((wrap64 (af - 1)) * 29)))) + (wrap64 ((wrap64 (Int.tdiv (wrap64 (af - 1)) (ad.length : Int))) * 53)))) 64))) x1, af))) else (none)) else (none)) else (none)) else (none))))
def spec_l20Rd_pick.f (k : Nat) (aa : List Int) (ab : Int) (a1 : Int) : Option (Int × Int) := if a1 < 1 then (spec_l20Rd_pick.j0 k a1 true aa (wrap64 (ab + 1))) else (spec_l20Rd_pick.j0 k a1 ((aa.length : Int) == 0) aa (wrap64 (ab + 1)))
theorem spec_l20Rd_pick.mono_l : ∀ k, (∀ y0 y1 y2 y3, LeO (spec_l20Rd_pick.j0 k y0 y1 y2 y3) (spec_l20Rd_pick.j0 (k + 1) y0 y1 y2 y3))
 | 0 => fun _ _ _ _ r h => by simp [spec_l20Rd_pick.j0] at h
 | k + 1 => by
  have ih0 := spec_l20Rd_pick.mono_l k
  ·
   intro y0 y1 y2 y3
   unfold spec_l20Rd_pick.j0
   repeat' (with_reducible first | exact ih0 _ _ _ _ | exact mr_ | exact mn_ | refine mi_ ?_ ?_ | refine mb_ ?_ (fun _ => ?_))
theorem spec_l20Rd_pick.mono : ∀ a0 a1 a2 k, LeO (spec_l20Rd_pick.f k a0 a1 a2) (spec_l20Rd_pick.f (k + 1) a0 a1 a2) := by
 intro a0 a1 a2 k; have ih0 := spec_l20Rd_pick.mono_l k; unfold spec_l20Rd_pick.f; repeat' (with_reducible first | exact ih0 _ _ _ _ | exact mr_ | exact mn_ | refine mi_ ?_ ?_ | refine mb_ ?_ (fun _ => ?_))
set_option maxHeartbeats 8000000 in
set_option maxRecDepth 100000 in
theorem spec_l20Rd_pick.calls (k : Nat) (g : Nat) (aa : List Int) (ab : Int) (a1 : Int) (r1 : Int) (r2 : Int) (w0 w : World) (hI : IsS69 w0 w g aa ab) (hB : Below w0.heap.size w0 w) (h : spec_l20Rd_pick.f k aa ab a1 = some (r1, r2)) :
  Calls Try.prog 44 #[.pointer (some ⟨g, 0, none⟩), .int .i64 a1] w fun e w' => e = .returned (.int .i64 r1) ∧ IsS69 w0 w' g aa r2 ∧ Below w0.heap.size w0 w' ∧ KeepBut w w' g none := by
 have HI0 := A_ hI; have HK := A_ (KeepBut.refl w g none); have HL := A_ hB.size; have HLg := A_ hI.lt; clear hI; have HW0 := A_ hB.size; have HB := A_ hB; clear hB; have H : (if a1 < 1 then (spec_l20Rd_pick.j0 k a1 true aa (wrap64 (ab + 1))) else (spec_l20Rd_pick.j0 k a1 ((aa.length : Int) == 0) aa (wrap64 (ab + 1)))) = some (r1, r2) := h; clear h; have HC3 := A_ H; clear H; obtain ⟨ASz4_0, cSz4_0, HGz4, hgz4, HSz4_0⟩ := HI0.out; have a6 := cellS69_0 HGz4; have a7 := cellS69_1 HGz4; have a8 := blk_frozen HGz4 1; clear HGz4 hgz4; go_enter Try.func44, Try.ntmps44
 go_upto_region 2 with (fail)
 repeat (go_quiet (fail); go_upto_region 2 with (fail))
 go_cut [24] (fun b6 wc => ∃ (kq : Nat) (aw : Bool), b6 = .bool aw ∧ Aside0 (spec_l20Rd_pick.j0 kq a1 aw aa (wrap64 (ab + 1)) = some (r1, r2)) ∧ Aside0 (kq ≤ k) ∧ Aside0 (IsS69 w0 wc g aa (wrap64 (ab + 1))) ∧ Aside0 (KeepBut w wc g none) ∧ Aside0 (Below w0.heap.size w0 wc))
 case first =>
  have H := HC3.out; clear HC3; by_cases c5 : a1 < 1
  ·
   rw [if_pos c5] at H; have aA : decide (a1 < 1) = true := decide_eq_true c5; clear c5; (first | rw [aA] | (simp only [i64_w, i32_w]; rw [aA]) | skip); have H' := A_ H; clear H; go_wp2; repeat (go_quiet (fail); try go_wp2)
   go_meet
   case rel => exact ⟨_, (true), tx_, H', ⟨by first | omega | exact Nat.le_refl _⟩, ⟨ti69_ HI0.out⟩, ⟨(tc_ HK.out)⟩, ⟨tu69_ HB.out⟩⟩
  ·
   rw [if_neg c5] at H; have aA : decide (a1 < 1) = false := decide_eq_false c5; clear c5; (first | rw [aA] | (simp only [i64_w, i32_w]; rw [aA]) | skip); have H' := A_ H; clear H; obtain ⟨ASz6_0, cSz6_0, HGz6, hgz6, HSz6_0⟩ := HI0.out; have a9 := cellS69_0 HGz6; have bb := cellS69_1 HGz6; have bc := blk_frozen HGz6 1; clear HGz6 hgz6; go_wp2; repeat (go_quiet (fail); try go_wp2)
   go_meet
   case rel => exact ⟨_, (((aa.length : Int) == 0)), tx_, H', ⟨by first | omega | exact Nat.le_refl _⟩, ⟨ti69_ HI0.out⟩, ⟨(tc_ HK.out)⟩, ⟨tu69_ HB.out⟩⟩
 case rest =>
  clear HC3; (try clear p2); (try clear c4); (try clear c5); (try clear aA); (try clear p6); (try clear a6); (try clear a7); (try clear a9); (try clear bb); (try clear a8); (try clear bc); obtain ⟨kq, aw, rfl, HA, HJ2, HI0, HK, HB⟩ := hcut
  cases kq with
  | zero => exact absurd HA.out (by simp [spec_l20Rd_pick.j0])
  | succ kj2 =>
   have H := HA.out; clear HA; simp only [spec_l20Rd_pick.j0] at H; by_cases c7 : aw = true
   ·
    subst c7; replace H : (some (0, (wrap64 (ab + 1)))) = some (r1, r2) := by rw [if_pos rfl] at H; exact H
    simp only [Option.some.injEq, Prod.mk.injEq] at H; obtain ⟨rfl, rfl⟩ := H; go_wp2; repeat (go_quiet (fail); try go_wp2)
    go_ret; exact ⟨tw_, ti69_ HI0.out, tu69_ HB.out, (tc_ HK.out)⟩
   ·
    replace c7 := Bool.eq_false_iff.mpr c7; subst c7; replace H : (if (wrap64 ((wrap64 (ab + 1)) - 1)) < (aa.length : Int) then (if 0 ≤ (wrap64 ((wrap64 (ab + 1)) - 1)) then (if a1 = 0 then (none) else (some (Int.tmod (wrap64 (rd aa (wrap64 ((wrap64 (ab + 1)) - 1)))) a1, (wrap64 (ab + 1))))) else (none)) else (if (aa.length : Int) = 0 then (none) else (if 0 ≤ (Int.tmod (wrap64 ((wrap64 (ab + 1)) - 1)) (aa.length : Int)) then (if (Int.tmod (wrap64 ((wrap64 (ab + 1)) - 1)) (aa.length : Int)) < (aa.length : Int) then (if 0 ≤ (Int.tmod (wrap64 ((wrap64 ((wrap64 ((wrap64 (ab + 1)) - 1)) * 7)) + 3)) (aa.length : Int)) then (if (Int.tmod (wrap64 ((wrap64 ((wrap64 ((wrap64 (ab + 1)) - 1)) * 7)) + 3)) (aa.length : Int)) < (aa.length : Int) then (if a1 = 0 then (none) else (some (Int.tmod (Go.bits .xor .i64 (wrap64 ((wrap64 ((wrap64 ((wrap64 ((wrap64 (rd aa (Int.tmod (wrap64 ((wrap64 (ab + 1)) - 1)) (aa.length : Int)))) * 131)) + (wrap64 ((wrap64 (rd aa (Int.tmod (wrap64 ((wrap64 ((wrap64 ((wrap64 (ab + 1)) - 1)) * 7)) + 3)) (aa.length : Int)))) * 1117)))) + (wrap64 ((wrap64 ((wrap64 (ab + 1)) - 1)) * 29)))) + (wrap64 ((wrap64 (Int.tdiv (wrap64 ((wrap64 (ab + 1)) - 1)) (aa.length : Int))) * 53)))) (wrap64 (Int.tdiv (wrap64 ((wrap64 ((wrap64 ((wrap64 ((wrap64 (rd aa (Int.tmod (wrap64 ((wrap64 (ab + 1)) - 1)) (aa.length : Int)))) * 131)) + (wrap64 ((wrap64 (rd aa (Int.tmod (wrap64 ((wrap64 ((wrap64 ((wrap64 (ab + 1)) - 1)) * 7)) + 3)) (aa.length : Int)))) * 1117)))) + (wrap64 ((wrap64 ((wrap64 (ab + 1)) - 1)) * 29)))) + (wrap64 ((wrap64 (Int.tdiv (wrap64 ((wrap64 (ab + 1)) - 1)) (aa.length : Int))) * 53)))) 64))) a1, (wrap64 (ab + 1))))) else (none)) else (none)) else (none)) else (none)))) = some (r1, r2) := by rw [if_neg (show ¬ (false = true) by decide)] at H; exact H
    by_cases c8 : (wrap64 ((wrap64 (ab + 1)) - 1)) < (aa.length : Int)
    ·
     rw [if_pos c8] at H; have bf : decide ((wrap64 ((wrap64 (ab + 1)) - 1)) < (aa.length : Int)) = true := decide_eq_true c8; clear c8; obtain ⟨aU, aB⟩ : ∃ j_ : Int, (wrap64 ((wrap64 (ab + 1)) - 1)) = j_ := ⟨_, rfl⟩
     replace H : (if 0 ≤ (aU) then (if a1 = 0 then (none) else (some (Int.tmod (wrap64 (rd aa (aU))) a1, (wrap64 (ab + 1))))) else (none)) = some (r1, r2) := by first | (rw [aB] at H; exact H) | (simp only [aB] at H ⊢; exact H)
     (try rw [aB] at bf); have bP : (IntKind.i64.wrap ((wrap64 (ab + 1)) - 1)) = aU := (i64_w _).trans aB; by_cases c10 : 0 ≤ (aU)
     ·
      rw [if_pos c10] at H; have bQ : decide (0 ≤ (aU)) = true := decide_eq_true c10; clear c10; by_cases c11 : a1 = 0
      ·
       rw [if_pos c11] at H; exact absurd H (by simp)
      ·
       rw [if_neg c11] at H; have bR : (a1 == 0) = false := beq_eq_false_iff_ne.mpr c11; have bS : (a1 != 0) = true := bne_iff_ne.mpr c11; simp only [Option.some.injEq, Prod.mk.injEq] at H; obtain ⟨rfl, rfl⟩ := H; obtain ⟨ASz12_0, cSz12_0, HGz12, hgz12, HSz12_0⟩ := HI0.out; have bw := cellS69_0 HGz12; have bx := cellS69_1 HGz12; have bz := blk_frozen HGz12 1; clear HGz12 hgz12; have p192 : 0 ≤ ((aU) : Int) := od_; have q192 : (aU) < (aa.length : Int) := od_; obtain ⟨ad192, e192, ax⟩ := Kd.at_int HSz12_0 (aU) p192 q192; cases e192; replace ax := pw_cell_below HB.out ax; replace p192 := eq_true p192; replace q192 := eq_true q192; go_wp2; repeat (go_quiet (fail); try go_wp2)
       go_ret; exact ⟨by first | rfl | (simp [errW_none, errW_some] <;> rfl) | (simp only [← aB]; first | rfl | (simp [errW_none, errW_some] <;> rfl)) | (simp [*, errW_none, errW_some] <;> rfl), ti69_ HI0.out, tu69_ HB.out, (tc_ HK.out)⟩
     ·
      rw [if_neg c10] at H; exact absurd H (by simp)
    ·
     rw [if_neg c8] at H; have bf : decide ((wrap64 ((wrap64 (ab + 1)) - 1)) < (aa.length : Int)) = false := decide_eq_false c8; clear c8; by_cases c13 : (aa.length : Int) = 0
     ·
      rw [if_pos c13] at H; exact absurd H (by simp)
     ·
      rw [if_neg c13] at H; have bU : ((aa.length : Int) == 0) = false := beq_eq_false_iff_ne.mpr c13; have bV : ((aa.length : Int) != 0) = true := bne_iff_ne.mpr c13; have bW : ¬ (aa = []) := fun h_ => c13 (by rw [h_]; rfl); obtain ⟨ak, aC⟩ : ∃ j_ : Int, (Int.tmod (wrap64 ((wrap64 (ab + 1)) - 1)) (aa.length : Int)) = j_ := ⟨_, rfl⟩
      replace H : (if 0 ≤ (ak) then (if (ak) < (aa.length : Int) then (if 0 ≤ (Int.tmod (wrap64 ((wrap64 ((wrap64 ((wrap64 (ab + 1)) - 1)) * 7)) + 3)) (aa.length : Int)) then (if (Int.tmod (wrap64 ((wrap64 ((wrap64 ((wrap64 (ab + 1)) - 1)) * 7)) + 3)) (aa.length : Int)) < (aa.length : Int) then (if a1 = 0 then (none) else (some (Int.tmod (Go.bits .xor .i64 (wrap64 ((wrap64 ((wrap64 ((wrap64 ((wrap64 (rd aa (ak))) * 131)) + (wrap64 ((wrap64 (rd aa (Int.tmod (wrap64 ((wrap64 ((wrap64 ((wrap64 (ab + 1)) - 1)) * 7)) + 3)) (aa.length : Int)))) * 1117)))) + (wrap64 ((wrap64 ((wrap64 (ab + 1)) - 1)) * 29)))) + (wrap64 ((wrap64 (Int.tdiv (wrap64 ((wrap64 (ab + 1)) - 1)) (aa.length : Int))) * 53)))) (wrap64 (Int.tdiv (wrap64 ((wrap64 ((wrap64 ((wrap64 ((wrap64 (rd aa (ak))) * 131)) + (wrap64 ((wrap64 (rd aa (Int.tmod (wrap64 ((wrap64 ((wrap64 ((wrap64 (ab + 1)) - 1)) * 7)) + 3)) (aa.length : Int)))) * 1117)))) + (wrap64 ((wrap64 ((wrap64 (ab + 1)) - 1)) * 29)))) + (wrap64 ((wrap64 (Int.tdiv (wrap64 ((wrap64 (ab + 1)) - 1)) (aa.length : Int))) * 53)))) 64))) a1, (wrap64 (ab + 1))))) else (none)) else (none)) else (none)) else (none)) = some (r1, r2) := by first | (rw [aC] at H; exact H) | (simp only [aC] at H ⊢; exact H)
      by_cases c15 : 0 ≤ (ak)
      ·
       rw [if_pos c15] at H; have aV : decide (0 ≤ (ak)) = true := decide_eq_true c15; clear c15; by_cases c16 : (ak) < (aa.length : Int)
       ·
        rw [if_pos c16] at H; have bX : decide ((ak) < (aa.length : Int)) = true := decide_eq_true c16; clear c16; obtain ⟨ao, aD⟩ : ∃ j_ : Int, (Int.tmod (wrap64 ((wrap64 ((wrap64 ((wrap64 (ab + 1)) - 1)) * 7)) + 3)) (aa.length : Int)) = j_ := ⟨_, rfl⟩
        replace H : (if 0 ≤ (ao) then (if (ao) < (aa.length : Int) then (if a1 = 0 then (none) else (some (Int.tmod (Go.bits .xor .i64 (wrap64 ((wrap64 ((wrap64 ((wrap64 ((wrap64 (rd aa (ak))) * 131)) + (wrap64 ((wrap64 (rd aa (ao))) * 1117)))) + (wrap64 ((wrap64 ((wrap64 (ab + 1)) - 1)) * 29)))) + (wrap64 ((wrap64 (Int.tdiv (wrap64 ((wrap64 (ab + 1)) - 1)) (aa.length : Int))) * 53)))) (wrap64 (Int.tdiv (wrap64 ((wrap64 ((wrap64 ((wrap64 ((wrap64 (rd aa (ak))) * 131)) + (wrap64 ((wrap64 (rd aa (ao))) * 1117)))) + (wrap64 ((wrap64 ((wrap64 (ab + 1)) - 1)) * 29)))) + (wrap64 ((wrap64 (Int.tdiv (wrap64 ((wrap64 (ab + 1)) - 1)) (aa.length : Int))) * 53)))) 64))) a1, (wrap64 (ab + 1))))) else (none)) else (none)) = some (r1, r2) := by first | (rw [aD] at H; exact H) | (simp only [aD] at H ⊢; exact H)
        by_cases c18 : 0 ≤ (ao)
        ·
         rw [if_pos c18] at H; have bZ : decide (0 ≤ (ao)) = true := decide_eq_true c18; clear c18; by_cases c19 : (ao) < (aa.length : Int)
         ·
          rw [if_pos c19] at H; have b0 : decide ((ao) < (aa.length : Int)) = true := decide_eq_true c19; clear c19; by_cases c20 : a1 = 0
          ·
           rw [if_pos c20] at H; exact absurd H (by simp)
          ·
           rw [if_neg c20] at H; have aW : (a1 == 0) = false := beq_eq_false_iff_ne.mpr c20; have aX : (a1 != 0) = true := bne_iff_ne.mpr c20; simp only [Option.some.injEq, Prod.mk.injEq] at H; obtain ⟨rfl, rfl⟩ := H; obtain ⟨ASz21_0, cSz21_0, HGz21, hgz21, HSz21_0⟩ := HI0.out; have bB := cellS69_0 HGz21; have bC := cellS69_1 HGz21; have bD := blk_frozen HGz21 1; clear HGz21 hgz21; have p193 : 0 ≤ ((ak) : Int) := od_; have q193 : (ak) < (aa.length : Int) := od_; obtain ⟨ad193, e193, ay⟩ := Kd.at_int HSz21_0 (ak) p193 q193; cases e193; replace ay := pw_cell_below HB.out ay; replace p193 := eq_true p193; replace q193 := eq_true q193; have p194 : 0 ≤ ((ao) : Int) := od_; have q194 : (ao) < (aa.length : Int) := od_; obtain ⟨ad194, e194, az⟩ := Kd.at_int HSz21_0 (ao) p194 q194; obtain rfl : ad193 = ad194 := (by injection e194)
           replace az := pw_cell_below HB.out az; replace p194 := eq_true p194; replace q194 := eq_true q194; go_wp2; repeat (go_quiet (fail); try go_wp2)
           go_ret; exact ⟨by first | rfl | (simp [errW_none, errW_some] <;> rfl) | (simp only [← aC, ← aD]; first | rfl | (simp [errW_none, errW_some] <;> rfl)) | (simp [*, errW_none, errW_some] <;> rfl), ti69_ HI0.out, tu69_ HB.out, (tc_ HK.out)⟩
         ·
          rw [if_neg c19] at H; exact absurd H (by simp)
        ·
         rw [if_neg c18] at H; exact absurd H (by simp)
       ·
        rw [if_neg c16] at H; exact absurd H (by simp)
      ·
       rw [if_neg c15] at H; exact absurd H (by simp)

/-! ### spec_l20Rd_odd: function 47 -/
def spec_l20Rd_odd.f (k : Nat) (aa : List Int) (ab : Int) (a1 : Int) : Option (Bool × Int) := if a1 > 0 then ((spec_l20Rd_pick.f k aa ab a1).bind fun au => (some ((au.1 == (wrap64 (a1 - 1))), au.2))) else (some (false, ab))
theorem spec_l20Rd_odd.mono : ∀ a0 a1 a2 k, LeO (spec_l20Rd_odd.f k a0 a1 a2) (spec_l20Rd_odd.f (k + 1) a0 a1 a2) := by
 intro a0 a1 a2 k; unfold spec_l20Rd_odd.f; repeat' (with_reducible first | exact spec_l20Rd_pick.mono _ _ _ _ | exact mr_ | exact mn_ | refine mi_ ?_ ?_ | refine mb_ ?_ (fun _ => ?_))
set_option maxHeartbeats 8000000 in
set_option maxRecDepth 100000 in
theorem spec_l20Rd_odd.calls (k : Nat) (g : Nat) (aa : List Int) (ab : Int) (a1 : Int) (r1 : Bool) (r2 : Int) (w0 w : World) (hI : IsS69 w0 w g aa ab) (hB : Below w0.heap.size w0 w) (h : spec_l20Rd_odd.f k aa ab a1 = some (r1, r2)) :
  Calls Try.prog 47 #[.pointer (some ⟨g, 0, none⟩), .int .i64 a1] w fun e w' => e = .returned (.bool r1) ∧ IsS69 w0 w' g aa r2 ∧ Below w0.heap.size w0 w' ∧ KeepBut w w' g none := by
 have HI0 := A_ hI; have HK := A_ (KeepBut.refl w g none); have HL := A_ hB.size; have HLg := A_ hI.lt; clear hI; have HW0 := A_ hB.size; have HB := A_ hB; clear hB; have H : (if a1 > 0 then ((spec_l20Rd_pick.f k aa ab a1).bind fun au => (some ((au.1 == (wrap64 (a1 - 1))), au.2))) else (some (false, ab))) = some (r1, r2) := h; clear h; by_cases c3 : a1 > 0
 ·
  rw [if_pos c3] at H; have bF : decide (0 < a1) = true := decide_eq_true c3; clear c3; obtain ⟨⟨bG, bH⟩, A4, H⟩ := bnd_ H; (try dsimp only at H); simp only [Option.some.injEq, Prod.mk.injEq] at H; obtain ⟨rfl, rfl⟩ := H; go_enter Try.func47, Try.ntmps47; go_wp2_with (first | (go_at_call 44; (with_reducible refine (spec_l20Rd_pick.calls k g aa ab a1 bG bH w0 _ ?s1 ?s2 A4.out).mono ?_); (case s1 => exact ti69_ HI0.out); (case s2 => exact tu69_ HB.out); rintro e w5 ⟨rfl, hi, hb, hk⟩; have n0_ := A_ (KeepBut.trans (tc_ HK.out) hk (.inl rfl)); have n1_ := A_ (hb); have n2_ := A_ (hi); clear HK HB HI0; have HK := n0_; have HB := n1_; have HI0 := n2_; clear n0_ n1_ n2_; (try clear hb hk hi))); go_ret; exact ⟨tw_, ti69_ HI0.out, tu69_ HB.out, (tc_ HK.out)⟩
 ·
  rw [if_neg c3] at H; have bF : decide (0 < a1) = false := decide_eq_false c3; clear c3; simp only [Option.some.injEq, Prod.mk.injEq] at H; obtain ⟨rfl, rfl⟩ := H; go_enter Try.func47, Try.ntmps47; go_wp2; go_ret; exact ⟨tw_, ti69_ HI0.out, tu69_ HB.out, (tc_ HK.out)⟩

/-! ### spec_l20Urn: function 54 -/
def spec_l20Urn.l0 : Nat → Int → List Int → Int → List Int → Int → Option (List Int × Int)
 | 0, _, _, _, _, _ => none
 | k + 1, x1, x5, x6, ad, af => if x6 > 0 then ((spec_l20Rd_pick.f k ad af 6).bind fun aY => (if x5.length < 17592186044416 then (spec_l20Urn.l0 k x1 (x5 ++ [aY.1]) (wrap64 (x6 - 1)) ad aY.2) else (none))) else ((spec_l20Rd_odd.f k ad af x1).bind fun aE => (if aE.1 = true then ((spec_l20Rd_pick.f k ad aE.2 3).bind fun ai => (if ai.1 = 0 then (some ((([] : List Int)), ai.2)) else (if ai.1 = 1 then ((some (([(-1), 41] : List Int) : List Int)).bind fun aj => ((spec_l20Rd_pick.f k ad ai.2 2).bind fun ag => (if 0 ≤ ag.1 then (if ag.1 < (aj.length : Int) then (if 0 < (x5.length : Int) then (some ((x5.set (0 : Int).toNat (rd aj ag.1)), ag.2)) else (none)) else (none)) else (none)))) else (some ((([1, 1, 1, 1] : List Int)), ai.2))))) else (some (x5, aE.2))))
def spec_l20Urn.f (k : Nat) (aa : List Int) (ab : Int) (a1 : Int) : Option (List Int × Int) := (spec_l20Rd_pick.f k aa ab 3).bind fun am => (spec_l20Urn.l0 k a1 (([] : List Int)) (wrap64 (1 + am.1)) aa am.2)
theorem spec_l20Urn.mono_l : ∀ k, (∀ y0 y1 y2 y3 y4, LeO (spec_l20Urn.l0 k y0 y1 y2 y3 y4) (spec_l20Urn.l0 (k + 1) y0 y1 y2 y3 y4))
 | 0 => fun _ _ _ _ _ r h => by simp [spec_l20Urn.l0] at h
 | k + 1 => by
  have ih0 := spec_l20Urn.mono_l k
  ·
   intro y0 y1 y2 y3 y4
   unfold spec_l20Urn.l0
   repeat' (with_reducible first | exact ih0 _ _ _ _ _ | exact spec_l20Rd_odd.mono _ _ _ _ | exact spec_l20Rd_pick.mono _ _ _ _ | exact mr_ | exact mn_ | refine mi_ ?_ ?_ | refine mb_ ?_ (fun _ => ?_))
theorem spec_l20Urn.mono : ∀ a0 a1 a2 k, LeO (spec_l20Urn.f k a0 a1 a2) (spec_l20Urn.f (k + 1) a0 a1 a2) := by
 intro a0 a1 a2 k; have ih0 := spec_l20Urn.mono_l k; unfold spec_l20Urn.f; repeat' (with_reducible first | exact ih0 _ _ _ _ _ | exact spec_l20Rd_odd.mono _ _ _ _ | exact spec_l20Rd_pick.mono _ _ _ _ | exact mr_ | exact mn_ | refine mi_ ?_ ?_ | refine mb_ ?_ (fun _ => ?_))
set_option maxHeartbeats 8000000 in
set_option maxRecDepth 100000 in
theorem spec_l20Urn.calls (k : Nat) (g : Nat) (aa : List Int) (ab : Int) (a1 : Int) (r1 : List Int) (r2 : Int) (w0 w : World) (hI : IsS69 w0 w g aa ab) (hB : Below w0.heap.size w0 w) (h : spec_l20Urn.f k aa ab a1 = some (r1, r2)) :
  Calls Try.prog 54 #[.pointer (some ⟨g, 0, none⟩), .int .i64 a1] w fun e w' => ∃ v0_ : Value, e = .returned (v0_) ∧ Kd.R (Kd.int .i64) 3 w' w.heap.size (fun _ => True) v0_ r1 ∧ IsS69 w0 w' g aa r2 ∧ Below w0.heap.size w0 w' ∧ KeepBut w w' g none := by
 have HI0 := A_ hI; have HK := A_ (KeepBut.refl w g none); have HL := A_ hB.size; have HLg := A_ hI.lt; clear hI; have HW0 := A_ hB.size; have HB := A_ hB; clear hB; have H : ((spec_l20Rd_pick.f k aa ab 3).bind fun am => (spec_l20Urn.l0 k a1 (([] : List Int)) (wrap64 (1 + am.1)) aa am.2)) = some (r1, r2) := h; clear h; obtain ⟨bg, aG⟩ : ∃ y_ : List Int, y_ = (([] : List Int)) := ⟨_, rfl⟩
 replace H : ((spec_l20Rd_pick.f k aa ab 3).bind fun am => (spec_l20Urn.l0 k a1 bg (wrap64 (1 + am.1)) aa am.2)) = some (r1, r2) := yq_ aG H; have aZ := A_ aG; clear aG; obtain ⟨⟨bh, bi⟩, A3, H⟩ := bnd_ H; (try dsimp only at H); have H' := A_ H; clear H; go_enter Try.func54, Try.ntmps54; go_wp2_with (first | ((with_reducible refine gate_dst (N := 7) rfl ?_); refine Kd.R_lit (Kd.int .i64) _ 3 ?hg (N := 7) ?hd (xs := ([] : List Int)) (inner := []) (ok := fun _ => True) (okp := fun _ => True) ?hr ?hp (fun _ hk => hk) trivial (Below.refl _ _) (Nat.le_refl _) (by simp) ?_; (case hd => rfl); (case hg => rfl); (case hr => first | (go_simp; done) | (go_simp; rfl)); (case hp => exact (Reps.none _ _)); intro b7 w4 ho5 hb hg_ hnew_; clear hg_ hnew_; (first | rw [← aZ.out] at ho5 | (simp only [Int.reduceToNat] at ho5; rw [← aZ.out] at ho5)); have aH := rl_ ho5 HK; replace HI0 := ti69_b HI0 hb; replace HK := ko_ HK hb; replace HB := tu69_s HB hb; clear hb ho5) | ((with_reducible refine gate_callee (f := 44) rfl ?_); refine gl_ (some 9) Try.func44 #[.pointer (some ⟨g, 0, none⟩), .int .i64 3] ?_; (with_reducible refine (spec_l20Rd_pick.calls k g aa ab 3 bh bi w0 _ ?s1 ?s2 A3.out).mono ?_); (case s1 => exact ti69_ HI0.out); (case s2 => exact tu69_ HB.out); rintro e w6 ⟨rfl, hi, hb, hk⟩; refine ⟨_, rfl, ?_⟩; replace aH := A_ (Kd.R_mono (Kd.R_keep (IsS69.apart (ti69_ HI0.out : IsS69 w0 _ g aa ab) (rR_ aH.out) (by decide)) hk (fun _ h => h.2)) (fun _ h => h.1)); replace HK := kt_ HK hk; replace HB := A_ (hb); replace HI0 := A_ (hi); (try clear hb hk hi)))
 go_loopg [5, 6] k (fun kq v5 v6 w' => ∃ (ah : List Int) (av : Int) (ae : Int), v6 = .int .i64 av ∧ Aside0 (spec_l20Urn.l0 kq a1 ah av aa ae = some (r1, r2)) ∧ Aside0 (kq ≤ k) ∧ Aside0 (Kd.R (Kd.int .i64) 3 w' w.heap.size (fun _ => True) v5 ah) ∧ Aside0 (IsS69 w0 w' g aa ae) ∧ Aside0 (KeepBut w w' g none) ∧ Aside0 (Below w0.heap.size w0 w'))
 case atStart => exact ⟨(bg), (wrap64 (1 + bh)), (bi), tx_, H', ⟨Nat.le_refl _⟩, ⟨rR_ aH.out⟩, ⟨ti69_ HI0.out⟩, ⟨(tc_ HK.out)⟩, ⟨tu69_ HB.out⟩⟩
 case round =>
  clear H'; (try clear p2); (try clear c4); (try clear c5); (try clear p6); obtain ⟨ah, av, ae, rfl, HA, HK1, ac, HI0, HK, HB⟩ := hrel
  cases gk with
  | zero => exact absurd HA.out (by simp [spec_l20Urn.l0])
  | succ k1 =>
   have H := HA.out; clear HA; simp only [spec_l20Urn.l0] at H; by_cases c7 : av > 0
   ·
    rw [if_pos c7] at H; have bI : decide (0 < av) = true := decide_eq_true c7; clear c7; obtain ⟨⟨aR, bd⟩, A8, H⟩ := bnd_ H; (try dsimp only at H); by_cases c9 : ah.length < 17592186044416
    ·
     rw [if_pos c9] at H; have bJ := A_ c9; clear c9; obtain ⟨bj, aI⟩ : ∃ y_ : List Int, y_ = (ah ++ [aR]) := ⟨_, rfl⟩
     replace H : (spec_l20Urn.l0 k1 a1 bj (wrap64 (av - 1)) aa bd) = some (r1, r2) := yq_ aI H; have bk := A_ aI; clear aI; have H' := A_ H; clear H; go_wp2_with (first | ((with_reducible refine gate_callee (f := 44) rfl ?_); refine gl_ (some 17) Try.func44 #[.pointer (some ⟨g, 0, none⟩), .int .i64 6] ?_; (with_reducible refine (spec_l20Rd_pick.calls k1 g aa ae 6 aR bd w0 _ ?s1 ?s2 A8.out).mono ?_); (case s1 => exact ti69_ HI0.out); (case s2 => exact tu69_ HB.out); rintro e ce ⟨rfl, hi, hb, hk⟩; refine ⟨_, rfl, ?_⟩; replace ac := A_ (Kd.R_mono (Kd.R_keep (IsS69.apart (ti69_ HI0.out : IsS69 w0 _ g aa ae) (rR_ ac.out) (by decide)) hk (fun _ h => h.2)) (fun _ h => h.1)); replace HK := kt_ HK hk; replace HB := A_ (hb); replace HI0 := A_ (hi); (try clear hb hk hi)) | ((with_reducible refine gate_builtin (b := .append) (xs := #[.tmp 15, .tmp 18]) rfl ?_); at_builtin; refine Kd.R_append (Kd.int .i64) w.heap.size rfl (.tmp 15) (.tmp 18) 22 3 (.int .i64 0) 8 rfl Try.underlying22 info3 rfl (by decide) (by omega) u5 ah aR [.int .i64 aR] (fun _ => True) (fun _ => False) rfl rfl ?aP (fun _ hk => hk.elim) ?aF ?aO (Below.refl _ _) ?aS ?aL ?_; (case aP => exact rfl); (case aF => exact (fun _ _ => trivial)); (case aO => exact (rR_ ac.out)); (case aS => exact (keep_size (w := w) (g := g) (row := none) (tc_ HK.out))); (case aL => have := bJ.out; omega); intro b8 cf ho hb hg hat; rw [← bk.out] at ho; replace HI0 := A_ (IsS69.grown (ti69_ HI0.out) hg (IsS69.own_ne HI0.out ac.out (by decide))); replace HB := A_ (below_weaken (tu69_ HB.out) HL.out hb); replace HK := A_ (KeepBut.trans (tc_ HK.out) (KeepBut.of_grown hg g) (Kd.R_base2 ac.out)); have bl := A_ (ho); clear ac ho hb hg hat))
     go_roundg k1
     case measure => have := HK1.out; omega
     case rel => exact ⟨(bj), (wrap64 (av - 1)), (bd), tx_, H', ⟨by have := HK1.out; omega⟩, ⟨rR_ bl.out⟩, ⟨ti69_ HI0.out⟩, ⟨(tc_ HK.out)⟩, ⟨tu69_ HB.out⟩⟩
    ·
     rw [if_neg c9] at H; exact absurd H (by simp)
   ·
    rw [if_neg c7] at H; have bI : decide (0 < av) = false := decide_eq_false c7; clear c7; obtain ⟨⟨bK, an⟩, A12, H⟩ := bnd_ H; (try dsimp only at H); by_cases c13 : bK = true
    ·
     subst c13; replace H : ((spec_l20Rd_pick.f k1 aa an 3).bind fun ai => (if ai.1 = 0 then (some ((([] : List Int)), ai.2)) else (if ai.1 = 1 then ((some (([(-1), 41] : List Int) : List Int)).bind fun aj => ((spec_l20Rd_pick.f k1 aa ai.2 2).bind fun ag => (if 0 ≤ ag.1 then (if ag.1 < (aj.length : Int) then (if 0 < (ah.length : Int) then (some ((ah.set (0 : Int).toNat (rd aj ag.1)), ag.2)) else (none)) else (none)) else (none)))) else (some ((([1, 1, 1, 1] : List Int)), ai.2))))) = some (r1, r2) := by rw [if_pos rfl] at H; exact H
     obtain ⟨⟨al, ar⟩, A14, H⟩ := bnd_ H; (try dsimp only at H); by_cases c15 : al = 0
     ·
      rw [if_pos c15] at H; have aV : (al == 0) = true := beq_iff_eq.mpr c15; have bm : (al != 0) = false := bne_eq_false_iff_eq.mpr c15; clear c15; obtain ⟨bL, aJ⟩ : ∃ y_ : List Int, y_ = (([] : List Int)) := ⟨_, rfl⟩
      replace H : (some (bL, ar)) = some (r1, r2) := yq_ aJ H; have a3 := A_ aJ; clear aJ; simp only [Option.some.injEq, Prod.mk.injEq] at H; obtain ⟨rfl, rfl⟩ := H; go_wp2_with (first | ((with_reducible refine gate_callee (f := 47) rfl ?_); refine gl_ (some 22) Try.func47 #[.pointer (some ⟨g, 0, none⟩), .int .i64 a1] ?_; (with_reducible refine (spec_l20Rd_odd.calls k1 g aa ae a1 true an w0 _ ?s1 ?s2 A12.out).mono ?_); (case s1 => exact ti69_ HI0.out); (case s2 => exact tu69_ HB.out); rintro e cg ⟨rfl, hi, hb, hk⟩; refine ⟨_, rfl, ?_⟩; replace ac := A_ (Kd.R_mono (Kd.R_keep (IsS69.apart (ti69_ HI0.out : IsS69 w0 _ g aa ae) (rR_ ac.out) (by decide)) hk (fun _ h => h.2)) (fun _ h => h.1)); replace HK := kt_ HK hk; replace HB := A_ (hb); replace HI0 := A_ (hi); (try clear hb hk hi)) | ((with_reducible refine gate_callee (f := 44) rfl ?_); refine gl_ (some 24) Try.func44 #[.pointer (some ⟨g, 0, none⟩), .int .i64 3] ?_; (with_reducible refine (spec_l20Rd_pick.calls k1 g aa an 3 al ar w0 _ ?s1 ?s2 A14.out).mono ?_); (case s1 => exact ti69_ HI0.out); (case s2 => exact tu69_ HB.out); rintro e ch ⟨rfl, hi, hb, hk⟩; refine ⟨_, rfl, ?_⟩; replace ac := A_ (Kd.R_mono (Kd.R_keep (IsS69.apart (ti69_ HI0.out : IsS69 w0 _ g aa an) (rR_ ac.out) (by decide)) hk (fun _ h => h.2)) (fun _ h => h.1)); replace HK := kt_ HK hk; replace HB := A_ (hb); replace HI0 := A_ (hi); (try clear hb hk hi)) | ((with_reducible refine gate_dst (N := 28) rfl ?_); refine Kd.R_lit (Kd.int .i64) _ 3 ?hg (N := 28) ?hd (xs := ([] : List Int)) (inner := []) (ok := fun _ => True) (okp := fun _ => True) ?hr ?hp (fun _ hk => hk) trivial (Below.refl _ _) (Nat.le_refl _) (by simp) ?_; (case hd => rfl); (case hg => rfl); (case hr => first | (go_simp; done) | (go_simp; rfl)); (case hp => exact (Reps.none _ _)); intro b9 ci ho19 hb hg_ hnew_; clear hg_ hnew_; (first | rw [← a3.out] at ho19 | (simp only [Int.reduceToNat] at ho19; rw [← a3.out] at ho19)); have bn := A_ (Kd.R_lower (nR_ ho19 (Kd.R_lt (rR_ ac.out))) (keep_size (w := w) (g := g) (row := none) (tc_ HK.out))); replace ac := A_ (Kd.R_elder' (rR_ ac.out) (Kd.R_base ho19) hb); replace HI0 := ti69_b HI0 hb; replace HK := ko_ HK hb; replace HB := tu69_s HB hb; clear hb ho19)); go_ret; exact ⟨_, tw_, by refine qR_ ?_; exact Kd.R_mono bn.out (fun _ hk => trivial), ti69_ HI0.out, tu69_ HB.out, (tc_ HK.out)⟩
     ·
      rw [if_neg c15] at H; have aV : (al == 0) = false := beq_eq_false_iff_ne.mpr c15; have bm : (al != 0) = true := bne_iff_ne.mpr c15; by_cases c20 : al = 1
      ·
       rw [if_pos c20] at H; have aW : (al == 1) = true := beq_iff_eq.mpr c20; have aX : (al != 1) = false := bne_eq_false_iff_eq.mpr c20; clear c20; obtain ⟨aj, aK⟩ : ∃ y_ : List Int, y_ = (([(-1), 41] : List Int)) := ⟨_, rfl⟩
       replace H : ((spec_l20Rd_pick.f k1 aa ar 2).bind fun ag => (if 0 ≤ ag.1 then (if ag.1 < (aj.length : Int) then (if 0 < (ah.length : Int) then (some ((ah.set (0 : Int).toNat (rd aj ag.1)), ag.2)) else (none)) else (none)) else (none))) = some (r1, r2) := yq_ aK H; have a4 := A_ aK; clear aK; obtain ⟨⟨ap, bo⟩, A21, H⟩ := bnd_ H; (try dsimp only at H); by_cases c22 : 0 ≤ ap
       ·
        rw [if_pos c22] at H; have b1 : decide (0 ≤ ap) = true := decide_eq_true c22; clear c22; by_cases c23 : ap < (aj.length : Int)
        ·
         rw [if_pos c23] at H; have b2 : decide (ap < (aj.length : Int)) = true := decide_eq_true c23; clear c23; by_cases c24 : 0 < (ah.length : Int)
         ·
          rw [if_pos c24] at H; have b3 : decide (0 < (ah.length : Int)) = true := decide_eq_true c24; have b4 : decide (0 < ah.length) = true := decide_eq_true (by omega); clear c24; obtain ⟨bp, aM⟩ : ∃ y_ : List Int, y_ = (ah.set (0 : Int).toNat (rd aj ap)) := ⟨_, rfl⟩
          replace H : (some (bp, bo)) = some (r1, r2) := yq_ aM H; have bq := A_ aM; clear aM; simp only [Option.some.injEq, Prod.mk.injEq] at H; obtain ⟨rfl, rfl⟩ := H; go_wp2_with (first | ((with_reducible refine gate_callee (f := 47) rfl ?_); refine gl_ (some 22) Try.func47 #[.pointer (some ⟨g, 0, none⟩), .int .i64 a1] ?_; (with_reducible refine (spec_l20Rd_odd.calls k1 g aa ae a1 true an w0 _ ?s1 ?s2 A12.out).mono ?_); (case s1 => exact ti69_ HI0.out); (case s2 => exact tu69_ HB.out); rintro e cj ⟨rfl, hi, hb, hk⟩; refine ⟨_, rfl, ?_⟩; replace ac := A_ (Kd.R_mono (Kd.R_keep (IsS69.apart (ti69_ HI0.out : IsS69 w0 _ g aa ae) (rR_ ac.out) (by decide)) hk (fun _ h => h.2)) (fun _ h => h.1)); replace HK := kt_ HK hk; replace HB := A_ (hb); replace HI0 := A_ (hi); (try clear hb hk hi)) | ((with_reducible refine gate_callee (f := 44) rfl ?_); refine gl_ (some 24) Try.func44 #[.pointer (some ⟨g, 0, none⟩), .int .i64 3] ?_; (with_reducible refine (spec_l20Rd_pick.calls k1 g aa an 3 al ar w0 _ ?s1 ?s2 A14.out).mono ?_); (case s1 => exact ti69_ HI0.out); (case s2 => exact tu69_ HB.out); rintro e ck ⟨rfl, hi, hb, hk⟩; refine ⟨_, rfl, ?_⟩; replace ac := A_ (Kd.R_mono (Kd.R_keep (IsS69.apart (ti69_ HI0.out : IsS69 w0 _ g aa an) (rR_ ac.out) (by decide)) hk (fun _ h => h.2)) (fun _ h => h.1)); replace HK := kt_ HK hk; replace HB := A_ (hb); replace HI0 := A_ (hi); (try clear hb hk hi)) | ((with_reducible refine gate_dst (N := 32) rfl ?_); refine Kd.R_lit (Kd.int .i64) _ 3 ?hg (N := 32) ?hd (xs := ([(-1), 41] : List Int)) (inner := [.int .i64 (-1), .int .i64 41]) (ok := fun _ => True) (okp := fun _ => True) ?hr ?hp (fun _ hk => hk) trivial (Below.refl _ _) (Nat.le_refl _) (by simp) ?_; (case hd => rfl); (case hg => rfl); (case hr => first | (go_simp; done) | (go_simp; rfl)); (case hp => exact (Reps.one (show Kd.M (Kd.int .i64) _ _ _ (-1) [.int .i64 (-1)] from rfl) (Reps.one (show Kd.M (Kd.int .i64) _ _ _ 41 [.int .i64 41] from rfl) (Reps.none _ _)))); intro ca cl ho29 hb hg_ hnew_; clear hg_ hnew_; (first | rw [← a4.out] at ho29 | (simp only [Int.reduceToNat] at ho29; rw [← a4.out] at ho29)); have aq := A_ (Kd.R_lower (nR_ ho29 (Kd.R_lt (rR_ ac.out))) (keep_size (w := w) (g := g) (row := none) (tc_ HK.out))); replace ac := A_ (Kd.R_elder' (rR_ ac.out) (Kd.R_base ho29) hb); replace HI0 := ti69_b HI0 hb; replace HK := ko_ HK hb; replace HB := tu69_s HB hb; clear hb ho29) | ((with_reducible refine gate_callee (f := 44) rfl ?_); refine gl_ (some 34) Try.func44 #[.pointer (some ⟨g, 0, none⟩), .int .i64 2] ?_; (with_reducible refine (spec_l20Rd_pick.calls k1 g aa ar 2 ap bo w0 _ ?s1 ?s2 A21.out).mono ?_); (case s1 => exact ti69_ HI0.out); (case s2 => exact tu69_ HB.out); rintro e b5 ⟨rfl, hi, hb, hk⟩; refine ⟨_, rfl, ?_⟩; replace ac := A_ (Kd.R_mono (Kd.R_keep (IsS69.apart (ti69_ HI0.out : IsS69 w0 _ g aa ar) (rR_ ac.out) (by decide)) hk (fun _ h => h.2)) (fun _ h => h.1)); replace aq := A_ (Kd.R_mono (Kd.R_keep (IsS69.apart (ti69_ HI0.out : IsS69 w0 _ g aa ar) (rR_ aq.out) (by decide)) hk (fun _ h => h.2)) (fun _ h => h.1)); replace HK := kt_ HK hk; replace HB := A_ (hb); replace HI0 := A_ (hi); (try clear hb hk hi); obtain ⟨cb, br, bM⟩ := Kd.R_slice aq.out; subst bM; have p219 : 0 ≤ (ap : Int) := od_; have q219 : ap < (aj.length : Int) := od_; obtain ⟨ad219, e219, bE⟩ := Kd.at_int (Kd.R_reads' aq.out).2.2 ap p219 q219; cases e219; replace p219 := eq_true p219; replace q219 := eq_true q219; have p25 : 0 ≤ (0 : Int) := (by omega); have q25 : (0 : Int) < ((ah.length : Int) : Int) := od_; have cc : (0 < ah.length) = True := eq_true (by omega); obtain ⟨go25, be, bs, bu, gl25, cl25, HG25⟩ := Kd.R_form ac.out (by omega); (first | cases bs | (injection bs with ea_ en_ ec_; (first | subst ea_ | (injection ea_ with ea_; subst ea_)); subst ec_; clear en_)); have GB25 := A_ bu; have GG25 := A_ HG25; clear bu gl25 HG25; obtain ⟨aN, hf25_0⟩ := Kd.R_celln 0 ac.out (0 : Int) p25 q25; (try rw [show ((0 : Int)).toNat = 0 from rfl] at aN); (try simp only [Nat.reduceMul, Nat.zero_mul, Nat.zero_add, Nat.reduceAdd] at aN); (try rw [show ((0 : Int)).toNat = 0 from rfl] at hf25_0); (try simp only [Nat.reduceMul, Nat.zero_mul, Nat.zero_add, Nat.reduceAdd] at hf25_0); replace p25 := eq_true p25; replace q25 := eq_true q25; have n_ := A_ (Kd.R_mono (ok' := (fun k_ => some k_ ≠ (.slice (some ad219) aj.length br : Value).ownBlock)) ac.out (fun k_ hk => hk.2)); clear ac; have ac := n_; clear n_; obtain ⟨hy32_, hz32_⟩ := Kd.R_celln 0 ac.out (0 : Int) (by omega) (od_); (try simp only [Int.reduceToNat, Int.toNat_zero, Int.toNat_ofNat, Nat.reduceMul, Nat.zero_mul, Nat.zero_add] at hy32_ hz32_); (try rw [show ((0 : Int)).toNat = 0 from rfl] at hy32_); (try rw [show ((0 : Int)).toNat = 0 from rfl] at hz32_); have HP32 := Kd.R_putg ac.out (0 : Int) (rd aj ap)) | ((with_reducible refine gate_store (t := 3) (p := 37) rfl ?_); refine store_event (t := 3) (p := 37) (v := ?vo_w33) (w1 := (b5.setCell ⟨go25, (0 : Int).toNat, none⟩ (.int .i64 (rd aj ap)))) ?hg ?ho ?hn ?hr ?_; (case ho => rfl); (case hg => rfl); (case hn => rfl); (case hr => first | (go_simp; done) | (go_simp; rfl)); intro bN hw; have hg : b5.grownBy bN (some go25) := (by rw [hw]; exact HP32.2); have hp_ : Kd.R (Kd.int .i64) 3 bN w.heap.size (fun k_ => some k_ ≠ (.slice (some ad219) aj.length br : Value).ownBlock) (.slice (some ⟨go25, 0, none⟩) ah.length be) bp := (by rw [hw, bq.out]; exact HP32.1); clear HP32; replace HI0 := A_ (IsS69.grown (ti69_ HI0.out) hg (IsS69.own_ne HI0.out ac.out (by decide))); replace aq := A_ (Kd.R_after (v := (.slice (some ⟨go25, 0, none⟩) ah.length be)) (v1 := (.slice (some ⟨go25, 0, none⟩) ah.length be)) (ok := (fun _ => True)) (rR_ aq.out) hg (.inl rfl)); replace HB := A_ ((by rw [hw]; exact below_set (HB.out) (Nat.le_trans HL.out GB25.out) : Below w0.heap.size w0 bN)); replace HK := A_ (KeepBut.trans (tc_ HK.out) (KeepBut.of_grown hg g) (Kd.R_base2 ac.out)); replace ac := A_ (hp_); clear hg hw hp_)); go_ret; exact ⟨_, tw_, by refine qR_ ?_; exact Kd.R_mono ac.out (fun _ hk => trivial), ti69_ HI0.out, tu69_ HB.out, (tc_ HK.out)⟩
         ·
          rw [if_neg c24] at H; exact absurd H (by simp)
        ·
         rw [if_neg c23] at H; exact absurd H (by simp)
       ·
        rw [if_neg c22] at H; exact absurd H (by simp)
      ·
       rw [if_neg c20] at H; have aW : (al == 1) = false := beq_eq_false_iff_ne.mpr c20; have aX : (al != 1) = true := bne_iff_ne.mpr c20; obtain ⟨bO, aQ⟩ : ∃ y_ : List Int, y_ = (([1, 1, 1, 1] : List Int)) := ⟨_, rfl⟩
       replace H : (some (bO, ar)) = some (r1, r2) := yq_ aQ H; have a5 := A_ aQ; clear aQ; simp only [Option.some.injEq, Prod.mk.injEq] at H; obtain ⟨rfl, rfl⟩ := H; go_wp2_with (first | ((with_reducible refine gate_callee (f := 47) rfl ?_); refine gl_ (some 22) Try.func47 #[.pointer (some ⟨g, 0, none⟩), .int .i64 a1] ?_; (with_reducible refine (spec_l20Rd_odd.calls k1 g aa ae a1 true an w0 _ ?s1 ?s2 A12.out).mono ?_); (case s1 => exact ti69_ HI0.out); (case s2 => exact tu69_ HB.out); rintro e cm ⟨rfl, hi, hb, hk⟩; refine ⟨_, rfl, ?_⟩; replace ac := A_ (Kd.R_mono (Kd.R_keep (IsS69.apart (ti69_ HI0.out : IsS69 w0 _ g aa ae) (rR_ ac.out) (by decide)) hk (fun _ h => h.2)) (fun _ h => h.1)); replace HK := kt_ HK hk; replace HB := A_ (hb); replace HI0 := A_ (hi); (try clear hb hk hi)) | ((with_reducible refine gate_callee (f := 44) rfl ?_); refine gl_ (some 24) Try.func44 #[.pointer (some ⟨g, 0, none⟩), .int .i64 3] ?_; (with_reducible refine (spec_l20Rd_pick.calls k1 g aa an 3 al ar w0 _ ?s1 ?s2 A14.out).mono ?_); (case s1 => exact ti69_ HI0.out); (case s2 => exact tu69_ HB.out); rintro e cn ⟨rfl, hi, hb, hk⟩; refine ⟨_, rfl, ?_⟩; replace ac := A_ (Kd.R_mono (Kd.R_keep (IsS69.apart (ti69_ HI0.out : IsS69 w0 _ g aa an) (rR_ ac.out) (by decide)) hk (fun _ h => h.2)) (fun _ h => h.1)); replace HK := kt_ HK hk; replace HB := A_ (hb); replace HI0 := A_ (hi); (try clear hb hk hi)) | ((with_reducible refine gate_dst (N := 25) rfl ?_); refine Kd.R_lit (Kd.int .i64) _ 3 ?hg (N := 25) ?hd (xs := ([1, 1, 1, 1] : List Int)) (inner := [.int .i64 1, .int .i64 1, .int .i64 1, .int .i64 1]) (ok := fun _ => True) (okp := fun _ => True) ?hr ?hp (fun _ hk => hk) trivial (Below.refl _ _) (Nat.le_refl _) (by simp) ?_; (case hd => rfl); (case hg => rfl); (case hr => first | (go_simp; done) | (go_simp; rfl)); (case hp => exact (Reps.one (show Kd.M (Kd.int .i64) _ _ _ 1 [.int .i64 1] from rfl) (Reps.one (show Kd.M (Kd.int .i64) _ _ _ 1 [.int .i64 1] from rfl) (Reps.one (show Kd.M (Kd.int .i64) _ _ _ 1 [.int .i64 1] from rfl) (Reps.one (show Kd.M (Kd.int .i64) _ _ _ 1 [.int .i64 1] from rfl) (Reps.none _ _)))))); intro cd co ho37 hb hg_ hnew_; clear hg_ hnew_; (first | rw [← a5.out] at ho37 | (simp only [Int.reduceToNat] at ho37; rw [← a5.out] at ho37)); have bv := A_ (Kd.R_lower (nR_ ho37 (Kd.R_lt (rR_ ac.out))) (keep_size (w := w) (g := g) (row := none) (tc_ HK.out))); replace ac := A_ (Kd.R_elder' (rR_ ac.out) (Kd.R_base ho37) hb); replace HI0 := ti69_b HI0 hb; replace HK := ko_ HK hb; replace HB := tu69_s HB hb; clear hb ho37)); go_ret; exact ⟨_, tw_, by refine qR_ ?_; exact Kd.R_mono bv.out (fun _ hk => trivial), ti69_ HI0.out, tu69_ HB.out, (tc_ HK.out)⟩
    ·
     replace c13 := Bool.eq_false_iff.mpr c13; subst c13; replace H : (some (ah, an)) = some (r1, r2) := by rw [if_neg (show ¬ (false = true) by decide)] at H; exact H
     simp only [Option.some.injEq, Prod.mk.injEq] at H; obtain ⟨rfl, rfl⟩ := H; go_wp2_with (first | ((with_reducible refine gate_callee (f := 47) rfl ?_); refine gl_ (some 22) Try.func47 #[.pointer (some ⟨g, 0, none⟩), .int .i64 a1] ?_; (with_reducible refine (spec_l20Rd_odd.calls k1 g aa ae a1 false an w0 _ ?s1 ?s2 A12.out).mono ?_); (case s1 => exact ti69_ HI0.out); (case s2 => exact tu69_ HB.out); rintro e cp ⟨rfl, hi, hb, hk⟩; refine ⟨_, rfl, ?_⟩; replace ac := A_ (Kd.R_mono (Kd.R_keep (IsS69.apart (ti69_ HI0.out : IsS69 w0 _ g aa ae) (rR_ ac.out) (by decide)) hk (fun _ h => h.2)) (fun _ h => h.1)); replace HK := kt_ HK hk; replace HB := A_ (hb); replace HI0 := A_ (hi); (try clear hb hk hi))); go_ret; exact ⟨_, tw_, by refine qR_ ?_; exact ac.out, ti69_ HI0.out, tu69_ HB.out, (tc_ HK.out)⟩

end Go.Proofs.Ytncgleffkbegjaa.MFnDeskOk
