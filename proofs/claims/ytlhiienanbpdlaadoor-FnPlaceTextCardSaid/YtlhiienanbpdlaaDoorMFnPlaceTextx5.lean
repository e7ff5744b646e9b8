/- For the law FnPlaceText: walks of the functions that it reaches: each call returns what the plain function beside it tells. The conditions stand in each statement. -/
import Derived.Test.YtlhiienanbpdlaaDoorV
import Derived.Test.YtlhiienanbpdlaaDoorMFnPlaceTextx0
import Derived.Test.YtlhiienanbpdlaaDoorMFnPlaceTextx4
namespace Go.Proofs.YtlhiienanbpdlaaDoor.MFnPlaceText
open Go.RowKit Go.Proofs.YtlhiienanbpdlaaDoorW.PrintWords Go.Proofs.YtlhiienanbpdlaaDoorW.PrintLast Go.Proofs.YtlhiienanbpdlaaDoorW.PrintMore
attribute [local go_sem] max2_int min2_int max_two min_two max_three min_three max_four min_four   -- for this text's walks alone
set_option linter.unusedVariables false
set_option linter.unusedSimpArgs false

/-! ### laws_samePlace: function 59 -/
def laws_samePlace.f (k : Nat) (ai : List Int) (a0_1 : Int) (an : List Int) (aj : List Int) (a1_1 : Int) (ao : List Int) : Option (Bool) := (laws_sameInts.f k ai aj).bind fun aF => (if aF = true then (if a0_1 = a1_1 then ((laws_sameInts.f k an ao).bind fun ax => (some ax)) else (some false)) else (some false))
theorem laws_samePlace.mono : ∀ a0 a1 a2 a3 a4 a5 k, LeO (laws_samePlace.f k a0 a1 a2 a3 a4 a5) (laws_samePlace.f (k + 1) a0 a1 a2 a3 a4 a5) := by
 intro a0 a1 a2 a3 a4 a5 k
 unfold laws_samePlace.f
 repeat' (with_reducible first | exact laws_sameInts.mono _ _ _ | exact mr_ | exact mn_ | refine mi_ ?_ ?_ | refine mb_ ?_ (fun _ => ?_))
set_option maxHeartbeats 8000000 in
set_option maxRecDepth 100000 in
theorem laws_samePlace.calls (k : Nat) (ar : Option Addr) (au : Nat) (ai : List Int) (a0_1 : Int) (aG : Option Addr) (aH : Nat) (an : List Int) (av : Option Addr) (aw : Nat) (aj : List Int) (a1_1 : Int) (aI : Option Addr) (aJ : Nat) (ao : List Int) (r : Bool) (w : World) (hr0_0 : Kd.C (Kd.int .i64) w ar ai.length ai) (hc0_0 : ai.length ≤ au) (hr0_2 : Kd.C (Kd.int .i64) w aG an.length an) (hc0_2 : an.length ≤ aH) (hr1_0 : Kd.C (Kd.int .i64) w av aj.length aj) (hc1_0 : aj.length ≤ aw) (hr1_2 : Kd.C (Kd.int .i64) w aI ao.length ao) (hc1_2 : ao.length ≤ aJ) (h : laws_samePlace.f k ai a0_1 an aj a1_1 ao = some r) :
  Calls Tryd.prog 59 #[.agg #[.slice ar ai.length au, .int .i64 a0_1, .slice aG an.length aH], .agg #[.slice av aj.length aw, .int .i64 a1_1, .slice aI ao.length aJ]] w fun e w' => e = .returned (.bool r) ∧ Below w.heap.size w w' := by
 have hu25 := Tryd.underlying25
 have ce := Aside0.mk hr0_0
 have aK := Aside0.mk hc0_0
 clear hr0_0 hc0_0
 have bj := Aside0.mk hr0_2
 have bk := Aside0.mk hc0_2
 clear hr0_2 hc0_2
 have cf := Aside0.mk hr1_0
 have aL := Aside0.mk hc1_0
 clear hr1_0 hc1_0
 have bl := Aside0.mk hr1_2
 have bm := Aside0.mk hc1_2
 clear hr1_2 hc1_2
 have HB := Aside0.mk (Below.refl w.heap.size w)
 have H : ((laws_sameInts.f k ai aj).bind fun aF => (if aF = true then (if a0_1 = a1_1 then ((laws_sameInts.f k an ao).bind fun ax => (some ax)) else (some false)) else (some false))) = some r := h
 clear h
 obtain ⟨aF, A3, H⟩ := bnd_ H
 try dsimp only at H
 by_cases c4 : aF = true
 ·
  subst c4
  have H1 : (if a0_1 = a1_1 then ((laws_sameInts.f k an ao).bind fun ax => (some ax)) else (some false)) = some r := by rw [if_pos rfl] at H; exact H
  clear H
  have H := H1
  clear H1
  by_cases c5 : a0_1 = a1_1
  ·
   rw [if_pos c5] at H
   have aR : (a0_1 == a1_1) = true := beq_iff_eq.mpr c5
   have aU : (a0_1 != a1_1) = false := bne_eq_false_iff_eq.mpr c5
   clear c5
   obtain ⟨ax, A6, H⟩ := bnd_ H
   try dsimp only at H
   obtain rfl := Option.some.inj H
   go_enter Tryd.func59, Tryd.ntmps59
   go_wp2_with (first | ((with_reducible refine gate_dst (N := 2) rfl ?_); refine box_event ?hg (N := 2) ?hd (cs := #[.slice ar ai.length au, .int .i64 a0_1, .slice aG an.length aH]) (t := 25) ?hr ?_; (case hd => rfl); (case hg => rfl); (case hr => first | (go_simp; done) | (go_simp; rfl)); intro aZ hg w7 hbox hb; have ac := Aside0.mk (hbox); have a6 := gx_ HB hg; have a7 := gx_ HB hg; replace HB := bs_ HB hb; clear hb hbox hg) | ((with_reducible refine gate_dst (N := 3) rfl ?_); refine box_event ?hg (N := 3) ?hd (cs := #[.slice av aj.length aw, .int .i64 a1_1, .slice aI ao.length aJ]) (t := 25) ?hr ?_; (case hd => rfl); (case hg => rfl); (case hr => first | (go_simp; done) | (go_simp; rfl)); intro a8 hg w8 hbox hb; have ae := Aside0.mk (hbox); have a9 := gx_ HB hg; have bb := gx_ HB hg; replace HB := bs_ HB hb; have af := nl_ ac hg; have ag := ng_ ac hg; replace ac := bb_ ac hb; clear hb hbox hg; have cl := af.out; have cm := ag.out; have bz := cz_ ac 0; have bB := cz_ ac 1; have bC := cz_ ac 2; have bD := blk_frozen ac.out 0; have bE := blk_frozen ac.out 1; have bF := blk_frozen ac.out 2; have bG := cz_ ae 0; have bH := cz_ ae 1; have bI := cz_ ae 2; have bJ := blk_frozen ae.out 0; have bK := blk_frozen ae.out 1; have bL := blk_frozen ae.out 2) | ((with_reducible refine gate_callee (f := 108) rfl ?_); refine gl_ (some 9) Tryd.func108 #[.slice ar ai.length au, .slice av aj.length aw] ?_; (with_reducible refine (laws_sameInts.calls k _ _ ai _ _ aj true _ ?s1 ?s2 ?s3 ?s4 A3.out).mono ?_); (case s1 => exact tD_); (case s2 => exact aK.out); (case s3 => exact tD_); (case s4 => exact aL.out); rintro e w' ⟨rfl, ⟨nd, rfl⟩⟩; refine ⟨_, rfl, ?_⟩) | (go_at_call 108; (with_reducible refine (laws_sameInts.calls k _ _ an _ _ ao ax _ ?s1 ?s2 ?s3 ?s4 A6.out).mono ?_); (case s1 => repeat (first | exact (Kd.C_below bj.out (tb_ HB.out)) | (with_reducible refine Kd.C_alloc ?_ _) | (with_reducible refine Kd.C_drewN ?_ _) | (with_reducible refine Kd.C_drew ?_))); (case s2 => exact bk.out); (case s3 => repeat (first | exact (Kd.C_below bl.out (tb_ HB.out)) | (with_reducible refine Kd.C_alloc ?_ _) | (with_reducible refine Kd.C_drewN ?_ _) | (with_reducible refine Kd.C_drew ?_))); (case s4 => exact bm.out); rintro e w' ⟨rfl, ⟨nd, rfl⟩⟩))
   go_ret
   exact ⟨tw_, (tb_ HB.out)⟩
  ·
   rw [if_neg c5] at H
   have aR : (a0_1 == a1_1) = false := beq_eq_false_iff_ne.mpr c5
   have aU : (a0_1 != a1_1) = true := bne_iff_ne.mpr c5
   obtain rfl := Option.some.inj H
   go_enter Tryd.func59, Tryd.ntmps59
   go_wp2_with (first | ((with_reducible refine gate_dst (N := 2) rfl ?_); refine box_event ?hg (N := 2) ?hd (cs := #[.slice ar ai.length au, .int .i64 a0_1, .slice aG an.length aH]) (t := 25) ?hr ?_; (case hd => rfl); (case hg => rfl); (case hr => first | (go_simp; done) | (go_simp; rfl)); intro aZ hg cr hbox hb; have ac := Aside0.mk (hbox); have a6 := gx_ HB hg; have a7 := gx_ HB hg; replace HB := bs_ HB hb; clear hb hbox hg) | ((with_reducible refine gate_dst (N := 3) rfl ?_); refine box_event ?hg (N := 3) ?hd (cs := #[.slice av aj.length aw, .int .i64 a1_1, .slice aI ao.length aJ]) (t := 25) ?hr ?_; (case hd => rfl); (case hg => rfl); (case hr => first | (go_simp; done) | (go_simp; rfl)); intro a8 hg ct hbox hb; have ae := Aside0.mk (hbox); have a9 := gx_ HB hg; have bb := gx_ HB hg; replace HB := bs_ HB hb; have af := nl_ ac hg; have ag := ng_ ac hg; replace ac := bb_ ac hb; clear hb hbox hg; have cg := af.out; have ch := ag.out; have bM := cz_ ac 0; have bN := cz_ ac 1; have bO := cz_ ac 2; have bP := blk_frozen ac.out 0; have bQ := blk_frozen ac.out 1; have bR := blk_frozen ac.out 2; have bS := cz_ ae 0; have bU := cz_ ae 1; have bV := cz_ ae 2; have bW := blk_frozen ae.out 0; have bX := blk_frozen ae.out 1; have bZ := blk_frozen ae.out 2) | ((with_reducible refine gate_callee (f := 108) rfl ?_); refine gl_ (some 9) Tryd.func108 #[.slice ar ai.length au, .slice av aj.length aw] ?_; (with_reducible refine (laws_sameInts.calls k _ _ ai _ _ aj true _ ?s1 ?s2 ?s3 ?s4 A3.out).mono ?_); (case s1 => exact tD_); (case s2 => exact aK.out); (case s3 => exact tD_); (case s4 => exact aL.out); rintro e w' ⟨rfl, ⟨nd, rfl⟩⟩; refine ⟨_, rfl, ?_⟩))
   go_ret
   exact ⟨tw_, (tb_ HB.out)⟩
 ·
  replace c4 := Bool.eq_false_iff.mpr c4
  subst c4
  have H1 : (some false) = some r := by rw [if_neg (show ¬ (false = true) by decide)] at H; exact H
  clear H
  have H := H1
  clear H1
  obtain rfl := Option.some.inj H
  go_enter Tryd.func59, Tryd.ntmps59
  go_wp2_with (first | ((with_reducible refine gate_dst (N := 2) rfl ?_); refine box_event ?hg (N := 2) ?hd (cs := #[.slice ar ai.length au, .int .i64 a0_1, .slice aG an.length aH]) (t := 25) ?hr ?_; (case hd => rfl); (case hg => rfl); (case hr => first | (go_simp; done) | (go_simp; rfl)); intro aZ hg cu hbox hb; have ac := Aside0.mk (hbox); have a6 := gx_ HB hg; have a7 := gx_ HB hg; replace HB := bs_ HB hb; clear hb hbox hg) | ((with_reducible refine gate_dst (N := 3) rfl ?_); refine box_event ?hg (N := 3) ?hd (cs := #[.slice av aj.length aw, .int .i64 a1_1, .slice aI ao.length aJ]) (t := 25) ?hr ?_; (case hd => rfl); (case hg => rfl); (case hr => first | (go_simp; done) | (go_simp; rfl)); intro a8 hg cv hbox hb; have ae := Aside0.mk (hbox); have a9 := gx_ HB hg; have bb := gx_ HB hg; replace HB := bs_ HB hb; have af := nl_ ac hg; have ag := ng_ ac hg; replace ac := bb_ ac hb; clear hb hbox hg; have ci := af.out; have cj := ag.out; have b0 := cz_ ac 0; have b1 := cz_ ac 1; have b2 := cz_ ac 2; have b3 := blk_frozen ac.out 0; have b4 := blk_frozen ac.out 1; have b5 := blk_frozen ac.out 2; have b6 := cz_ ae 0; have b7 := cz_ ae 1; have b8 := cz_ ae 2; have b9 := blk_frozen ae.out 0; have ca := blk_frozen ae.out 1; have cb := blk_frozen ae.out 2) | ((with_reducible refine gate_callee (f := 108) rfl ?_); refine gl_ (some 9) Tryd.func108 #[.slice ar ai.length au, .slice av aj.length aw] ?_; (with_reducible refine (laws_sameInts.calls k _ _ ai _ _ aj false _ ?s1 ?s2 ?s3 ?s4 A3.out).mono ?_); (case s1 => exact tD_); (case s2 => exact aK.out); (case s3 => exact tD_); (case s4 => exact aL.out); rintro e w' ⟨rfl, ⟨nd, rfl⟩⟩; refine ⟨_, rfl, ?_⟩))
  go_ret
  exact ⟨tw_, (tb_ HB.out)⟩

/-- A state of type 126 at block g of W; what its slices lead to came in by w0. -/
def IsS126 (w0 W : World) (g : Nat) (f0 : List Int) (f1 : Int) : Prop := ∃ A0 c0, W.heap[g]? = some (.cells #[.slice A0 f0.length c0, .int .i64 f1] 126 (0, 0)) ∧ w0.heap.size ≤ g ∧ Kd.C (Kd.int .u8) w0 A0 f0.length f0
theorem IsS126.grown {w0 W : World} {g : Nat} {f0 : List Int} {f1 : Int} {W1 : World} {row : Option Nat} (h : IsS126 w0 W g f0 f1) (hw : W.grownBy W1 row) (hne : some g ≠ row) : IsS126 w0 W1 g f0 f1 := by
 obtain ⟨A0, c0, hb, hg, hr0⟩ := h
 exact ⟨A0, c0, blk_grown hb hw hne, hg, hr0⟩
theorem IsS126.own_neN {w0 W : World} {g : Nat} {f0 : List Int} {f1 : Int} {α : Type} {d : Kd α} {e : Nat} {base : Nat} {ok : Nat → Prop} {v : Value} {xs : List α} (h : IsS126 w0 W g f0 f1) (ho : Kd.N d e W base ok v xs) (ht : e ≠ 126) : some g ≠ v.ownBlock := by
 obtain ⟨A0, c0, hb, hg, hr0⟩ := h
 exact Kd.N_ne ho hb ht
theorem IsS126.fresh {w0 W : World} {g : Nat} {f0 : List Int} {f1 : Int} (h : IsS126 w0 W g f0 f1) : ∀ k, W.heap.size ≤ k → k ≠ g := by
 obtain ⟨A0, c0, hb, hg, hr0⟩ := h
 exact Kd.freshB hb
theorem IsS126.kept {w0 W : World} {g : Nat} {f0 : List Int} {f1 : Int} {W1 : World} {S : Nat → Prop} (h : IsS126 w0 W g f0 f1) (hk : Kept W W1 S) (hne : ¬ S g) : IsS126 w0 W1 g f0 f1 := by
 obtain ⟨A0, c0, hb, hg, hr0⟩ := h
 exact ⟨A0, c0, blk_kept hb hk hne, hg, hr0⟩
theorem IsS126.below {w0 W : World} {g : Nat} {f0 : List Int} {f1 : Int} {W1 : World} (h : IsS126 w0 W g f0 f1) (hw : Below W.heap.size W W1) : IsS126 w0 W1 g f0 f1 := h.grown (grown_of_below hw none) (by simp)
theorem IsS126.alloc {w0 W : World} {g : Nat} {f0 : List Int} {f1 : Int} (h : IsS126 w0 W g f0 f1) (o : Obj) : IsS126 w0 (W.alloc o) g f0 f1 := h.below (la_ (Below.refl _ _) o)
theorem IsS126.drewN {w0 W : World} {g : Nat} {f0 : List Int} {f1 : Int} (h : IsS126 w0 W g f0 f1) (m : Nat) : IsS126 w0 (W.drewN m) g f0 f1 := h
theorem IsS126.drew {w0 W : World} {g : Nat} {f0 : List Int} {f1 : Int} (h : IsS126 w0 W g f0 f1) : IsS126 w0 W.drew g f0 f1 := h
theorem IsS126.at_ {w0 W : World} {g : Nat} {f0 : List Int} {f1 : Int} {w' : World} {m : Nat} (hq : W.drewN m = w') (h : IsS126 w0 W g f0 f1) : IsS126 w0 w' g f0 f1 := by subst hq; exact IsS126.drewN h m
theorem IsS126.apart {w0 W : World} {g : Nat} {f0 : List Int} {f1 : Int} {α : Type} {d : Kd α} {e : Nat} {base : Nat} {ok : Nat → Prop} {v : Value} {xs : List α} (h : IsS126 w0 W g f0 f1) (ho : d.R e W base ok v xs) (ht : ∀ q, q ∈ e :: d.E → q ≠ 126) : d.R e W base (fun k => ok k ∧ k ≠ g) v xs := by
 obtain ⟨A0, c0, hb, hg, hr0⟩ := h
 exact Kd.R_types ho hb ht
theorem IsS126.own_ne {w0 W : World} {g : Nat} {f0 : List Int} {f1 : Int} {α : Type} {d : Kd α} {e : Nat} {base : Nat} {ok : Nat → Prop} {v : Value} {xs : List α} (h : IsS126 w0 W g f0 f1) (ho : d.R e W base ok v xs) (ht : e ≠ 126) : some g ≠ v.ownBlock := by
 obtain ⟨A0, c0, hb, hg, hr0⟩ := h
 exact Kd.R_ne ho hb ht
theorem IsS126.apartQ {w0 W : World} {g : Nat} {f0 : List Int} {f1 : Int} {α : Type} {d : Kd α} {e : Nat} {base : Nat} {ok : Nat → Prop} {v : Value} {xs : List α} (h : IsS126 w0 W g f0 f1) (ho : d.Q e W base ok v xs) (ht : ∀ q, q ∈ e :: d.E → q ≠ 126) : d.Q e W base (fun k => ok k ∧ k ≠ g) v xs := by
 obtain ⟨A0, c0, hb, hg, hr0⟩ := h
 exact Kd.Q_types ho hb ht
theorem IsS126.own_neQ {w0 W : World} {g : Nat} {f0 : List Int} {f1 : Int} {α : Type} {d : Kd α} {e : Nat} {base : Nat} {ok : Nat → Prop} {v : Value} {xs : List α} (h : IsS126 w0 W g f0 f1) (ho : d.Q e W base ok v xs) (ht : e ≠ 126) : some g ≠ v.ownBlock := by
 obtain ⟨A0, c0, hb, hg, hr0⟩ := h
 exact Kd.Q_ne ho hb ht
theorem IsS126.apartS {w0 W : World} {g : Nat} {f0 : List Int} {f1 : Int} {α : Type} {d : Kd α} {e : Nat} {base : Nat} {ok : Nat → Prop} {v : Value} {xs : List α} (h : IsS126 w0 W g f0 f1) (ho : d.S e W base ok v xs) (ht : ∀ q, q ∈ e :: d.E → q ≠ 126) : d.S e W base (fun k => ok k ∧ k ≠ g) v xs := by
 obtain ⟨A0, c0, hb, hg, hr0⟩ := h
 exact Kd.S_types ho hb ht
theorem IsS126.own_neS {w0 W : World} {g : Nat} {f0 : List Int} {f1 : Int} {α : Type} {d : Kd α} {e : Nat} {base : Nat} {ok : Nat → Prop} {v : Value} {xs : List α} (h : IsS126 w0 W g f0 f1) (ho : d.S e W base ok v xs) (ht : e ≠ 126) : some g ≠ v.ownBlock := by
 obtain ⟨A0, c0, hb, hg, hr0⟩ := h
 exact Kd.S_ne ho hb ht
theorem IsS126.lt {w0 W : World} {g : Nat} {f0 : List Int} {f1 : Int} (h : IsS126 w0 W g f0 f1) : g < W.heap.size := by
 obtain ⟨A0, c0, hb, hg, hr0⟩ := h
 exact blk_lt hb
theorem IsS126.ge {w0 W : World} {g : Nat} {f0 : List Int} {f1 : Int} (h : IsS126 w0 W g f0 f1) : w0.heap.size ≤ g := by
 obtain ⟨A0, c0, hb, hg, hr0⟩ := h
 exact hg
theorem IsS126.ne_blk {w0 W : World} {g : Nat} {f0 : List Int} {f1 : Int} {a : Nat} {cs : Array Value} {t : TypeId} {fr : Nat × Nat} (h : IsS126 w0 W g f0 f1) (hb2 : W.heap[a]? = some (.cells cs t fr)) (ht : t ≠ 126) : g ≠ a := by
 obtain ⟨A0, c0, hb, hg, hr0⟩ := h
 rintro rfl
 rw [hb] at hb2
 injection hb2 with hb2
 injection hb2 with _ ht2
 exact ht ht2.symm
theorem IsS126.far {w0 W : World} {g : Nat} {f0 : List Int} {f1 : Int} {p : Addr} (h : IsS126 w0 W g f0 f1) (hne : g ≠ p.block) (u : Value) : IsS126 w0 (W.setCell p u) g f0 f1 := by
 obtain ⟨A0, c0, hb, hg, hr0⟩ := h
 exact ⟨A0, c0, blk_far hb hne u, hg, hr0⟩
theorem cellS126_0 {W : World} {g : Nat} {A0 : Option Addr} {c0 : Nat} {f0 : List Int} {f1 : Int} (h : W.heap[g]? = some (.cells #[.slice A0 f0.length c0, .int .i64 f1] 126 (0, 0))) : W.cell? ⟨g, 0, none⟩ = some (.slice A0 f0.length c0) := (blk_cell h 0).trans rfl
theorem cellS126_1 {W : World} {g : Nat} {A0 : Option Addr} {c0 : Nat} {f0 : List Int} {f1 : Int} (h : W.heap[g]? = some (.cells #[.slice A0 f0.length c0, .int .i64 f1] 126 (0, 0))) : W.cell? ⟨g, 1, none⟩ = some (.int .i64 f1) := (blk_cell h 1).trans rfl
theorem IsS126.set_1 {w0 W : World} {g : Nat} {f0 : List Int} {f1 : Int} (h : IsS126 w0 W g f0 f1) (x : Int) : IsS126 w0 (W.setCell ⟨g, 1, none⟩ (.int .i64 x)) g f0 x := by
 obtain ⟨A0, c0, hb, hg, hr0⟩ := h
 exact ⟨A0, c0, by simpa using blk_set hb 1 (.int .i64 x), hg, hr0⟩
theorem IsS126.new (w0 W : World) (A0 : Option Addr) (c0 : Nat) (f0 : List Int) (f1 : Int) (hB : Below w0.heap.size w0 W) (hr0 : Kd.C (Kd.int .u8) w0 A0 f0.length f0) : IsS126 w0 (W.alloc (.cells #[.slice A0 f0.length c0, .int .i64 f1] 126)) W.heap.size f0 f1 := ⟨A0, c0, by simpa using heap_alloc_new W _, hB.size, hr0⟩

theorem ti126_ {P Q : Prop} (h : Q) (hp : Q → P := by intro h_; repeat (first | (with_reducible first | exact h_ | apply IsS126.alloc | apply IsS126.drewN | apply IsS126.drew | apply IsS126.set_1 | refine IsS126.far ?_ (Aside0.out (by assumption)) _) | exact h_)) : P := hp h
theorem tu126_ {B : Nat} {w W0 W : World} (h : Below B w W0) (hp : Below B w W0 → Below B w W := by intro h_; repeat (first | (with_reducible first | exact h_ | apply la_ | apply ln_ | apply ld_ | refine below_set ?_ (IsS126.ge (Aside0.out (by assumption))) | refine below_set ?_ (Aside0.out (by assumption))) | exact h_)) : Below B w W := hp h
theorem tu126_s {w W0 W W2 : World} (h : Aside0 (Below w.heap.size w W0)) (k_ : Below W.heap.size W W2) (hp : Below w.heap.size w W0 → Below w.heap.size w W := by intro h_; exact tu126_ h_) : Aside0 (Below w.heap.size w W2) := ⟨below_step (hp h.out) k_⟩
theorem ti126_b {w0 W0 W W1 : World} {g : Nat} {f0 : List Int} {f1 : Int} (h : Aside0 (IsS126 w0 W0 g f0 f1)) (hb : Below W.heap.size W W1) (hp : IsS126 w0 W0 g f0 f1 → IsS126 w0 W g f0 f1 := by intro h_; exact ti126_ h_) : Aside0 (IsS126 w0 W1 g f0 f1) := ⟨IsS126.below (hp h.out) hb⟩
/-! ### spec_l20Open: function 64 -/
def spec_l20Open.f (l0 : List Int) : Option (List Int × Int) := if (l0.length : Int) > 2000 then (if 2000 ≤ (l0.length : Int) then (some (l0.take 2000, 0)) else (none)) else (some (l0, 0))
set_option maxHeartbeats 8000000 in
set_option maxRecDepth 100000 in
theorem spec_l20Open.calls (A0 : Option Addr) (c0 : Nat) (l0 : List Int) (r1 : List Int) (r2 : Int) (w0 w : World) (hB : Below w0.heap.size w0 w) (hr0 : Kd.C (Kd.int .u8) w0 A0 l0.length l0) (hc0 : l0.length ≤ c0) (h : spec_l20Open.f l0 = some (r1, r2)) :
  Calls Tryd.prog 64 #[.slice A0 l0.length c0] w fun e w' => ∃ g_ : Nat, e = .returned (.pointer (some ⟨g_, 0, none⟩)) ∧ IsS126 w0 w' g_ r1 r2 ∧ Below w0.heap.size w0 w' ∧ Below w.heap.size w w' := by
 have hu126 := Tryd.underlying126
 have HR0 := Aside0.mk hr0
 have HC0 := Aside0.mk hc0
 clear hr0 hc0
 have HBW := Aside0.mk (Below.refl w.heap.size w)
 have HW0 := Aside0.mk hB.size
 have HB := Aside0.mk hB
 clear hB
 have H : (if (l0.length : Int) > 2000 then (if 2000 ≤ (l0.length : Int) then (some (l0.take 2000, 0)) else (none)) else (some (l0, 0))) = some (r1, r2) := h
 clear h
 by_cases c2 : (l0.length : Int) > 2000
 ·
  rw [if_pos c2] at H
  have aM : decide (2000 < (l0.length : Int)) = true := decide_eq_true c2
  have cc : decide (2000 < l0.length) = true := decide_eq_true (by omega)
  clear c2
  by_cases c3 : 2000 ≤ (l0.length : Int)
  ·
   rw [if_pos c3] at H
   have aN := eq_true c3
   have cn : decide (2000 ≤ (l0.length : Int)) = true := decide_eq_true c3
   clear c3
   simp only [Option.some.injEq, Prod.mk.injEq] at H
   obtain ⟨rfl, rfl⟩ := H
   obtain ⟨i04, hi04, _, hsz4, _⟩ := info_parts info5
   obtain ⟨hcut4, hA4, hC4⟩ := print_take_of (P := Tryd.prog) (Value.int .u8) 0 22 5 .i64 Tryd.underlying22 hi04 hsz4 A0 c0 l0 2000 (by omega) (od_) HC0.out
   have HR211 := Aside0.mk (Kd.C_of_reads (h1 := fun _ => rfl) (hA4 _ (Kd.reads_of_C HR0.out)))
   have HC211 := Aside0.mk hC4
   clear hA4 hC4 hi04 hsz4
   go_enter Tryd.func64, Tryd.ntmps64
   go_wp2_with (first | ((with_reducible refine gate_dst (N := 10) rfl ?_); refine box_event ?hg (N := 10) ?hd (cs := #[.slice A0 (l0.take 2000).length c0, .int .i64 0]) (t := 126) ?hr ?_; (case hd => rfl); (case hg => rfl); (case hr => first | (go_simp; done) | (go_simp; rfl)); intro aA hg w5 hbox hb; replace HB := bs_ HB hb; have bn := Aside0.mk (hbox); have bo := Aside0.mk ((by rw [hg]; exact (below_size (by repeat (first | (with_reducible first | exact HBW.out | apply la_ | apply ln_ | apply ld_) | exact HBW.out))) : w.heap.size ≤ aA)); have bp := Aside0.mk ((Nat.le_trans HW0.out (by rw [hg]; exact (below_size (by repeat (first | (with_reducible first | exact HBW.out | apply la_ | apply ln_ | apply ld_) | exact HBW.out))) : w.heap.size ≤ aA) : w0.heap.size ≤ aA)); replace HBW := Aside0.mk (below_step HBW.out hb); clear hb hbox hg))
   go_ret
   exact ⟨_, rfl, (show IsS126 w0 _ aA (l0.take 2000) 0 from ⟨_, _, by exact tk_ bn.out, bp.out, HR211.out⟩), (tb_ HB.out), by repeat (first | (with_reducible first | exact HBW.out | apply la_ | apply ln_ | apply ld_ | refine below_set ?_ bo.out) | exact HBW.out)⟩
  ·
   rw [if_neg c3] at H
   exact absurd H (by simp)
 ·
  rw [if_neg c2] at H
  have aM : decide (2000 < (l0.length : Int)) = false := decide_eq_false c2
  have cc : decide (2000 < l0.length) = false := decide_eq_false (by omega)
  clear c2
  simp only [Option.some.injEq, Prod.mk.injEq] at H
  obtain ⟨rfl, rfl⟩ := H
  go_enter Tryd.func64, Tryd.ntmps64
  go_wp2_with (first | ((with_reducible refine gate_dst (N := 10) rfl ?_); refine box_event ?hg (N := 10) ?hd (cs := #[.slice A0 l0.length c0, .int .i64 0]) (t := 126) ?hr ?_; (case hd => rfl); (case hg => rfl); (case hr => first | (go_simp; done) | (go_simp; rfl)); intro aB hg w6 hbox hb; replace HB := bs_ HB hb; have bq := Aside0.mk (hbox); have br := Aside0.mk ((by rw [hg]; exact (below_size (by repeat (first | (with_reducible first | exact HBW.out | apply la_ | apply ln_ | apply ld_) | exact HBW.out))) : w.heap.size ≤ aB)); have bs := Aside0.mk ((Nat.le_trans HW0.out (by rw [hg]; exact (below_size (by repeat (first | (with_reducible first | exact HBW.out | apply la_ | apply ln_ | apply ld_) | exact HBW.out))) : w.heap.size ≤ aB) : w0.heap.size ≤ aB)); replace HBW := Aside0.mk (below_step HBW.out hb); clear hb hbox hg))
  go_ret
  exact ⟨_, rfl, (show IsS126 w0 _ aB l0 0 from ⟨_, _, by exact tk_ bq.out, bs.out, HR0.out⟩), (tb_ HB.out), by repeat (first | (with_reducible first | exact HBW.out | apply la_ | apply ln_ | apply ld_ | refine below_set ?_ br.out) | exact HBW.out)⟩

/-! ### spec_l1In: function 99 -/
def spec_l1In.f (a0 : Int) (a1 : Int) (a2 : Int) : Option (Bool) := if a0 ≥ a1 then (some (decide (a0 ≤ a2))) else (some false)
set_option maxHeartbeats 8000000 in
set_option maxRecDepth 100000 in
theorem spec_l1In.calls (a0 : Int) (a1 : Int) (a2 : Int) (r : Bool) (w : World) (h : spec_l1In.f a0 a1 a2 = some r) :
  Calls Tryd.prog 99 #[.int .i64 a0, .int .i64 a1, .int .i64 a2] w fun e w' => e = .returned (.bool r) ∧ Drawn0 w w' := by
 have H : (if a0 ≥ a1 then (some (decide (a0 ≤ a2))) else (some false)) = some r := h
 clear h
 by_cases c4 : a0 ≥ a1
 ·
  rw [if_pos c4] at H
  have aO : decide (a1 ≤ a0) = true := decide_eq_true c4
  clear c4
  obtain rfl := Option.some.inj H
  go_enter Tryd.func99, Tryd.ntmps99
  go_wp2
  go_ret
  exact ⟨tx_, by repeat (first | exact Drawn0.refl _ | apply Drawn0.step)⟩
 ·
  rw [if_neg c4] at H
  have aO : decide (a1 ≤ a0) = false := decide_eq_false c4
  clear c4
  obtain rfl := Option.some.inj H
  go_enter Tryd.func99, Tryd.ntmps99
  go_wp2
  go_ret
  exact ⟨tx_, by repeat (first | exact Drawn0.refl _ | apply Drawn0.step)⟩

/-! ### spec_UrnOk: function 131 -/
def spec_UrnOk.l0 : Nat → List Int → Int → Option (Bool)
 | 0, _, _ => none
 | k + 1, x0, x3 => if x3 < (x0.length : Int) then (if 0 ≤ x3 then ((spec_l1In.f (rd x0 x3) 0 40).bind fun bc => (if bc = true then (spec_UrnOk.l0 k x0 (wrap64 (x3 + 1))) else (some false))) else (none)) else ((spec_l1In.f (x0.length : Int) 1 3).bind fun bd => (some bd))
def spec_UrnOk.f (k : Nat) (l0 : List Int) : Option (Bool) := spec_UrnOk.l0 k l0 0
theorem spec_UrnOk.mono_l : ∀ k, (∀ y0 y1, LeO (spec_UrnOk.l0 k y0 y1) (spec_UrnOk.l0 (k + 1) y0 y1))
 | 0 => fun _ _ r h => by simp [spec_UrnOk.l0] at h
 | k + 1 => by
  have ih0 := spec_UrnOk.mono_l k
  ·
   intro y0 y1
   unfold spec_UrnOk.l0
   repeat' (with_reducible first | exact ih0 _ _ | exact mr_ | exact mn_ | refine mi_ ?_ ?_ | refine mb_ ?_ (fun _ => ?_))
theorem spec_UrnOk.mono : ∀ a0 k, LeO (spec_UrnOk.f k a0) (spec_UrnOk.f (k + 1) a0) := by
 intro a0 k
 have ih0 := spec_UrnOk.mono_l k
 unfold spec_UrnOk.f
 repeat' (with_reducible first | exact ih0 _ _ | exact mr_ | exact mn_ | refine mi_ ?_ ?_ | refine mb_ ?_ (fun _ => ?_))
set_option maxHeartbeats 8000000 in
set_option maxRecDepth 100000 in
theorem spec_UrnOk.calls (k : Nat) (A0 : Option Addr) (c0 : Nat) (l0 : List Int) (r : Bool) (w : World) (hr0 : Kd.C (Kd.int .i64) w A0 l0.length l0) (hc0 : l0.length ≤ c0) (h : spec_UrnOk.f k l0 = some r) :
  Calls Tryd.prog 131 #[.slice A0 l0.length c0] w fun e w' => e = .returned (.bool r) ∧ Drawn0 w w' := by
 have HR0 := Aside0.mk hr0
 have HC0 := Aside0.mk hc0
 clear hr0 hc0
 have H : (spec_UrnOk.l0 k l0 0) = some r := h
 clear h
 have H' := Aside0.mk H
 clear H
 go_enter Tryd.func131, Tryd.ntmps131
 go_wp2
 go_loopg [3] k (fun kq v3 w' => ∃ (ad : Int), v3 = .int .i64 ad ∧ Aside0 (spec_UrnOk.l0 kq l0 ad = some r) ∧ Aside0 (kq ≤ k) ∧ Drawn0 w w')
 case atStart => exact ⟨(0), tx_, H', ⟨Nat.le_refl _⟩, by repeat (first | exact Drawn0.refl _ | apply Drawn0.step)⟩
 case round =>
  clear H'
  try clear c1
  obtain ⟨ad, rfl, HA, HK1, ⟨m1, rfl⟩⟩ := hrel
  cases gk with
  | zero => exact absurd HA.out (by simp [spec_UrnOk.l0])
  | succ k1 =>
   have H := HA.out
   clear HA
   simp only [spec_UrnOk.l0] at H
   by_cases c2 : ad < (l0.length : Int)
   ·
    rw [if_pos c2] at H
    have aM : decide (ad < (l0.length : Int)) = true := decide_eq_true c2
    clear c2
    by_cases c3 : 0 ≤ ad
    ·
     rw [if_pos c3] at H
     have aN : decide (0 ≤ ad) = true := decide_eq_true c3
     clear c3
     obtain ⟨bc, A4, H⟩ := bnd_ H
     try dsimp only at H
     by_cases c5 : bc = true
     ·
      subst c5
      have H1 : (spec_UrnOk.l0 k1 l0 (wrap64 (ad + 1))) = some r := by rw [if_pos rfl] at H; exact H
      clear H
      have H := H1
      clear H1
      have H' := Aside0.mk H
      clear H
      have p214 : 0 ≤ (ad : Int) := od_
      have q214 : ad < (l0.length : Int) := od_
      obtain ⟨ad214, e214, aV⟩ := Kd.at_int HR0.out ad p214 q214
      cases e214
      replace p214 := eq_true p214
      replace q214 := eq_true q214
      go_wp2_with (first | ((with_reducible refine gate_callee (f := 99) rfl ?_); refine gl_ (some 14) Tryd.func99 #[.int .i64 (rd l0 ad), .int .i64 0, .int .i64 40] ?_; (with_reducible refine (spec_l1In.calls (rd l0 ad) 0 40 true _ A4.out).mono ?_); rintro e w' ⟨rfl, ⟨nd, rfl⟩⟩; refine ⟨_, rfl, ?_⟩))
      go_roundg k1
      case measure => have := HK1.out; omega
      case rel => exact ⟨(wrap64 (ad + 1)), tx_, H', ⟨by have := HK1.out; omega⟩, by repeat (first | exact Drawn0.refl _ | apply Drawn0.step)⟩
     ·
      replace c5 := Bool.eq_false_iff.mpr c5
      subst c5
      have H1 : (some false) = some r := by rw [if_neg (show ¬ (false = true) by decide)] at H; exact H
      clear H
      have H := H1
      clear H1
      obtain rfl := Option.some.inj H
      have p214 : 0 ≤ (ad : Int) := od_
      have q214 : ad < (l0.length : Int) := od_
      obtain ⟨ad214, e214, aV⟩ := Kd.at_int HR0.out ad p214 q214
      cases e214
      replace p214 := eq_true p214
      replace q214 := eq_true q214
      go_wp2_with (first | ((with_reducible refine gate_callee (f := 99) rfl ?_); refine gl_ (some 14) Tryd.func99 #[.int .i64 (rd l0 ad), .int .i64 0, .int .i64 40] ?_; (with_reducible refine (spec_l1In.calls (rd l0 ad) 0 40 false _ A4.out).mono ?_); rintro e w' ⟨rfl, ⟨nd, rfl⟩⟩; refine ⟨_, rfl, ?_⟩))
      go_ret
      exact ⟨tx_, by repeat (first | exact Drawn0.refl _ | apply Drawn0.step)⟩
    ·
     rw [if_neg c3] at H
     exact absurd H (by simp)
   ·
    rw [if_neg c2] at H
    have aM : decide (ad < (l0.length : Int)) = false := decide_eq_false c2
    clear c2
    obtain ⟨bd, A6, H⟩ := bnd_ H
    try dsimp only at H
    obtain rfl := Option.some.inj H
    go_wp2_with (first | ((with_reducible refine gate_callee (f := 99) rfl ?_); refine gl_ (some 18) Tryd.func99 #[.int .i64 (l0.length : Int), .int .i64 1, .int .i64 3] ?_; (with_reducible refine (spec_l1In.calls (l0.length : Int) 1 3 bd _ A6.out).mono ?_); rintro e w' ⟨rfl, ⟨nd, rfl⟩⟩; refine ⟨_, rfl, ?_⟩))
    go_ret
    exact ⟨tx_, by repeat (first | exact Drawn0.refl _ | apply Drawn0.step)⟩

/-! ### spec_StartOk: function 116 -/
def spec_StartOk.l0 : Nat → List Int → Int → Option (Bool)
 | 0, _, _ => none
 | k + 1, x0, x3 => if x3 < (x0.length : Int) then (if 0 ≤ x3 then (if (rd x0 x3) > 10 then (some false) else (spec_StartOk.l0 k x0 (wrap64 (x3 + 1)))) else (none)) else ((spec_UrnOk.f k x0).bind fun be => (some be))
def spec_StartOk.f (k : Nat) (l0 : List Int) : Option (Bool) := spec_StartOk.l0 k l0 0
theorem spec_StartOk.mono_l : ∀ k, (∀ y0 y1, LeO (spec_StartOk.l0 k y0 y1) (spec_StartOk.l0 (k + 1) y0 y1))
 | 0 => fun _ _ r h => by simp [spec_StartOk.l0] at h
 | k + 1 => by
  have ih0 := spec_StartOk.mono_l k
  ·
   intro y0 y1
   unfold spec_StartOk.l0
   repeat' (with_reducible first | exact ih0 _ _ | exact spec_UrnOk.mono _ _ | exact mr_ | exact mn_ | refine mi_ ?_ ?_ | refine mb_ ?_ (fun _ => ?_))
theorem spec_StartOk.mono : ∀ a0 k, LeO (spec_StartOk.f k a0) (spec_StartOk.f (k + 1) a0) := by
 intro a0 k
 have ih0 := spec_StartOk.mono_l k
 unfold spec_StartOk.f
 repeat' (with_reducible first | exact ih0 _ _ | exact spec_UrnOk.mono _ _ | exact mr_ | exact mn_ | refine mi_ ?_ ?_ | refine mb_ ?_ (fun _ => ?_))
set_option maxHeartbeats 8000000 in
set_option maxRecDepth 100000 in
theorem spec_StartOk.calls (k : Nat) (A0 : Option Addr) (c0 : Nat) (l0 : List Int) (r : Bool) (w : World) (hr0 : Kd.C (Kd.int .i64) w A0 l0.length l0) (hc0 : l0.length ≤ c0) (h : spec_StartOk.f k l0 = some r) :
  Calls Tryd.prog 116 #[.slice A0 l0.length c0] w fun e w' => e = .returned (.bool r) ∧ Drawn0 w w' := by
 have HR0 := Aside0.mk hr0
 have HC0 := Aside0.mk hc0
 clear hr0 hc0
 have H : (spec_StartOk.l0 k l0 0) = some r := h
 clear h
 have H' := Aside0.mk H
 clear H
 go_enter Tryd.func116, Tryd.ntmps116
 go_wp2
 go_loopg [3] k (fun kq v3 w' => ∃ (ad : Int), v3 = .int .i64 ad ∧ Aside0 (spec_StartOk.l0 kq l0 ad = some r) ∧ Aside0 (kq ≤ k) ∧ Drawn0 w w')
 case atStart => exact ⟨(0), tx_, H', ⟨Nat.le_refl _⟩, by repeat (first | exact Drawn0.refl _ | apply Drawn0.step)⟩
 case round =>
  clear H'
  try clear c1
  obtain ⟨ad, rfl, HA, HK1, ⟨m1, rfl⟩⟩ := hrel
  cases gk with
  | zero => exact absurd HA.out (by simp [spec_StartOk.l0])
  | succ k1 =>
   have H := HA.out
   clear HA
   simp only [spec_StartOk.l0] at H
   by_cases c2 : ad < (l0.length : Int)
   ·
    rw [if_pos c2] at H
    have aM : decide (ad < (l0.length : Int)) = true := decide_eq_true c2
    clear c2
    by_cases c3 : 0 ≤ ad
    ·
     rw [if_pos c3] at H
     have aN : decide (0 ≤ ad) = true := decide_eq_true c3
     clear c3
     by_cases c4 : (rd l0 ad) > 10
     ·
      rw [if_pos c4] at H
      have aO : decide (10 < (rd l0 ad)) = true := decide_eq_true c4
      clear c4
      obtain rfl := Option.some.inj H
      have p217 : 0 ≤ (ad : Int) := od_
      have q217 : ad < (l0.length : Int) := od_
      obtain ⟨ad217, e217, aW⟩ := Kd.at_int HR0.out ad p217 q217
      cases e217
      replace p217 := eq_true p217
      replace q217 := eq_true q217
      go_wp2
      go_ret
      exact ⟨tx_, by repeat (first | exact Drawn0.refl _ | apply Drawn0.step)⟩
     ·
      rw [if_neg c4] at H
      have aO : decide (10 < (rd l0 ad)) = false := decide_eq_false c4
      clear c4
      have H' := Aside0.mk H
      clear H
      have p217 : 0 ≤ (ad : Int) := od_
      have q217 : ad < (l0.length : Int) := od_
      obtain ⟨ad217, e217, aW⟩ := Kd.at_int HR0.out ad p217 q217
      cases e217
      replace p217 := eq_true p217
      replace q217 := eq_true q217
      go_wp2
      go_roundg k1
      case measure => have := HK1.out; omega
      case rel => exact ⟨(wrap64 (ad + 1)), tx_, H', ⟨by have := HK1.out; omega⟩, by repeat (first | exact Drawn0.refl _ | apply Drawn0.step)⟩
    ·
     rw [if_neg c3] at H
     exact absurd H (by simp)
   ·
    rw [if_neg c2] at H
    have aM : decide (ad < (l0.length : Int)) = false := decide_eq_false c2
    clear c2
    obtain ⟨be, A5, H⟩ := bnd_ H
    try dsimp only at H
    obtain rfl := Option.some.inj H
    go_wp2_with (first | ((with_reducible refine gate_callee (f := 131) rfl ?_); refine gl_ (some 16) Tryd.func131 #[.slice A0 l0.length c0] ?_; (with_reducible refine (spec_UrnOk.calls k1 _ _ l0 be _ ?s1 ?s2 A5.out).mono ?_); (case s1 => exact td_); (case s2 => exact HC0.out); rintro e w' ⟨rfl, ⟨nd, rfl⟩⟩; refine ⟨_, rfl, ?_⟩))
    go_ret
    exact ⟨tx_, by repeat (first | exact Drawn0.refl _ | apply Drawn0.step)⟩

/-! ### spec_RuleOk: function 132 -/
mutual
def spec_RuleOk.l0 : Nat → Int → List (List Int) → Int → Option (Bool)
 | 0, _, _, _ => none
 | k + 1, x0, x1, x5 => if x5 < (x1.length : Int) then (if 0 ≤ x5 then (if ((rd_L1 x1 x5).length : Int) = x0 then (spec_RuleOk.l1 k x0 x1 x5 0) else (some false)) else (none)) else ((spec_l1In.f x0 1 3).bind fun bf => (if bf = true then (some ((x1.length : Int) == x0)) else (some false)))
def spec_RuleOk.l1 : Nat → Int → List (List Int) → Int → Int → Option (Bool)
 | 0, _, _, _, _ => none
 | k + 1, x0, x1, x5, x6 => if x6 < x0 then (if 0 ≤ x5 then (if x5 < (x1.length : Int) then (if 0 ≤ x6 then (if x6 < ((rd_L1 x1 x5).length : Int) then ((spec_l1In.f (rd (rd_L1 x1 x5) x6) 0 3).bind fun bg => (if bg = true then (spec_RuleOk.l1 k x0 x1 x5 (wrap64 (x6 + 1))) else (if (rd (rd_L1 x1 x5) x6) = (-1) then (if x6 = x5 then (spec_RuleOk.l1 k x0 x1 x5 (wrap64 (x6 + 1))) else (some false)) else (some false)))) else (none)) else (none)) else (none)) else (none)) else (spec_RuleOk.l0 k x0 x1 (wrap64 (x5 + 1)))
end
def spec_RuleOk.f (k : Nat) (a0 : Int) (l1 : List (List Int)) : Option (Bool) := spec_RuleOk.l0 k a0 l1 0
theorem spec_RuleOk.mono_l : ∀ k, (∀ y0 y1 y2, LeO (spec_RuleOk.l0 k y0 y1 y2) (spec_RuleOk.l0 (k + 1) y0 y1 y2)) ∧ (∀ y0 y1 y2 y3, LeO (spec_RuleOk.l1 k y0 y1 y2 y3) (spec_RuleOk.l1 (k + 1) y0 y1 y2 y3))
 | 0 => ⟨fun _ _ _ r h => by simp [spec_RuleOk.l0] at h, fun _ _ _ _ r h => by simp [spec_RuleOk.l1] at h⟩
 | k + 1 => by
  obtain ⟨ih0, ih1⟩ := spec_RuleOk.mono_l k
  refine ⟨?_, ?_⟩
  ·
   intro y0 y1 y2
   unfold spec_RuleOk.l0
   repeat' (with_reducible first | exact ih0 _ _ _ | exact ih1 _ _ _ _ | exact mr_ | exact mn_ | refine mi_ ?_ ?_ | refine mb_ ?_ (fun _ => ?_))
  ·
   intro y0 y1 y2 y3
   unfold spec_RuleOk.l1
   repeat' (with_reducible first | exact ih0 _ _ _ | exact ih1 _ _ _ _ | exact mr_ | exact mn_ | refine mi_ ?_ ?_ | refine mb_ ?_ (fun _ => ?_))
theorem spec_RuleOk.mono : ∀ a0 a1 k, LeO (spec_RuleOk.f k a0 a1) (spec_RuleOk.f (k + 1) a0 a1) := by
 intro a0 a1 k
 obtain ⟨ih0, ih1⟩ := spec_RuleOk.mono_l k
 unfold spec_RuleOk.f
 repeat' (with_reducible first | exact ih0 _ _ _ | exact ih1 _ _ _ _ | exact mr_ | exact mn_ | refine mi_ ?_ ?_ | refine mb_ ?_ (fun _ => ?_))
set_option maxHeartbeats 8000000 in
set_option maxRecDepth 100000 in
theorem spec_RuleOk.calls (k : Nat) (a0 : Int) (A1 : Option Addr) (c1 : Nat) (l1 : List (List Int)) (r : Bool) (w : World) (hr1 : Kd.C (Kd.slice 3 (Kd.int .i64)) w A1 l1.length l1) (hc1 : l1.length ≤ c1) (h : spec_RuleOk.f k a0 l1 = some r) :
  Calls Tryd.prog 132 #[.int .i64 a0, .slice A1 l1.length c1] w fun e w' => e = .returned (.bool r) ∧ Drawn0 w w' := by
 have HR1 := Aside0.mk hr1
 have HC1 := Aside0.mk hc1
 clear hr1 hc1
 have H : (spec_RuleOk.l0 k a0 l1 0) = some r := h
 clear h
 have H' := Aside0.mk H
 clear H
 go_enter Tryd.func132, Tryd.ntmps132
 go_wp2
 go_loopg [5] k (fun kq v5 w' => ∃ (aa : Int), v5 = .int .i64 aa ∧ Aside0 (spec_RuleOk.l0 kq a0 l1 aa = some r) ∧ Aside0 (kq ≤ k) ∧ Drawn0 w w')
 case atStart => exact ⟨(0), tx_, H', ⟨Nat.le_refl _⟩, by repeat (first | exact Drawn0.refl _ | apply Drawn0.step)⟩
 case round =>
  clear H'
  try clear c1
  try clear p2
  obtain ⟨aa, rfl, HA, HK1, ⟨m1, rfl⟩⟩ := hrel
  cases gk with
  | zero => exact absurd HA.out (by simp [spec_RuleOk.l0])
  | succ k1 =>
   have H := HA.out
   clear HA
   simp only [spec_RuleOk.l0] at H
   by_cases c3 : aa < (l1.length : Int)
   ·
    rw [if_pos c3] at H
    have aN : decide (aa < (l1.length : Int)) = true := decide_eq_true c3
    clear c3
    by_cases c4 : 0 ≤ aa
    ·
     rw [if_pos c4] at H
     have aO : decide (0 ≤ aa) = true := decide_eq_true c4
     clear c4
     by_cases c5 : ((rd_L1 l1 aa).length : Int) = a0
     ·
      rw [if_pos c5] at H
      have aR : (((rd_L1 l1 aa).length : Int) == a0) = true := beq_iff_eq.mpr c5
      have aU : (((rd_L1 l1 aa).length : Int) != a0) = false := bne_eq_false_iff_eq.mpr c5
      clear c5
      have H' := Aside0.mk H
      clear H
      have p220 : 0 ≤ (aa : Int) := od_
      have q220 : aa < (l1.length : Int) := od_
      obtain ⟨ad220, bh, bi, e220, aC, hl220_0, hi220_0⟩ := at_L1 HR1.out aa p220 q220
      cases e220
      have aX := Aside0.mk hi220_0
      have aY := Aside0.mk hl220_0
      clear hi220_0 hl220_0
      replace p220 := eq_true p220
      replace q220 := eq_true q220
      go_wp2
      go_loopg [6] k1 (fun kq v6 w' => ∃ (ab : Int), v6 = .int .i64 ab ∧ Aside0 (spec_RuleOk.l1 kq a0 l1 aa ab = some r) ∧ Aside0 (kq ≤ k1) ∧ Drawn0 w w')
      case atStart => exact ⟨(0), tx_, H', ⟨Nat.le_refl _⟩, by repeat (first | exact Drawn0.refl _ | apply Drawn0.step)⟩
      case round =>
       clear H'
       try clear c1
       try clear c2
       try clear p2
       try clear q2
       try clear hx2
       try clear c3
       try clear aN
       try clear c4
       try clear aO
       try clear c5
       try clear aR
       try clear aU
       try clear aC
       try clear p2
       try clear p220
       try clear q220
       obtain ⟨ab, rfl, HA, HK2, ⟨m2, rfl⟩⟩ := hrel
       cases gk with
       | zero => exact absurd HA.out (by simp [spec_RuleOk.l1])
       | succ k2 =>
        have H := HA.out
        clear HA
        simp only [spec_RuleOk.l1] at H
        by_cases c6 : ab < a0
        ·
         rw [if_pos c6] at H
         have cd : decide (ab < a0) = true := decide_eq_true c6
         clear c6
         by_cases c7 : 0 ≤ aa
         ·
          rw [if_pos c7] at H
          have co : decide (0 ≤ aa) = true := decide_eq_true c7
          clear c7
          by_cases c8 : aa < (l1.length : Int)
          ·
           rw [if_pos c8] at H
           have cp : decide (aa < (l1.length : Int)) = true := decide_eq_true c8
           clear c8
           by_cases c9 : 0 ≤ ab
           ·
            rw [if_pos c9] at H
            have cq : decide (0 ≤ ab) = true := decide_eq_true c9
            clear c9
            by_cases c10 : ab < ((rd_L1 l1 aa).length : Int)
            ·
             rw [if_pos c10] at H
             have ck : decide (ab < ((rd_L1 l1 aa).length : Int)) = true := decide_eq_true c10
             clear c10
             obtain ⟨bg, A11, H⟩ := bnd_ H
             try dsimp only at H
             by_cases c12 : bg = true
             ·
              subst c12
              have H1 : (spec_RuleOk.l1 k2 a0 l1 aa (wrap64 (ab + 1))) = some r := by rw [if_pos rfl] at H; exact H
              clear H
              have H := H1
              clear H1
              have H' := Aside0.mk H
              clear H
              have p221 : 0 ≤ (aa : Int) := od_
              have q221 : aa < (l1.length : Int) := od_
              obtain ⟨ad221, ay, az, e221, ak, hl221_0, hi221_0⟩ := at_L1 HR1.out aa p221 q221
              obtain rfl : ad220 = ad221 := (by injection e221)
              have ah := Aside0.mk hi221_0
              have ap := Aside0.mk hl221_0
              clear hi221_0 hl221_0
              replace p221 := eq_true p221
              replace q221 := eq_true q221
              have p222 : 0 ≤ (ab : Int) := od_
              have q222 : ab < ((rd_L1 l1 aa).length : Int) := od_
              obtain ⟨ad222, e222, aq⟩ := Kd.at_int ah.out ab p222 q222
              cases e222
              replace p222 := eq_true p222
              replace q222 := eq_true q222
              go_wp2_with (first | ((with_reducible refine gate_callee (f := 99) rfl ?_); refine gl_ (some 32) Tryd.func99 #[.int .i64 (rd (rd_L1 l1 aa) ab), .int .i64 0, .int .i64 3] ?_; (with_reducible refine (spec_l1In.calls (rd (rd_L1 l1 aa) ab) 0 3 true _ A11.out).mono ?_); rintro e w' ⟨rfl, ⟨nd, rfl⟩⟩; refine ⟨_, rfl, ?_⟩))
              go_roundg k2
              case measure => have := HK1.out; have := HK2.out; omega
              case rel => exact ⟨(wrap64 (ab + 1)), tx_, H', ⟨by have := HK1.out; have := HK2.out; omega⟩, by repeat (first | exact Drawn0.refl _ | apply Drawn0.step)⟩
             ·
              replace c12 := Bool.eq_false_iff.mpr c12
              subst c12
              have H1 : (if (rd (rd_L1 l1 aa) ab) = (-1) then (if ab = aa then (spec_RuleOk.l1 k2 a0 l1 aa (wrap64 (ab + 1))) else (some false)) else (some false)) = some r := by rw [if_neg (show ¬ (false = true) by decide)] at H; exact H
              clear H
              have H := H1
              clear H1
              by_cases c13 : (rd (rd_L1 l1 aa) ab) = (-1)
              ·
               rw [if_pos c13] at H
               have bu : ((rd (rd_L1 l1 aa) ab) == (-1)) = true := beq_iff_eq.mpr c13
               have bv : ((rd (rd_L1 l1 aa) ab) != (-1)) = false := bne_eq_false_iff_eq.mpr c13
               clear c13
               by_cases c14 : ab = aa
               ·
                rw [if_pos c14] at H
                have bw : (ab == aa) = true := beq_iff_eq.mpr c14
                have bx : (ab != aa) = false := bne_eq_false_iff_eq.mpr c14
                clear c14
                have H' := Aside0.mk H
                clear H
                have p221 : 0 ≤ (aa : Int) := od_
                have q221 : aa < (l1.length : Int) := od_
                obtain ⟨ad221, ay, az, e221, ak, hl221_0, hi221_0⟩ := at_L1 HR1.out aa p221 q221
                obtain rfl : ad220 = ad221 := (by injection e221)
                have ah := Aside0.mk hi221_0
                have ap := Aside0.mk hl221_0
                clear hi221_0 hl221_0
                replace p221 := eq_true p221
                replace q221 := eq_true q221
                have p222 : 0 ≤ (ab : Int) := od_
                have q222 : ab < ((rd_L1 l1 aa).length : Int) := od_
                obtain ⟨ad222, e222, aq⟩ := Kd.at_int ah.out ab p222 q222
                cases e222
                replace p222 := eq_true p222
                replace q222 := eq_true q222
                go_wp2_with (first | ((with_reducible refine gate_callee (f := 99) rfl ?_); refine gl_ (some 32) Tryd.func99 #[.int .i64 (rd (rd_L1 l1 aa) ab), .int .i64 0, .int .i64 3] ?_; (with_reducible refine (spec_l1In.calls (rd (rd_L1 l1 aa) ab) 0 3 false _ A11.out).mono ?_); rintro e w' ⟨rfl, ⟨nd, rfl⟩⟩; refine ⟨_, rfl, ?_⟩; have p224 : 0 ≤ (aa : Int) := od_; have q224 : aa < (l1.length : Int) := od_; obtain ⟨ad224, aP, aQ, e224, al, hl224_0, hi224_0⟩ := at_L1 HR1.out aa p224 q224; obtain rfl : ad220 = ad224 := (by injection e224); have am := Aside0.mk hi224_0; have aD := Aside0.mk hl224_0; clear hi224_0 hl224_0; replace p224 := eq_true p224; replace q224 := eq_true q224; have ea_ := Option.some.inj (ak.symm.trans al); injection ea_ with ea_ en_ ec_; subst ea_; subst ec_; clear en_; have p225 : 0 ≤ (ab : Int) := od_; have q225 : ab < ((rd_L1 l1 aa).length : Int) := od_; obtain ⟨ad225, e225, aE⟩ := Kd.at_int am.out ab p225 q225; cases e225; replace p225 := eq_true p225; replace q225 := eq_true q225))
                go_roundg k2
                case measure => have := HK1.out; have := HK2.out; omega
                case rel => exact ⟨(wrap64 (ab + 1)), tx_, H', ⟨by have := HK1.out; have := HK2.out; omega⟩, by repeat (first | exact Drawn0.refl _ | apply Drawn0.step)⟩
               ·
                rw [if_neg c14] at H
                have bw : (ab == aa) = false := beq_eq_false_iff_ne.mpr c14
                have bx : (ab != aa) = true := bne_iff_ne.mpr c14
                obtain rfl := Option.some.inj H
                have p221 : 0 ≤ (aa : Int) := od_
                have q221 : aa < (l1.length : Int) := od_
                obtain ⟨ad221, ay, az, e221, ak, hl221_0, hi221_0⟩ := at_L1 HR1.out aa p221 q221
                obtain rfl : ad220 = ad221 := (by injection e221)
                have ah := Aside0.mk hi221_0
                have ap := Aside0.mk hl221_0
                clear hi221_0 hl221_0
                replace p221 := eq_true p221
                replace q221 := eq_true q221
                have p222 : 0 ≤ (ab : Int) := od_
                have q222 : ab < ((rd_L1 l1 aa).length : Int) := od_
                obtain ⟨ad222, e222, aq⟩ := Kd.at_int ah.out ab p222 q222
                cases e222
                replace p222 := eq_true p222
                replace q222 := eq_true q222
                go_wp2_with (first | ((with_reducible refine gate_callee (f := 99) rfl ?_); refine gl_ (some 32) Tryd.func99 #[.int .i64 (rd (rd_L1 l1 aa) ab), .int .i64 0, .int .i64 3] ?_; (with_reducible refine (spec_l1In.calls (rd (rd_L1 l1 aa) ab) 0 3 false _ A11.out).mono ?_); rintro e w' ⟨rfl, ⟨nd, rfl⟩⟩; refine ⟨_, rfl, ?_⟩; have p224 : 0 ≤ (aa : Int) := od_; have q224 : aa < (l1.length : Int) := od_; obtain ⟨ad224, aP, aQ, e224, al, hl224_0, hi224_0⟩ := at_L1 HR1.out aa p224 q224; obtain rfl : ad220 = ad224 := (by injection e224); have am := Aside0.mk hi224_0; have aD := Aside0.mk hl224_0; clear hi224_0 hl224_0; replace p224 := eq_true p224; replace q224 := eq_true q224; have ea_ := Option.some.inj (ak.symm.trans al); injection ea_ with ea_ en_ ec_; subst ea_; subst ec_; clear en_; have p225 : 0 ≤ (ab : Int) := od_; have q225 : ab < ((rd_L1 l1 aa).length : Int) := od_; obtain ⟨ad225, e225, aE⟩ := Kd.at_int am.out ab p225 q225; cases e225; replace p225 := eq_true p225; replace q225 := eq_true q225))
                go_ret
                exact ⟨tx_, by repeat (first | exact Drawn0.refl _ | apply Drawn0.step)⟩
              ·
               rw [if_neg c13] at H
               have bu : ((rd (rd_L1 l1 aa) ab) == (-1)) = false := beq_eq_false_iff_ne.mpr c13
               have bv : ((rd (rd_L1 l1 aa) ab) != (-1)) = true := bne_iff_ne.mpr c13
               obtain rfl := Option.some.inj H
               have p221 : 0 ≤ (aa : Int) := od_
               have q221 : aa < (l1.length : Int) := od_
               obtain ⟨ad221, ay, az, e221, ak, hl221_0, hi221_0⟩ := at_L1 HR1.out aa p221 q221
               obtain rfl : ad220 = ad221 := (by injection e221)
               have ah := Aside0.mk hi221_0
               have ap := Aside0.mk hl221_0
               clear hi221_0 hl221_0
               replace p221 := eq_true p221
               replace q221 := eq_true q221
               have p222 : 0 ≤ (ab : Int) := od_
               have q222 : ab < ((rd_L1 l1 aa).length : Int) := od_
               obtain ⟨ad222, e222, aq⟩ := Kd.at_int ah.out ab p222 q222
               cases e222
               replace p222 := eq_true p222
               replace q222 := eq_true q222
               go_wp2_with (first | ((with_reducible refine gate_callee (f := 99) rfl ?_); refine gl_ (some 32) Tryd.func99 #[.int .i64 (rd (rd_L1 l1 aa) ab), .int .i64 0, .int .i64 3] ?_; (with_reducible refine (spec_l1In.calls (rd (rd_L1 l1 aa) ab) 0 3 false _ A11.out).mono ?_); rintro e w' ⟨rfl, ⟨nd, rfl⟩⟩; refine ⟨_, rfl, ?_⟩; have p224 : 0 ≤ (aa : Int) := od_; have q224 : aa < (l1.length : Int) := od_; obtain ⟨ad224, aP, aQ, e224, al, hl224_0, hi224_0⟩ := at_L1 HR1.out aa p224 q224; obtain rfl : ad220 = ad224 := (by injection e224); have am := Aside0.mk hi224_0; have aD := Aside0.mk hl224_0; clear hi224_0 hl224_0; replace p224 := eq_true p224; replace q224 := eq_true q224; have ea_ := Option.some.inj (ak.symm.trans al); injection ea_ with ea_ en_ ec_; subst ea_; subst ec_; clear en_; have p225 : 0 ≤ (ab : Int) := od_; have q225 : ab < ((rd_L1 l1 aa).length : Int) := od_; obtain ⟨ad225, e225, aE⟩ := Kd.at_int am.out ab p225 q225; cases e225; replace p225 := eq_true p225; replace q225 := eq_true q225))
               go_ret
               exact ⟨tx_, by repeat (first | exact Drawn0.refl _ | apply Drawn0.step)⟩
            ·
             rw [if_neg c10] at H
             exact absurd H (by simp)
           ·
            rw [if_neg c9] at H
            exact absurd H (by simp)
          ·
           rw [if_neg c8] at H
           exact absurd H (by simp)
         ·
          rw [if_neg c7] at H
          exact absurd H (by simp)
        ·
         rw [if_neg c6] at H
         have cd : decide (ab < a0) = false := decide_eq_false c6
         clear c6
         have H' := Aside0.mk H
         clear H
         go_wp2
         go_roundg k2
         case measure => have := HK1.out; have := HK2.out; omega
         case rel => exact ⟨(wrap64 (aa + 1)), tx_, H', ⟨by have := HK1.out; have := HK2.out; omega⟩, by repeat (first | exact Drawn0.refl _ | apply Drawn0.step)⟩
     ·
      rw [if_neg c5] at H
      have aR : (((rd_L1 l1 aa).length : Int) == a0) = false := beq_eq_false_iff_ne.mpr c5
      have aU : (((rd_L1 l1 aa).length : Int) != a0) = true := bne_iff_ne.mpr c5
      obtain rfl := Option.some.inj H
      have p220 : 0 ≤ (aa : Int) := od_
      have q220 : aa < (l1.length : Int) := od_
      obtain ⟨ad220, bh, bi, e220, aC, hl220_0, hi220_0⟩ := at_L1 HR1.out aa p220 q220
      cases e220
      have aX := Aside0.mk hi220_0
      have aY := Aside0.mk hl220_0
      clear hi220_0 hl220_0
      replace p220 := eq_true p220
      replace q220 := eq_true q220
      go_wp2
      go_ret
      exact ⟨tx_, by repeat (first | exact Drawn0.refl _ | apply Drawn0.step)⟩
    ·
     rw [if_neg c4] at H
     exact absurd H (by simp)
   ·
    rw [if_neg c3] at H
    have aN : decide (aa < (l1.length : Int)) = false := decide_eq_false c3
    clear c3
    obtain ⟨bf, A15, H⟩ := bnd_ H
    try dsimp only at H
    by_cases c16 : bf = true
    ·
     subst c16
     have H1 : (some ((l1.length : Int) == a0)) = some r := by rw [if_pos rfl] at H; exact H
     clear H
     have H := H1
     clear H1
     obtain rfl := Option.some.inj H
     go_wp2_with (first | ((with_reducible refine gate_callee (f := 99) rfl ?_); refine gl_ (some 51) Tryd.func99 #[.int .i64 a0, .int .i64 1, .int .i64 3] ?_; (with_reducible refine (spec_l1In.calls a0 1 3 true _ A15.out).mono ?_); rintro e w' ⟨rfl, ⟨nd, rfl⟩⟩; refine ⟨_, rfl, ?_⟩))
     go_ret
     exact ⟨tx_, by repeat (first | exact Drawn0.refl _ | apply Drawn0.step)⟩
    ·
     replace c16 := Bool.eq_false_iff.mpr c16
     subst c16
     have H1 : (some false) = some r := by rw [if_neg (show ¬ (false = true) by decide)] at H; exact H
     clear H
     have H := H1
     clear H1
     obtain rfl := Option.some.inj H
     go_wp2_with (first | ((with_reducible refine gate_callee (f := 99) rfl ?_); refine gl_ (some 51) Tryd.func99 #[.int .i64 a0, .int .i64 1, .int .i64 3] ?_; (with_reducible refine (spec_l1In.calls a0 1 3 false _ A15.out).mono ?_); rintro e w' ⟨rfl, ⟨nd, rfl⟩⟩; refine ⟨_, rfl, ?_⟩))
     go_ret
     exact ⟨tx_, by repeat (first | exact Drawn0.refl _ | apply Drawn0.step)⟩

end Go.Proofs.YtlhiienanbpdlaaDoor.MFnPlaceText
