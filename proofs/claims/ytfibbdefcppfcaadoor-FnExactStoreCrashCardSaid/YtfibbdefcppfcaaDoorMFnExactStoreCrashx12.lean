/- For the law FnExactStoreCrash: walks of the functions that it reaches: each call returns what the plain function beside it tells. The conditions stand in each statement. -/
import Derived.Test.YtfibbdefcppfcaaDoorV
import Derived.Test.YtfibbdefcppfcaaDoorMFnExactStoreCrashx0
import Derived.Test.YtfibbdefcppfcaaDoorMFnExactStoreCrashx1
import Derived.Test.YtfibbdefcppfcaaDoorMFnExactStoreCrashx7
import Derived.Test.YtfibbdefcppfcaaDoorMFnExactStoreCrashx11
namespace Go.Proofs.YtfibbdefcppfcaaDoor.MFnExactStoreCrash
open Go.RowKit Go.Proofs.YtfibbdefcppfcaaDoorW.PrintWords Go.Proofs.YtfibbdefcppfcaaDoorW.PrintLast Go.Proofs.YtfibbdefcppfcaaDoorW.PrintMore
attribute [local go_sem] max2_int min2_int max_two min_two max_three min_three max_four min_four   -- for this text's walks alone
set_option linter.unusedVariables false
set_option linter.unusedSimpArgs false

/-! ### impl_StoreCrash: function 11 -/
def impl_StoreCrash.f (k : Nat) (a0_0 : ByteArray) (a0_1 : ByteArray) (a0_2 : Int) (a1 : Int) : Option (ByteArray × ByteArray × Int × Bool) := (impl_StoreOk.f k a0_0 a0_1 a0_2).bind fun aP => (if aP = true then (if a1 < a0_2 then (some ((⟨#[]⟩ : ByteArray), (⟨#[]⟩ : ByteArray), 0, false)) else (if a1 > (a0_1.size : Int) then (some ((⟨#[]⟩ : ByteArray), (⟨#[]⟩ : ByteArray), 0, false)) else (if 0 ≤ a1 then (if a1 ≤ (a0_1.size : Int) then (some (a0_0, a0_1.extract 0 (a1 : Int).toNat, a0_2, true)) else (none)) else (none)))) else (some ((⟨#[]⟩ : ByteArray), (⟨#[]⟩ : ByteArray), 0, false)))
theorem impl_StoreCrash.mono : ∀ a0 a1 a2 a3 k, LeO (impl_StoreCrash.f k a0 a1 a2 a3) (impl_StoreCrash.f (k + 1) a0 a1 a2 a3) := by
 intro a0 a1 a2 a3 k
 unfold impl_StoreCrash.f
 repeat' (with_reducible first | exact impl_StoreOk.mono _ _ _ _ | exact mr_ | exact mn_ | refine mi_ ?_ ?_ | refine mb_ ?_ (fun _ => ?_))
set_option maxHeartbeats 8000000 in
set_option maxRecDepth 100000 in
theorem impl_StoreCrash.calls (k : Nat) (a0_0 : ByteArray) (a0_1 : ByteArray) (a0_2 : Int) (a1 : Int) (r1 : ByteArray) (r2 : ByteArray) (r3 : Int) (r4 : Bool) (w : World) (hG : GWb w) (h : impl_StoreCrash.f k a0_0 a0_1 a0_2 a1 = some (r1, r2, r3, r4)) :
  Calls Tryd.prog 11 #[.agg #[.string a0_0, .string a0_1, .int .i64 a0_2], .int .i64 a1] w fun e w' => e = .returned (.tuple #[.agg #[.string r1, .string r2, .int .i64 r3], .bool r4]) ∧ Below w.heap.size w w' := by
 have HG := Aside0.mk hG
 clear hG
 have hu26 := Tryd.underlying26
 have HB := Aside0.mk (Below.refl w.heap.size w)
 have H : ((impl_StoreOk.f k a0_0 a0_1 a0_2).bind fun aP => (if aP = true then (if a1 < a0_2 then (some ((⟨#[]⟩ : ByteArray), (⟨#[]⟩ : ByteArray), 0, false)) else (if a1 > (a0_1.size : Int) then (some ((⟨#[]⟩ : ByteArray), (⟨#[]⟩ : ByteArray), 0, false)) else (if 0 ≤ a1 then (if a1 ≤ (a0_1.size : Int) then (some (a0_0, a0_1.extract 0 (a1 : Int).toNat, a0_2, true)) else (none)) else (none)))) else (some ((⟨#[]⟩ : ByteArray), (⟨#[]⟩ : ByteArray), 0, false)))) = some (r1, r2, r3, r4) := h
 clear h
 obtain ⟨aP, A3, H⟩ := bnd_ H
 try dsimp only at H
 by_cases c4 : aP = true
 ·
  subst c4
  have H1 : (if a1 < a0_2 then (some ((⟨#[]⟩ : ByteArray), (⟨#[]⟩ : ByteArray), 0, false)) else (if a1 > (a0_1.size : Int) then (some ((⟨#[]⟩ : ByteArray), (⟨#[]⟩ : ByteArray), 0, false)) else (if 0 ≤ a1 then (if a1 ≤ (a0_1.size : Int) then (some (a0_0, a0_1.extract 0 (a1 : Int).toNat, a0_2, true)) else (none)) else (none)))) = some (r1, r2, r3, r4) := by rw [if_pos rfl] at H; exact H
  clear H
  have H := H1
  clear H1
  by_cases c5 : a1 < a0_2
  ·
   rw [if_pos c5] at H
   have bB : decide (a1 < a0_2) = true := decide_eq_true c5
   clear c5
   simp only [Option.some.injEq, Prod.mk.injEq] at H
   obtain ⟨rfl, rfl, rfl, rfl⟩ := H
   go_enter Tryd.func11, Tryd.ntmps11
   go_wp2_with (first | ((with_reducible refine gate_dst (N := 2) rfl ?_); (try (refine gate_guard (by rfl) ?_; dsimp only)); refine box_event ?hg (N := 2) ?hd (cs := #[.string a0_0, .string a0_1, .int .i64 a0_2]) (t := 26) ?hr ?_; (case hd => rfl); (case hg => rfl); (case hr => first | (go_simp; done) | (go_simp; rfl)); intro aQ hg w6 hbox hb; have ab := Aside0.mk (hbox); have aR := gx_ HB hg; have aU := gx_ HB hg; replace HB := bs_ HB hb; clear hb hbox hg) | ((with_reducible refine gate_dst (N := 4) rfl ?_); (try (refine gate_guard (by rfl) ?_; dsimp only)); refine box_event ?hg (N := 4) ?hd (cs := #[.string (⟨#[]⟩ : ByteArray), .string (⟨#[]⟩ : ByteArray), .int .i64 0]) (t := 26) ?hr ?_; (case hd => rfl); (case hg => rfl); (case hr => first | (go_simp; done) | (go_simp; rfl)); intro aD hg w7 hbox hb; have ae := Aside0.mk (hbox); have aV := gx_ HB hg; have aW := gx_ HB hg; replace HB := bs_ HB hb; have ah := nl_ ab hg; have ai := ng_ ab hg; replace ab := bb_ ab hb; clear hb hbox hg; have eJ := ah.out; have eK := ai.out; have bC := cz_ ab 0; have bD := cz_ ab 1; have bE := cz_ ab 2; have bF := blk_frozen ab.out 0; have bG := blk_frozen ab.out 1; have bH := blk_frozen ab.out 2) | ((with_reducible refine gate_callee (f := 9) rfl ?_); refine gl_ (some 7) Tryd.func9 #[.agg #[.string a0_0, .string a0_1, .int .i64 a0_2]] ?_; (with_reducible refine (impl_StoreOk.calls k a0_0 a0_1 a0_2 true _ ?s1 A3.out).mono ?_); (case s1 => exact GWb.below HG.out (tb_ HB.out)); rintro e fy ⟨rfl, hb⟩; refine ⟨_, rfl, ?_⟩; replace ab := bb_ ab hb; replace ae := bb_ ae hb; replace HB := bs_ HB hb; (try clear hb); (try clear hb2); (try clear hk); (try clear hi); have bN := cz_ ab 0; have bO := cz_ ab 1; have bP := cz_ ab 2; have bQ := blk_frozen ab.out 0; have bR := blk_frozen ab.out 1; have bS := blk_frozen ab.out 2; have bU := cz_ ae 0; have bV := cz_ ae 1; have bW := cz_ ae 2; have bX := blk_frozen ae.out 0; have bZ := blk_frozen ae.out 1; have b0 := blk_frozen ae.out 2))
   refine bodyPost_ret (results_ct rfl _ _ aD 26 #[.string (⟨#[]⟩ : ByteArray), .string (⟨#[]⟩ : ByteArray), .int .i64 0] (0, 0) _ rfl (ps_ ae.out) Tryd.underlying26 rfl (by kernel_rfl)) rfl ?_
   exact ⟨tw_, (tb_ HB.out)⟩
  ·
   rw [if_neg c5] at H
   have bB : decide (a1 < a0_2) = false := decide_eq_false c5
   clear c5
   by_cases c13 : a1 > (a0_1.size : Int)
   ·
    rw [if_pos c13] at H
    have bJ : decide ((a0_1.size : Int) < a1) = true := decide_eq_true c13
    clear c13
    simp only [Option.some.injEq, Prod.mk.injEq] at H
    obtain ⟨rfl, rfl, rfl, rfl⟩ := H
    go_enter Tryd.func11, Tryd.ntmps11
    go_wp2_with (first | ((with_reducible refine gate_dst (N := 2) rfl ?_); (try (refine gate_guard (by rfl) ?_; dsimp only)); refine box_event ?hg (N := 2) ?hd (cs := #[.string a0_0, .string a0_1, .int .i64 a0_2]) (t := 26) ?hr ?_; (case hd => rfl); (case hg => rfl); (case hr => first | (go_simp; done) | (go_simp; rfl)); intro aQ hg fz hbox hb; have ab := Aside0.mk (hbox); have aR := gx_ HB hg; have aU := gx_ HB hg; replace HB := bs_ HB hb; clear hb hbox hg) | ((with_reducible refine gate_dst (N := 4) rfl ?_); (try (refine gate_guard (by rfl) ?_; dsimp only)); refine box_event ?hg (N := 4) ?hd (cs := #[.string (⟨#[]⟩ : ByteArray), .string (⟨#[]⟩ : ByteArray), .int .i64 0]) (t := 26) ?hr ?_; (case hd => rfl); (case hg => rfl); (case hr => first | (go_simp; done) | (go_simp; rfl)); intro aD hg fu hbox hb; have ae := Aside0.mk (hbox); have aV := gx_ HB hg; have aW := gx_ HB hg; replace HB := bs_ HB hb; have ah := nl_ ab hg; have ai := ng_ ab hg; replace ab := bb_ ab hb; clear hb hbox hg; have eV := ah.out; have eW := ai.out; have b1 := cz_ ab 0; have b2 := cz_ ab 1; have b3 := cz_ ab 2; have b4 := blk_frozen ab.out 0; have b5 := blk_frozen ab.out 1; have b6 := blk_frozen ab.out 2) | ((with_reducible refine gate_callee (f := 9) rfl ?_); refine gl_ (some 7) Tryd.func9 #[.agg #[.string a0_0, .string a0_1, .int .i64 a0_2]] ?_; (with_reducible refine (impl_StoreOk.calls k a0_0 a0_1 a0_2 true _ ?s1 A3.out).mono ?_); (case s1 => exact GWb.below HG.out (tb_ HB.out)); rintro e fA ⟨rfl, hb⟩; refine ⟨_, rfl, ?_⟩; replace ab := bb_ ab hb; replace ae := bb_ ae hb; replace HB := bs_ HB hb; (try clear hb); (try clear hb2); (try clear hk); (try clear hi); have bc := cz_ ab 0; have bd := cz_ ab 1; have be := cz_ ab 2; have bf := blk_frozen ab.out 0; have bg := blk_frozen ab.out 1; have bh := blk_frozen ab.out 2; have bi := cz_ ae 0; have bj := cz_ ae 1; have bk := cz_ ae 2; have bl := blk_frozen ae.out 0; have bm := blk_frozen ae.out 1; have bn := blk_frozen ae.out 2))
    refine bodyPost_ret (results_ct rfl _ _ aD 26 #[.string (⟨#[]⟩ : ByteArray), .string (⟨#[]⟩ : ByteArray), .int .i64 0] (0, 0) _ rfl (ps_ ae.out) Tryd.underlying26 rfl (by kernel_rfl)) rfl ?_
    exact ⟨tw_, (tb_ HB.out)⟩
   ·
    rw [if_neg c13] at H
    have bJ : decide ((a0_1.size : Int) < a1) = false := decide_eq_false c13
    clear c13
    by_cases c21 : 0 ≤ a1
    ·
     rw [if_pos c21] at H
     have eX := eq_true c21
     have eY : decide (0 ≤ a1) = true := decide_eq_true c21
     clear c21
     by_cases c22 : a1 ≤ (a0_1.size : Int)
     ·
      rw [if_pos c22] at H
      have eZ := eq_true c22
      have e0 : decide (a1 ≤ (a0_1.size : Int)) = true := decide_eq_true c22
      clear c22
      simp only [Option.some.injEq, Prod.mk.injEq] at H
      obtain ⟨rfl, rfl, rfl, rfl⟩ := H
      go_enter Tryd.func11, Tryd.ntmps11
      go_wp2_with (first | ((with_reducible refine gate_dst (N := 2) rfl ?_); (try (refine gate_guard (by rfl) ?_; dsimp only)); refine box_event ?hg (N := 2) ?hd (cs := #[.string a0_0, .string a0_1, .int .i64 a0_2]) (t := 26) ?hr ?_; (case hd => rfl); (case hg => rfl); (case hr => first | (go_simp; done) | (go_simp; rfl)); intro aQ hg fB hbox hb; have ab := Aside0.mk (hbox); have aR := gx_ HB hg; have aU := gx_ HB hg; replace HB := bs_ HB hb; clear hb hbox hg) | ((with_reducible refine gate_dst (N := 4) rfl ?_); (try (refine gate_guard (by rfl) ?_; dsimp only)); refine box_event ?hg (N := 4) ?hd (cs := #[.string (⟨#[]⟩ : ByteArray), .string (⟨#[]⟩ : ByteArray), .int .i64 0]) (t := 26) ?hr ?_; (case hd => rfl); (case hg => rfl); (case hr => first | (go_simp; done) | (go_simp; rfl)); intro aD hg fC hbox hb; have ae := Aside0.mk (hbox); have aV := gx_ HB hg; have aW := gx_ HB hg; replace HB := bs_ HB hb; have ah := nl_ ab hg; have ai := ng_ ab hg; replace ab := bb_ ab hb; clear hb hbox hg; have e1 := ah.out; have e2 := ai.out; have b7 := cz_ ab 0; have b8 := cz_ ab 1; have b9 := cz_ ab 2; have ca := blk_frozen ab.out 0; have cb := blk_frozen ab.out 1; have cc := blk_frozen ab.out 2) | ((with_reducible refine gate_callee (f := 9) rfl ?_); refine gl_ (some 7) Tryd.func9 #[.agg #[.string a0_0, .string a0_1, .int .i64 a0_2]] ?_; (with_reducible refine (impl_StoreOk.calls k a0_0 a0_1 a0_2 true _ ?s1 A3.out).mono ?_); (case s1 => exact GWb.below HG.out (tb_ HB.out)); rintro e fv ⟨rfl, hb⟩; refine ⟨_, rfl, ?_⟩; replace ab := bb_ ab hb; replace ae := bb_ ae hb; replace HB := bs_ HB hb; (try clear hb); (try clear hb2); (try clear hk); (try clear hi); have cd := cz_ ab 0; have ce := cz_ ab 1; have cf := cz_ ab 2; have cg := blk_frozen ab.out 0; have ch := blk_frozen ab.out 1; have ci := blk_frozen ab.out 2; have cj := cz_ ae 0; have ck := cz_ ae 1; have cl := cz_ ae 2; have cm := blk_frozen ae.out 0; have cn := blk_frozen ae.out 1; have co := blk_frozen ae.out 2))
      refine bodyPost_ret (results_ct rfl _ _ aD 26 #[.string a0_0, .string (a0_1.extract 0 (a1 : Int).toNat), .int .i64 a0_2] (0, 0) _ rfl (ps_ ae.out) Tryd.underlying26 rfl (by kernel_rfl)) rfl ?_
      exact ⟨tw_, (tb_ HB.out)⟩
     ·
      rw [if_neg c22] at H
      exact absurd H (by simp)
    ·
     rw [if_neg c21] at H
     exact absurd H (by simp)
 ·
  replace c4 := Bool.eq_false_iff.mpr c4
  subst c4
  have H1 : (some ((⟨#[]⟩ : ByteArray), (⟨#[]⟩ : ByteArray), 0, false)) = some (r1, r2, r3, r4) := by rw [if_neg (show ¬ (false = true) by decide)] at H; exact H
  clear H
  have H := H1
  clear H1
  simp only [Option.some.injEq, Prod.mk.injEq] at H
  obtain ⟨rfl, rfl, rfl, rfl⟩ := H
  go_enter Tryd.func11, Tryd.ntmps11
  go_wp2_with (first | ((with_reducible refine gate_dst (N := 2) rfl ?_); (try (refine gate_guard (by rfl) ?_; dsimp only)); refine box_event ?hg (N := 2) ?hd (cs := #[.string a0_0, .string a0_1, .int .i64 a0_2]) (t := 26) ?hr ?_; (case hd => rfl); (case hg => rfl); (case hr => first | (go_simp; done) | (go_simp; rfl)); intro aQ hg fD hbox hb; have ab := Aside0.mk (hbox); have aR := gx_ HB hg; have aU := gx_ HB hg; replace HB := bs_ HB hb; clear hb hbox hg) | ((with_reducible refine gate_dst (N := 4) rfl ?_); (try (refine gate_guard (by rfl) ?_; dsimp only)); refine box_event ?hg (N := 4) ?hd (cs := #[.string (⟨#[]⟩ : ByteArray), .string (⟨#[]⟩ : ByteArray), .int .i64 0]) (t := 26) ?hr ?_; (case hd => rfl); (case hg => rfl); (case hr => first | (go_simp; done) | (go_simp; rfl)); intro aD hg fE hbox hb; have ae := Aside0.mk (hbox); have aV := gx_ HB hg; have aW := gx_ HB hg; replace HB := bs_ HB hb; have ah := nl_ ab hg; have ai := ng_ ab hg; replace ab := bb_ ab hb; clear hb hbox hg; have e3 := ah.out; have e4 := ai.out; have cp := cz_ ab 0; have cq := cz_ ab 1; have cr := cz_ ab 2; have ct := blk_frozen ab.out 0; have cu := blk_frozen ab.out 1; have cv := blk_frozen ab.out 2) | ((with_reducible refine gate_callee (f := 9) rfl ?_); refine gl_ (some 7) Tryd.func9 #[.agg #[.string a0_0, .string a0_1, .int .i64 a0_2]] ?_; (with_reducible refine (impl_StoreOk.calls k a0_0 a0_1 a0_2 false _ ?s1 A3.out).mono ?_); (case s1 => exact GWb.below HG.out (tb_ HB.out)); rintro e fF ⟨rfl, hb⟩; refine ⟨_, rfl, ?_⟩; replace ab := bb_ ab hb; replace ae := bb_ ae hb; replace HB := bs_ HB hb; (try clear hb); (try clear hb2); (try clear hk); (try clear hi); have cw := cz_ ae 0; have cx := cz_ ae 1; have cy := cz_ ae 2; have cz := blk_frozen ae.out 0; have cA := blk_frozen ae.out 1; have cB := blk_frozen ae.out 2))
  refine bodyPost_ret (results_ct rfl _ _ aD 26 #[.string (⟨#[]⟩ : ByteArray), .string (⟨#[]⟩ : ByteArray), .int .i64 0] (0, 0) _ rfl (ps_ ae.out) Tryd.underlying26 rfl (by kernel_rfl)) rfl ?_
  exact ⟨tw_, (tb_ HB.out)⟩

/-! ### laws_eqStore: function 12 -/
def laws_eqStore.f (a0_0 : ByteArray) (a0_1 : ByteArray) (a0_2 : Int) (a1_0 : ByteArray) (a1_1 : ByteArray) (a1_2 : Int) : Option (Bool) := if a0_0.toList = a1_0.toList then (if a0_1.toList = a1_1.toList then (if a0_2 = a1_2 then (some true) else (some false)) else (some false)) else (some false)
set_option maxHeartbeats 8000000 in
set_option maxRecDepth 100000 in
theorem laws_eqStore.calls (a0_0 : ByteArray) (a0_1 : ByteArray) (a0_2 : Int) (a1_0 : ByteArray) (a1_1 : ByteArray) (a1_2 : Int) (r : Bool) (w : World) (h : laws_eqStore.f a0_0 a0_1 a0_2 a1_0 a1_1 a1_2 = some r) :
  Calls Tryd.prog 12 #[.agg #[.string a0_0, .string a0_1, .int .i64 a0_2], .agg #[.string a1_0, .string a1_1, .int .i64 a1_2]] w fun e w' => e = .returned (.bool r) ∧ Below w.heap.size w w' := by
 have hu26 := Tryd.underlying26
 have HB := Aside0.mk (Below.refl w.heap.size w)
 have H : (if a0_0.toList = a1_0.toList then (if a0_1.toList = a1_1.toList then (if a0_2 = a1_2 then (some true) else (some false)) else (some false)) else (some false)) = some r := h
 clear h
 by_cases c3 : a0_0.toList = a1_0.toList
 ·
  rw [if_pos c3] at H
  have eL : (a0_0.toList == a1_0.toList) = true := beq_iff_eq.mpr c3
  have eM : (a0_0.toList != a1_0.toList) = false := bne_eq_false_iff_eq.mpr c3
  clear c3
  by_cases c4 : a0_1.toList = a1_1.toList
  ·
   rw [if_pos c4] at H
   have bI : (a0_1.toList == a1_1.toList) = true := beq_iff_eq.mpr c4
   have eN : (a0_1.toList != a1_1.toList) = false := bne_eq_false_iff_eq.mpr c4
   clear c4
   by_cases c5 : a0_2 = a1_2
   ·
    rw [if_pos c5] at H
    have bB : (a0_2 == a1_2) = true := beq_iff_eq.mpr c5
    have eO : (a0_2 != a1_2) = false := bne_eq_false_iff_eq.mpr c5
    clear c5
    obtain rfl := Option.some.inj H
    go_enter Tryd.func12, Tryd.ntmps12
    go_wp2_with (first | ((with_reducible refine gate_dst (N := 2) rfl ?_); refine box_event ?hg (N := 2) ?hd (cs := #[.string a0_0, .string a0_1, .int .i64 a0_2]) (t := 26) ?hr ?_; (case hd => rfl); (case hg => rfl); (case hr => first | (go_simp; done) | (go_simp; rfl)); intro aX hg w6 hbox hb; have ad := Aside0.mk (hbox); have aY := gx_ HB hg; have aZ := gx_ HB hg; replace HB := bs_ HB hb; clear hb hbox hg) | ((with_reducible refine gate_dst (N := 3) rfl ?_); refine box_event ?hg (N := 3) ?hd (cs := #[.string a1_0, .string a1_1, .int .i64 a1_2]) (t := 26) ?hr ?_; (case hd => rfl); (case hg => rfl); (case hr => first | (go_simp; done) | (go_simp; rfl)); intro a4 hg w7 hbox hb; have af := Aside0.mk (hbox); have a5 := gx_ HB hg; have a6 := gx_ HB hg; replace HB := bs_ HB hb; have aj := nl_ ad hg; have ak := ng_ ad hg; replace ad := bb_ ad hb; clear hb hbox hg; have eJ := aj.out; have eK := ak.out; have bC := cz_ ad 0; have bD := cz_ ad 1; have bE := cz_ ad 2; have bF := blk_frozen ad.out 0; have bG := blk_frozen ad.out 1; have bH := blk_frozen ad.out 2; have cC := cz_ af 0; have cD := cz_ af 1; have cE := cz_ af 2; have cF := blk_frozen af.out 0; have cG := blk_frozen af.out 1; have cH := blk_frozen af.out 2))
    go_ret
    exact ⟨tw_, (tb_ HB.out)⟩
   ·
    rw [if_neg c5] at H
    have bB : (a0_2 == a1_2) = false := beq_eq_false_iff_ne.mpr c5
    have eO : (a0_2 != a1_2) = true := bne_iff_ne.mpr c5
    obtain rfl := Option.some.inj H
    go_enter Tryd.func12, Tryd.ntmps12
    go_wp2_with (first | ((with_reducible refine gate_dst (N := 2) rfl ?_); refine box_event ?hg (N := 2) ?hd (cs := #[.string a0_0, .string a0_1, .int .i64 a0_2]) (t := 26) ?hr ?_; (case hd => rfl); (case hg => rfl); (case hr => first | (go_simp; done) | (go_simp; rfl)); intro aX hg fG hbox hb; have ad := Aside0.mk (hbox); have aY := gx_ HB hg; have aZ := gx_ HB hg; replace HB := bs_ HB hb; clear hb hbox hg) | ((with_reducible refine gate_dst (N := 3) rfl ?_); refine box_event ?hg (N := 3) ?hd (cs := #[.string a1_0, .string a1_1, .int .i64 a1_2]) (t := 26) ?hr ?_; (case hd => rfl); (case hg => rfl); (case hr => first | (go_simp; done) | (go_simp; rfl)); intro a4 hg fH hbox hb; have af := Aside0.mk (hbox); have a5 := gx_ HB hg; have a6 := gx_ HB hg; replace HB := bs_ HB hb; have aj := nl_ ad hg; have ak := ng_ ad hg; replace ad := bb_ ad hb; clear hb hbox hg; have e5 := aj.out; have e6 := ak.out; have cI := cz_ ad 0; have cJ := cz_ ad 1; have cK := cz_ ad 2; have cL := blk_frozen ad.out 0; have cM := blk_frozen ad.out 1; have cN := blk_frozen ad.out 2; have cO := cz_ af 0; have cP := cz_ af 1; have cQ := cz_ af 2; have cR := blk_frozen af.out 0; have cS := blk_frozen af.out 1; have cT := blk_frozen af.out 2))
    go_ret
    exact ⟨tw_, (tb_ HB.out)⟩
  ·
   rw [if_neg c4] at H
   have bI : (a0_1.toList == a1_1.toList) = false := beq_eq_false_iff_ne.mpr c4
   have eN : (a0_1.toList != a1_1.toList) = true := bne_iff_ne.mpr c4
   obtain rfl := Option.some.inj H
   go_enter Tryd.func12, Tryd.ntmps12
   go_wp2_with (first | ((with_reducible refine gate_dst (N := 2) rfl ?_); refine box_event ?hg (N := 2) ?hd (cs := #[.string a0_0, .string a0_1, .int .i64 a0_2]) (t := 26) ?hr ?_; (case hd => rfl); (case hg => rfl); (case hr => first | (go_simp; done) | (go_simp; rfl)); intro aX hg fI hbox hb; have ad := Aside0.mk (hbox); have aY := gx_ HB hg; have aZ := gx_ HB hg; replace HB := bs_ HB hb; clear hb hbox hg) | ((with_reducible refine gate_dst (N := 3) rfl ?_); refine box_event ?hg (N := 3) ?hd (cs := #[.string a1_0, .string a1_1, .int .i64 a1_2]) (t := 26) ?hr ?_; (case hd => rfl); (case hg => rfl); (case hr => first | (go_simp; done) | (go_simp; rfl)); intro a4 hg fw hbox hb; have af := Aside0.mk (hbox); have a5 := gx_ HB hg; have a6 := gx_ HB hg; replace HB := bs_ HB hb; have aj := nl_ ad hg; have ak := ng_ ad hg; replace ad := bb_ ad hb; clear hb hbox hg; have e7 := aj.out; have e8 := ak.out; have bc := cz_ ad 0; have bd := cz_ ad 1; have be := cz_ ad 2; have bf := blk_frozen ad.out 0; have bg := blk_frozen ad.out 1; have bh := blk_frozen ad.out 2; have bi := cz_ af 0; have bj := cz_ af 1; have bk := cz_ af 2; have bl := blk_frozen af.out 0; have bm := blk_frozen af.out 1; have bn := blk_frozen af.out 2))
   go_ret
   exact ⟨tw_, (tb_ HB.out)⟩
 ·
  rw [if_neg c3] at H
  have eL : (a0_0.toList == a1_0.toList) = false := beq_eq_false_iff_ne.mpr c3
  have eM : (a0_0.toList != a1_0.toList) = true := bne_iff_ne.mpr c3
  obtain rfl := Option.some.inj H
  go_enter Tryd.func12, Tryd.ntmps12
  go_wp2_with (first | ((with_reducible refine gate_dst (N := 2) rfl ?_); refine box_event ?hg (N := 2) ?hd (cs := #[.string a0_0, .string a0_1, .int .i64 a0_2]) (t := 26) ?hr ?_; (case hd => rfl); (case hg => rfl); (case hr => first | (go_simp; done) | (go_simp; rfl)); intro aX hg fx hbox hb; have ad := Aside0.mk (hbox); have aY := gx_ HB hg; have aZ := gx_ HB hg; replace HB := bs_ HB hb; clear hb hbox hg) | ((with_reducible refine gate_dst (N := 3) rfl ?_); refine box_event ?hg (N := 3) ?hd (cs := #[.string a1_0, .string a1_1, .int .i64 a1_2]) (t := 26) ?hr ?_; (case hd => rfl); (case hg => rfl); (case hr => first | (go_simp; done) | (go_simp; rfl)); intro a4 hg fJ hbox hb; have af := Aside0.mk (hbox); have a5 := gx_ HB hg; have a6 := gx_ HB hg; replace HB := bs_ HB hb; have aj := nl_ ad hg; have ak := ng_ ad hg; replace ad := bb_ ad hb; clear hb hbox hg; have e9 := aj.out; have fa := ak.out; have bo := cz_ ad 0; have bp := cz_ ad 1; have bq := cz_ ad 2; have br := blk_frozen ad.out 0; have bs := blk_frozen ad.out 1; have bu := blk_frozen ad.out 2; have cU := cz_ af 0; have cV := cz_ af 1; have cW := cz_ af 2; have cX := blk_frozen af.out 0; have cY := blk_frozen af.out 1; have cZ := blk_frozen af.out 2))
  go_ret
  exact ⟨tw_, (tb_ HB.out)⟩

/-! ### laws_FnExactStoreCrash: function 4 -/
def laws_FnExactStoreCrash.f (k : Nat) (a0_0 : ByteArray) (a0_1 : ByteArray) (a0_2 : Int) (a1 : Int) : Option (Bool) := (laws_szStore.f a0_0 a0_1 a0_2 1048576).bind fun aE => (if aE < 0 then (some true) else ((laws_toStore.f a0_0 a0_1 a0_2).bind fun aF => ((spec_StoreCrash.f k aF.1 aF.2.1 aF.2.2 a1).bind fun ar => ((laws_toStore.f a0_0 a0_1 a0_2).bind fun aG => ((impl_StoreCrash.f k aG.1 aG.2.1 aG.2.2 a1).bind fun au => ((laws_eqStore.f au.1 au.2.1 au.2.2.1 ar.1 ar.2.1 ar.2.2.1).bind fun a7 => (if a7 = true then (if (au.2.2.2 != ar.2.2.2) = true then (some false) else (some true)) else (some false))))))))
theorem laws_FnExactStoreCrash.mono : ∀ a0 a1 a2 a3 k, LeO (laws_FnExactStoreCrash.f k a0 a1 a2 a3) (laws_FnExactStoreCrash.f (k + 1) a0 a1 a2 a3) := by
 intro a0 a1 a2 a3 k
 unfold laws_FnExactStoreCrash.f
 repeat' (with_reducible first | exact impl_StoreCrash.mono _ _ _ _ _ | exact spec_StoreCrash.mono _ _ _ _ _ | exact mr_ | exact mn_ | refine mi_ ?_ ?_ | refine mb_ ?_ (fun _ => ?_))
set_option maxHeartbeats 8000000 in
set_option maxRecDepth 100000 in
theorem laws_FnExactStoreCrash.calls (k : Nat) (a0_0 : ByteArray) (a0_1 : ByteArray) (a0_2 : Int) (a1 : Int) (r : Bool) (w : World) (hG : GWb w) (h : laws_FnExactStoreCrash.f k a0_0 a0_1 a0_2 a1 = some r) :
  Calls Tryd.prog 4 #[.agg #[.string a0_0, .string a0_1, .int .i64 a0_2], .int .i64 a1] w fun e w' => e = .returned (.bool r) ∧ Below w.heap.size w w' := by
 have HG := Aside0.mk hG
 clear hG
 have hu23 := Tryd.underlying23
 have hu26 := Tryd.underlying26
 have HB := Aside0.mk (Below.refl w.heap.size w)
 have H : ((laws_szStore.f a0_0 a0_1 a0_2 1048576).bind fun aE => (if aE < 0 then (some true) else ((laws_toStore.f a0_0 a0_1 a0_2).bind fun aF => ((spec_StoreCrash.f k aF.1 aF.2.1 aF.2.2 a1).bind fun ar => ((laws_toStore.f a0_0 a0_1 a0_2).bind fun aG => ((impl_StoreCrash.f k aG.1 aG.2.1 aG.2.2 a1).bind fun au => ((laws_eqStore.f au.1 au.2.1 au.2.2.1 ar.1 ar.2.1 ar.2.2.1).bind fun a7 => (if a7 = true then (if (au.2.2.2 != ar.2.2.2) = true then (some false) else (some true)) else (some false))))))))) = some r := h
 clear h
 obtain ⟨aE, A3, H⟩ := bnd_ H
 try dsimp only at H
 by_cases c4 : aE < 0
 ·
  rw [if_pos c4] at H
  have bI : decide (aE < 0) = true := decide_eq_true c4
  clear c4
  obtain rfl := Option.some.inj H
  go_enter Tryd.func4, Tryd.ntmps4
  go_wp2_with (first | ((with_reducible refine gate_dst (N := 2) rfl ?_); refine box_event ?hg (N := 2) ?hd (cs := #[.string a0_0, .string a0_1, .int .i64 a0_2]) (t := 23) ?hr ?_; (case hd => rfl); (case hg => rfl); (case hr => first | (go_simp; done) | (go_simp; rfl)); intro a8 hg w5 hbox hb; have aa := Aside0.mk (hbox); have a9 := gx_ HB hg; have bb := gx_ HB hg; replace HB := bs_ HB hb; clear hb hbox hg; have eP := cz_ aa 0; have eQ := cz_ aa 1; have eR := cz_ aa 2; have eS := blk_frozen aa.out 0; have eT := blk_frozen aa.out 1; have eU := blk_frozen aa.out 2) | ((with_reducible refine gate_callee (f := 6) rfl ?_); refine gl_ (some 12) Tryd.func6 #[.agg #[.string a0_0, .string a0_1, .int .i64 a0_2], .int .i64 1048576] ?_; (with_reducible refine (laws_szStore.calls a0_0 a0_1 a0_2 1048576 aE _ A3.out).mono ?_); rintro e w7 ⟨rfl, hb⟩; refine ⟨_, rfl, ?_⟩; replace aa := bb_ aa hb; replace HB := bs_ HB hb; (try clear hb); (try clear hb2); (try clear hk); (try clear hi)))
  go_ret
  exact ⟨tw_, (tb_ HB.out)⟩
 ·
  rw [if_neg c4] at H
  have bI : decide (aE < 0) = false := decide_eq_false c4
  clear c4
  obtain ⟨⟨aH, aI, aJ⟩, A8, H⟩ := bnd_ H
  try dsimp only at H
  obtain ⟨⟨av, aw, ax, ay⟩, A9, H⟩ := bnd_ H
  try dsimp only at H
  obtain ⟨⟨aK, aL, aM⟩, A10, H⟩ := bnd_ H
  try dsimp only at H
  obtain ⟨⟨az, aA, aB, aC⟩, A11, H⟩ := bnd_ H
  try dsimp only at H
  obtain ⟨a7, A12, H⟩ := bnd_ H
  try dsimp only at H
  by_cases c13 : a7 = true
  ·
   subst c13
   have H1 : (if (aC != ay) = true then (some false) else (some true)) = some r := by rw [if_pos rfl] at H; exact H
   clear H
   have H := H1
   clear H1
   by_cases c14 : (aC != ay) = true
   ·
    rw [if_pos c14] at H
    have bK : (aC != ay) = true := c14
    (try (have bL : decide (aC = ay) = false := by simpa using c14))
    (try (have bM : (aC == ay) = false := by simpa using c14))
    (try (have fb : ¬ (aC = ay) := by simpa using c14))
    clear c14
    obtain rfl := Option.some.inj H
    go_enter Tryd.func4, Tryd.ntmps4
    go_wp2_with (first | ((with_reducible refine gate_dst (N := 2) rfl ?_); refine box_event ?hg (N := 2) ?hd (cs := #[.string a0_0, .string a0_1, .int .i64 a0_2]) (t := 23) ?hr ?_; (case hd => rfl); (case hg => rfl); (case hr => first | (go_simp; done) | (go_simp; rfl)); intro a8 hg fu hbox hb; have aa := Aside0.mk (hbox); have a9 := gx_ HB hg; have bb := gx_ HB hg; replace HB := bs_ HB hb; clear hb hbox hg; have c0 := cz_ aa 0; have c1 := cz_ aa 1; have c2 := cz_ aa 2; have c6 := blk_frozen aa.out 0; have c7 := blk_frozen aa.out 1; have c8 := blk_frozen aa.out 2) | ((with_reducible refine gate_callee (f := 6) rfl ?_); refine gl_ (some 12) Tryd.func6 #[.agg #[.string a0_0, .string a0_1, .int .i64 a0_2], .int .i64 1048576] ?_; (with_reducible refine (laws_szStore.calls a0_0 a0_1 a0_2 1048576 aE _ A3.out).mono ?_); rintro e fw ⟨rfl, hb⟩; refine ⟨_, rfl, ?_⟩; replace aa := bb_ aa hb; replace HB := bs_ HB hb; (try clear hb); (try clear hb2); (try clear hk); (try clear hi); have c9 := cz_ aa 0; have da := cz_ aa 1; have db := cz_ aa 2; have dc := blk_frozen aa.out 0; have dd := blk_frozen aa.out 1; have de := blk_frozen aa.out 2) | ((with_reducible refine gate_callee (f := 8) rfl ?_); refine gl_ (some 17) Tryd.func8 #[.agg #[.string a0_0, .string a0_1, .int .i64 a0_2]] ?_; (with_reducible refine (laws_toStore.calls a0_0 a0_1 a0_2 aH aI aJ _ A8.out).mono ?_); rintro e fK ⟨rfl, hb⟩; refine ⟨_, rfl, ?_⟩; replace aa := bb_ aa hb; replace HB := bs_ HB hb; (try clear hb); (try clear hb2); (try clear hk); (try clear hi)) | ((with_reducible refine gate_callee (f := 10) rfl ?_); refine gl_ (some 19) Tryd.func10 #[.agg #[.string aH, .string aI, .int .i64 aJ], .int .i64 a1] ?_; (with_reducible refine (spec_StoreCrash.calls k aH aI aJ a1 av aw ax ay _ A9.out).mono ?_); rintro e fL ⟨rfl, hb⟩; refine ⟨_, rfl, ?_⟩; replace aa := bb_ aa hb; replace HB := bs_ HB hb; (try clear hb); (try clear hb2); (try clear hk); (try clear hi)) | ((with_reducible refine gate_dst (N := 6) rfl ?_); refine box_event ?hg (N := 6) ?hd (cs := #[.string (⟨#[]⟩ : ByteArray), .string (⟨#[]⟩ : ByteArray), .int .i64 0]) (t := 26) ?hr ?_; (case hd => rfl); (case hg => rfl); (case hr => first | (go_simp; done) | (go_simp; rfl)); intro aN hg fx hbox hb; have ac := Aside0.mk (hbox); have bv := gx_ HB hg; have bw := gx_ HB hg; replace HB := bs_ HB hb; have al := nl_ aa hg; have am := ng_ aa hg; replace aa := bb_ aa hb; clear hb hbox hg; have fc := am.out; have fd := al.out; have df := cz_ ac 0; have dg := cz_ ac 1; have dh := cz_ ac 2; have di := blk_frozen ac.out 0; have dj := blk_frozen ac.out 1; have dk := blk_frozen ac.out 2; have bo := cz_ aa 0; have bp := cz_ aa 1; have bq := cz_ aa 2; have br := blk_frozen aa.out 0; have bs := blk_frozen aa.out 1; have bu := blk_frozen aa.out 2) | ((with_reducible refine gate_callee (f := 8) rfl ?_); refine gl_ (some 24) Tryd.func8 #[.agg #[.string a0_0, .string a0_1, .int .i64 a0_2]] ?_; (with_reducible refine (laws_toStore.calls a0_0 a0_1 a0_2 aK aL aM _ A10.out).mono ?_); rintro e fM ⟨rfl, hb⟩; refine ⟨_, rfl, ?_⟩; replace aa := bb_ aa hb; replace ac := Aside0.mk (blk_below (g := aN) (o := .cells #[.string av, .string aw, .int .i64 ax] 26 (0, 0)) (ps_ ac.out) hb); replace HB := bs_ HB hb; (try clear hb); (try clear hb2); (try clear hk); (try clear hi)) | ((with_reducible refine gate_callee (f := 11) rfl ?_); refine gl_ (some 26) Tryd.func11 #[.agg #[.string aK, .string aL, .int .i64 aM], .int .i64 a1] ?_; (with_reducible refine (impl_StoreCrash.calls k aK aL aM a1 az aA aB aC _ ?s1 A11.out).mono ?_); (case s1 => exact GWb.below HG.out (tb_ HB.out)); rintro e fN ⟨rfl, hb⟩; refine ⟨_, rfl, ?_⟩; replace aa := bb_ aa hb; replace ac := bb_ ac hb; replace HB := bs_ HB hb; (try clear hb); (try clear hb2); (try clear hk); (try clear hi)) | ((with_reducible refine gate_dst (N := 8) rfl ?_); refine box_event ?hg (N := 8) ?hd (cs := #[.string (⟨#[]⟩ : ByteArray), .string (⟨#[]⟩ : ByteArray), .int .i64 0]) (t := 26) ?hr ?_; (case hd => rfl); (case hg => rfl); (case hr => first | (go_simp; done) | (go_simp; rfl)); intro aO hg fv hbox hb; have ag := Aside0.mk (hbox); have bx := gx_ HB hg; have bz := gx_ HB hg; replace HB := bs_ HB hb; have an := nl_ aa hg; have ao := ng_ aa hg; replace aa := bb_ aa hb; have ap := nl_ ac hg; have aq := ng_ ac hg; replace ac := bb_ ac hb; clear hb hbox hg; have fe := ao.out; have ff := an.out; have fg := aq.out; have fh := ap.out; have dl := cz_ ag 0; have dm := cz_ ag 1; have dn := cz_ ag 2; have dp := blk_frozen ag.out 0; have dq := blk_frozen ag.out 1; have dr := blk_frozen ag.out 2; have ds := cz_ ac 0; have dt := cz_ ac 1; have du := cz_ ac 2; have dv := blk_frozen ac.out 0; have dw := blk_frozen ac.out 1; have dx := blk_frozen ac.out 2) | ((with_reducible refine gate_callee (f := 12) rfl ?_); refine gl_ (some 31) Tryd.func12 #[.agg #[.string az, .string aA, .int .i64 aB], .agg #[.string av, .string aw, .int .i64 ax]] ?_; (with_reducible refine (laws_eqStore.calls az aA aB av aw ax true _ A12.out).mono ?_); rintro e fO ⟨rfl, hb⟩; refine ⟨_, rfl, ?_⟩; replace aa := bb_ aa hb; replace ac := bb_ ac hb; replace ag := Aside0.mk (blk_below (g := aO) (o := .cells #[.string az, .string aA, .int .i64 aB] 26 (0, 0)) (ps_ ag.out) hb); replace HB := bs_ HB hb; (try clear hb); (try clear hb2); (try clear hk); (try clear hi)))
    go_ret
    exact ⟨tw_, (tb_ HB.out)⟩
   ·
    rw [if_neg c14] at H
    have bK : (aC != ay) = false := by simpa using c14
    (try (have bL : decide (aC = ay) = true := by simpa using c14))
    (try (have bM : (aC == ay) = true := by simpa using c14))
    clear c14
    obtain rfl := Option.some.inj H
    go_enter Tryd.func4, Tryd.ntmps4
    go_wp2_with (first | ((with_reducible refine gate_dst (N := 2) rfl ?_); refine box_event ?hg (N := 2) ?hd (cs := #[.string a0_0, .string a0_1, .int .i64 a0_2]) (t := 23) ?hr ?_; (case hd => rfl); (case hg => rfl); (case hr => first | (go_simp; done) | (go_simp; rfl)); intro a8 hg fP hbox hb; have aa := Aside0.mk (hbox); have a9 := gx_ HB hg; have bb := gx_ HB hg; replace HB := bs_ HB hb; clear hb hbox hg; have dy := cz_ aa 0; have dz := cz_ aa 1; have dA := cz_ aa 2; have dB := blk_frozen aa.out 0; have dC := blk_frozen aa.out 1; have dD := blk_frozen aa.out 2) | ((with_reducible refine gate_callee (f := 6) rfl ?_); refine gl_ (some 12) Tryd.func6 #[.agg #[.string a0_0, .string a0_1, .int .i64 a0_2], .int .i64 1048576] ?_; (with_reducible refine (laws_szStore.calls a0_0 a0_1 a0_2 1048576 aE _ A3.out).mono ?_); rintro e fQ ⟨rfl, hb⟩; refine ⟨_, rfl, ?_⟩; replace aa := bb_ aa hb; replace HB := bs_ HB hb; (try clear hb); (try clear hb2); (try clear hk); (try clear hi); have dE := cz_ aa 0; have dF := cz_ aa 1; have dG := cz_ aa 2; have dH := blk_frozen aa.out 0; have dI := blk_frozen aa.out 1; have dJ := blk_frozen aa.out 2) | ((with_reducible refine gate_callee (f := 8) rfl ?_); refine gl_ (some 17) Tryd.func8 #[.agg #[.string a0_0, .string a0_1, .int .i64 a0_2]] ?_; (with_reducible refine (laws_toStore.calls a0_0 a0_1 a0_2 aH aI aJ _ A8.out).mono ?_); rintro e fR ⟨rfl, hb⟩; refine ⟨_, rfl, ?_⟩; replace aa := bb_ aa hb; replace HB := bs_ HB hb; (try clear hb); (try clear hb2); (try clear hk); (try clear hi)) | ((with_reducible refine gate_callee (f := 10) rfl ?_); refine gl_ (some 19) Tryd.func10 #[.agg #[.string aH, .string aI, .int .i64 aJ], .int .i64 a1] ?_; (with_reducible refine (spec_StoreCrash.calls k aH aI aJ a1 av aw ax ay _ A9.out).mono ?_); rintro e fS ⟨rfl, hb⟩; refine ⟨_, rfl, ?_⟩; replace aa := bb_ aa hb; replace HB := bs_ HB hb; (try clear hb); (try clear hb2); (try clear hk); (try clear hi)) | ((with_reducible refine gate_dst (N := 6) rfl ?_); refine box_event ?hg (N := 6) ?hd (cs := #[.string (⟨#[]⟩ : ByteArray), .string (⟨#[]⟩ : ByteArray), .int .i64 0]) (t := 26) ?hr ?_; (case hd => rfl); (case hg => rfl); (case hr => first | (go_simp; done) | (go_simp; rfl)); intro aN hg fT hbox hb; have ac := Aside0.mk (hbox); have bv := gx_ HB hg; have bw := gx_ HB hg; replace HB := bs_ HB hb; have al := nl_ aa hg; have am := ng_ aa hg; replace aa := bb_ aa hb; clear hb hbox hg; have fi := am.out; have fj := al.out; have dK := cz_ ac 0; have dL := cz_ ac 1; have dM := cz_ ac 2; have dN := blk_frozen ac.out 0; have dP := blk_frozen ac.out 1; have dQ := blk_frozen ac.out 2; have dR := cz_ aa 0; have dS := cz_ aa 1; have dT := cz_ aa 2; have dU := blk_frozen aa.out 0; have dV := blk_frozen aa.out 1; have dW := blk_frozen aa.out 2) | ((with_reducible refine gate_callee (f := 8) rfl ?_); refine gl_ (some 24) Tryd.func8 #[.agg #[.string a0_0, .string a0_1, .int .i64 a0_2]] ?_; (with_reducible refine (laws_toStore.calls a0_0 a0_1 a0_2 aK aL aM _ A10.out).mono ?_); rintro e fU ⟨rfl, hb⟩; refine ⟨_, rfl, ?_⟩; replace aa := bb_ aa hb; replace ac := Aside0.mk (blk_below (g := aN) (o := .cells #[.string av, .string aw, .int .i64 ax] 26 (0, 0)) (ps_ ac.out) hb); replace HB := bs_ HB hb; (try clear hb); (try clear hb2); (try clear hk); (try clear hi)) | ((with_reducible refine gate_callee (f := 11) rfl ?_); refine gl_ (some 26) Tryd.func11 #[.agg #[.string aK, .string aL, .int .i64 aM], .int .i64 a1] ?_; (with_reducible refine (impl_StoreCrash.calls k aK aL aM a1 az aA aB aC _ ?s1 A11.out).mono ?_); (case s1 => exact GWb.below HG.out (tb_ HB.out)); rintro e fV ⟨rfl, hb⟩; refine ⟨_, rfl, ?_⟩; replace aa := bb_ aa hb; replace ac := bb_ ac hb; replace HB := bs_ HB hb; (try clear hb); (try clear hb2); (try clear hk); (try clear hi)) | ((with_reducible refine gate_dst (N := 8) rfl ?_); refine box_event ?hg (N := 8) ?hd (cs := #[.string (⟨#[]⟩ : ByteArray), .string (⟨#[]⟩ : ByteArray), .int .i64 0]) (t := 26) ?hr ?_; (case hd => rfl); (case hg => rfl); (case hr => first | (go_simp; done) | (go_simp; rfl)); intro aO hg fW hbox hb; have ag := Aside0.mk (hbox); have bx := gx_ HB hg; have bz := gx_ HB hg; replace HB := bs_ HB hb; have an := nl_ aa hg; have ao := ng_ aa hg; replace aa := bb_ aa hb; have ap := nl_ ac hg; have aq := ng_ ac hg; replace ac := bb_ ac hb; clear hb hbox hg; have fk := ao.out; have fl := an.out; have fm := aq.out; have fn := ap.out; have dX := cz_ ag 0; have dY := cz_ ag 1; have dZ := cz_ ag 2; have d0 := blk_frozen ag.out 0; have d1 := blk_frozen ag.out 1; have d2 := blk_frozen ag.out 2; have d3 := cz_ ac 0; have d4 := cz_ ac 1; have d5 := cz_ ac 2; have d6 := blk_frozen ac.out 0; have d7 := blk_frozen ac.out 1; have d8 := blk_frozen ac.out 2) | ((with_reducible refine gate_callee (f := 12) rfl ?_); refine gl_ (some 31) Tryd.func12 #[.agg #[.string az, .string aA, .int .i64 aB], .agg #[.string av, .string aw, .int .i64 ax]] ?_; (with_reducible refine (laws_eqStore.calls az aA aB av aw ax true _ A12.out).mono ?_); rintro e fX ⟨rfl, hb⟩; refine ⟨_, rfl, ?_⟩; replace aa := bb_ aa hb; replace ac := bb_ ac hb; replace ag := Aside0.mk (blk_below (g := aO) (o := .cells #[.string az, .string aA, .int .i64 aB] 26 (0, 0)) (ps_ ag.out) hb); replace HB := bs_ HB hb; (try clear hb); (try clear hb2); (try clear hk); (try clear hi)))
    go_ret
    exact ⟨tw_, (tb_ HB.out)⟩
  ·
   replace c13 := Bool.eq_false_iff.mpr c13
   subst c13
   have H1 : (some false) = some r := by rw [if_neg (show ¬ (false = true) by decide)] at H; exact H
   clear H
   have H := H1
   clear H1
   obtain rfl := Option.some.inj H
   go_enter Tryd.func4, Tryd.ntmps4
   go_wp2_with (first | ((with_reducible refine gate_dst (N := 2) rfl ?_); refine box_event ?hg (N := 2) ?hd (cs := #[.string a0_0, .string a0_1, .int .i64 a0_2]) (t := 23) ?hr ?_; (case hd => rfl); (case hg => rfl); (case hr => first | (go_simp; done) | (go_simp; rfl)); intro a8 hg fY hbox hb; have aa := Aside0.mk (hbox); have a9 := gx_ HB hg; have bb := gx_ HB hg; replace HB := bs_ HB hb; clear hb hbox hg; have d9 := cz_ aa 0; have ea := cz_ aa 1; have eb := cz_ aa 2; have ec := blk_frozen aa.out 0; have ed := blk_frozen aa.out 1; have ee := blk_frozen aa.out 2) | ((with_reducible refine gate_callee (f := 6) rfl ?_); refine gl_ (some 12) Tryd.func6 #[.agg #[.string a0_0, .string a0_1, .int .i64 a0_2], .int .i64 1048576] ?_; (with_reducible refine (laws_szStore.calls a0_0 a0_1 a0_2 1048576 aE _ A3.out).mono ?_); rintro e fZ ⟨rfl, hb⟩; refine ⟨_, rfl, ?_⟩; replace aa := bb_ aa hb; replace HB := bs_ HB hb; (try clear hb); (try clear hb2); (try clear hk); (try clear hi); have ef := cz_ aa 0; have eg := cz_ aa 1; have eh := cz_ aa 2; have ei := blk_frozen aa.out 0; have ej := blk_frozen aa.out 1; have ek := blk_frozen aa.out 2) | ((with_reducible refine gate_callee (f := 8) rfl ?_); refine gl_ (some 17) Tryd.func8 #[.agg #[.string a0_0, .string a0_1, .int .i64 a0_2]] ?_; (with_reducible refine (laws_toStore.calls a0_0 a0_1 a0_2 aH aI aJ _ A8.out).mono ?_); rintro e f0 ⟨rfl, hb⟩; refine ⟨_, rfl, ?_⟩; replace aa := bb_ aa hb; replace HB := bs_ HB hb; (try clear hb); (try clear hb2); (try clear hk); (try clear hi)) | ((with_reducible refine gate_callee (f := 10) rfl ?_); refine gl_ (some 19) Tryd.func10 #[.agg #[.string aH, .string aI, .int .i64 aJ], .int .i64 a1] ?_; (with_reducible refine (spec_StoreCrash.calls k aH aI aJ a1 av aw ax ay _ A9.out).mono ?_); rintro e f1 ⟨rfl, hb⟩; refine ⟨_, rfl, ?_⟩; replace aa := bb_ aa hb; replace HB := bs_ HB hb; (try clear hb); (try clear hb2); (try clear hk); (try clear hi)) | ((with_reducible refine gate_dst (N := 6) rfl ?_); refine box_event ?hg (N := 6) ?hd (cs := #[.string (⟨#[]⟩ : ByteArray), .string (⟨#[]⟩ : ByteArray), .int .i64 0]) (t := 26) ?hr ?_; (case hd => rfl); (case hg => rfl); (case hr => first | (go_simp; done) | (go_simp; rfl)); intro aN hg f2 hbox hb; have ac := Aside0.mk (hbox); have bv := gx_ HB hg; have bw := gx_ HB hg; replace HB := bs_ HB hb; have al := nl_ aa hg; have am := ng_ aa hg; replace aa := bb_ aa hb; clear hb hbox hg; have fo := am.out; have fp := al.out; have el := cz_ ac 0; have em := cz_ ac 1; have en := cz_ ac 2; have eo := blk_frozen ac.out 0; have ep := blk_frozen ac.out 1; have eq := blk_frozen ac.out 2; have er := cz_ aa 0; have es := cz_ aa 1; have et := cz_ aa 2; have eu := blk_frozen aa.out 0; have ev := blk_frozen aa.out 1; have ew := blk_frozen aa.out 2) | ((with_reducible refine gate_callee (f := 8) rfl ?_); refine gl_ (some 24) Tryd.func8 #[.agg #[.string a0_0, .string a0_1, .int .i64 a0_2]] ?_; (with_reducible refine (laws_toStore.calls a0_0 a0_1 a0_2 aK aL aM _ A10.out).mono ?_); rintro e f3 ⟨rfl, hb⟩; refine ⟨_, rfl, ?_⟩; replace aa := bb_ aa hb; replace ac := Aside0.mk (blk_below (g := aN) (o := .cells #[.string av, .string aw, .int .i64 ax] 26 (0, 0)) (ps_ ac.out) hb); replace HB := bs_ HB hb; (try clear hb); (try clear hb2); (try clear hk); (try clear hi)) | ((with_reducible refine gate_callee (f := 11) rfl ?_); refine gl_ (some 26) Tryd.func11 #[.agg #[.string aK, .string aL, .int .i64 aM], .int .i64 a1] ?_; (with_reducible refine (impl_StoreCrash.calls k aK aL aM a1 az aA aB aC _ ?s1 A11.out).mono ?_); (case s1 => exact GWb.below HG.out (tb_ HB.out)); rintro e f4 ⟨rfl, hb⟩; refine ⟨_, rfl, ?_⟩; replace aa := bb_ aa hb; replace ac := bb_ ac hb; replace HB := bs_ HB hb; (try clear hb); (try clear hb2); (try clear hk); (try clear hi)) | ((with_reducible refine gate_dst (N := 8) rfl ?_); refine box_event ?hg (N := 8) ?hd (cs := #[.string (⟨#[]⟩ : ByteArray), .string (⟨#[]⟩ : ByteArray), .int .i64 0]) (t := 26) ?hr ?_; (case hd => rfl); (case hg => rfl); (case hr => first | (go_simp; done) | (go_simp; rfl)); intro aO hg f5 hbox hb; have ag := Aside0.mk (hbox); have bx := gx_ HB hg; have bz := gx_ HB hg; replace HB := bs_ HB hb; have an := nl_ aa hg; have ao := ng_ aa hg; replace aa := bb_ aa hb; have ap := nl_ ac hg; have aq := ng_ ac hg; replace ac := bb_ ac hb; clear hb hbox hg; have fq := ao.out; have fr := an.out; have fs := aq.out; have ft := ap.out; have ex := cz_ ag 0; have ey := cz_ ag 1; have ez := cz_ ag 2; have eA := blk_frozen ag.out 0; have eB := blk_frozen ag.out 1; have eC := blk_frozen ag.out 2; have eD := cz_ ac 0; have eE := cz_ ac 1; have eF := cz_ ac 2; have eG := blk_frozen ac.out 0; have eH := blk_frozen ac.out 1; have eI := blk_frozen ac.out 2) | ((with_reducible refine gate_callee (f := 12) rfl ?_); refine gl_ (some 31) Tryd.func12 #[.agg #[.string az, .string aA, .int .i64 aB], .agg #[.string av, .string aw, .int .i64 ax]] ?_; (with_reducible refine (laws_eqStore.calls az aA aB av aw ax false _ A12.out).mono ?_); rintro e f6 ⟨rfl, hb⟩; refine ⟨_, rfl, ?_⟩; replace aa := bb_ aa hb; replace ac := bb_ ac hb; replace ag := Aside0.mk (blk_below (g := aO) (o := .cells #[.string az, .string aA, .int .i64 aB] 26 (0, 0)) (ps_ ag.out) hb); replace HB := bs_ HB hb; (try clear hb); (try clear hb2); (try clear hk); (try clear hi)))
   go_ret
   exact ⟨tw_, (tb_ HB.out)⟩

end Go.Proofs.YtfibbdefcppfcaaDoor.MFnExactStoreCrash
