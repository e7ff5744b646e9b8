/- For the law FnExactStoreSync: walks of the functions that it reaches: each call returns what the plain function beside it tells. The conditions stand in each statement. -/
import Derived.Test.YtfibbdefcppfcaaDoorV
import Derived.Test.YtfibbdefcppfcaaDoorMFnExactStoreSyncx0
namespace Go.Proofs.YtfibbdefcppfcaaDoor.MFnExactStoreSync
open Go.RowKit Go.Proofs.YtfibbdefcppfcaaDoorW.PrintWords Go.Proofs.YtfibbdefcppfcaaDoorW.PrintLast Go.Proofs.YtfibbdefcppfcaaDoorW.PrintMore
attribute [local go_sem] max2_int min2_int max_two min_two max_three min_three max_four min_four   -- for this text's walks alone
set_option linter.unusedVariables false
set_option linter.unusedSimpArgs false

/-! ### laws_szStore: function 6 -/
def laws_szStore.f (a0_0 : ByteArray) (a0_1 : ByteArray) (a0_2 : Int) (a1 : Int) : Option (Int) := if (wrap64 (a1 - (a0_0.size : Int))) < 0 then (some (-1)) else (if (wrap64 ((wrap64 (a1 - (a0_0.size : Int))) - (a0_1.size : Int))) < 0 then (some (-1)) else (some (wrap64 ((wrap64 (a1 - (a0_0.size : Int))) - (a0_1.size : Int)))))
set_option maxHeartbeats 8000000 in
set_option maxRecDepth 100000 in
theorem laws_szStore.calls (a0_0 : ByteArray) (a0_1 : ByteArray) (a0_2 : Int) (a1 : Int) (r : Int) (w : World) (h : laws_szStore.f a0_0 a0_1 a0_2 a1 = some r) :
  Calls Tryd.prog 6 #[.agg #[.string a0_0, .string a0_1, .int .i64 a0_2], .int .i64 a1] w fun e w' => e = .returned (.int .i64 r) ∧ Below w.heap.size w w' := by
 have hu23 := Tryd.underlying23
 have HB := Aside0.mk (Below.refl w.heap.size w)
 have H : (if (wrap64 (a1 - (a0_0.size : Int))) < 0 then (some (-1)) else (if (wrap64 ((wrap64 (a1 - (a0_0.size : Int))) - (a0_1.size : Int))) < 0 then (some (-1)) else (some (wrap64 ((wrap64 (a1 - (a0_0.size : Int))) - (a0_1.size : Int)))))) = some r := h
 clear h
 by_cases c3 : (wrap64 (a1 - (a0_0.size : Int))) < 0
 ·
  rw [if_pos c3] at H
  have al : decide ((wrap64 (a1 - (a0_0.size : Int))) < 0) = true := decide_eq_true c3
  clear c3
  obtain rfl := Option.some.inj H
  go_enter Tryd.func6, Tryd.ntmps6
  go_wp2_with (first | ((with_reducible refine gate_dst (N := 2) rfl ?_); refine box_event ?hg (N := 2) ?hd (cs := #[.string a0_0, .string a0_1, .int .i64 a0_2]) (t := 23) ?hr ?_; (case hd => rfl); (case hg => rfl); (case hr => first | (go_simp; done) | (go_simp; rfl)); intro bb hg w4 hbox hb; have ae := Aside0.mk (hbox); have bc := gx_ HB hg; have bd := gx_ HB hg; replace HB := bs_ HB hb; clear hb hbox hg; have cj := cz_ ae 0; have ck := cz_ ae 1; have cl := cz_ ae 2; have cm := blk_frozen ae.out 0; have cn := blk_frozen ae.out 1; have co := blk_frozen ae.out 2))
  go_ret
  exact ⟨tw_, (tb_ HB.out)⟩
 ·
  rw [if_neg c3] at H
  have al : decide ((wrap64 (a1 - (a0_0.size : Int))) < 0) = false := decide_eq_false c3
  clear c3
  by_cases c6 : (wrap64 ((wrap64 (a1 - (a0_0.size : Int))) - (a0_1.size : Int))) < 0
  ·
   rw [if_pos c6] at H
   have aq : decide ((wrap64 ((wrap64 (a1 - (a0_0.size : Int))) - (a0_1.size : Int))) < 0) = true := decide_eq_true c6
   clear c6
   obtain rfl := Option.some.inj H
   go_enter Tryd.func6, Tryd.ntmps6
   go_wp2_with (first | ((with_reducible refine gate_dst (N := 2) rfl ?_); refine box_event ?hg (N := 2) ?hd (cs := #[.string a0_0, .string a0_1, .int .i64 a0_2]) (t := 23) ?hr ?_; (case hd => rfl); (case hg => rfl); (case hr => first | (go_simp; done) | (go_simp; rfl)); intro bb hg w7 hbox hb; have ae := Aside0.mk (hbox); have bc := gx_ HB hg; have bd := gx_ HB hg; replace HB := bs_ HB hb; clear hb hbox hg; have cp := cz_ ae 0; have cq := cz_ ae 1; have cr := cz_ ae 2; have ct := blk_frozen ae.out 0; have cu := blk_frozen ae.out 1; have cv := blk_frozen ae.out 2))
   go_ret
   exact ⟨tw_, (tb_ HB.out)⟩
  ·
   rw [if_neg c6] at H
   have aq : decide ((wrap64 ((wrap64 (a1 - (a0_0.size : Int))) - (a0_1.size : Int))) < 0) = false := decide_eq_false c6
   clear c6
   obtain rfl := Option.some.inj H
   go_enter Tryd.func6, Tryd.ntmps6
   go_wp2_with (first | ((with_reducible refine gate_dst (N := 2) rfl ?_); refine box_event ?hg (N := 2) ?hd (cs := #[.string a0_0, .string a0_1, .int .i64 a0_2]) (t := 23) ?hr ?_; (case hd => rfl); (case hg => rfl); (case hr => first | (go_simp; done) | (go_simp; rfl)); intro bb hg w9 hbox hb; have ae := Aside0.mk (hbox); have bc := gx_ HB hg; have bd := gx_ HB hg; replace HB := bs_ HB hb; clear hb hbox hg; have ar := cz_ ae 0; have au := cz_ ae 1; have av := cz_ ae 2; have aw := blk_frozen ae.out 0; have ax := blk_frozen ae.out 1; have ay := blk_frozen ae.out 2))
   go_ret
   exact ⟨tw_, (tb_ HB.out)⟩

/-! ### laws_toStore: function 8 -/
def laws_toStore.f (a0_0 : ByteArray) (a0_1 : ByteArray) (a0_2 : Int) : Option (ByteArray × ByteArray × Int) := some (a0_0, a0_1, a0_2)
set_option maxHeartbeats 8000000 in
set_option maxRecDepth 100000 in
theorem laws_toStore.calls (a0_0 : ByteArray) (a0_1 : ByteArray) (a0_2 : Int) (r1 : ByteArray) (r2 : ByteArray) (r3 : Int) (w : World) (h : laws_toStore.f a0_0 a0_1 a0_2 = some (r1, r2, r3)) :
  Calls Tryd.prog 8 #[.agg #[.string a0_0, .string a0_1, .int .i64 a0_2]] w fun e w' => e = .returned (.agg #[.string r1, .string r2, .int .i64 r3]) ∧ Below w.heap.size w w' := by
 have hu23 := Tryd.underlying23
 have hu26 := Tryd.underlying26
 have HB := Aside0.mk (Below.refl w.heap.size w)
 have H : (some (a0_0, a0_1, a0_2)) = some (r1, r2, r3) := h
 clear h
 simp only [Option.some.injEq, Prod.mk.injEq] at H
 obtain ⟨rfl, rfl, rfl⟩ := H
 go_enter Tryd.func8, Tryd.ntmps8
 go_wp2_with (first | ((with_reducible refine gate_dst (N := 1) rfl ?_); refine box_event ?hg (N := 1) ?hd (cs := #[.string a0_0, .string a0_1, .int .i64 a0_2]) (t := 23) ?hr ?_; (case hd => rfl); (case hg => rfl); (case hr => first | (go_simp; done) | (go_simp; rfl)); intro cK hg w2 hbox hb; have ah := Aside0.mk (hbox); have cL := gx_ HB hg; have cM := gx_ HB hg; replace HB := bs_ HB hb; clear hb hbox hg) | ((with_reducible refine gate_dst (N := 2) rfl ?_); refine box_event ?hg (N := 2) ?hd (cs := #[.string (⟨#[]⟩ : ByteArray), .string (⟨#[]⟩ : ByteArray), .int .i64 0]) (t := 26) ?hr ?_; (case hd => rfl); (case hg => rfl); (case hr => first | (go_simp; done) | (go_simp; rfl)); intro bq hg w3 hbox hb; have ak := Aside0.mk (hbox); have cN := gx_ HB hg; have cO := gx_ HB hg; replace HB := bs_ HB hb; have aC := nl_ ah hg; have aD := ng_ ah hg; replace ah := bb_ ah hb; clear hb hbox hg) | ((with_reducible refine gate_dst (N := 3) rfl ?_); refine box_event ?hg (N := 3) ?hd (cs := #[.string (⟨#[]⟩ : ByteArray), .string (⟨#[]⟩ : ByteArray), .int .i64 0]) (t := 26) ?hr ?_; (case hd => rfl); (case hg => rfl); (case hr => first | (go_simp; done) | (go_simp; rfl)); intro cP hg w4 hbox hb; have ap := Aside0.mk (hbox); have cQ := gx_ HB hg; have cR := gx_ HB hg; replace HB := bs_ HB hb; have aE := nl_ ah hg; have aG := ng_ ah hg; replace ah := bb_ ah hb; have aH := nl_ ak hg; have aI := ng_ ak hg; replace ak := bb_ ak hb; clear hb hbox hg; have df := aC.out; have dg := aD.out; have dh := aE.out; have di := aG.out; have cw := cz_ ah 0; have cx := cz_ ah 1; have cy := cz_ ah 2; have cz := blk_frozen ah.out 0; have cA := blk_frozen ah.out 1; have cB := blk_frozen ah.out 2; have cC := aI.out; have cD := aH.out; have bh := cz_ ap 0; have bi := cz_ ap 1; have bj := cz_ ap 2; have bk := blk_frozen ap.out 0; have bl := blk_frozen ap.out 1; have bm := blk_frozen ap.out 2; have ar := cz_ ak 0; have au := cz_ ak 1; have av := cz_ ak 2; have aw := blk_frozen ak.out 0; have ax := blk_frozen ak.out 1; have ay := blk_frozen ak.out 2))
 refine bodyPost_ret (results_cell_row rfl _ _ bq 26 #[.string a0_0, .string a0_1, .int .i64 a0_2] (0, 0) _ rfl (ps_ ak.out) Tryd.underlying26 rfl (by kernel_rfl)) rfl ?_
 exact ⟨tw_, (tb_ HB.out)⟩

/-! ### laws_eqStore: function 12 -/
def laws_eqStore.f (a0_0 : ByteArray) (a0_1 : ByteArray) (a0_2 : Int) (a1_0 : ByteArray) (a1_1 : ByteArray) (a1_2 : Int) : Option (Bool) := if a0_0.toList = a1_0.toList then (if a0_1.toList = a1_1.toList then (if a0_2 = a1_2 then (some true) else (some false)) else (some false)) else (some false)
set_option maxHeartbeats 8000000 in
set_option maxRecDepth 100000 in
theorem laws_eqStore.calls (a0_0 : ByteArray) (a0_1 : ByteArray) (a0_2 : Int) (a1_0 : ByteArray) (a1_1 : ByteArray) (a1_2 : Int) (r : Bool) (w : World) (h : laws_eqStore.f a0_0 a0_1 a0_2 a1_0 a1_1 a1_2 = some r) :
  Calls Tryd.prog 12 #[.agg #[.string a0_0, .string a0_1, .int .i64 a0_2], .agg #[.string a1_0, .string a1_1, .int .i64 a1_2]] w fun e w' => e = .returned (.bool r) ∧ Below w.heap.size w w' := by
 have hu26 := Tryd.underlying26
 have HB := Aside0.mk (Below.refl w.heap.size w)
 have H : (if a0_0.toList = a1_0.toList then (if a0_1.toList = a1_1.toList then (if a0_2 = a1_2 then (some true) else (some false)) else (some false)) else (some false)) = some r := h
 clear h
 by_cases c3 : a0_0.toList = a1_0.toList
 ·
  rw [if_pos c3] at H
  have al : (a0_0.toList == a1_0.toList) = true := beq_iff_eq.mpr c3
  have a7 : (a0_0.toList != a1_0.toList) = false := bne_eq_false_iff_eq.mpr c3
  clear c3
  by_cases c4 : a0_1.toList = a1_1.toList
  ·
   rw [if_pos c4] at H
   have aK : (a0_1.toList == a1_1.toList) = true := beq_iff_eq.mpr c4
   have bn : (a0_1.toList != a1_1.toList) = false := bne_eq_false_iff_eq.mpr c4
   clear c4
   by_cases c5 : a0_2 = a1_2
   ·
    rw [if_pos c5] at H
    have am : (a0_2 == a1_2) = true := beq_iff_eq.mpr c5
    have aM : (a0_2 != a1_2) = false := bne_eq_false_iff_eq.mpr c5
    clear c5
    obtain rfl := Option.some.inj H
    go_enter Tryd.func12, Tryd.ntmps12
    go_wp2_with (first | ((with_reducible refine gate_dst (N := 2) rfl ?_); refine box_event ?hg (N := 2) ?hd (cs := #[.string a0_0, .string a0_1, .int .i64 a0_2]) (t := 26) ?hr ?_; (case hd => rfl); (case hg => rfl); (case hr => first | (go_simp; done) | (go_simp; rfl)); intro aN hg w6 hbox hb; have aa := Aside0.mk (hbox); have aQ := gx_ HB hg; have aR := gx_ HB hg; replace HB := bs_ HB hb; clear hb hbox hg) | ((with_reducible refine gate_dst (N := 3) rfl ?_); refine box_event ?hg (N := 3) ?hd (cs := #[.string a1_0, .string a1_1, .int .i64 a1_2]) (t := 26) ?hr ?_; (case hd => rfl); (case hg => rfl); (case hr => first | (go_simp; done) | (go_simp; rfl)); intro aU hg w7 hbox hb; have ab := Aside0.mk (hbox); have aV := gx_ HB hg; have aW := gx_ HB hg; replace HB := bs_ HB hb; have af := nl_ aa hg; have ag := ng_ aa hg; replace aa := bb_ aa hb; clear hb hbox hg; have cC := af.out; have cD := ag.out; have bh := cz_ aa 0; have bi := cz_ aa 1; have bj := cz_ aa 2; have bk := blk_frozen aa.out 0; have bl := blk_frozen aa.out 1; have bm := blk_frozen aa.out 2; have ar := cz_ ab 0; have au := cz_ ab 1; have av := cz_ ab 2; have aw := blk_frozen ab.out 0; have ax := blk_frozen ab.out 1; have ay := blk_frozen ab.out 2))
    go_ret
    exact ⟨tw_, (tb_ HB.out)⟩
   ·
    rw [if_neg c5] at H
    have am : (a0_2 == a1_2) = false := beq_eq_false_iff_ne.mpr c5
    have aM : (a0_2 != a1_2) = true := bne_iff_ne.mpr c5
    obtain rfl := Option.some.inj H
    go_enter Tryd.func12, Tryd.ntmps12
    go_wp2_with (first | ((with_reducible refine gate_dst (N := 2) rfl ?_); refine box_event ?hg (N := 2) ?hd (cs := #[.string a0_0, .string a0_1, .int .i64 a0_2]) (t := 26) ?hr ?_; (case hd => rfl); (case hg => rfl); (case hr => first | (go_simp; done) | (go_simp; rfl)); intro aN hg dr hbox hb; have aa := Aside0.mk (hbox); have aQ := gx_ HB hg; have aR := gx_ HB hg; replace HB := bs_ HB hb; clear hb hbox hg) | ((with_reducible refine gate_dst (N := 3) rfl ?_); refine box_event ?hg (N := 3) ?hd (cs := #[.string a1_0, .string a1_1, .int .i64 a1_2]) (t := 26) ?hr ?_; (case hd => rfl); (case hg => rfl); (case hr => first | (go_simp; done) | (go_simp; rfl)); intro aU hg ds hbox hb; have ab := Aside0.mk (hbox); have aV := gx_ HB hg; have aW := gx_ HB hg; replace HB := bs_ HB hb; have af := nl_ aa hg; have ag := ng_ aa hg; replace aa := bb_ aa hb; clear hb hbox hg; have cS := af.out; have cT := ag.out; have bH := cz_ aa 0; have bI := cz_ aa 1; have bJ := cz_ aa 2; have bK := blk_frozen aa.out 0; have bL := blk_frozen aa.out 1; have bM := blk_frozen aa.out 2; have bN := cz_ ab 0; have bO := cz_ ab 1; have bP := cz_ ab 2; have bQ := blk_frozen ab.out 0; have bR := blk_frozen ab.out 1; have bS := blk_frozen ab.out 2))
    go_ret
    exact ⟨tw_, (tb_ HB.out)⟩
  ·
   rw [if_neg c4] at H
   have aK : (a0_1.toList == a1_1.toList) = false := beq_eq_false_iff_ne.mpr c4
   have bn : (a0_1.toList != a1_1.toList) = true := bne_iff_ne.mpr c4
   obtain rfl := Option.some.inj H
   go_enter Tryd.func12, Tryd.ntmps12
   go_wp2_with (first | ((with_reducible refine gate_dst (N := 2) rfl ?_); refine box_event ?hg (N := 2) ?hd (cs := #[.string a0_0, .string a0_1, .int .i64 a0_2]) (t := 26) ?hr ?_; (case hd => rfl); (case hg => rfl); (case hr => first | (go_simp; done) | (go_simp; rfl)); intro aN hg dt hbox hb; have aa := Aside0.mk (hbox); have aQ := gx_ HB hg; have aR := gx_ HB hg; replace HB := bs_ HB hb; clear hb hbox hg) | ((with_reducible refine gate_dst (N := 3) rfl ?_); refine box_event ?hg (N := 3) ?hd (cs := #[.string a1_0, .string a1_1, .int .i64 a1_2]) (t := 26) ?hr ?_; (case hd => rfl); (case hg => rfl); (case hr => first | (go_simp; done) | (go_simp; rfl)); intro aU hg dj hbox hb; have ab := Aside0.mk (hbox); have aV := gx_ HB hg; have aW := gx_ HB hg; replace HB := bs_ HB hb; have af := nl_ aa hg; have ag := ng_ aa hg; replace aa := bb_ aa hb; clear hb hbox hg; have cU := af.out; have cV := ag.out; have bU := cz_ aa 0; have bV := cz_ aa 1; have bW := cz_ aa 2; have bX := blk_frozen aa.out 0; have bZ := blk_frozen aa.out 1; have b0 := blk_frozen aa.out 2; have b1 := cz_ ab 0; have b2 := cz_ ab 1; have b3 := cz_ ab 2; have b4 := blk_frozen ab.out 0; have b5 := blk_frozen ab.out 1; have b6 := blk_frozen ab.out 2))
   go_ret
   exact ⟨tw_, (tb_ HB.out)⟩
 ·
  rw [if_neg c3] at H
  have al : (a0_0.toList == a1_0.toList) = false := beq_eq_false_iff_ne.mpr c3
  have a7 : (a0_0.toList != a1_0.toList) = true := bne_iff_ne.mpr c3
  obtain rfl := Option.some.inj H
  go_enter Tryd.func12, Tryd.ntmps12
  go_wp2_with (first | ((with_reducible refine gate_dst (N := 2) rfl ?_); refine box_event ?hg (N := 2) ?hd (cs := #[.string a0_0, .string a0_1, .int .i64 a0_2]) (t := 26) ?hr ?_; (case hd => rfl); (case hg => rfl); (case hr => first | (go_simp; done) | (go_simp; rfl)); intro aN hg du hbox hb; have aa := Aside0.mk (hbox); have aQ := gx_ HB hg; have aR := gx_ HB hg; replace HB := bs_ HB hb; clear hb hbox hg) | ((with_reducible refine gate_dst (N := 3) rfl ?_); refine box_event ?hg (N := 3) ?hd (cs := #[.string a1_0, .string a1_1, .int .i64 a1_2]) (t := 26) ?hr ?_; (case hd => rfl); (case hg => rfl); (case hr => first | (go_simp; done) | (go_simp; rfl)); intro aU hg dv hbox hb; have ab := Aside0.mk (hbox); have aV := gx_ HB hg; have aW := gx_ HB hg; replace HB := bs_ HB hb; have af := nl_ aa hg; have ag := ng_ aa hg; replace aa := bb_ aa hb; clear hb hbox hg; have cW := af.out; have cX := ag.out; have b7 := cz_ aa 0; have b8 := cz_ aa 1; have b9 := cz_ aa 2; have ca := blk_frozen aa.out 0; have cb := blk_frozen aa.out 1; have cc := blk_frozen aa.out 2; have cd := cz_ ab 0; have ce := cz_ ab 1; have cf := cz_ ab 2; have cg := blk_frozen ab.out 0; have ch := blk_frozen ab.out 1; have ci := blk_frozen ab.out 2))
  go_ret
  exact ⟨tw_, (tb_ HB.out)⟩

/-! ### spec_l1Cut: function 18 -/
def spec_l1Cut.l0 : Nat → ByteArray → Int → List ByteArray → Int → Int → Option (List ByteArray)
 | 0, _, _, _, _, _ => none
 | k + 1, x0, x1, x5, x6, x7 => if x7 < (x0.size : Int) then (if 0 ≤ x7 then (if (bt x0 x7) = x1 then (if 0 ≤ x6 then (if x6 ≤ x7 then (if x7 ≤ (x0.size : Int) then (if x5.length < 8796093022208 then (spec_l1Cut.l0 k x0 x1 (x5 ++ [x0.extract (x6 : Int).toNat (x7 : Int).toNat]) (wrap64 (x7 + 1)) (wrap64 (x7 + 1))) else (none)) else (none)) else (none)) else (none)) else (spec_l1Cut.l0 k x0 x1 x5 x6 (wrap64 (x7 + 1)))) else (none)) else (if 0 ≤ x6 then (if x6 ≤ (x0.size : Int) then (if x5.length < 8796093022208 then (some (x5 ++ [x0.extract (x6 : Int).toNat x0.size])) else (none)) else (none)) else (none))
def spec_l1Cut.f (k : Nat) (a0 : ByteArray) (a1 : Int) : Option (List ByteArray) := spec_l1Cut.l0 k a0 a1 (([] : List ByteArray)) 0 0
theorem spec_l1Cut.mono_l : ∀ k, (∀ y0 y1 y2 y3 y4, LeO (spec_l1Cut.l0 k y0 y1 y2 y3 y4) (spec_l1Cut.l0 (k + 1) y0 y1 y2 y3 y4))
 | 0 => fun _ _ _ _ _ r h => by simp [spec_l1Cut.l0] at h
 | k + 1 => by
  have ih0 := spec_l1Cut.mono_l k
  ·
   intro y0 y1 y2 y3 y4
   unfold spec_l1Cut.l0
   repeat' (with_reducible first | exact ih0 _ _ _ _ _ | exact mr_ | exact mn_ | refine mi_ ?_ ?_ | refine mb_ ?_ (fun _ => ?_))
theorem spec_l1Cut.mono : ∀ a0 a1 k, LeO (spec_l1Cut.f k a0 a1) (spec_l1Cut.f (k + 1) a0 a1) := by
 intro a0 a1 k
 have ih0 := spec_l1Cut.mono_l k
 unfold spec_l1Cut.f
 repeat' (with_reducible first | exact ih0 _ _ _ _ _ | exact mr_ | exact mn_ | refine mi_ ?_ ?_ | refine mb_ ?_ (fun _ => ?_))
set_option maxHeartbeats 8000000 in
set_option maxRecDepth 100000 in
theorem spec_l1Cut.calls (k : Nat) (a0 : ByteArray) (a1 : Int) (r : List ByteArray) (w : World) (h : spec_l1Cut.f k a0 a1 = some r) :
  Calls Tryd.prog 18 #[.string a0, .int .u8 a1] w fun e w' => ∃ v0_ : Value, e = .returned (v0_) ∧ Kd.R Kd.string 9 w' w.heap.size (fun _ => True) v0_ r ∧ Below w.heap.size w w' := by
 have HB := Aside0.mk (Below.refl w.heap.size w)
 have H : (spec_l1Cut.l0 k a0 a1 (([] : List ByteArray)) 0 0) = some r := h
 clear h
 obtain ⟨br, aX⟩ : ∃ y_ : List ByteArray, y_ = (([] : List ByteArray)) := ⟨_, rfl⟩
 replace H : (spec_l1Cut.l0 k a0 a1 br 0 0) = some r := yq_ aX H
 have be := Aside0.mk aX
 clear aX
 have H' := Aside0.mk H
 clear H
 go_enter Tryd.func18, Tryd.ntmps18
 go_wp2_with (first | ((with_reducible refine gate_dst (N := 8) rfl ?_); refine Kd.R_lit Kd.string _ 9 ?hg (N := 8) ?hd (xs := ([] : List ByteArray)) (inner := []) (ok := fun _ => True) (okp := fun _ => True) ?hr ?hp (fun _ hk => hk) trivial (Below.refl _ _) (Nat.le_refl _) (by simp) ?_; (case hd => rfl); (case hg => rfl); (case hr => first | (go_simp; done) | (go_simp; rfl)); (case hp => exact (Reps.none _ _)); intro dk w3 ho4 hb hg_ hnew_; clear hg_ hnew_; (first | rw [← be.out] at ho4 | (simp only [Int.reduceToNat] at ho4; rw [← be.out] at ho4)); have bs := rx_ ho4 HB; replace HB := bs_ HB hb; clear hb ho4))
 go_loopg [5, 6, 7] k (fun kq v5 v6 v7 w' => ∃ (ao : List ByteArray) (aj : Int) (ad : Int), v6 = .int .i64 aj ∧ v7 = .int .i64 ad ∧ Aside0 (spec_l1Cut.l0 kq a0 a1 ao aj ad = some r) ∧ Aside0 (kq ≤ k) ∧ Aside0 (Kd.R Kd.string 9 w' w.heap.size (fun _ => True) v5 ao) ∧ Aside0 (Below w.heap.size w w'))
 case atStart => exact ⟨(br), (0), (0), tx_, tx_, H', ⟨Nat.le_refl _⟩, ⟨rR_ bs.out⟩, ⟨(tb_ HB.out)⟩⟩
 case round =>
  clear H'
  try clear c1
  try clear p2
  obtain ⟨ao, aj, ad, rfl, rfl, HA, HK1, aY, HB⟩ := hrel
  cases gk with
  | zero => exact absurd HA.out (by simp [spec_l1Cut.l0])
  | succ k1 =>
   have H := HA.out
   clear HA
   simp only [spec_l1Cut.l0] at H
   by_cases c5 : ad < (a0.size : Int)
   ·
    rw [if_pos c5] at H
    have am : decide (ad < (a0.size : Int)) = true := decide_eq_true c5
    clear c5
    by_cases c6 : 0 ≤ ad
    ·
     rw [if_pos c6] at H
     have aq : decide (0 ≤ ad) = true := decide_eq_true c6
     clear c6
     by_cases c8 : (bt a0 ad) = a1
     ·
      rw [if_pos c8] at H
      have cE : ((bt a0 ad) == a1) = true := beq_iff_eq.mpr c8
      have cF : ((bt a0 ad) != a1) = false := bne_eq_false_iff_eq.mpr c8
      clear c8
      by_cases c9 : 0 ≤ aj
      ·
       rw [if_pos c9] at H
       have bu := eq_true c9
       have dl : decide (0 ≤ aj) = true := decide_eq_true c9
       clear c9
       by_cases c10 : aj ≤ ad
       ·
        rw [if_pos c10] at H
        have bf := eq_true c10
        have bv : decide (aj ≤ ad) = true := decide_eq_true c10
        clear c10
        by_cases c11 : ad ≤ (a0.size : Int)
        ·
         rw [if_pos c11] at H
         have cY := eq_true c11
         have cZ : decide (ad ≤ (a0.size : Int)) = true := decide_eq_true c11
         clear c11
         by_cases c12 : ao.length < 8796093022208
         ·
          rw [if_pos c12] at H
          have bw := Aside0.mk c12
          clear c12
          obtain ⟨bx, aZ⟩ : ∃ y_ : List ByteArray, y_ = (ao ++ [a0.extract (aj : Int).toNat (ad : Int).toNat]) := ⟨_, rfl⟩
          replace H : (spec_l1Cut.l0 k1 a0 a1 bx (wrap64 (ad + 1)) (wrap64 (ad + 1))) = some r := yq_ aZ H
          have bz := Aside0.mk aZ
          clear aZ
          have H' := Aside0.mk H
          clear H
          have p7 : 0 ≤ (ad : Int) := od_
          have q7 : ad < (a0.size : Int) := od_
          have hx7 := bt_at a0 ad
          replace p7 := eq_true p7
          replace q7 := eq_true q7
          go_wp2_with (first | ((with_reducible refine gate_builtin (b := .append) (xs := #[.tmp 20, .tmp 25]) rfl ?_); at_builtin; refine Kd.R_append Kd.string (w0 := w) w.heap.size rfl (.tmp 20) (.tmp 25) 40 9 (.string ⟨#[]⟩) 16 rfl Tryd.underlying40 info9 rfl (by decide) (by omega) u5 ao (a0.extract (aj : Int).toNat (ad : Int).toNat) [.string (a0.extract (aj : Int).toNat (ad : Int).toNat)] (fun _ => True) (fun _ => False) rfl rfl ?aP (fun _ hk => hk.elim) ?aF ?aO ?aB ?aS ?aL ?_; (case aP => exact rfl); (case aB => exact (tb_ HB.out)); (case aF => exact (fun _ _ => trivial)); (case aO => exact (rR_ aY.out)); (case aS => exact (below_size (tb_ HB.out))); (case aL => have := bw.out; omega); intro dm dw ho hb hg hat; rw [← bz.out] at ho; replace HB := Aside0.mk (hb); have bB := Aside0.mk (ho); clear aY ho hb hg hat))
          go_roundg k1
          case measure => have := HK1.out; omega
          case rel => exact ⟨(bx), (wrap64 (ad + 1)), (wrap64 (ad + 1)), tx_, tx_, H', ⟨by have := HK1.out; omega⟩, ⟨rR_ bB.out⟩, ⟨(tb_ HB.out)⟩⟩
         ·
          rw [if_neg c12] at H
          exact absurd H (by simp)
        ·
         rw [if_neg c11] at H
         exact absurd H (by simp)
       ·
        rw [if_neg c10] at H
        exact absurd H (by simp)
      ·
       rw [if_neg c9] at H
       exact absurd H (by simp)
     ·
      rw [if_neg c8] at H
      have cE : ((bt a0 ad) == a1) = false := beq_eq_false_iff_ne.mpr c8
      have cF : ((bt a0 ad) != a1) = true := bne_iff_ne.mpr c8
      have H' := Aside0.mk H
      clear H
      have p7 : 0 ≤ (ad : Int) := od_
      have q7 : ad < (a0.size : Int) := od_
      have hx7 := bt_at a0 ad
      replace p7 := eq_true p7
      replace q7 := eq_true q7
      go_wp2
      go_roundg k1
      case measure => have := HK1.out; omega
      case rel => exact ⟨(ao), (aj), (wrap64 (ad + 1)), tx_, tx_, H', ⟨by have := HK1.out; omega⟩, ⟨rR_ aY.out⟩, ⟨(tb_ HB.out)⟩⟩
    ·
     rw [if_neg c6] at H
     exact absurd H (by simp)
   ·
    rw [if_neg c5] at H
    have am : decide (ad < (a0.size : Int)) = false := decide_eq_false c5
    clear c5
    by_cases c14 : 0 ≤ aj
    ·
     rw [if_pos c14] at H
     have bg := eq_true c14
     have da : decide (0 ≤ aj) = true := decide_eq_true c14
     clear c14
     by_cases c15 : aj ≤ (a0.size : Int)
     ·
      rw [if_pos c15] at H
      have db := eq_true c15
      have dc : decide (aj ≤ (a0.size : Int)) = true := decide_eq_true c15
      clear c15
      by_cases c16 : ao.length < 8796093022208
      ·
       rw [if_pos c16] at H
       have bC := Aside0.mk c16
       clear c16
       obtain ⟨cG, a3⟩ : ∃ y_ : List ByteArray, y_ = (ao ++ [a0.extract (aj : Int).toNat a0.size]) := ⟨_, rfl⟩
       replace H : (some cG) = some r := yq_ a3 H
       have bD := Aside0.mk a3
       clear a3
       obtain rfl := Option.some.inj H
       go_wp2_with (first | ((with_reducible refine gate_builtin (b := .append) (xs := #[.tmp 29, .tmp 33]) rfl ?_); at_builtin; refine Kd.R_append Kd.string (w0 := w) w.heap.size rfl (.tmp 29) (.tmp 33) 40 9 (.string ⟨#[]⟩) 16 rfl Tryd.underlying40 info9 rfl (by decide) (by omega) u5 ao (a0.extract (aj : Int).toNat a0.size) [.string (a0.extract (aj : Int).toNat a0.size)] (fun _ => True) (fun _ => False) rfl rfl ?aP (fun _ hk => hk.elim) ?aF ?aO ?aB ?aS ?aL ?_; (case aP => exact rfl); (case aB => exact (tb_ HB.out)); (case aF => exact (fun _ _ => trivial)); (case aO => exact (rR_ aY.out)); (case aS => exact (below_size (tb_ HB.out))); (case aL => have := bC.out; omega); intro dn dj ho hb hg hat; rw [← bD.out] at ho; replace HB := Aside0.mk (hb); have bE := Aside0.mk (ho); clear aY ho hb hg hat))
       go_ret
       exact ⟨_, tw_, by refine qR_ ?_; exact bE.out, (tb_ HB.out)⟩
      ·
       rw [if_neg c16] at H
       exact absurd H (by simp)
     ·
      rw [if_neg c15] at H
      exact absurd H (by simp)
    ·
     rw [if_neg c14] at H
     exact absurd H (by simp)

/-! ### spec_l1In: function 16 -/
def spec_l1In.f (a0 : Int) (a1 : Int) (a2 : Int) : Option (Bool) := if a0 ≥ a1 then (some (decide (a0 ≤ a2))) else (some false)
set_option maxHeartbeats 8000000 in
set_option maxRecDepth 100000 in
theorem spec_l1In.calls (a0 : Int) (a1 : Int) (a2 : Int) (r : Bool) (w : World) (h : spec_l1In.f a0 a1 a2 = some r) :
  Calls Tryd.prog 16 #[.int .i64 a0, .int .i64 a1, .int .i64 a2] w fun e w' => e = .returned (.bool r) ∧ Drawn0 w w' := by
 have H : (if a0 ≥ a1 then (some (decide (a0 ≤ a2))) else (some false)) = some r := h
 clear h
 by_cases c4 : a0 ≥ a1
 ·
  rw [if_pos c4] at H
  have aK : decide (a1 ≤ a0) = true := decide_eq_true c4
  clear c4
  obtain rfl := Option.some.inj H
  go_enter Tryd.func16, Tryd.ntmps16
  go_wp2
  go_ret
  exact ⟨tx_, by repeat (first | exact Drawn0.refl _ | apply Drawn0.step)⟩
 ·
  rw [if_neg c4] at H
  have aK : decide (a1 ≤ a0) = false := decide_eq_false c4
  clear c4
  obtain rfl := Option.some.inj H
  go_enter Tryd.func16, Tryd.ntmps16
  go_wp2
  go_ret
  exact ⟨tx_, by repeat (first | exact Drawn0.refl _ | apply Drawn0.step)⟩

/-! ### spec_l1Digits: function 20 -/
mutual
def spec_l1Digits.j0 : Nat → ByteArray → Bool → Option (Int)
 | 0, _, _ => none
 | k + 1, x0, x18 => if x18 = true then (some (-1)) else (spec_l1Digits.l0 k x0 0 0)
def spec_l1Digits.l0 : Nat → ByteArray → Int → Int → Option (Int)
 | 0, _, _, _ => none
 | k + 1, x0, x3, x4 => if x4 < (x0.size : Int) then (if 0 ≤ x4 then (if (bt x0 x4) < 48 then (some (-1)) else (if (bt x0 x4) > 57 then (some (-1)) else (spec_l1Digits.l0 k x0 (wrap64 ((wrap64 (10 * x3)) + (((bt x0 x4) - 48) % 256))) (wrap64 (x4 + 1))))) else (none)) else (some x3)
end
def spec_l1Digits.f (k : Nat) (a0 : ByteArray) : Option (Int) := (spec_l1In.f (a0.size : Int) 1 6).bind fun a4 => (if a4 = true then (if (a0.size : Int) > 1 then (if 0 < (a0.size : Int) then (spec_l1Digits.j0 k a0 ((bt a0 0) == 48)) else (none)) else (spec_l1Digits.j0 k a0 false)) else (spec_l1Digits.j0 k a0 true))
theorem spec_l1Digits.mono_l : ∀ k, (∀ y0 y1, LeO (spec_l1Digits.j0 k y0 y1) (spec_l1Digits.j0 (k + 1) y0 y1)) ∧ (∀ y0 y1 y2, LeO (spec_l1Digits.l0 k y0 y1 y2) (spec_l1Digits.l0 (k + 1) y0 y1 y2))
 | 0 => ⟨fun _ _ r h => by simp [spec_l1Digits.j0] at h, fun _ _ _ r h => by simp [spec_l1Digits.l0] at h⟩
 | k + 1 => by
  obtain ⟨ih0, ih1⟩ := spec_l1Digits.mono_l k
  refine ⟨?_, ?_⟩
  ·
   intro y0 y1
   unfold spec_l1Digits.j0
   repeat' (with_reducible first | exact ih0 _ _ | exact ih1 _ _ _ | exact mr_ | exact mn_ | refine mi_ ?_ ?_ | refine mb_ ?_ (fun _ => ?_))
  ·
   intro y0 y1 y2
   unfold spec_l1Digits.l0
   repeat' (with_reducible first | exact ih0 _ _ | exact ih1 _ _ _ | exact mr_ | exact mn_ | refine mi_ ?_ ?_ | refine mb_ ?_ (fun _ => ?_))
theorem spec_l1Digits.mono : ∀ a0 k, LeO (spec_l1Digits.f k a0) (spec_l1Digits.f (k + 1) a0) := by
 intro a0 k
 obtain ⟨ih0, ih1⟩ := spec_l1Digits.mono_l k
 unfold spec_l1Digits.f
 repeat' (with_reducible first | exact ih0 _ _ | exact ih1 _ _ _ | exact mr_ | exact mn_ | refine mi_ ?_ ?_ | refine mb_ ?_ (fun _ => ?_))
set_option maxHeartbeats 8000000 in
set_option maxRecDepth 100000 in
theorem spec_l1Digits.calls (k : Nat) (a0 : ByteArray) (r : Int) (w : World) (h : spec_l1Digits.f k a0 = some r) :
  Calls Tryd.prog 20 #[.string a0] w fun e w' => e = .returned (.int .i64 r) ∧ Drawn0 w w' := by
 have H : ((spec_l1In.f (a0.size : Int) 1 6).bind fun a4 => (if a4 = true then (if (a0.size : Int) > 1 then (if 0 < (a0.size : Int) then (spec_l1Digits.j0 k a0 ((bt a0 0) == 48)) else (none)) else (spec_l1Digits.j0 k a0 false)) else (spec_l1Digits.j0 k a0 true))) = some r := h
 clear h
 have HC2 := Aside0.mk H
 clear H
 go_enter Tryd.func20, Tryd.ntmps20
 go_upto_region 1 with (fail)
 go_cut [18] (fun dp wc => ∃ (kq : Nat) (az : Bool), dp = .bool az ∧ Aside0 (spec_l1Digits.j0 kq a0 az = some r) ∧ Aside0 (kq ≤ k) ∧ Drawn0 w wc)
 case first =>
  have H := HC2.out
  clear HC2
  obtain ⟨a4, A3, H⟩ := bnd_ H
  try dsimp only at H
  by_cases c4 : a4 = true
  ·
   subst c4
   have H1 : (if (a0.size : Int) > 1 then (if 0 < (a0.size : Int) then (spec_l1Digits.j0 k a0 ((bt a0 0) == 48)) else (none)) else (spec_l1Digits.j0 k a0 false)) = some r := by rw [if_pos rfl] at H; exact H
   clear H
   have H := H1
   clear H1
   by_cases c5 : (a0.size : Int) > 1
   ·
    rw [if_pos c5] at H
    have am : decide (1 < (a0.size : Int)) = true := decide_eq_true c5
    have aM : decide (1 < a0.size) = true := decide_eq_true (by omega)
    clear c5
    (first | rw [am] | (simp only [i64_w, i32_w]; rw [am]) | skip)
    by_cases c6 : 0 < (a0.size : Int)
    ·
     rw [if_pos c6] at H
     have aq : decide (0 < (a0.size : Int)) = true := decide_eq_true c6
     have a5 : decide (0 < a0.size) = true := decide_eq_true (by omega)
     clear c6
     have H' := Aside0.mk H
     clear H
     go_wp2_with (first | ((with_reducible refine gate_callee (f := 16) rfl ?_); refine gl_ (some 7) Tryd.func16 #[.int .i64 (a0.size : Int), .int .i64 1, .int .i64 6] ?_; (with_reducible refine (spec_l1In.calls (a0.size : Int) 1 6 true _ A3.out).mono ?_); rintro e w' ⟨rfl, ⟨nd, rfl⟩⟩; refine ⟨_, rfl, ?_⟩; have p7 : 0 ≤ (0 : Int) := (by omega); have q7 : 0 < a0.size := (by have : (0 : Int) < (a0.size : Int) := od_; omega); have hx7 : ∀ h : 0 < a0.size, ((a0[0]'h).toNat : Int) = bt a0 0 := bt_at a0 0; clear p7; have dd : (0 < (a0.size : Int)) = True := eq_true (od_); replace q7 := eq_true q7))
     go_meet
     case rel => exact ⟨_, (((bt a0 0) == 48)), tx_, H', ⟨by first | omega | exact Nat.le_refl _⟩, by repeat (first | exact Drawn0.refl _ | apply Drawn0.step)⟩
    ·
     rw [if_neg c6] at H
     exact absurd H (by simp)
   ·
    rw [if_neg c5] at H
    have am : decide (1 < (a0.size : Int)) = false := decide_eq_false c5
    have aM : decide (1 < a0.size) = false := decide_eq_false (by omega)
    clear c5
    (first | rw [am] | (simp only [i64_w, i32_w]; rw [am]) | skip)
    have H' := Aside0.mk H
    clear H
    go_wp2_with (first | ((with_reducible refine gate_callee (f := 16) rfl ?_); refine gl_ (some 7) Tryd.func16 #[.int .i64 (a0.size : Int), .int .i64 1, .int .i64 6] ?_; (with_reducible refine (spec_l1In.calls (a0.size : Int) 1 6 true _ A3.out).mono ?_); rintro e w' ⟨rfl, ⟨nd, rfl⟩⟩; refine ⟨_, rfl, ?_⟩))
    go_meet
    case rel => exact ⟨_, (false), tx_, H', ⟨by first | omega | exact Nat.le_refl _⟩, by repeat (first | exact Drawn0.refl _ | apply Drawn0.step)⟩
  ·
   replace c4 := Bool.eq_false_iff.mpr c4
   subst c4
   have H1 : (spec_l1Digits.j0 k a0 true) = some r := by rw [if_neg (show ¬ (false = true) by decide)] at H; exact H
   clear H
   have H := H1
   clear H1
   have H' := Aside0.mk H
   clear H
   go_wp2_with (first | ((with_reducible refine gate_callee (f := 16) rfl ?_); refine gl_ (some 7) Tryd.func16 #[.int .i64 (a0.size : Int), .int .i64 1, .int .i64 6] ?_; (with_reducible refine (spec_l1In.calls (a0.size : Int) 1 6 false _ A3.out).mono ?_); rintro e w' ⟨rfl, ⟨nd, rfl⟩⟩; refine ⟨_, rfl, ?_⟩))
   go_meet
   case rel => exact ⟨_, (true), tx_, H', ⟨by first | omega | exact Nat.le_refl _⟩, by repeat (first | exact Drawn0.refl _ | apply Drawn0.step)⟩
 case rest =>
  clear HC2
  try clear c1
  try clear c2
  try clear p2
  try clear c4
  try clear c5
  try clear am
  try clear aM
  try clear c6
  try clear aq
  try clear a5
  try clear p7
  try clear q7
  try clear hx7
  try clear dd
  try clear p7
  try clear q7
  obtain ⟨kq, az, rfl, HA, HJ1, ⟨mc1, rfl⟩⟩ := hcut
  cases kq with
  | zero => exact absurd HA.out (by simp [spec_l1Digits.j0])
  | succ kj1 =>
   have H := HA.out
   clear HA
   simp only [spec_l1Digits.j0] at H
   by_cases c8 : az = true
   ·
    subst c8
    have H1 : (some (-1)) = some r := by rw [if_pos rfl] at H; exact H
    clear H
    have H := H1
    clear H1
    obtain rfl := Option.some.inj H
    go_wp2
    go_ret
    exact ⟨tx_, by repeat (first | exact Drawn0.refl _ | apply Drawn0.step)⟩
   ·
    replace c8 := Bool.eq_false_iff.mpr c8
    subst c8
    have H1 : (spec_l1Digits.l0 kj1 a0 0 0) = some r := by rw [if_neg (show ¬ (false = true) by decide)] at H; exact H
    clear H
    have H := H1
    clear H1
    have H' := Aside0.mk H
    clear H
    go_wp2
    go_loopg [3, 4] kj1 (fun kq v3 v4 w' => ∃ (a8 : Int) (ac : Int), v3 = .int .i64 a8 ∧ v4 = .int .i64 ac ∧ Aside0 (spec_l1Digits.l0 kq a0 a8 ac = some r) ∧ Aside0 (kq ≤ kj1) ∧ Drawn0 w w')
    case atStart => exact ⟨(0), (0), tx_, tx_, H', ⟨Nat.le_refl _⟩, by repeat (first | exact Drawn0.refl _ | apply Drawn0.step)⟩
    case round =>
     clear H'
     try clear c1
     try clear c2
     try clear p2
     try clear c4
     try clear c5
     try clear am
     try clear aM
     try clear c6
     try clear aq
     try clear a5
     try clear p7
     try clear q7
     try clear hx7
     try clear dd
     try clear c8
     try clear p2
     try clear p7
     try clear q7
     obtain ⟨a8, ac, rfl, rfl, HA, HK2, ⟨m2, rfl⟩⟩ := hrel
     cases gk with
     | zero => exact absurd HA.out (by simp [spec_l1Digits.l0])
     | succ k2 =>
      have H := HA.out
      clear HA
      simp only [spec_l1Digits.l0] at H
      by_cases c9 : ac < (a0.size : Int)
      ·
       rw [if_pos c9] at H
       have bu : decide (ac < (a0.size : Int)) = true := decide_eq_true c9
       clear c9
       by_cases c10 : 0 ≤ ac
       ·
        rw [if_pos c10] at H
        have bf : decide (0 ≤ ac) = true := decide_eq_true c10
        clear c10
        by_cases c12 : (bt a0 ac) < 48
        ·
         rw [if_pos c12] at H
         have bF : decide ((bt a0 ac) < 48) = true := decide_eq_true c12
         clear c12
         obtain rfl := Option.some.inj H
         have p11 : 0 ≤ (ac : Int) := od_
         have q11 : ac < (a0.size : Int) := od_
         have hx11 := bt_at a0 ac
         replace p11 := eq_true p11
         replace q11 := eq_true q11
         go_wp2
         go_ret
         exact ⟨tx_, by repeat (first | exact Drawn0.refl _ | apply Drawn0.step)⟩
        ·
         rw [if_neg c12] at H
         have bF : decide ((bt a0 ac) < 48) = false := decide_eq_false c12
         clear c12
         by_cases c14 : (bt a0 ac) > 57
         ·
          rw [if_pos c14] at H
          have bg : decide (57 < (bt a0 ac)) = true := decide_eq_true c14
          clear c14
          obtain rfl := Option.some.inj H
          have p11 : 0 ≤ (ac : Int) := od_
          have q11 : ac < (a0.size : Int) := od_
          have hx11 := bt_at a0 ac
          replace p11 := eq_true p11
          replace q11 := eq_true q11
          have p13 : 0 ≤ (ac : Int) := od_
          have q13 : ac < (a0.size : Int) := od_
          have hx13 := bt_at a0 ac
          replace p13 := eq_true p13
          replace q13 := eq_true q13
          go_wp2
          go_ret
          exact ⟨tx_, by repeat (first | exact Drawn0.refl _ | apply Drawn0.step)⟩
         ·
          rw [if_neg c14] at H
          have bg : decide (57 < (bt a0 ac)) = false := decide_eq_false c14
          clear c14
          have H' := Aside0.mk H
          clear H
          have p11 : 0 ≤ (ac : Int) := od_
          have q11 : ac < (a0.size : Int) := od_
          have hx11 := bt_at a0 ac
          replace p11 := eq_true p11
          replace q11 := eq_true q11
          have p13 : 0 ≤ (ac : Int) := od_
          have q13 : ac < (a0.size : Int) := od_
          have hx13 := bt_at a0 ac
          replace p13 := eq_true p13
          replace q13 := eq_true q13
          have p15 : 0 ≤ (ac : Int) := od_
          have q15 : ac < (a0.size : Int) := od_
          have hx15 := bt_at a0 ac
          replace p15 := eq_true p15
          replace q15 := eq_true q15
          go_wp2
          go_roundg k2
          case measure => have := HJ1.out; have := HK2.out; omega
          case rel => exact ⟨(wrap64 ((wrap64 (10 * a8)) + (((bt a0 ac) - 48) % 256))), (wrap64 (ac + 1)), tx_, tx_, H', ⟨by have := HJ1.out; have := HK2.out; omega⟩, by repeat (first | exact Drawn0.refl _ | apply Drawn0.step)⟩
       ·
        rw [if_neg c10] at H
        exact absurd H (by simp)
      ·
       rw [if_neg c9] at H
       have bu : decide (ac < (a0.size : Int)) = false := decide_eq_false c9
       clear c9
       obtain rfl := Option.some.inj H
       go_wp2
       go_ret
       exact ⟨tx_, by repeat (first | exact Drawn0.refl _ | apply Drawn0.step)⟩

/-! ### spec_l15Signed: function 19 -/
def spec_l15Signed.j0 : Nat → ByteArray → Bool → Option (Int)
 | 0, _, _ => none
 | k + 1, x0, x17 => if x17 = true then (if 1 ≤ (x0.size : Int) then ((spec_l1Digits.f k (x0.extract 1 x0.size)).bind fun a6 => (some (wrap64 (-a6)))) else (none)) else ((spec_l1Digits.f k x0).bind fun an => (if an < 0 then (some (-100)) else (some an)))
def spec_l15Signed.f (k : Nat) (a0 : ByteArray) : Option (Int) := if (a0.size : Int) > 1 then (if 0 < (a0.size : Int) then (if (bt a0 0) = 45 then (if 1 ≤ (a0.size : Int) then ((spec_l1Digits.f k (a0.extract 1 a0.size)).bind fun aJ => (spec_l15Signed.j0 k a0 (decide (aJ > 0)))) else (none)) else (spec_l15Signed.j0 k a0 false)) else (none)) else (spec_l15Signed.j0 k a0 false)
theorem spec_l15Signed.mono_l : ∀ k, (∀ y0 y1, LeO (spec_l15Signed.j0 k y0 y1) (spec_l15Signed.j0 (k + 1) y0 y1))
 | 0 => fun _ _ r h => by simp [spec_l15Signed.j0] at h
 | k + 1 => by
  have ih0 := spec_l15Signed.mono_l k
  ·
   intro y0 y1
   unfold spec_l15Signed.j0
   repeat' (with_reducible first | exact ih0 _ _ | exact spec_l1Digits.mono _ _ | exact mr_ | exact mn_ | refine mi_ ?_ ?_ | refine mb_ ?_ (fun _ => ?_))
theorem spec_l15Signed.mono : ∀ a0 k, LeO (spec_l15Signed.f k a0) (spec_l15Signed.f (k + 1) a0) := by
 intro a0 k
 have ih0 := spec_l15Signed.mono_l k
 unfold spec_l15Signed.f
 repeat' (with_reducible first | exact ih0 _ _ | exact spec_l1Digits.mono _ _ | exact mr_ | exact mn_ | refine mi_ ?_ ?_ | refine mb_ ?_ (fun _ => ?_))
set_option maxHeartbeats 8000000 in
set_option maxRecDepth 100000 in
theorem spec_l15Signed.calls (k : Nat) (a0 : ByteArray) (r : Int) (w : World) (h : spec_l15Signed.f k a0 = some r) :
  Calls Tryd.prog 19 #[.string a0] w fun e w' => e = .returned (.int .i64 r) ∧ Drawn0 w w' := by
 have H : (if (a0.size : Int) > 1 then (if 0 < (a0.size : Int) then (if (bt a0 0) = 45 then (if 1 ≤ (a0.size : Int) then ((spec_l1Digits.f k (a0.extract 1 a0.size)).bind fun aJ => (spec_l15Signed.j0 k a0 (decide (aJ > 0)))) else (none)) else (spec_l15Signed.j0 k a0 false)) else (none)) else (spec_l15Signed.j0 k a0 false)) = some r := h
 clear h
 have HC2 := Aside0.mk H
 clear H
 go_enter Tryd.func19, Tryd.ntmps19
 go_upto_region 1 with (fail)
 go_cut [17] (fun dq wc => ∃ (kq : Nat) (aA : Bool), dq = .bool aA ∧ Aside0 (spec_l15Signed.j0 kq a0 aA = some r) ∧ Aside0 (kq ≤ k) ∧ Drawn0 w wc)
 case first =>
  have H := HC2.out
  clear HC2
  by_cases c3 : (a0.size : Int) > 1
  ·
   rw [if_pos c3] at H
   have al : decide (1 < (a0.size : Int)) = true := decide_eq_true c3
   have a7 : decide (1 < a0.size) = true := decide_eq_true (by omega)
   clear c3
   (first | rw [al] | (simp only [i64_w, i32_w]; rw [al]) | skip)
   by_cases c4 : 0 < (a0.size : Int)
   ·
    rw [if_pos c4] at H
    have aK : decide (0 < (a0.size : Int)) = true := decide_eq_true c4
    have bn : decide (0 < a0.size) = true := decide_eq_true (by omega)
    clear c4
    by_cases c6 : (bt a0 0) = 45
    ·
     rw [if_pos c6] at H
     have aq : ((bt a0 0) == 45) = true := beq_iff_eq.mpr c6
     have a5 : ((bt a0 0) != 45) = false := bne_eq_false_iff_eq.mpr c6
     clear c6
     by_cases c7 : 1 ≤ (a0.size : Int)
     ·
      rw [if_pos c7] at H
      have cH := eq_true c7
      have cI : decide (1 ≤ (a0.size : Int)) = true := decide_eq_true c7
      clear c7
      obtain ⟨aJ, A8, H⟩ := bnd_ H
      try dsimp only at H
      have H' := Aside0.mk H
      clear H
      have p5 : 0 ≤ (0 : Int) := (by omega)
      have q5 : 0 < a0.size := (by have : (0 : Int) < (a0.size : Int) := od_; omega)
      have hx5 : ∀ h : 0 < a0.size, ((a0[0]'h).toNat : Int) = bt a0 0 := bt_at a0 0
      clear p5
      have de : (0 < (a0.size : Int)) = True := eq_true (od_)
      replace q5 := eq_true q5
      go_wp2_with (first | (go_at_call 20; (with_reducible refine (spec_l1Digits.calls k (a0.extract 1 a0.size) aJ _ A8.out).mono ?_); rintro e w' ⟨rfl, ⟨nd, rfl⟩⟩))
      go_meet
      case rel => exact ⟨_, (decide (aJ > 0)), tx_, H', ⟨by first | omega | exact Nat.le_refl _⟩, by repeat (first | exact Drawn0.refl _ | apply Drawn0.step)⟩
     ·
      rw [if_neg c7] at H
      exact absurd H (by simp)
    ·
     rw [if_neg c6] at H
     have aq : ((bt a0 0) == 45) = false := beq_eq_false_iff_ne.mpr c6
     have a5 : ((bt a0 0) != 45) = true := bne_iff_ne.mpr c6
     have H' := Aside0.mk H
     clear H
     have p5 : 0 ≤ (0 : Int) := (by omega)
     have q5 : 0 < a0.size := (by have : (0 : Int) < (a0.size : Int) := od_; omega)
     have hx5 : ∀ h : 0 < a0.size, ((a0[0]'h).toNat : Int) = bt a0 0 := bt_at a0 0
     clear p5
     have de : (0 < (a0.size : Int)) = True := eq_true (od_)
     replace q5 := eq_true q5
     go_wp2
     go_meet
     case rel => exact ⟨_, (false), tx_, H', ⟨by first | omega | exact Nat.le_refl _⟩, by repeat (first | exact Drawn0.refl _ | apply Drawn0.step)⟩
   ·
    rw [if_neg c4] at H
    exact absurd H (by simp)
  ·
   rw [if_neg c3] at H
   have al : decide (1 < (a0.size : Int)) = false := decide_eq_false c3
   have a7 : decide (1 < a0.size) = false := decide_eq_false (by omega)
   clear c3
   (first | rw [al] | (simp only [i64_w, i32_w]; rw [al]) | skip)
   have H' := Aside0.mk H
   clear H
   go_wp2
   go_meet
   case rel => exact ⟨_, (false), tx_, H', ⟨by first | omega | exact Nat.le_refl _⟩, by repeat (first | exact Drawn0.refl _ | apply Drawn0.step)⟩
 case rest =>
  clear HC2
  try clear c1
  try clear p2
  try clear c3
  try clear al
  try clear a7
  try clear c4
  try clear aK
  try clear bn
  try clear p5
  try clear q5
  try clear hx5
  try clear de
  try clear c6
  try clear aq
  try clear a5
  try clear c7
  try clear cH
  try clear cI
  try clear p5
  try clear q5
  obtain ⟨kq, aA, rfl, HA, HJ1, ⟨mc1, rfl⟩⟩ := hcut
  cases kq with
  | zero => exact absurd HA.out (by simp [spec_l15Signed.j0])
  | succ kj1 =>
   have H := HA.out
   clear HA
   simp only [spec_l15Signed.j0] at H
   by_cases c9 : aA = true
   ·
    subst c9
    have H1 : (if 1 ≤ (a0.size : Int) then ((spec_l1Digits.f kj1 (a0.extract 1 a0.size)).bind fun a6 => (some (wrap64 (-a6)))) else (none)) = some r := by rw [if_pos rfl] at H; exact H
    clear H
    have H := H1
    clear H1
    by_cases c10 : 1 ≤ (a0.size : Int)
    ·
     rw [if_pos c10] at H
     have bf := eq_true c10
     have bv : decide (1 ≤ (a0.size : Int)) = true := decide_eq_true c10
     clear c10
     obtain ⟨a6, A11, H⟩ := bnd_ H
     try dsimp only at H
     obtain rfl := Option.some.inj H
     go_wp2_with (first | ((with_reducible refine gate_callee (f := 20) rfl ?_); refine gl_ (some 20) Tryd.func20 #[.string (a0.extract 1 a0.size)] ?_; (with_reducible refine (spec_l1Digits.calls kj1 (a0.extract 1 a0.size) a6 _ A11.out).mono ?_); rintro e w' ⟨rfl, ⟨nd, rfl⟩⟩; refine ⟨_, rfl, ?_⟩))
     go_ret
     exact ⟨tx_, by repeat (first | exact Drawn0.refl _ | apply Drawn0.step)⟩
    ·
     rw [if_neg c10] at H
     exact absurd H (by simp)
   ·
    replace c9 := Bool.eq_false_iff.mpr c9
    subst c9
    have H1 : ((spec_l1Digits.f kj1 a0).bind fun an => (if an < 0 then (some (-100)) else (some an))) = some r := by rw [if_neg (show ¬ (false = true) by decide)] at H; exact H
    clear H
    have H := H1
    clear H1
    obtain ⟨an, A12, H⟩ := bnd_ H
    try dsimp only at H
    by_cases c13 : an < 0
    ·
     rw [if_pos c13] at H
     have bG : decide (an < 0) = true := decide_eq_true c13
     clear c13
     obtain rfl := Option.some.inj H
     go_wp2_with (first | ((with_reducible refine gate_callee (f := 20) rfl ?_); refine gl_ (some 23) Tryd.func20 #[.string a0] ?_; (with_reducible refine (spec_l1Digits.calls kj1 a0 an _ A12.out).mono ?_); rintro e w' ⟨rfl, ⟨nd, rfl⟩⟩; refine ⟨_, rfl, ?_⟩))
     go_ret
     exact ⟨tx_, by repeat (first | exact Drawn0.refl _ | apply Drawn0.step)⟩
    ·
     rw [if_neg c13] at H
     have bG : decide (an < 0) = false := decide_eq_false c13
     clear c13
     obtain rfl := Option.some.inj H
     go_wp2_with (first | ((with_reducible refine gate_callee (f := 20) rfl ?_); refine gl_ (some 23) Tryd.func20 #[.string a0] ?_; (with_reducible refine (spec_l1Digits.calls kj1 a0 an _ A12.out).mono ?_); rintro e w' ⟨rfl, ⟨nd, rfl⟩⟩; refine ⟨_, rfl, ?_⟩))
     go_ret
     exact ⟨tx_, by repeat (first | exact Drawn0.refl _ | apply Drawn0.step)⟩

/-! ### spec_UrnOk: function 52 -/
def spec_UrnOk.l0 : Nat → List Int → Int → Option (Bool)
 | 0, _, _ => none
 | k + 1, x0, x3 => if x3 < (x0.length : Int) then (if 0 ≤ x3 then ((spec_l1In.f (rd x0 x3) 0 40).bind fun bo => (if bo = true then (spec_UrnOk.l0 k x0 (wrap64 (x3 + 1))) else (some false))) else (none)) else ((spec_l1In.f (x0.length : Int) 1 3).bind fun bp => (some bp))
def spec_UrnOk.f (k : Nat) (l0 : List Int) : Option (Bool) := spec_UrnOk.l0 k l0 0
theorem spec_UrnOk.mono_l : ∀ k, (∀ y0 y1, LeO (spec_UrnOk.l0 k y0 y1) (spec_UrnOk.l0 (k + 1) y0 y1))
 | 0 => fun _ _ r h => by simp [spec_UrnOk.l0] at h
 | k + 1 => by
  have ih0 := spec_UrnOk.mono_l k
  ·
   intro y0 y1
   unfold spec_UrnOk.l0
   repeat' (with_reducible first | exact ih0 _ _ | exact mr_ | exact mn_ | refine mi_ ?_ ?_ | refine mb_ ?_ (fun _ => ?_))
theorem spec_UrnOk.mono : ∀ a0 k, LeO (spec_UrnOk.f k a0) (spec_UrnOk.f (k + 1) a0) := by
 intro a0 k
 have ih0 := spec_UrnOk.mono_l k
 unfold spec_UrnOk.f
 repeat' (with_reducible first | exact ih0 _ _ | exact mr_ | exact mn_ | refine mi_ ?_ ?_ | refine mb_ ?_ (fun _ => ?_))
set_option maxHeartbeats 8000000 in
set_option maxRecDepth 100000 in
theorem spec_UrnOk.calls (k : Nat) (A0 : Option Addr) (c0 : Nat) (l0 : List Int) (r : Bool) (w : World) (hr0 : Kd.C (Kd.int .i64) w A0 l0.length l0) (hc0 : l0.length ≤ c0) (h : spec_UrnOk.f k l0 = some r) :
  Calls Tryd.prog 52 #[.slice A0 l0.length c0] w fun e w' => e = .returned (.bool r) ∧ Drawn0 w w' := by
 have HR0 := Aside0.mk hr0
 have HC0 := Aside0.mk hc0
 clear hr0 hc0
 have H : (spec_UrnOk.l0 k l0 0) = some r := h
 clear h
 have H' := Aside0.mk H
 clear H
 go_enter Tryd.func52, Tryd.ntmps52
 go_wp2
 go_loopg [3] k (fun kq v3 w' => ∃ (ai : Int), v3 = .int .i64 ai ∧ Aside0 (spec_UrnOk.l0 kq l0 ai = some r) ∧ Aside0 (kq ≤ k) ∧ Drawn0 w w')
 case atStart => exact ⟨(0), tx_, H', ⟨Nat.le_refl _⟩, by repeat (first | exact Drawn0.refl _ | apply Drawn0.step)⟩
 case round =>
  clear H'
  obtain ⟨ai, rfl, HA, HK1, ⟨m1, rfl⟩⟩ := hrel
  cases gk with
  | zero => exact absurd HA.out (by simp [spec_UrnOk.l0])
  | succ k1 =>
   have H := HA.out
   clear HA
   simp only [spec_UrnOk.l0] at H
   by_cases c2 : ai < (l0.length : Int)
   ·
    rw [if_pos c2] at H
    have cJ : decide (ai < (l0.length : Int)) = true := decide_eq_true c2
    clear c2
    by_cases c3 : 0 ≤ ai
    ·
     rw [if_pos c3] at H
     have al : decide (0 ≤ ai) = true := decide_eq_true c3
     clear c3
     obtain ⟨bo, A4, H⟩ := bnd_ H
     try dsimp only at H
     by_cases c5 : bo = true
     ·
      subst c5
      have H1 : (spec_UrnOk.l0 k1 l0 (wrap64 (ai + 1))) = some r := by rw [if_pos rfl] at H; exact H
      clear H
      have H := H1
      clear H1
      have H' := Aside0.mk H
      clear H
      have p120 : 0 ≤ (ai : Int) := od_
      have q120 : ai < (l0.length : Int) := od_
      obtain ⟨ad120, e120, a9⟩ := Kd.at_int HR0.out ai p120 q120
      cases e120
      replace p120 := eq_true p120
      replace q120 := eq_true q120
      go_wp2_with (first | ((with_reducible refine gate_callee (f := 16) rfl ?_); refine gl_ (some 14) Tryd.func16 #[.int .i64 (rd l0 ai), .int .i64 0, .int .i64 40] ?_; (with_reducible refine (spec_l1In.calls (rd l0 ai) 0 40 true _ A4.out).mono ?_); rintro e w' ⟨rfl, ⟨nd, rfl⟩⟩; refine ⟨_, rfl, ?_⟩))
      go_roundg k1
      case measure => have := HK1.out; omega
      case rel => exact ⟨(wrap64 (ai + 1)), tx_, H', ⟨by have := HK1.out; omega⟩, by repeat (first | exact Drawn0.refl _ | apply Drawn0.step)⟩
     ·
      replace c5 := Bool.eq_false_iff.mpr c5
      subst c5
      have H1 : (some false) = some r := by rw [if_neg (show ¬ (false = true) by decide)] at H; exact H
      clear H
      have H := H1
      clear H1
      obtain rfl := Option.some.inj H
      have p120 : 0 ≤ (ai : Int) := od_
      have q120 : ai < (l0.length : Int) := od_
      obtain ⟨ad120, e120, a9⟩ := Kd.at_int HR0.out ai p120 q120
      cases e120
      replace p120 := eq_true p120
      replace q120 := eq_true q120
      go_wp2_with (first | ((with_reducible refine gate_callee (f := 16) rfl ?_); refine gl_ (some 14) Tryd.func16 #[.int .i64 (rd l0 ai), .int .i64 0, .int .i64 40] ?_; (with_reducible refine (spec_l1In.calls (rd l0 ai) 0 40 false _ A4.out).mono ?_); rintro e w' ⟨rfl, ⟨nd, rfl⟩⟩; refine ⟨_, rfl, ?_⟩))
      go_ret
      exact ⟨tx_, by repeat (first | exact Drawn0.refl _ | apply Drawn0.step)⟩
    ·
     rw [if_neg c3] at H
     exact absurd H (by simp)
   ·
    rw [if_neg c2] at H
    have cJ : decide (ai < (l0.length : Int)) = false := decide_eq_false c2
    clear c2
    obtain ⟨bp, A6, H⟩ := bnd_ H
    try dsimp only at H
    obtain rfl := Option.some.inj H
    go_wp2_with (first | ((with_reducible refine gate_callee (f := 16) rfl ?_); refine gl_ (some 18) Tryd.func16 #[.int .i64 (l0.length : Int), .int .i64 1, .int .i64 3] ?_; (with_reducible refine (spec_l1In.calls (l0.length : Int) 1 3 bp _ A6.out).mono ?_); rintro e w' ⟨rfl, ⟨nd, rfl⟩⟩; refine ⟨_, rfl, ?_⟩))
    go_ret
    exact ⟨tx_, by repeat (first | exact Drawn0.refl _ | apply Drawn0.step)⟩

end Go.Proofs.YtfibbdefcppfcaaDoor.MFnExactStoreSync
