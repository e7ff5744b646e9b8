/- For the law FnExactStoreOk: walks of the functions that it reaches: each call returns what the plain function beside it tells. The conditions stand in each statement. -/
import Derived.Test.YtfibbdefcppfcaaDoorV
import Derived.Test.YtfibbdefcppfcaaDoorMFnExactStoreOkx0
import Derived.Test.YtfibbdefcppfcaaDoorMFnExactStoreOkx1
import Derived.Test.YtfibbdefcppfcaaDoorMFnExactStoreOkx6
namespace Go.Proofs.YtfibbdefcppfcaaDoor.MFnExactStoreOk
open Go.RowKit Go.Proofs.YtfibbdefcppfcaaDoorW.PrintWords Go.Proofs.YtfibbdefcppfcaaDoorW.PrintLast Go.Proofs.YtfibbdefcppfcaaDoorW.PrintMore
attribute [local go_sem] max2_int min2_int max_two min_two max_three min_three max_four min_four   -- for this text's walks alone
set_option linter.unusedVariables false
set_option linter.unusedSimpArgs false

/-! ### spec_StoreOk: function 7 -/
def spec_StoreOk.f (k : Nat) (a0_0 : ByteArray) (a0_1 : ByteArray) (a0_2 : Int) : Option (Bool) := (spec_ReadPlace.f k a0_0).bind fun aJ => (if aJ.2.2.2 = true then (if (a0_1.size : Int) ≤ 1000 then ((spec_l1In.f a0_2 0 (a0_1.size : Int)).bind fun av => (some av)) else (some false)) else (some false))
theorem spec_StoreOk.mono : ∀ a0 a1 a2 k, LeO (spec_StoreOk.f k a0 a1 a2) (spec_StoreOk.f (k + 1) a0 a1 a2) := by
 intro a0 a1 a2 k
 unfold spec_StoreOk.f
 repeat' (with_reducible first | exact spec_ReadPlace.mono _ _ | exact mr_ | exact mn_ | refine mi_ ?_ ?_ | refine mb_ ?_ (fun _ => ?_))
set_option maxHeartbeats 8000000 in
set_option maxRecDepth 100000 in
theorem spec_StoreOk.calls (k : Nat) (a0_0 : ByteArray) (a0_1 : ByteArray) (a0_2 : Int) (r : Bool) (w : World) (h : spec_StoreOk.f k a0_0 a0_1 a0_2 = some r) :
  Calls Tryd.prog 7 #[.agg #[.string a0_0, .string a0_1, .int .i64 a0_2]] w fun e w' => e = .returned (.bool r) ∧ Below w.heap.size w w' := by
 have hu26 := Tryd.underlying26
 have hu36 := Tryd.underlying36
 have HB := Aside0.mk (Below.refl w.heap.size w)
 have H : ((spec_ReadPlace.f k a0_0).bind fun aJ => (if aJ.2.2.2 = true then (if (a0_1.size : Int) ≤ 1000 then ((spec_l1In.f a0_2 0 (a0_1.size : Int)).bind fun av => (some av)) else (some false)) else (some false))) = some r := h
 clear h
 obtain ⟨⟨aZ, a3, a4, cl⟩, A2, H⟩ := bnd_ H
 try dsimp only at H
 by_cases c3 : cl = true
 ·
  subst c3
  have H1 : (if (a0_1.size : Int) ≤ 1000 then ((spec_l1In.f a0_2 0 (a0_1.size : Int)).bind fun av => (some av)) else (some false)) = some r := by rw [if_pos rfl] at H; exact H
  clear H
  have H := H1
  clear H1
  by_cases c4 : (a0_1.size : Int) ≤ 1000
  ·
   rw [if_pos c4] at H
   have aM : decide ((a0_1.size : Int) ≤ 1000) = true := decide_eq_true c4
   have cm : decide (a0_1.size ≤ 1000) = true := decide_eq_true (by omega)
   clear c4
   obtain ⟨av, A5, H⟩ := bnd_ H
   try dsimp only at H
   obtain rfl := Option.some.inj H
   go_enter Tryd.func7, Tryd.ntmps7
   go_wp2_with (first | ((with_reducible refine gate_dst (N := 1) rfl ?_); (try (refine gate_guard (by rfl) ?_; dsimp only)); refine box_event ?hg (N := 1) ?hd (cs := #[.string a0_0, .string a0_1, .int .i64 a0_2]) (t := 26) ?hr ?_; (case hd => rfl); (case hg => rfl); (case hr => first | (go_simp; done) | (go_simp; rfl)); intro aR hg w6 hbox hb; have aa := Aside0.mk (hbox); have aU := gx_ HB hg; have aV := gx_ HB hg; replace HB := bs_ HB hb; clear hb hbox hg; have a5 := cz_ aa 0; have a6 := cz_ aa 1; have a7 := cz_ aa 2; have a8 := blk_frozen aa.out 0; have a9 := blk_frozen aa.out 1; have bb := blk_frozen aa.out 2) | ((with_reducible refine gate_callee (f := 15) rfl ?_); refine gl_ (some 8) Tryd.func15 #[.string a0_0] ?_; (with_reducible refine (spec_ReadPlace.calls k a0_0 aZ a3 a4 true _ A2.out).mono ?_); rintro e w8 ⟨bl, bm, rfl, ho0, ho1, hb⟩; refine ⟨_, rfl, ?_⟩; have ak := rx_ ho0 HB; have al := rx_ ho1 HB; replace aa := bb_ aa hb; replace HB := bs_ HB hb; (try clear hb); (try clear hb2); (try clear hk); (try clear hi); (try clear ho0); (try clear ho1)) | ((with_reducible refine gate_dst (N := 3) rfl ?_); (try (refine gate_guard (by rfl) ?_; dsimp only)); refine box_event ?hg (N := 3) ?hd (cs := #[.slice none 0 0, .int .i64 0, .slice none 0 0]) (t := 36) ?hr ?_; (case hd => rfl); (case hg => rfl); (case hr => first | (go_simp; done) | (go_simp; rfl)); intro aW hg w9 hbox hb; replace ak := rb_ ak hb; replace al := rb_ al hb; have af := Aside0.mk (hbox); have aX := gx_ HB hg; have aY := gx_ HB hg; replace HB := bs_ HB hb; have ai := nl_ aa hg; have aj := ng_ aa hg; replace aa := bb_ aa hb; clear hb hbox hg; obtain ⟨cn, bn, bc⟩ := Kd.R_slice ak.out; subst bc; have cG := aj.out; have cH := ai.out; have bu := cz_ af 0; have bv := cz_ af 1; have bw := cz_ af 2; have bx := blk_frozen af.out 0; have bz := blk_frozen af.out 1; have bB := blk_frozen af.out 2; obtain ⟨cY, cZ, co⟩ := Kd.R_slice al.out; subst co; have bC := cz_ aa 0; have bD := cz_ aa 1; have bE := cz_ aa 2; have bF := blk_frozen aa.out 0; have bG := blk_frozen aa.out 1; have bH := blk_frozen aa.out 2) | (go_at_call 16; (with_reducible refine (spec_l1In.calls a0_2 0 (a0_1.size : Int) av _ A5.out).mono ?_); rintro e w' ⟨rfl, ⟨nd, rfl⟩⟩))
   go_ret
   exact ⟨tw_, (tb_ HB.out)⟩
  ·
   rw [if_neg c4] at H
   have aM : decide ((a0_1.size : Int) ≤ 1000) = false := decide_eq_false c4
   have cm : decide (a0_1.size ≤ 1000) = false := decide_eq_false (by omega)
   clear c4
   obtain rfl := Option.some.inj H
   go_enter Tryd.func7, Tryd.ntmps7
   go_wp2_with (first | ((with_reducible refine gate_dst (N := 1) rfl ?_); (try (refine gate_guard (by rfl) ?_; dsimp only)); refine box_event ?hg (N := 1) ?hd (cs := #[.string a0_0, .string a0_1, .int .i64 a0_2]) (t := 26) ?hr ?_; (case hd => rfl); (case hg => rfl); (case hr => first | (go_simp; done) | (go_simp; rfl)); intro aR hg du hbox hb; have aa := Aside0.mk (hbox); have aU := gx_ HB hg; have aV := gx_ HB hg; replace HB := bs_ HB hb; clear hb hbox hg; have bI := cz_ aa 0; have bJ := cz_ aa 1; have bK := cz_ aa 2; have bL := blk_frozen aa.out 0; have bM := blk_frozen aa.out 1; have bN := blk_frozen aa.out 2) | ((with_reducible refine gate_callee (f := 15) rfl ?_); refine gl_ (some 8) Tryd.func15 #[.string a0_0] ?_; (with_reducible refine (spec_ReadPlace.calls k a0_0 aZ a3 a4 true _ A2.out).mono ?_); rintro e dv ⟨bl, bm, rfl, ho0, ho1, hb⟩; refine ⟨_, rfl, ?_⟩; have ak := rx_ ho0 HB; have al := rx_ ho1 HB; replace aa := bb_ aa hb; replace HB := bs_ HB hb; (try clear hb); (try clear hb2); (try clear hk); (try clear hi); (try clear ho0); (try clear ho1)) | ((with_reducible refine gate_dst (N := 3) rfl ?_); (try (refine gate_guard (by rfl) ?_; dsimp only)); refine box_event ?hg (N := 3) ?hd (cs := #[.slice none 0 0, .int .i64 0, .slice none 0 0]) (t := 36) ?hr ?_; (case hd => rfl); (case hg => rfl); (case hr => first | (go_simp; done) | (go_simp; rfl)); intro aW hg dw hbox hb; replace ak := rb_ ak hb; replace al := rb_ al hb; have af := Aside0.mk (hbox); have aX := gx_ HB hg; have aY := gx_ HB hg; replace HB := bs_ HB hb; have ai := nl_ aa hg; have aj := ng_ aa hg; replace aa := bb_ aa hb; clear hb hbox hg; obtain ⟨da, db, cp⟩ := Kd.R_slice ak.out; subst cp; have cI := aj.out; have cJ := ai.out; have bO := cz_ af 0; have bP := cz_ af 1; have bQ := cz_ af 2; have bR := blk_frozen af.out 0; have bS := blk_frozen af.out 1; have bU := blk_frozen af.out 2; obtain ⟨dc, dd, cq⟩ := Kd.R_slice al.out; subst cq; have bV := cz_ aa 0; have bW := cz_ aa 1; have bX := cz_ aa 2; have bZ := blk_frozen aa.out 0; have b0 := blk_frozen aa.out 1; have b1 := blk_frozen aa.out 2))
   go_ret
   exact ⟨tw_, (tb_ HB.out)⟩
 ·
  replace c3 := Bool.eq_false_iff.mpr c3
  subst c3
  have H1 : (some false) = some r := by rw [if_neg (show ¬ (false = true) by decide)] at H; exact H
  clear H
  have H := H1
  clear H1
  obtain rfl := Option.some.inj H
  go_enter Tryd.func7, Tryd.ntmps7
  go_wp2_with (first | ((with_reducible refine gate_dst (N := 1) rfl ?_); (try (refine gate_guard (by rfl) ?_; dsimp only)); refine box_event ?hg (N := 1) ?hd (cs := #[.string a0_0, .string a0_1, .int .i64 a0_2]) (t := 26) ?hr ?_; (case hd => rfl); (case hg => rfl); (case hr => first | (go_simp; done) | (go_simp; rfl)); intro aR hg dx hbox hb; have aa := Aside0.mk (hbox); have aU := gx_ HB hg; have aV := gx_ HB hg; replace HB := bs_ HB hb; clear hb hbox hg; have b2 := cz_ aa 0; have b3 := cz_ aa 1; have b4 := cz_ aa 2; have b5 := blk_frozen aa.out 0; have b6 := blk_frozen aa.out 1; have b7 := blk_frozen aa.out 2) | ((with_reducible refine gate_callee (f := 15) rfl ?_); refine gl_ (some 8) Tryd.func15 #[.string a0_0] ?_; (with_reducible refine (spec_ReadPlace.calls k a0_0 aZ a3 a4 false _ A2.out).mono ?_); rintro e dy ⟨bl, bm, rfl, ho0, ho1, hb⟩; refine ⟨_, rfl, ?_⟩; have ak := rx_ ho0 HB; have al := rx_ ho1 HB; replace aa := bb_ aa hb; replace HB := bs_ HB hb; (try clear hb); (try clear hb2); (try clear hk); (try clear hi); (try clear ho0); (try clear ho1)) | ((with_reducible refine gate_dst (N := 3) rfl ?_); (try (refine gate_guard (by rfl) ?_; dsimp only)); refine box_event ?hg (N := 3) ?hd (cs := #[.slice none 0 0, .int .i64 0, .slice none 0 0]) (t := 36) ?hr ?_; (case hd => rfl); (case hg => rfl); (case hr => first | (go_simp; done) | (go_simp; rfl)); intro aW hg dz hbox hb; replace ak := rb_ ak hb; replace al := rb_ al hb; have af := Aside0.mk (hbox); have aX := gx_ HB hg; have aY := gx_ HB hg; replace HB := bs_ HB hb; have ai := nl_ aa hg; have aj := ng_ aa hg; replace aa := bb_ aa hb; clear hb hbox hg; obtain ⟨de, df, cr⟩ := Kd.R_slice ak.out; subst cr; have cK := aj.out; have cL := ai.out; have b8 := cz_ af 0; have b9 := cz_ af 1; have ca := cz_ af 2; have cb := blk_frozen af.out 0; have cc := blk_frozen af.out 1; have cd := blk_frozen af.out 2; obtain ⟨dg, dh, ct⟩ := Kd.R_slice al.out; subst ct))
  go_ret
  exact ⟨tw_, (tb_ HB.out)⟩

/-! ### laws_toStore: function 8 -/
def laws_toStore.f (a0_0 : ByteArray) (a0_1 : ByteArray) (a0_2 : Int) : Option (ByteArray × ByteArray × Int) := some (a0_0, a0_1, a0_2)
set_option maxHeartbeats 8000000 in
set_option maxRecDepth 100000 in
theorem laws_toStore.calls (a0_0 : ByteArray) (a0_1 : ByteArray) (a0_2 : Int) (r1 : ByteArray) (r2 : ByteArray) (r3 : Int) (w : World) (h : laws_toStore.f a0_0 a0_1 a0_2 = some (r1, r2, r3)) :
  Calls Tryd.prog 8 #[.agg #[.string a0_0, .string a0_1, .int .i64 a0_2]] w fun e w' => e = .returned (.agg #[.string r1, .string r2, .int .i64 r3]) ∧ Below w.heap.size w w' := by
 have hu23 := Tryd.underlying23
 have hu26 := Tryd.underlying26
 have HB := Aside0.mk (Below.refl w.heap.size w)
 have H : (some (a0_0, a0_1, a0_2)) = some (r1, r2, r3) := h
 clear h
 simp only [Option.some.injEq, Prod.mk.injEq] at H
 obtain ⟨rfl, rfl, rfl⟩ := H
 go_enter Tryd.func8, Tryd.ntmps8
 go_wp2_with (first | ((with_reducible refine gate_dst (N := 1) rfl ?_); refine box_event ?hg (N := 1) ?hd (cs := #[.string a0_0, .string a0_1, .int .i64 a0_2]) (t := 23) ?hr ?_; (case hd => rfl); (case hg => rfl); (case hr => first | (go_simp; done) | (go_simp; rfl)); intro cM hg w2 hbox hb; have ah := Aside0.mk (hbox); have cN := gx_ HB hg; have cO := gx_ HB hg; replace HB := bs_ HB hb; clear hb hbox hg) | ((with_reducible refine gate_dst (N := 2) rfl ?_); refine box_event ?hg (N := 2) ?hd (cs := #[.string (⟨#[]⟩ : ByteArray), .string (⟨#[]⟩ : ByteArray), .int .i64 0]) (t := 26) ?hr ?_; (case hd => rfl); (case hg => rfl); (case hr => first | (go_simp; done) | (go_simp; rfl)); intro bo hg w3 hbox hb; have am := Aside0.mk (hbox); have cP := gx_ HB hg; have cQ := gx_ HB hg; replace HB := bs_ HB hb; have az := nl_ ah hg; have aA := ng_ ah hg; replace ah := bb_ ah hb; clear hb hbox hg) | ((with_reducible refine gate_dst (N := 3) rfl ?_); refine box_event ?hg (N := 3) ?hd (cs := #[.string (⟨#[]⟩ : ByteArray), .string (⟨#[]⟩ : ByteArray), .int .i64 0]) (t := 26) ?hr ?_; (case hd => rfl); (case hg => rfl); (case hr => first | (go_simp; done) | (go_simp; rfl)); intro cR hg w4 hbox hb; have ao := Aside0.mk (hbox); have cS := gx_ HB hg; have cT := gx_ HB hg; replace HB := bs_ HB hb; have aB := nl_ ah hg; have aC := ng_ ah hg; replace ah := bb_ ah hb; have aD := nl_ am hg; have aE := ng_ am hg; replace am := bb_ am hb; clear hb hbox hg; have di := az.out; have dj := aA.out; have dk := aB.out; have dl := aC.out; have a5 := cz_ ah 0; have a6 := cz_ ah 1; have a7 := cz_ ah 2; have a8 := blk_frozen ah.out 0; have a9 := blk_frozen ah.out 1; have bb := blk_frozen ah.out 2; have dm := aE.out; have dn := aD.out; have cu := cz_ ao 0; have cv := cz_ ao 1; have cw := cz_ ao 2; have cx := blk_frozen ao.out 0; have cy := blk_frozen ao.out 1; have cz := blk_frozen ao.out 2; have ce := cz_ am 0; have cf := cz_ am 1; have cg := cz_ am 2; have ch := blk_frozen am.out 0; have ci := blk_frozen am.out 1; have cj := blk_frozen am.out 2))
 refine bodyPost_ret (results_cell_row rfl _ _ bo 26 #[.string a0_0, .string a0_1, .int .i64 a0_2] (0, 0) _ rfl (ps_ am.out) Tryd.underlying26 rfl (by kernel_rfl)) rfl ?_
 exact ⟨tw_, (tb_ HB.out)⟩

/-! ### strings_Split: function 22 -/
def strings_Split.f (a0 : ByteArray) (a1 : ByteArray) : Option (List ByteArray) := if a0.size < 4294967281 ∧ 1 ≤ a1.size then some (Lib.splitB a1 0 (Lib.countB a0 a1) a0) else none
theorem strings_Split.calls (a0 : ByteArray) (a1 : ByteArray) (r : List ByteArray) (w : World) (hG : GWb w) (h : strings_Split.f a0 a1 = some r) :
  Calls Tryd.prog 22 #[.string a0, .string a1] w fun e w' => ∃ v0_ : Value, e = .returned (v0_) ∧ Kd.R Kd.string 9 w' w.heap.size (fun _ => True) v0_ r ∧ Below w.heap.size w w' := by
 unfold strings_Split.f at h
 split at h
 ·
  rename_i hb
  obtain rfl := Option.some.inj h
  refine (Sh.Tryd.strings_Split_shaped a0 a1 w hG.shape hb.1 hb.2).mono fun e w' ⟨he, hw⟩ => ?_
  have hl : (Lib.splitB a1 0 (Lib.countB a0 a1) a0).length = Lib.countB a0 a1 + 1 := Lib.splitB_all a1 hb.2 0 _ a0 rfl
  have hle := Lib.countB_le a1 hb.2 a0.size a0 (Nat.le_refl _)
  have ho := own_lit_of (enc := Value.string) w w.heap.size 9 (Lib.splitB a1 0 (Lib.countB a0 a1) a0) (Nat.le_refl _) (by rw [hl]; omega)
  refine ⟨_, he, ?_, ?_⟩
  ·
   rw [hw]
   rw [hl] at ho
   exact Kd.R_of_own (by rw [hl]; exact ho) (fun _ _ => trivial)
  ·
   rw [hw]
   exact (Below.refl _ _).alloc (Nat.le_refl _) _
 ·
  cases h

/-! ### strconv_Atoi: function 23 -/
def strconv_Atoi.f (a0 : ByteArray) : Option (Int × Option Int) := if a0.size ≤ 140737488355328 then some (match Lib.atoiAll a0.data.toList with | .ok v => (v, none) | Lib.NumEnd.syntax => (0, some 0) | .range => (Lib.atoiSat a0.data.toList, some 0)) else none
theorem strconv_Atoi.calls (a0 : ByteArray) (r1 : Int) (r2 : Option Int) (w : World) (hG : GWb w) (h : strconv_Atoi.f a0 = some (r1, r2)) :
  Calls Tryd.prog 23 #[.string a0] w fun e w' => ∃ N_ : Int, e = .returned (.tuple #[.int .i64 r1, errW (r2.map fun _ => N_)]) ∧ Below w.heap.size w w' := by
 unfold strconv_Atoi.f at h
 split at h
 ·
  rename_i hb
  rcases ha : Lib.atoiAll a0.data.toList with v | _ | _
  ·
   simp only [ha, Option.some.injEq, Prod.mk.injEq] at h
   obtain ⟨rfl, rfl⟩ := h
   exact (Sh.Tryd.strconv_Atoi_ok a0 (by omega) v ha w).mono fun e w' ⟨he, hw⟩ => ⟨0, he, atoi_below hw⟩
  ·
   simp only [ha, Option.some.injEq, Prod.mk.injEq] at h
   obtain ⟨rfl, rfl⟩ := h
   obtain ⟨t, p, hv⟩ := hG.esyn
   exact (Sh.Tryd.strconv_Atoi_syntax_var a0 (by omega) ha t p w hv).mono fun e w' ⟨N, he, _, _, hw⟩ => ⟨(N : Int), he, hw⟩
  ·
   simp only [ha, Option.some.injEq, Prod.mk.injEq] at h
   obtain ⟨rfl, rfl⟩ := h
   obtain ⟨t, p, hv⟩ := hG.erng
   exact (Sh.Tryd.strconv_Atoi_range_var a0 (by omega) ha t p w hv).mono fun e w' ⟨N, he, _, _, hw⟩ => ⟨(N : Int), he, hw⟩
 ·
  cases h

/-! ### impl_coloursOk: function 64 -/
def impl_coloursOk.f (a0 : Int) : Option (Bool) := if a0 ≥ 1 then (some (decide (a0 ≤ 3))) else (some false)
set_option maxHeartbeats 8000000 in
set_option maxRecDepth 100000 in
theorem impl_coloursOk.calls (a0 : Int) (r : Bool) (w : World) (h : impl_coloursOk.f a0 = some r) :
  Calls Tryd.prog 64 #[.int .i64 a0] w fun e w' => e = .returned (.bool r) ∧ Drawn0 w w' := by
 have H : (if a0 ≥ 1 then (some (decide (a0 ≤ 3))) else (some false)) = some r := h
 clear h
 by_cases c2 : a0 ≥ 1
 ·
  rw [if_pos c2] at H
  have aK : decide (1 ≤ a0) = true := decide_eq_true c2
  clear c2
  obtain rfl := Option.some.inj H
  go_enter Tryd.func64, Tryd.ntmps64
  go_wp2
  go_ret
  exact ⟨tx_, by repeat (first | exact Drawn0.refl _ | apply Drawn0.step)⟩
 ·
  rw [if_neg c2] at H
  have aK : decide (1 ≤ a0) = false := decide_eq_false c2
  clear c2
  obtain rfl := Option.some.inj H
  go_enter Tryd.func64, Tryd.ntmps64
  go_wp2
  go_ret
  exact ⟨tx_, by repeat (first | exact Drawn0.refl _ | apply Drawn0.step)⟩

/-! ### impl_UrnOk: function 63 -/
def impl_UrnOk.l0 : Nat → List Int → List Int → Int → Int → Option (Bool)
 | 0, _, _, _, _ => none
 | k + 1, x0, x5, x6, x7 => if x7 < x6 then (if 0 ≤ x7 then (if x7 < (x5.length : Int) then (if (rd x5 x7) < 0 then (some false) else (if (rd x5 x7) > 40 then (some false) else (impl_UrnOk.l0 k x0 x5 x6 (wrap64 (x7 + 1))))) else (none)) else (none)) else ((impl_coloursOk.f (x0.length : Int)).bind fun bd => (some bd))
def impl_UrnOk.f (k : Nat) (l0 : List Int) : Option (Bool) := impl_UrnOk.l0 k l0 l0 (l0.length : Int) 0
theorem impl_UrnOk.mono_l : ∀ k, (∀ y0 y1 y2 y3, LeO (impl_UrnOk.l0 k y0 y1 y2 y3) (impl_UrnOk.l0 (k + 1) y0 y1 y2 y3))
 | 0 => fun _ _ _ _ r h => by simp [impl_UrnOk.l0] at h
 | k + 1 => by
  have ih0 := impl_UrnOk.mono_l k
  ·
   intro y0 y1 y2 y3
   unfold impl_UrnOk.l0
   repeat' (with_reducible first | exact ih0 _ _ _ _ | exact mr_ | exact mn_ | refine mi_ ?_ ?_ | refine mb_ ?_ (fun _ => ?_))
theorem impl_UrnOk.mono : ∀ a0 k, LeO (impl_UrnOk.f k a0) (impl_UrnOk.f (k + 1) a0) := by
 intro a0 k
 have ih0 := impl_UrnOk.mono_l k
 unfold impl_UrnOk.f
 repeat' (with_reducible first | exact ih0 _ _ _ _ | exact mr_ | exact mn_ | refine mi_ ?_ ?_ | refine mb_ ?_ (fun _ => ?_))
set_option maxHeartbeats 8000000 in
set_option maxRecDepth 100000 in
theorem impl_UrnOk.calls (k : Nat) (A0 : Option Addr) (c0 : Nat) (l0 : List Int) (r : Bool) (w : World) (hr0 : Kd.C (Kd.int .i64) w A0 l0.length l0) (hc0 : l0.length ≤ c0) (h : impl_UrnOk.f k l0 = some r) :
  Calls Tryd.prog 63 #[.slice A0 l0.length c0] w fun e w' => e = .returned (.bool r) ∧ Drawn0 w w' := by
 have HR0 := Aside0.mk hr0
 have HC0 := Aside0.mk hc0
 clear hr0 hc0
 have H : (impl_UrnOk.l0 k l0 l0 (l0.length : Int) 0) = some r := h
 clear h
 have H' := Aside0.mk H
 clear H
 go_enter Tryd.func63, Tryd.ntmps63
 go_wp2
 go_loopg [7] k (fun kq v7 w' => ∃ (ab : Int), v7 = .int .i64 ab ∧ Aside0 (impl_UrnOk.l0 kq l0 l0 (l0.length : Int) ab = some r) ∧ Aside0 (kq ≤ k) ∧ Drawn0 w w')
 case atStart => exact ⟨(0), tx_, H', ⟨Nat.le_refl _⟩, by repeat (first | exact Drawn0.refl _ | apply Drawn0.step)⟩
 case round =>
  clear H'
  obtain ⟨ab, rfl, HA, HK1, ⟨m1, rfl⟩⟩ := hrel
  cases gk with
  | zero => exact absurd HA.out (by simp [impl_UrnOk.l0])
  | succ k1 =>
   have H := HA.out
   clear HA
   simp only [impl_UrnOk.l0] at H
   by_cases c2 : ab < (l0.length : Int)
   ·
    rw [if_pos c2] at H
    have aK : decide (ab < (l0.length : Int)) = true := decide_eq_true c2
    clear c2
    by_cases c3 : 0 ≤ ab
    ·
     rw [if_pos c3] at H
     have be : decide (0 ≤ ab) = true := decide_eq_true c3
     clear c3
     by_cases c4 : ab < (l0.length : Int)
     ·
      rw [if_pos c4] at H
      have aM : decide (ab < (l0.length : Int)) = true := decide_eq_true c4
      clear c4
      by_cases c5 : (rd l0 ab) < 0
      ·
       rw [if_pos c5] at H
       have aF : decide ((rd l0 ab) < 0) = true := decide_eq_true c5
       clear c5
       obtain rfl := Option.some.inj H
       have p241 : 0 ≤ (ab : Int) := od_
       have q241 : ab < (l0.length : Int) := od_
       obtain ⟨ad241, e241, ax⟩ := Kd.at_int HR0.out ab p241 q241
       cases e241
       replace p241 := eq_true p241
       replace q241 := eq_true q241
       go_wp2
       go_ret
       exact ⟨tx_, by repeat (first | exact Drawn0.refl _ | apply Drawn0.step)⟩
      ·
       rw [if_neg c5] at H
       have aF : decide ((rd l0 ab) < 0) = false := decide_eq_false c5
       clear c5
       by_cases c6 : (rd l0 ab) > 40
       ·
        rw [if_pos c6] at H
        have aG : decide (40 < (rd l0 ab)) = true := decide_eq_true c6
        clear c6
        obtain rfl := Option.some.inj H
        have p241 : 0 ≤ (ab : Int) := od_
        have q241 : ab < (l0.length : Int) := od_
        obtain ⟨ad241, e241, ax⟩ := Kd.at_int HR0.out ab p241 q241
        cases e241
        replace p241 := eq_true p241
        replace q241 := eq_true q241
        go_wp2
        go_ret
        exact ⟨tx_, by repeat (first | exact Drawn0.refl _ | apply Drawn0.step)⟩
       ·
        rw [if_neg c6] at H
        have aG : decide (40 < (rd l0 ab)) = false := decide_eq_false c6
        clear c6
        have H' := Aside0.mk H
        clear H
        have p241 : 0 ≤ (ab : Int) := od_
        have q241 : ab < (l0.length : Int) := od_
        obtain ⟨ad241, e241, ax⟩ := Kd.at_int HR0.out ab p241 q241
        cases e241
        replace p241 := eq_true p241
        replace q241 := eq_true q241
        go_wp2
        go_roundg k1
        case measure => have := HK1.out; omega
        case rel => exact ⟨(wrap64 (ab + 1)), tx_, H', ⟨by have := HK1.out; omega⟩, by repeat (first | exact Drawn0.refl _ | apply Drawn0.step)⟩
     ·
      rw [if_neg c4] at H
      exact absurd H (by simp)
    ·
     rw [if_neg c3] at H
     exact absurd H (by simp)
   ·
    rw [if_neg c2] at H
    have aK : decide (ab < (l0.length : Int)) = false := decide_eq_false c2
    clear c2
    obtain ⟨bd, A7, H⟩ := bnd_ H
    try dsimp only at H
    obtain rfl := Option.some.inj H
    go_wp2_with (first | ((with_reducible refine gate_callee (f := 64) rfl ?_); refine gl_ (some 20) Tryd.func64 #[.int .i64 (l0.length : Int)] ?_; (with_reducible refine (impl_coloursOk.calls (l0.length : Int) bd _ A7.out).mono ?_); rintro e w' ⟨rfl, ⟨nd, rfl⟩⟩; refine ⟨_, rfl, ?_⟩))
    go_ret
    exact ⟨tx_, by repeat (first | exact Drawn0.refl _ | apply Drawn0.step)⟩

/-! ### impl_StartOk: function 46 -/
def impl_StartOk.l0 : Nat → List Int → List Int → Int → Int → Option (Bool)
 | 0, _, _, _, _ => none
 | k + 1, x0, x5, x6, x7 => if x7 < x6 then (if 0 ≤ x7 then (if x7 < (x5.length : Int) then (if (rd x5 x7) > 10 then (some false) else (impl_StartOk.l0 k x0 x5 x6 (wrap64 (x7 + 1)))) else (none)) else (none)) else ((impl_UrnOk.f k x0).bind fun bf => (some bf))
def impl_StartOk.f (k : Nat) (l0 : List Int) : Option (Bool) := impl_StartOk.l0 k l0 l0 (l0.length : Int) 0
theorem impl_StartOk.mono_l : ∀ k, (∀ y0 y1 y2 y3, LeO (impl_StartOk.l0 k y0 y1 y2 y3) (impl_StartOk.l0 (k + 1) y0 y1 y2 y3))
 | 0 => fun _ _ _ _ r h => by simp [impl_StartOk.l0] at h
 | k + 1 => by
  have ih0 := impl_StartOk.mono_l k
  ·
   intro y0 y1 y2 y3
   unfold impl_StartOk.l0
   repeat' (with_reducible first | exact ih0 _ _ _ _ | exact impl_UrnOk.mono _ _ | exact mr_ | exact mn_ | refine mi_ ?_ ?_ | refine mb_ ?_ (fun _ => ?_))
theorem impl_StartOk.mono : ∀ a0 k, LeO (impl_StartOk.f k a0) (impl_StartOk.f (k + 1) a0) := by
 intro a0 k
 have ih0 := impl_StartOk.mono_l k
 unfold impl_StartOk.f
 repeat' (with_reducible first | exact ih0 _ _ _ _ | exact impl_UrnOk.mono _ _ | exact mr_ | exact mn_ | refine mi_ ?_ ?_ | refine mb_ ?_ (fun _ => ?_))
set_option maxHeartbeats 8000000 in
set_option maxRecDepth 100000 in
theorem impl_StartOk.calls (k : Nat) (A0 : Option Addr) (c0 : Nat) (l0 : List Int) (r : Bool) (w : World) (hr0 : Kd.C (Kd.int .i64) w A0 l0.length l0) (hc0 : l0.length ≤ c0) (h : impl_StartOk.f k l0 = some r) :
  Calls Tryd.prog 46 #[.slice A0 l0.length c0] w fun e w' => e = .returned (.bool r) ∧ Drawn0 w w' := by
 have HR0 := Aside0.mk hr0
 have HC0 := Aside0.mk hc0
 clear hr0 hc0
 have H : (impl_StartOk.l0 k l0 l0 (l0.length : Int) 0) = some r := h
 clear h
 have H' := Aside0.mk H
 clear H
 go_enter Tryd.func46, Tryd.ntmps46
 go_wp2
 go_loopg [7] k (fun kq v7 w' => ∃ (ab : Int), v7 = .int .i64 ab ∧ Aside0 (impl_StartOk.l0 kq l0 l0 (l0.length : Int) ab = some r) ∧ Aside0 (kq ≤ k) ∧ Drawn0 w w')
 case atStart => exact ⟨(0), tx_, H', ⟨Nat.le_refl _⟩, by repeat (first | exact Drawn0.refl _ | apply Drawn0.step)⟩
 case round =>
  clear H'
  obtain ⟨ab, rfl, HA, HK1, ⟨m1, rfl⟩⟩ := hrel
  cases gk with
  | zero => exact absurd HA.out (by simp [impl_StartOk.l0])
  | succ k1 =>
   have H := HA.out
   clear HA
   simp only [impl_StartOk.l0] at H
   by_cases c2 : ab < (l0.length : Int)
   ·
    rw [if_pos c2] at H
    have aK : decide (ab < (l0.length : Int)) = true := decide_eq_true c2
    clear c2
    by_cases c3 : 0 ≤ ab
    ·
     rw [if_pos c3] at H
     have be : decide (0 ≤ ab) = true := decide_eq_true c3
     clear c3
     by_cases c4 : ab < (l0.length : Int)
     ·
      rw [if_pos c4] at H
      have aM : decide (ab < (l0.length : Int)) = true := decide_eq_true c4
      clear c4
      by_cases c5 : (rd l0 ab) > 10
      ·
       rw [if_pos c5] at H
       have aF : decide (10 < (rd l0 ab)) = true := decide_eq_true c5
       clear c5
       obtain rfl := Option.some.inj H
       have p243 : 0 ≤ (ab : Int) := od_
       have q243 : ab < (l0.length : Int) := od_
       obtain ⟨ad243, e243, aN⟩ := Kd.at_int HR0.out ab p243 q243
       cases e243
       replace p243 := eq_true p243
       replace q243 := eq_true q243
       go_wp2
       go_ret
       exact ⟨tx_, by repeat (first | exact Drawn0.refl _ | apply Drawn0.step)⟩
      ·
       rw [if_neg c5] at H
       have aF : decide (10 < (rd l0 ab)) = false := decide_eq_false c5
       clear c5
       have H' := Aside0.mk H
       clear H
       have p243 : 0 ≤ (ab : Int) := od_
       have q243 : ab < (l0.length : Int) := od_
       obtain ⟨ad243, e243, aN⟩ := Kd.at_int HR0.out ab p243 q243
       cases e243
       replace p243 := eq_true p243
       replace q243 := eq_true q243
       go_wp2
       go_roundg k1
       case measure => have := HK1.out; omega
       case rel => exact ⟨(wrap64 (ab + 1)), tx_, H', ⟨by have := HK1.out; omega⟩, by repeat (first | exact Drawn0.refl _ | apply Drawn0.step)⟩
     ·
      rw [if_neg c4] at H
      exact absurd H (by simp)
    ·
     rw [if_neg c3] at H
     exact absurd H (by simp)
   ·
    rw [if_neg c2] at H
    have aK : decide (ab < (l0.length : Int)) = false := decide_eq_false c2
    clear c2
    obtain ⟨bf, A6, H⟩ := bnd_ H
    try dsimp only at H
    obtain rfl := Option.some.inj H
    go_wp2_with (first | ((with_reducible refine gate_callee (f := 63) rfl ?_); refine gl_ (some 15) Tryd.func63 #[.slice A0 l0.length c0] ?_; (with_reducible refine (impl_UrnOk.calls k1 _ _ l0 bf _ ?s1 ?s2 A6.out).mono ?_); (case s1 => exact td_); (case s2 => exact HC0.out); rintro e w' ⟨rfl, ⟨nd, rfl⟩⟩; refine ⟨_, rfl, ?_⟩))
    go_ret
    exact ⟨tx_, by repeat (first | exact Drawn0.refl _ | apply Drawn0.step)⟩

/-! ### impl_WordOk: function 47 -/
def impl_WordOk.l0 : Nat → Int → List Int → List Int → Int → Int → Option (Bool)
 | 0, _, _, _, _, _ => none
 | k + 1, x0, x1, x7, x8, x9 => if x9 < x8 then (if 0 ≤ x9 then (if x9 < (x7.length : Int) then (if (rd x7 x9) < 0 then (some false) else (if (rd x7 x9) ≥ x0 then (some false) else (impl_WordOk.l0 k x0 x1 x7 x8 (wrap64 (x9 + 1))))) else (none)) else (none)) else ((impl_coloursOk.f x0).bind fun bg => (if bg = true then (some (decide ((x1.length : Int) ≤ 6))) else (some false)))
def impl_WordOk.f (k : Nat) (a0 : Int) (l1 : List Int) : Option (Bool) := impl_WordOk.l0 k a0 l1 l1 (l1.length : Int) 0
theorem impl_WordOk.mono_l : ∀ k, (∀ y0 y1 y2 y3 y4, LeO (impl_WordOk.l0 k y0 y1 y2 y3 y4) (impl_WordOk.l0 (k + 1) y0 y1 y2 y3 y4))
 | 0 => fun _ _ _ _ _ r h => by simp [impl_WordOk.l0] at h
 | k + 1 => by
  have ih0 := impl_WordOk.mono_l k
  ·
   intro y0 y1 y2 y3 y4
   unfold impl_WordOk.l0
   repeat' (with_reducible first | exact ih0 _ _ _ _ _ | exact mr_ | exact mn_ | refine mi_ ?_ ?_ | refine mb_ ?_ (fun _ => ?_))
theorem impl_WordOk.mono : ∀ a0 a1 k, LeO (impl_WordOk.f k a0 a1) (impl_WordOk.f (k + 1) a0 a1) := by
 intro a0 a1 k
 have ih0 := impl_WordOk.mono_l k
 unfold impl_WordOk.f
 repeat' (with_reducible first | exact ih0 _ _ _ _ _ | exact mr_ | exact mn_ | refine mi_ ?_ ?_ | refine mb_ ?_ (fun _ => ?_))
set_option maxHeartbeats 8000000 in
set_option maxRecDepth 100000 in
theorem impl_WordOk.calls (k : Nat) (a0 : Int) (A1 : Option Addr) (c1 : Nat) (l1 : List Int) (r : Bool) (w : World) (hr1 : Kd.C (Kd.int .i64) w A1 l1.length l1) (hc1 : l1.length ≤ c1) (h : impl_WordOk.f k a0 l1 = some r) :
  Calls Tryd.prog 47 #[.int .i64 a0, .slice A1 l1.length c1] w fun e w' => e = .returned (.bool r) ∧ Drawn0 w w' := by
 have HR1 := Aside0.mk hr1
 have HC1 := Aside0.mk hc1
 clear hr1 hc1
 have H : (impl_WordOk.l0 k a0 l1 l1 (l1.length : Int) 0) = some r := h
 clear h
 have H' := Aside0.mk H
 clear H
 go_enter Tryd.func47, Tryd.ntmps47
 go_wp2
 go_loopg [9] k (fun kq v9 w' => ∃ (ag : Int), v9 = .int .i64 ag ∧ Aside0 (impl_WordOk.l0 kq a0 l1 l1 (l1.length : Int) ag = some r) ∧ Aside0 (kq ≤ k) ∧ Drawn0 w w')
 case atStart => exact ⟨(0), tx_, H', ⟨Nat.le_refl _⟩, by repeat (first | exact Drawn0.refl _ | apply Drawn0.step)⟩
 case round =>
  clear H'
  try clear c1
  try clear p2
  obtain ⟨ag, rfl, HA, HK1, ⟨m1, rfl⟩⟩ := hrel
  cases gk with
  | zero => exact absurd HA.out (by simp [impl_WordOk.l0])
  | succ k1 =>
   have H := HA.out
   clear HA
   simp only [impl_WordOk.l0] at H
   by_cases c3 : ag < (l1.length : Int)
   ·
    rw [if_pos c3] at H
    have be : decide (ag < (l1.length : Int)) = true := decide_eq_true c3
    clear c3
    by_cases c4 : 0 ≤ ag
    ·
     rw [if_pos c4] at H
     have aM : decide (0 ≤ ag) = true := decide_eq_true c4
     clear c4
     by_cases c5 : ag < (l1.length : Int)
     ·
      rw [if_pos c5] at H
      have aF : decide (ag < (l1.length : Int)) = true := decide_eq_true c5
      clear c5
      by_cases c6 : (rd l1 ag) < 0
      ·
       rw [if_pos c6] at H
       have aG : decide ((rd l1 ag) < 0) = true := decide_eq_true c6
       clear c6
       obtain rfl := Option.some.inj H
       have p245 : 0 ≤ (ag : Int) := od_
       have q245 : ag < (l1.length : Int) := od_
       obtain ⟨ad245, e245, ay⟩ := Kd.at_int HR1.out ag p245 q245
       cases e245
       replace p245 := eq_true p245
       replace q245 := eq_true q245
       go_wp2
       go_ret
       exact ⟨tx_, by repeat (first | exact Drawn0.refl _ | apply Drawn0.step)⟩
      ·
       rw [if_neg c6] at H
       have aG : decide ((rd l1 ag) < 0) = false := decide_eq_false c6
       clear c6
       by_cases c7 : (rd l1 ag) ≥ a0
       ·
        rw [if_pos c7] at H
        have bh : decide (a0 ≤ (rd l1 ag)) = true := decide_eq_true c7
        clear c7
        obtain rfl := Option.some.inj H
        have p245 : 0 ≤ (ag : Int) := od_
        have q245 : ag < (l1.length : Int) := od_
        obtain ⟨ad245, e245, ay⟩ := Kd.at_int HR1.out ag p245 q245
        cases e245
        replace p245 := eq_true p245
        replace q245 := eq_true q245
        go_wp2
        go_ret
        exact ⟨tx_, by repeat (first | exact Drawn0.refl _ | apply Drawn0.step)⟩
       ·
        rw [if_neg c7] at H
        have bh : decide (a0 ≤ (rd l1 ag)) = false := decide_eq_false c7
        clear c7
        have H' := Aside0.mk H
        clear H
        have p245 : 0 ≤ (ag : Int) := od_
        have q245 : ag < (l1.length : Int) := od_
        obtain ⟨ad245, e245, ay⟩ := Kd.at_int HR1.out ag p245 q245
        cases e245
        replace p245 := eq_true p245
        replace q245 := eq_true q245
        go_wp2
        go_roundg k1
        case measure => have := HK1.out; omega
        case rel => exact ⟨(wrap64 (ag + 1)), tx_, H', ⟨by have := HK1.out; omega⟩, by repeat (first | exact Drawn0.refl _ | apply Drawn0.step)⟩
     ·
      rw [if_neg c5] at H
      exact absurd H (by simp)
    ·
     rw [if_neg c4] at H
     exact absurd H (by simp)
   ·
    rw [if_neg c3] at H
    have be : decide (ag < (l1.length : Int)) = false := decide_eq_false c3
    clear c3
    obtain ⟨bg, A8, H⟩ := bnd_ H
    try dsimp only at H
    by_cases c9 : bg = true
    ·
     subst c9
     have H1 : (some (decide ((l1.length : Int) ≤ 6))) = some r := by rw [if_pos rfl] at H; exact H
     clear H
     have H := H1
     clear H1
     obtain rfl := Option.some.inj H
     go_wp2_with (first | ((with_reducible refine gate_callee (f := 64) rfl ?_); refine gl_ (some 22) Tryd.func64 #[.int .i64 a0] ?_; (with_reducible refine (impl_coloursOk.calls a0 true _ A8.out).mono ?_); rintro e w' ⟨rfl, ⟨nd, rfl⟩⟩; refine ⟨_, rfl, ?_⟩))
     go_ret
     exact ⟨tx_, by repeat (first | exact Drawn0.refl _ | apply Drawn0.step)⟩
    ·
     replace c9 := Bool.eq_false_iff.mpr c9
     subst c9
     have H1 : (some false) = some r := by rw [if_neg (show ¬ (false = true) by decide)] at H; exact H
     clear H
     have H := H1
     clear H1
     obtain rfl := Option.some.inj H
     go_wp2_with (first | ((with_reducible refine gate_callee (f := 64) rfl ?_); refine gl_ (some 22) Tryd.func64 #[.int .i64 a0] ?_; (with_reducible refine (impl_coloursOk.calls a0 false _ A8.out).mono ?_); rintro e w' ⟨rfl, ⟨nd, rfl⟩⟩; refine ⟨_, rfl, ?_⟩))
     go_ret
     exact ⟨tx_, by repeat (first | exact Drawn0.refl _ | apply Drawn0.step)⟩

/-! ### slices_Clone_int_int: function 77 -/
def slices_Clone_int_int.f (l0 : List Int) : Option (List Int) := if l0.length * 8 ≤ 140737488355328 then some l0 else none
theorem slices_Clone_int_int.calls (A0 : Option Addr) (c0 : Nat) (l0 : List Int) (r : List Int) (w : World) (hr0 : Kd.C (Kd.int .i64) w A0 l0.length l0) (hc0 : l0.length ≤ c0) (h : slices_Clone_int_int.f l0 = some r) :
  Calls Tryd.prog 77 #[.slice A0 l0.length c0] w fun e w' => ∃ v0_ : Value, e = .returned (v0_) ∧ Kd.R (Kd.int .i64) 3 w' w.heap.size (fun _ => True) v0_ r ∧ Below w.heap.size w w' := by
 unfold slices_Clone_int_int.f at h
 by_cases hl : l0.length * 8 ≤ 140737488355328
 ·
  rw [if_pos hl] at h
  obtain rfl := Option.some.inj h
  rcases Nat.eq_zero_or_pos l0.length with h0 | h0
  ·
   obtain rfl : l0 = [] := List.eq_nil_of_length_eq_zero h0
   cases A0 with
   | none => exact (Sh.Tryd.slices_Clone_int_nil 0 c0 w).mono fun e w' ⟨he, hw⟩ => ⟨.slice none 0 0, he, Kd.R_nil _ _ _ _ _, hw ▸ Below.refl _ _⟩
   | some ad => exact (Sh.Tryd.slices_Clone_int_zero ad c0 w).mono fun e w' ⟨v, he, ho, _, hb⟩ => ⟨v, he, Kd.R_of_own (xs := []) ho (fun _ _ => trivial), hb⟩
  ·
   obtain ⟨ad, rfl, hc⟩ := hr0.2.2 h0
   have hcell : ∀ j, j < l0.length → w.cell? (ad.add j) = some (.int .i64 (l0.getD j 0)) := by
    intro j hj
    obtain ⟨c, hc1, hc2, hc3⟩ := hc j _ (List.getElem?_eq_getElem hj)
    have e1 : c = [.int .i64 l0[j]] := hc2
    have := hc3 0 _ (by rw [e1]; rfl)
    rw [List.getD_eq_getElem?_getD, List.getElem?_eq_getElem hj]
    simpa [Kd.int, Kd.scalar] using this
   have hs := hcell 0 h0
   have hsp : ad.spot = none := by
    cases hq : ad.spot with
    | none => rfl
    | some q => simp [World.cell?, Addr.add, hq] at hs; split at hs <;> simp at hs
   obtain ⟨b, o, sp⟩ := ad
   simp only at hsp
   subst hsp
   refine (Sh.Tryd.slices_Clone_int b o l0.length c0 l0 w (Nat.le_refl _) hl (fun j hj => by have := hcell j hj; unfold Addr.add at this; split at this <;> simp_all)).mono fun e w' ⟨v, he, ho, _, hb⟩ => ⟨v, he, Kd.R_of_own (by rw [List.take_length] at ho; exact ho) (fun _ _ => trivial), hb⟩
 ·
  rw [if_neg hl] at h
  exact absurd h (by simp)

/-! ### impl_added: function 78 -/
def impl_added.l0 : Nat → List Int → List Int → Int → Int → Option (List Int)
 | 0, _, _, _, _ => none
 | k + 1, x5, x10, x11, x12 => if x12 < x11 then (if 0 ≤ x12 then (if x12 < (x10.length : Int) then (if x12 < (x5.length : Int) then (impl_added.l0 k (x5.set (x12 : Int).toNat (wrap64 ((rd x5 x12) + (rd x10 x12)))) x10 x11 (wrap64 (x12 + 1))) else (none)) else (none)) else (none)) else (some x5)
def impl_added.f (k : Nat) (l0 : List Int) (l1 : List Int) : Option (List Int) := (slices_Clone_int_int.f l0).bind fun aH => (impl_added.l0 k aH l1 (l1.length : Int) 0)
theorem impl_added.mono_l : ∀ k, (∀ y0 y1 y2 y3, LeO (impl_added.l0 k y0 y1 y2 y3) (impl_added.l0 (k + 1) y0 y1 y2 y3))
 | 0 => fun _ _ _ _ r h => by simp [impl_added.l0] at h
 | k + 1 => by
  have ih0 := impl_added.mono_l k
  ·
   intro y0 y1 y2 y3
   unfold impl_added.l0
   repeat' (with_reducible first | exact ih0 _ _ _ _ | exact mr_ | exact mn_ | refine mi_ ?_ ?_ | refine mb_ ?_ (fun _ => ?_))
theorem impl_added.mono : ∀ a0 a1 k, LeO (impl_added.f k a0 a1) (impl_added.f (k + 1) a0 a1) := by
 intro a0 a1 k
 have ih0 := impl_added.mono_l k
 unfold impl_added.f
 repeat' (with_reducible first | exact ih0 _ _ _ _ | exact mr_ | exact mn_ | refine mi_ ?_ ?_ | refine mb_ ?_ (fun _ => ?_))
set_option maxHeartbeats 8000000 in
set_option maxRecDepth 100000 in
theorem impl_added.calls (k : Nat) (A0 : Option Addr) (c0 : Nat) (l0 : List Int) (A1 : Option Addr) (c1 : Nat) (l1 : List Int) (r : List Int) (w : World) (hr0 : Kd.C (Kd.int .i64) w A0 l0.length l0) (hc0 : l0.length ≤ c0) (hr1 : Kd.C (Kd.int .i64) w A1 l1.length l1) (hc1 : l1.length ≤ c1) (h : impl_added.f k l0 l1 = some r) :
  Calls Tryd.prog 78 #[.slice A0 l0.length c0, .slice A1 l1.length c1] w fun e w' => ∃ v0_ : Value, e = .returned (v0_) ∧ Kd.R (Kd.int .i64) 3 w' w.heap.size (fun _ => True) v0_ r ∧ Below w.heap.size w w' := by
 have HR0 := Aside0.mk hr0
 have HC0 := Aside0.mk hc0
 clear hr0 hc0
 have HR1 := Aside0.mk hr1
 have HC1 := Aside0.mk hc1
 clear hr1 hc1
 have HB := Aside0.mk (Below.refl w.heap.size w)
 have H : ((slices_Clone_int_int.f l0).bind fun aH => (impl_added.l0 k aH l1 (l1.length : Int) 0)) = some r := h
 clear h
 obtain ⟨aH, A3, H⟩ := bnd_ H
 try dsimp only at H
 have H' := Aside0.mk H
 clear H
 go_enter Tryd.func78, Tryd.ntmps78
 go_wp2_with (first | ((with_reducible refine gate_callee (f := 77) rfl ?_); refine gl_ (some 9) Tryd.func77 #[.slice A0 l0.length c0] ?_; (with_reducible refine (slices_Clone_int_int.calls _ _ l0 aH _ ?s1 ?s2 A3.out).mono ?_); (case s1 => exact td_); (case s2 => exact HC0.out); rintro e w4 ⟨cA, rfl, ho0, hb⟩; refine ⟨_, rfl, ?_⟩; have bp := rx_ ho0 HB; replace HB := bs_ HB hb; (try clear hb); (try clear hb2); (try clear hk); (try clear hi); (try clear ho0)))
 go_loopg [12] k (fun kq dp w' => ∃ (an : List Int) (ac : Int), dp = .int .i64 ac ∧ Aside0 (impl_added.l0 kq an l1 (l1.length : Int) ac = some r) ∧ Aside0 (kq ≤ k) ∧ Aside0 (Kd.R (Kd.int .i64) 3 w' w.heap.size (fun _ => True) cA an) ∧ Aside0 (Below w.heap.size w w'))
 case atStart => exact ⟨(aH), (0), tx_, H', ⟨Nat.le_refl _⟩, ⟨rR_ bp.out⟩, ⟨(tb_ HB.out)⟩⟩
 case round =>
  clear H'
  try clear c1
  try clear p2
  obtain ⟨an, ac, rfl, HA, HK1, au, HB⟩ := hrel
  cases gk with
  | zero => exact absurd HA.out (by simp [impl_added.l0])
  | succ k1 =>
   have H := HA.out
   clear HA
   simp only [impl_added.l0] at H
   by_cases c5 : ac < (l1.length : Int)
   ·
    rw [if_pos c5] at H
    have aF : decide (ac < (l1.length : Int)) = true := decide_eq_true c5
    clear c5
    by_cases c6 : 0 ≤ ac
    ·
     rw [if_pos c6] at H
     have aG : decide (0 ≤ ac) = true := decide_eq_true c6
     clear c6
     by_cases c7 : ac < (l1.length : Int)
     ·
      rw [if_pos c7] at H
      have bh : decide (ac < (l1.length : Int)) = true := decide_eq_true c7
      clear c7
      by_cases c8 : ac < (an.length : Int)
      ·
       rw [if_pos c8] at H
       have cB : decide (ac < (an.length : Int)) = true := decide_eq_true c8
       clear c8
       obtain ⟨bi, aL⟩ : ∃ y_ : List Int, y_ = (an.set (ac : Int).toNat (wrap64 ((rd an ac) + (rd l1 ac)))) := ⟨_, rfl⟩
       replace H : (impl_added.l0 k1 bi l1 (l1.length : Int) (wrap64 (ac + 1))) = some r := yq_ aL H
       have bq := Aside0.mk aL
       clear aL
       have H' := Aside0.mk H
       clear H
       have p250 : 0 ≤ (ac : Int) := od_
       have q250 : ac < (l1.length : Int) := od_
       obtain ⟨ad250, e250, ap⟩ := Kd.at_int HR1.out ac p250 q250
       cases e250
       replace ap := (HB.out.cell (World.block_lt_of_cell? w _ ap)).trans ap
       replace p250 := eq_true p250
       replace q250 := eq_true q250
       obtain ⟨cn, bn, bc⟩ := Kd.R_slice au.out
       subst bc
       have p251 : 0 ≤ (ac : Int) := od_
       have q251 : ac < (an.length : Int) := od_
       obtain ⟨ad251, e251, aO⟩ := Kd.at_int (Kd.R_reads' au.out).2.2 ac p251 q251
       cases e251
       replace p251 := eq_true p251
       replace q251 := eq_true q251
       have p9 : 0 ≤ (ac : Int) := od_
       have q9 : (ac : Int) < ((an.length : Int) : Int) := od_
       obtain ⟨go9, co9, cU, cV, gl9, cl9, HG9⟩ := Kd.R_form au.out (by omega)
       (first | cases cU | (injection cU with ea_ en_ ec_; (first | subst ea_ | (injection ea_ with ea_; subst ea_)); subst ec_; clear en_))
       have GB9 := Aside0.mk cV
       have GG9 := Aside0.mk HG9
       clear cV gl9 HG9
       (first | simp only [add_plain] at aO | skip)
       obtain ⟨cW, hf9_0⟩ := Kd.R_celln 0 au.out (ac : Int) p9 q9
       replace p9 := eq_true p9
       replace q9 := eq_true q9
       have HP11 := Kd.R_putg au.out (ac : Int) (wrap64 ((rd an ac) + (rd l1 ac)))
       go_wp2_with (first | ((with_reducible refine gate_store (t := 3) (p := 23) rfl ?_); refine store_event (t := 3) (p := 23) (v := ?vo_w12) (w1 := (wr.setCell ⟨go9, (ac : Int).toNat, none⟩ (.int .i64 (wrap64 ((rd an ac) + (rd l1 ac)))))) ?hg ?ho ?hn ?hr ?_; (case ho => rfl); (case hg => rfl); (case hn => rfl); (case hr => first | (go_simp; done) | (go_simp; rfl)); intro cC hw; have hg : wr.grownBy cC (some go9) := (by rw [hw]; exact HP11.2); have hp_ : Kd.R (Kd.int .i64) 3 cC w.heap.size (fun _ => True) (.slice (some ⟨go9, 0, none⟩) an.length bn) bi := (by rw [hw, bq.out]; exact HP11.1); clear HP11; replace au := Aside0.mk (hp_); replace HB := Aside0.mk ((by rw [hw]; exact below_set (HB.out) GB9.out : Below w.heap.size w cC)); clear hg hw hp_))
       go_roundg k1
       case measure => have := HK1.out; omega
       case rel => exact ⟨(bi), (wrap64 (ac + 1)), tx_, H', ⟨by have := HK1.out; omega⟩, ⟨rR_ au.out⟩, ⟨(tb_ HB.out)⟩⟩
      ·
       rw [if_neg c8] at H
       exact absurd H (by simp)
     ·
      rw [if_neg c7] at H
      exact absurd H (by simp)
    ·
     rw [if_neg c6] at H
     exact absurd H (by simp)
   ·
    rw [if_neg c5] at H
    have aF : decide (ac < (l1.length : Int)) = false := decide_eq_false c5
    clear c5
    obtain rfl := Option.some.inj H
    go_wp2
    go_ret
    exact ⟨_, tw_, by refine qR_ ?_; exact au.out, (tb_ HB.out)⟩

/-! ### impl_after: function 65 -/
def impl_after.l0 : Nat → List (List Int) → List Int → List Int → Int → Int → Option (List Int)
 | 0, _, _, _, _, _ => none
 | k + 1, x1, x7, x12, x13, x14 => if x14 < x13 then (if 0 ≤ x14 then (if x14 < (x12.length : Int) then (if 0 ≤ (rd x12 x14) then (if (rd x12 x14) < (x1.length : Int) then ((impl_added.f k x7 (rd_L2 x1 (rd x12 x14))).bind fun aP => (impl_after.l0 k x1 aP x12 x13 (wrap64 (x14 + 1)))) else (none)) else (none)) else (none)) else (none)) else (some x7)
def impl_after.f (k : Nat) (l0 : List Int) (l1 : List (List Int)) (l2 : List Int) : Option (List Int) := (slices_Clone_int_int.f l0).bind fun aI => (impl_after.l0 k l1 aI l2 (l2.length : Int) 0)
theorem impl_after.mono_l : ∀ k, (∀ y0 y1 y2 y3 y4, LeO (impl_after.l0 k y0 y1 y2 y3 y4) (impl_after.l0 (k + 1) y0 y1 y2 y3 y4))
 | 0 => fun _ _ _ _ _ r h => by simp [impl_after.l0] at h
 | k + 1 => by
  have ih0 := impl_after.mono_l k
  ·
   intro y0 y1 y2 y3 y4
   unfold impl_after.l0
   repeat' (with_reducible first | exact ih0 _ _ _ _ _ | exact impl_added.mono _ _ _ | exact mr_ | exact mn_ | refine mi_ ?_ ?_ | refine mb_ ?_ (fun _ => ?_))
theorem impl_after.mono : ∀ a0 a1 a2 k, LeO (impl_after.f k a0 a1 a2) (impl_after.f (k + 1) a0 a1 a2) := by
 intro a0 a1 a2 k
 have ih0 := impl_after.mono_l k
 unfold impl_after.f
 repeat' (with_reducible first | exact ih0 _ _ _ _ _ | exact impl_added.mono _ _ _ | exact mr_ | exact mn_ | refine mi_ ?_ ?_ | refine mb_ ?_ (fun _ => ?_))
set_option maxHeartbeats 8000000 in
set_option maxRecDepth 100000 in
theorem impl_after.calls (k : Nat) (A0 : Option Addr) (c0 : Nat) (l0 : List Int) (A1 : Option Addr) (c1 : Nat) (l1 : List (List Int)) (A2 : Option Addr) (c2 : Nat) (l2 : List Int) (r : List Int) (w : World) (hr0 : Kd.C (Kd.int .i64) w A0 l0.length l0) (hc0 : l0.length ≤ c0) (hr1 : Kd.C (Kd.slice 3 (Kd.int .i64)) w A1 l1.length l1) (hc1 : l1.length ≤ c1) (hr2 : Kd.C (Kd.int .i64) w A2 l2.length l2) (hc2 : l2.length ≤ c2) (h : impl_after.f k l0 l1 l2 = some r) :
  Calls Tryd.prog 65 #[.slice A0 l0.length c0, .slice A1 l1.length c1, .slice A2 l2.length c2] w fun e w' => ∃ v0_ : Value, e = .returned (v0_) ∧ Kd.R (Kd.int .i64) 3 w' w.heap.size (fun _ => True) v0_ r ∧ Below w.heap.size w w' := by
 have HR0 := Aside0.mk hr0
 have HC0 := Aside0.mk hc0
 clear hr0 hc0
 have HR1 := Aside0.mk hr1
 have HC1 := Aside0.mk hc1
 clear hr1 hc1
 have HR2 := Aside0.mk hr2
 have HC2 := Aside0.mk hc2
 clear hr2 hc2
 have HB := Aside0.mk (Below.refl w.heap.size w)
 have H : ((slices_Clone_int_int.f l0).bind fun aI => (impl_after.l0 k l1 aI l2 (l2.length : Int) 0)) = some r := h
 clear h
 obtain ⟨aI, A4, H⟩ := bnd_ H
 try dsimp only at H
 have H' := Aside0.mk H
 clear H
 go_enter Tryd.func65, Tryd.ntmps65
 go_wp2_with (first | ((with_reducible refine gate_callee (f := 77) rfl ?_); refine gl_ (some 11) Tryd.func77 #[.slice A0 l0.length c0] ?_; (with_reducible refine (slices_Clone_int_int.calls _ _ l0 aI _ ?s1 ?s2 A4.out).mono ?_); (case s1 => exact td_); (case s2 => exact HC0.out); rintro e w5 ⟨dq, rfl, ho0, hb⟩; refine ⟨_, rfl, ?_⟩; have br := rx_ ho0 HB; replace HB := bs_ HB hb; (try clear hb); (try clear hb2); (try clear hk); (try clear hi); (try clear ho0)))
 go_loopg [7, 14] k (fun kq v7 dr w' => ∃ (ab : List Int) (ae : Int), dr = .int .i64 ae ∧ Aside0 (impl_after.l0 kq l1 ab l2 (l2.length : Int) ae = some r) ∧ Aside0 (kq ≤ k) ∧ Aside0 (Kd.R (Kd.int .i64) 3 w' w.heap.size (fun _ => True) v7 ab) ∧ Aside0 (Below w.heap.size w w'))
 case atStart => exact ⟨(aI), (0), tx_, H', ⟨Nat.le_refl _⟩, ⟨rR_ br.out⟩, ⟨(tb_ HB.out)⟩⟩
 case round =>
  clear H'
  try clear c1
  try clear c2
  try clear p2
  obtain ⟨ab, ae, rfl, HA, HK1, aw, HB⟩ := hrel
  cases gk with
  | zero => exact absurd HA.out (by simp [impl_after.l0])
  | succ k1 =>
   have H := HA.out
   clear HA
   simp only [impl_after.l0] at H
   by_cases c6 : ae < (l2.length : Int)
   ·
    rw [if_pos c6] at H
    have aG : decide (ae < (l2.length : Int)) = true := decide_eq_true c6
    clear c6
    by_cases c7 : 0 ≤ ae
    ·
     rw [if_pos c7] at H
     have bh : decide (0 ≤ ae) = true := decide_eq_true c7
     clear c7
     by_cases c8 : ae < (l2.length : Int)
     ·
      rw [if_pos c8] at H
      have cB : decide (ae < (l2.length : Int)) = true := decide_eq_true c8
      clear c8
      by_cases c9 : 0 ≤ (rd l2 ae)
      ·
       rw [if_pos c9] at H
       have ds : decide (0 ≤ (rd l2 ae)) = true := decide_eq_true c9
       clear c9
       by_cases c10 : (rd l2 ae) < (l1.length : Int)
       ·
        rw [if_pos c10] at H
        have cX : decide ((rd l2 ae) < (l1.length : Int)) = true := decide_eq_true c10
        clear c10
        obtain ⟨aP, A11, H⟩ := bnd_ H
        try dsimp only at H
        have H' := Aside0.mk H
        clear H
        have p256 : 0 ≤ (ae : Int) := od_
        have q256 : ae < (l2.length : Int) := od_
        obtain ⟨ad256, e256, aq⟩ := Kd.at_int HR2.out ae p256 q256
        cases e256
        replace aq := (HB.out.cell (World.block_lt_of_cell? w _ aq)).trans aq
        replace p256 := eq_true p256
        replace q256 := eq_true q256
        have p257 : 0 ≤ ((rd l2 ae) : Int) := od_
        have q257 : (rd l2 ae) < (l1.length : Int) := od_
        obtain ⟨ad257, bj, bk, e257, ar, hl257_0, hi257_0⟩ := at_L2 HR1.out (rd l2 ae) p257 q257
        cases e257
        replace ar := (HB.out.cell (World.block_lt_of_cell? w _ ar)).trans ar
        have ck := Aside0.mk hi257_0
        have aQ := Aside0.mk hl257_0
        clear hi257_0 hl257_0
        replace p257 := eq_true p257
        replace q257 := eq_true q257
        obtain ⟨cD, cE, cF⟩ := Kd.R_slice aw.out
        subst cF
        go_wp2_with (first | ((with_reducible refine gate_callee (f := 78) rfl ?_); refine gl_ (some 23) Tryd.func78 #[.slice cD ab.length cE, .slice bj (rd_L2 l1 (rd l2 ae)).length bk] ?_; (with_reducible refine (impl_added.calls k1 _ _ ab _ _ (rd_L2 l1 (rd l2 ae)) aP _ ?s1 ?s2 ?s3 ?s4 A11.out).mono ?_); (case s1 => repeat (first | exact (Kd.R_reads' aw.out).2.2 | (with_reducible refine Kd.C_alloc ?_ _) | (with_reducible refine Kd.C_drewN ?_ _) | (with_reducible refine Kd.C_drew ?_))); (case s2 => exact (Kd.R_reads' aw.out).2.1); (case s3 => exact tD_); (case s4 => exact aQ.out); rintro e dA ⟨dt, rfl, ho0, hb⟩; refine ⟨_, rfl, ?_⟩; have bs := Aside0.mk (Kd.R_lower (Kd.R_new' ho0 (Kd.R_lt (rR_ aw.out))) (below_size (tb_ HB.out))); replace aw := Aside0.mk (Kd.R_elder' (rR_ aw.out) (Kd.R_base ho0) hb); replace HB := bs_ HB hb; (try clear hb); (try clear hb2); (try clear hk); (try clear hi); (try clear ho0)))
        go_roundg k1
        case measure => have := HK1.out; omega
        case rel => exact ⟨(aP), (wrap64 (ae + 1)), tx_, H', ⟨by have := HK1.out; omega⟩, ⟨by refine qR_ ?_; exact Kd.R_mono bs.out (fun _ hk => trivial)⟩, ⟨(tb_ HB.out)⟩⟩
       ·
        rw [if_neg c10] at H
        exact absurd H (by simp)
      ·
       rw [if_neg c9] at H
       exact absurd H (by simp)
     ·
      rw [if_neg c8] at H
      exact absurd H (by simp)
    ·
     rw [if_neg c7] at H
     exact absurd H (by simp)
   ·
    rw [if_neg c6] at H
    have aG : decide (ae < (l2.length : Int)) = false := decide_eq_false c6
    clear c6
    obtain rfl := Option.some.inj H
    go_wp2
    go_ret
    exact ⟨_, tw_, by refine qR_ ?_; exact aw.out, (tb_ HB.out)⟩

end Go.Proofs.YtfibbdefcppfcaaDoor.MFnExactStoreOk
