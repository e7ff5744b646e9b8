/- For the law FnExactStoreCrash: walks of the functions that it reaches: each call returns what the plain function beside it tells. The conditions stand in each statement. -/
import Derived.Test.YtfibbdefcppfcaaDoorV
import Derived.Test.YtfibbdefcppfcaaDoorMFnExactStoreCrashx0
import Derived.Test.YtfibbdefcppfcaaDoorMFnExactStoreCrashx1
import Derived.Test.YtfibbdefcppfcaaDoorMFnExactStoreCrashx6
namespace Go.Proofs.YtfibbdefcppfcaaDoor.MFnExactStoreCrash
open Go.RowKit Go.Proofs.YtfibbdefcppfcaaDoorW.PrintWords Go.Proofs.YtfibbdefcppfcaaDoorW.PrintLast Go.Proofs.YtfibbdefcppfcaaDoorW.PrintMore
attribute [local go_sem] max2_int min2_int max_two min_two max_three min_three max_four min_four   -- for this text's walks alone
set_option linter.unusedVariables false
set_option linter.unusedSimpArgs false

/-! ### spec_StoreOk: function 7 -/
def spec_StoreOk.f (k : Nat) (a0_0 : ByteArray) (a0_1 : ByteArray) (a0_2 : Int) : Option (Bool) := (spec_ReadPlace.f k a0_0).bind fun av => (if av.2.2.2 = true then (if (a0_1.size : Int) ≤ 1000 then ((spec_l1In.f a0_2 0 (a0_1.size : Int)).bind fun ap => (some ap)) else (some false)) else (some false))
theorem spec_StoreOk.mono : ∀ a0 a1 a2 k, LeO (spec_StoreOk.f k a0 a1 a2) (spec_StoreOk.f (k + 1) a0 a1 a2) := by
 intro a0 a1 a2 k
 unfold spec_StoreOk.f
 repeat' (with_reducible first | exact spec_ReadPlace.mono _ _ | exact mr_ | exact mn_ | refine mi_ ?_ ?_ | refine mb_ ?_ (fun _ => ?_))
set_option maxHeartbeats 8000000 in
set_option maxRecDepth 100000 in
theorem spec_StoreOk.calls (k : Nat) (a0_0 : ByteArray) (a0_1 : ByteArray) (a0_2 : Int) (r : Bool) (w : World) (h : spec_StoreOk.f k a0_0 a0_1 a0_2 = some r) :
  Calls Tryd.prog 7 #[.agg #[.string a0_0, .string a0_1, .int .i64 a0_2]] w fun e w' => e = .returned (.bool r) ∧ Below w.heap.size w w' := by
 have hu26 := Tryd.underlying26
 have hu36 := Tryd.underlying36
 have HB := Aside0.mk (Below.refl w.heap.size w)
 have H : ((spec_ReadPlace.f k a0_0).bind fun av => (if av.2.2.2 = true then (if (a0_1.size : Int) ≤ 1000 then ((spec_l1In.f a0_2 0 (a0_1.size : Int)).bind fun ap => (some ap)) else (some false)) else (some false))) = some r := h
 clear h
 obtain ⟨⟨a9, bb, bc, cn⟩, A2, H⟩ := bnd_ H
 try dsimp only at H
 by_cases c3 : cn = true
 ·
  subst c3
  have H1 : (if (a0_1.size : Int) ≤ 1000 then ((spec_l1In.f a0_2 0 (a0_1.size : Int)).bind fun ap => (some ap)) else (some false)) = some r := by rw [if_pos rfl] at H; exact H
  clear H
  have H := H1
  clear H1
  by_cases c4 : (a0_1.size : Int) ≤ 1000
  ·
   rw [if_pos c4] at H
   have ay : decide ((a0_1.size : Int) ≤ 1000) = true := decide_eq_true c4
   have co : decide (a0_1.size ≤ 1000) = true := decide_eq_true (by omega)
   clear c4
   obtain ⟨ap, A5, H⟩ := bnd_ H
   try dsimp only at H
   obtain rfl := Option.some.inj H
   go_enter Tryd.func7, Tryd.ntmps7
   go_wp2_with (first | ((with_reducible refine gate_dst (N := 1) rfl ?_); (try (refine gate_guard (by rfl) ?_; dsimp only)); refine box_event ?hg (N := 1) ?hd (cs := #[.string a0_0, .string a0_1, .int .i64 a0_2]) (t := 26) ?hr ?_; (case hd => rfl); (case hg => rfl); (case hr => first | (go_simp; done) | (go_simp; rfl)); intro aV hg w6 hbox hb; have ab := Aside0.mk (hbox); have aW := gx_ HB hg; have aX := gx_ HB hg; replace HB := bs_ HB hb; clear hb hbox hg; have cp := cz_ ab 0; have cq := cz_ ab 1; have cr := cz_ ab 2; have ct := blk_frozen ab.out 0; have cu := blk_frozen ab.out 1; have cv := blk_frozen ab.out 2) | ((with_reducible refine gate_callee (f := 15) rfl ?_); refine gl_ (some 8) Tryd.func15 #[.string a0_0] ?_; (with_reducible refine (spec_ReadPlace.calls k a0_0 a9 bb bc true _ A2.out).mono ?_); rintro e w8 ⟨bk, bl, rfl, ho0, ho1, hb⟩; refine ⟨_, rfl, ?_⟩; have am := rx_ ho0 HB; have an := rx_ ho1 HB; replace ab := bb_ ab hb; replace HB := bs_ HB hb; (try clear hb); (try clear hb2); (try clear hk); (try clear hi); (try clear ho0); (try clear ho1)) | ((with_reducible refine gate_dst (N := 3) rfl ?_); (try (refine gate_guard (by rfl) ?_; dsimp only)); refine box_event ?hg (N := 3) ?hd (cs := #[.slice none 0 0, .int .i64 0, .slice none 0 0]) (t := 36) ?hr ?_; (case hd => rfl); (case hg => rfl); (case hr => first | (go_simp; done) | (go_simp; rfl)); intro aY hg w9 hbox hb; replace am := rb_ am hb; replace an := rb_ an hb; have ag := Aside0.mk (hbox); have aZ := gx_ HB hg; have a4 := gx_ HB hg; replace HB := bs_ HB hb; have ak := nl_ ab hg; have al := ng_ ab hg; replace ab := bb_ ab hb; clear hb hbox hg; obtain ⟨cK, cL, cw⟩ := Kd.R_slice am.out; subst cw; have bm := al.out; have bn := ak.out; have az := cz_ ag 0; have aA := cz_ ag 1; have aB := cz_ ag 2; have aC := blk_frozen ag.out 0; have aD := blk_frozen ag.out 1; have aE := blk_frozen ag.out 2; obtain ⟨cM, cN, cx⟩ := Kd.R_slice an.out; subst cx; have aF := cz_ ab 0; have aG := cz_ ab 1; have aH := cz_ ab 2; have aI := blk_frozen ab.out 0; have aJ := blk_frozen ab.out 1; have aK := blk_frozen ab.out 2) | (go_at_call 16; (with_reducible refine (spec_l1In.calls a0_2 0 (a0_1.size : Int) ap _ A5.out).mono ?_); rintro e w' ⟨rfl, ⟨nd, rfl⟩⟩))
   go_ret
   exact ⟨tw_, (tb_ HB.out)⟩
  ·
   rw [if_neg c4] at H
   have ay : decide ((a0_1.size : Int) ≤ 1000) = false := decide_eq_false c4
   have co : decide (a0_1.size ≤ 1000) = false := decide_eq_false (by omega)
   clear c4
   obtain rfl := Option.some.inj H
   go_enter Tryd.func7, Tryd.ntmps7
   go_wp2_with (first | ((with_reducible refine gate_dst (N := 1) rfl ?_); (try (refine gate_guard (by rfl) ?_; dsimp only)); refine box_event ?hg (N := 1) ?hd (cs := #[.string a0_0, .string a0_1, .int .i64 a0_2]) (t := 26) ?hr ?_; (case hd => rfl); (case hg => rfl); (case hr => first | (go_simp; done) | (go_simp; rfl)); intro aV hg bp hbox hb; have ab := Aside0.mk (hbox); have aW := gx_ HB hg; have aX := gx_ HB hg; replace HB := bs_ HB hb; clear hb hbox hg; have bq := cz_ ab 0; have br := cz_ ab 1; have bs := cz_ ab 2; have bu := blk_frozen ab.out 0; have bv := blk_frozen ab.out 1; have bw := blk_frozen ab.out 2) | ((with_reducible refine gate_callee (f := 15) rfl ?_); refine gl_ (some 8) Tryd.func15 #[.string a0_0] ?_; (with_reducible refine (spec_ReadPlace.calls k a0_0 a9 bb bc true _ A2.out).mono ?_); rintro e db ⟨bk, bl, rfl, ho0, ho1, hb⟩; refine ⟨_, rfl, ?_⟩; have am := rx_ ho0 HB; have an := rx_ ho1 HB; replace ab := bb_ ab hb; replace HB := bs_ HB hb; (try clear hb); (try clear hb2); (try clear hk); (try clear hi); (try clear ho0); (try clear ho1)) | ((with_reducible refine gate_dst (N := 3) rfl ?_); (try (refine gate_guard (by rfl) ?_; dsimp only)); refine box_event ?hg (N := 3) ?hd (cs := #[.slice none 0 0, .int .i64 0, .slice none 0 0]) (t := 36) ?hr ?_; (case hd => rfl); (case hg => rfl); (case hr => first | (go_simp; done) | (go_simp; rfl)); intro aY hg dc hbox hb; replace am := rb_ am hb; replace an := rb_ an hb; have ag := Aside0.mk (hbox); have aZ := gx_ HB hg; have a4 := gx_ HB hg; replace HB := bs_ HB hb; have ak := nl_ ab hg; have al := ng_ ab hg; replace ab := bb_ ab hb; clear hb hbox hg; obtain ⟨cO, cP, cy⟩ := Kd.R_slice am.out; subst cy; have cC := al.out; have cD := ak.out; have bx := cz_ ag 0; have bz := cz_ ag 1; have bB := cz_ ag 2; have bC := blk_frozen ag.out 0; have bD := blk_frozen ag.out 1; have bE := blk_frozen ag.out 2; obtain ⟨cQ, cR, cz⟩ := Kd.R_slice an.out; subst cz; have bF := cz_ ab 0; have bG := cz_ ab 1; have bH := cz_ ab 2; have bI := blk_frozen ab.out 0; have bJ := blk_frozen ab.out 1; have bK := blk_frozen ab.out 2))
   go_ret
   exact ⟨tw_, (tb_ HB.out)⟩
 ·
  replace c3 := Bool.eq_false_iff.mpr c3
  subst c3
  have H1 : (some false) = some r := by rw [if_neg (show ¬ (false = true) by decide)] at H; exact H
  clear H
  have H := H1
  clear H1
  obtain rfl := Option.some.inj H
  go_enter Tryd.func7, Tryd.ntmps7
  go_wp2_with (first | ((with_reducible refine gate_dst (N := 1) rfl ?_); (try (refine gate_guard (by rfl) ?_; dsimp only)); refine box_event ?hg (N := 1) ?hd (cs := #[.string a0_0, .string a0_1, .int .i64 a0_2]) (t := 26) ?hr ?_; (case hd => rfl); (case hg => rfl); (case hr => first | (go_simp; done) | (go_simp; rfl)); intro aV hg dd hbox hb; have ab := Aside0.mk (hbox); have aW := gx_ HB hg; have aX := gx_ HB hg; replace HB := bs_ HB hb; clear hb hbox hg; have aL := cz_ ab 0; have aM := cz_ ab 1; have aN := cz_ ab 2; have aO := blk_frozen ab.out 0; have aP := blk_frozen ab.out 1; have aQ := blk_frozen ab.out 2) | ((with_reducible refine gate_callee (f := 15) rfl ?_); refine gl_ (some 8) Tryd.func15 #[.string a0_0] ?_; (with_reducible refine (spec_ReadPlace.calls k a0_0 a9 bb bc false _ A2.out).mono ?_); rintro e cS ⟨bk, bl, rfl, ho0, ho1, hb⟩; refine ⟨_, rfl, ?_⟩; have am := rx_ ho0 HB; have an := rx_ ho1 HB; replace ab := bb_ ab hb; replace HB := bs_ HB hb; (try clear hb); (try clear hb2); (try clear hk); (try clear hi); (try clear ho0); (try clear ho1)) | ((with_reducible refine gate_dst (N := 3) rfl ?_); (try (refine gate_guard (by rfl) ?_; dsimp only)); refine box_event ?hg (N := 3) ?hd (cs := #[.slice none 0 0, .int .i64 0, .slice none 0 0]) (t := 36) ?hr ?_; (case hd => rfl); (case hg => rfl); (case hr => first | (go_simp; done) | (go_simp; rfl)); intro aY hg cT hbox hb; replace am := rb_ am hb; replace an := rb_ an hb; have ag := Aside0.mk (hbox); have aZ := gx_ HB hg; have a4 := gx_ HB hg; replace HB := bs_ HB hb; have ak := nl_ ab hg; have al := ng_ ab hg; replace ab := bb_ ab hb; clear hb hbox hg; obtain ⟨cU, cV, cA⟩ := Kd.R_slice am.out; subst cA; have cE := al.out; have cF := ak.out; have bL := cz_ ag 0; have bM := cz_ ag 1; have bN := cz_ ag 2; have bO := blk_frozen ag.out 0; have bP := blk_frozen ag.out 1; have bQ := blk_frozen ag.out 2; obtain ⟨cW, cX, cB⟩ := Kd.R_slice an.out; subst cB))
  go_ret
  exact ⟨tw_, (tb_ HB.out)⟩

/-! ### spec_StoreCrash: function 10 -/
def spec_StoreCrash.f (k : Nat) (a0_0 : ByteArray) (a0_1 : ByteArray) (a0_2 : Int) (a1 : Int) : Option (ByteArray × ByteArray × Int × Bool) := (spec_StoreOk.f k a0_0 a0_1 a0_2).bind fun aw => (if aw = true then ((spec_l1In.f a1 a0_2 (a0_1.size : Int)).bind fun aq => (if aq = true then (if 0 ≤ a1 then (if a1 ≤ (a0_1.size : Int) then (some (a0_0, a0_1.extract 0 (a1 : Int).toNat, a0_2, true)) else (none)) else (none)) else (some ((⟨#[]⟩ : ByteArray), (⟨#[]⟩ : ByteArray), 0, false)))) else (some ((⟨#[]⟩ : ByteArray), (⟨#[]⟩ : ByteArray), 0, false)))
theorem spec_StoreCrash.mono : ∀ a0 a1 a2 a3 k, LeO (spec_StoreCrash.f k a0 a1 a2 a3) (spec_StoreCrash.f (k + 1) a0 a1 a2 a3) := by
 intro a0 a1 a2 a3 k
 unfold spec_StoreCrash.f
 repeat' (with_reducible first | exact spec_StoreOk.mono _ _ _ _ | exact mr_ | exact mn_ | refine mi_ ?_ ?_ | refine mb_ ?_ (fun _ => ?_))
def spec_StoreCrash.T3 : Bool × List (List Nat × List Nat) := (true, [([], []), ([0], [0]), ([], []), ([2], [2]), ([], []), ([3, 4], [3, 4]), ([], []), ([6], [6]), ([1, 5, 7], [1, 5, 7]), ([8, 0, 1, 2, 3, 4, 5, 6, 7, 8], [8]), ([9, 0, 1, 2, 3, 4, 5, 6, 7, 8, 9], [])])
def spec_StoreCrash.B3 : List Nat := [0, 1, 0, 4, 0, 28, 0, 64, 255, 511, 1023]
theorem spec_StoreCrash.tab3 : rtab .any (opsOf Tryd.f10 3) = spec_StoreCrash.T3 := by kernel_rfl
theorem spec_StoreCrash.bits3 : waitsOk spec_StoreCrash.T3.2 spec_StoreCrash.B3 = true := by kernel_rfl
set_option maxHeartbeats 8000000 in
set_option maxRecDepth 100000 in
theorem spec_StoreCrash.calls (k : Nat) (a0_0 : ByteArray) (a0_1 : ByteArray) (a0_2 : Int) (a1 : Int) (r1 : ByteArray) (r2 : ByteArray) (r3 : Int) (r4 : Bool) (w : World) (h : spec_StoreCrash.f k a0_0 a0_1 a0_2 a1 = some (r1, r2, r3, r4)) :
  Calls Tryd.prog 10 #[.agg #[.string a0_0, .string a0_1, .int .i64 a0_2], .int .i64 a1] w fun e w' => e = .returned (.tuple #[.agg #[.string r1, .string r2, .int .i64 r3], .bool r4]) ∧ Below w.heap.size w w' := by
 have hu26 := Tryd.underlying26
 have HB := Aside0.mk (Below.refl w.heap.size w)
 have H : ((spec_StoreOk.f k a0_0 a0_1 a0_2).bind fun aw => (if aw = true then ((spec_l1In.f a1 a0_2 (a0_1.size : Int)).bind fun aq => (if aq = true then (if 0 ≤ a1 then (if a1 ≤ (a0_1.size : Int) then (some (a0_0, a0_1.extract 0 (a1 : Int).toNat, a0_2, true)) else (none)) else (none)) else (some ((⟨#[]⟩ : ByteArray), (⟨#[]⟩ : ByteArray), 0, false)))) else (some ((⟨#[]⟩ : ByteArray), (⟨#[]⟩ : ByteArray), 0, false)))) = some (r1, r2, r3, r4) := h
 clear h
 obtain ⟨aw, A3, H⟩ := bnd_ H
 try dsimp only at H
 by_cases c4 : aw = true
 ·
  subst c4
  have H1 : ((spec_l1In.f a1 a0_2 (a0_1.size : Int)).bind fun aq => (if aq = true then (if 0 ≤ a1 then (if a1 ≤ (a0_1.size : Int) then (some (a0_0, a0_1.extract 0 (a1 : Int).toNat, a0_2, true)) else (none)) else (none)) else (some ((⟨#[]⟩ : ByteArray), (⟨#[]⟩ : ByteArray), 0, false)))) = some (r1, r2, r3, r4) := by rw [if_pos rfl] at H; exact H
  clear H
  have H := H1
  clear H1
  obtain ⟨aq, A5, H⟩ := bnd_ H
  try dsimp only at H
  by_cases c6 : aq = true
  ·
   subst c6
   have H1 : (if 0 ≤ a1 then (if a1 ≤ (a0_1.size : Int) then (some (a0_0, a0_1.extract 0 (a1 : Int).toNat, a0_2, true)) else (none)) else (none)) = some (r1, r2, r3, r4) := by rw [if_pos rfl] at H; exact H
   clear H
   have H := H1
   clear H1
   by_cases c7 : 0 ≤ a1
   ·
    rw [if_pos c7] at H
    have bo := eq_true c7
    have cY : decide (0 ≤ a1) = true := decide_eq_true c7
    clear c7
    by_cases c8 : a1 ≤ (a0_1.size : Int)
    ·
     rw [if_pos c8] at H
     have cZ := eq_true c8
     have da : decide (a1 ≤ (a0_1.size : Int)) = true := decide_eq_true c8
     clear c8
     simp only [Option.some.injEq, Prod.mk.injEq] at H
     obtain ⟨rfl, rfl, rfl, rfl⟩ := H
     go_enter Tryd.func10, Tryd.ntmps10
     try go_wp2_with (first | ((with_reducible refine gate_dst (N := 2) rfl ?_); (try (refine gate_guard (by rfl) ?_; dsimp only)); refine box_event ?hg (N := 2) ?hd (cs := #[.string a0_0, .string a0_1, .int .i64 a0_2]) (t := 26) ?hr ?_; (case hd => rfl); (case hg => rfl); (case hr => first | (go_simp; done) | (go_simp; rfl)); intro ao hg w9 hbox hb; have aa := Aside0.mk (hbox); have a5 := gx_ HB hg; have a6 := gx_ HB hg; replace HB := bs_ HB hb; clear hb hbox hg) | ((with_reducible refine gate_dst (N := 4) rfl ?_); (try (refine gate_guard (by rfl) ?_; dsimp only)); refine box_event ?hg (N := 4) ?hd (cs := #[.string (⟨#[]⟩ : ByteArray), .string (⟨#[]⟩ : ByteArray), .int .i64 0]) (t := 26) ?hr ?_; (case hd => rfl); (case hg => rfl); (case hr => first | (go_simp; done) | (go_simp; rfl)); intro ai hg de hbox hb; have ae := Aside0.mk (hbox); have a7 := gx_ HB hg; have a8 := gx_ HB hg; replace HB := bs_ HB hb; have ac := nl_ aa hg; have ah := ng_ aa hg; replace aa := bb_ aa hb; clear hb hbox hg; have bm := ac.out; have bn := ah.out; have az := cz_ aa 0; have aA := cz_ aa 1; have aB := cz_ aa 2; have aC := blk_frozen aa.out 0; have aD := blk_frozen aa.out 1; have aE := blk_frozen aa.out 2) | ((with_reducible refine gate_callee (f := 7) rfl ?_); refine gl_ (some 7) Tryd.func7 #[.agg #[.string a0_0, .string a0_1, .int .i64 a0_2]] ?_; (with_reducible refine (spec_StoreOk.calls k a0_0 a0_1 a0_2 true _ A3.out).mono ?_); rintro e bd ⟨rfl, hb⟩; refine ⟨_, rfl, ?_⟩; replace aa := bb_ aa hb; replace ae := bb_ ae hb; replace HB := bs_ HB hb; (try clear hb); (try clear hb2); (try clear hk); (try clear hi); have aF := cz_ aa 0; have aG := cz_ aa 1; have aH := cz_ aa 2; have aI := blk_frozen aa.out 0; have aJ := blk_frozen aa.out 1; have aK := blk_frozen aa.out 2) | (go_at_call 16; (with_reducible refine (spec_l1In.calls a1 a0_2 (a0_1.size : Int) true _ A5.out).mono ?_); rintro e w' ⟨rfl, ⟨nd, rfl⟩⟩; (try (rw [drewN_self bd]; generalize hq_ : World.drewN bd _ = bd; have n0_ : Aside0 (bd.heap[ao]? = some (.cells #[.string a0_0, .string a0_1, .int .i64 a0_2] 26 (0, 0))) := ⟨by rw [← hq_]; exact (tk_ aa.out)⟩; have n1_ : Aside0 (bd.heap[ai]? = some (.cells #[.string (⟨#[]⟩ : ByteArray), .string (⟨#[]⟩ : ByteArray), .int .i64 0] 26 (0, 0))) := ⟨by rw [← hq_]; exact (tk_ ae.out)⟩; have n2_ : Aside0 (Below w.heap.size w bd) := ⟨by rw [← hq_]; exact (tb_ HB.out)⟩; clear aa ae HB hq_; have aa := n0_; have ae := n1_; have HB := n2_; clear n0_ n1_ n2_))))
     replace aa := dB_ aa
     replace ae := dB_ ae
     replace HB := Aside0.mk (ld_ HB.out)
     refine start_ (n := 11) (S := fun w' => w'.cell? ⟨ao, 0, none⟩ = some (.string a0_0) ∧ w'.cell? ⟨ao, 1, none⟩ = some (.string a0_1) ∧ w'.cell? ⟨ao, 2, none⟩ = some (.int .i64 a0_2)) (ds := []) #[false, false, false, false, false, false, false, false, false, false, false] (by kernel_rfl) rfl rfl hh_ (fun hHeld => ?_); refine with_tabW spec_StoreCrash.tab3 spec_StoreCrash.bits3 (fun HT_ HW_ => ?_)
     generalize bd.drew = bp at aa ae HB hHeld ⊢
     refine pu_ 0 (some 20) #[true, false, false, false, false, false, false, false, false, false, false] HT_ rfl rfl ?_
     refine pu_ 2 (some 22) #[true, false, true, false, false, false, false, false, false, false, false] HT_ rfl rfl ?_
     refine pu_ 4 (some 24) #[true, false, true, false, true, false, false, false, false, false, false] HT_ rfl rfl ?_
     refine pu_ 6 (some 26) #[true, false, true, false, true, false, true, false, false, false, false] HT_ rfl rfl ?_
     refine ta_ 1 (some 21) #[true, true, true, false, true, false, true, false, false, false, false] HT_ HW_ hHeld rfl rfl ?_
     refine ta_ 3 (some 23) #[true, true, true, true, true, false, true, false, false, false, false] HT_ HW_ hHeld rfl rfl ?_
     refine pu_ 5 (some 25) #[true, true, true, true, true, true, true, false, false, false, false] HT_ rfl rfl ?_
     refine ta_ 7 (some 27) #[true, true, true, true, true, true, true, true, false, false, false] HT_ HW_ hHeld rfl rfl ?_
     refine pu_ 8 (some 28) #[true, true, true, true, true, true, true, true, true, false, false] HT_ rfl rfl ?_
     refine one_ (i := 9) (N := none) #[true, true, true, true, true, true, true, true, true, true, false] rfl rfl (one_of HT_.out (by kernel_rfl)) (by decide) (fun K hK => ?_)
     have hs16 : bp.cell? ⟨ai, 0, none⟩ = some (.string (⟨#[]⟩ : ByteArray)) := (blk_cell ae.out 0).trans rfl
     have hfs16 := blk_frozen ae.out 0
     have bR := ac.out
     have bS := ah.out
     have hs17 : bp.cell? ⟨ai, 1, none⟩ = some (.string (⟨#[]⟩ : ByteArray)) := (blk_cell ae.out 1).trans rfl
     have hfs17 := blk_frozen ae.out 1
     have bU := ac.out
     have bV := ah.out
     have hs18 : bp.cell? ⟨ai, 2, none⟩ = some (.int .i64 0) := (blk_cell ae.out 2).trans rfl
     have hfs18 := blk_frozen ae.out 2
     have bW := ac.out
     have bX := ah.out
     refine sk_ rfl ?_
     refine hK.out _ _ ⟨((cell_far (p := ⟨ai, _, none⟩) ac.out _).trans (((cell_far (p := ⟨ai, _, none⟩) ac.out _).trans (((cell_far (p := ⟨ai, _, none⟩) ac.out _).trans (hHeld.1)))))), ((cell_far (p := ⟨ai, _, none⟩) ac.out _).trans (((cell_far (p := ⟨ai, _, none⟩) ac.out _).trans (((cell_far (p := ⟨ai, _, none⟩) ac.out _).trans (hHeld.2.1)))))), ((cell_far (p := ⟨ai, _, none⟩) ac.out _).trans (((cell_far (p := ⟨ai, _, none⟩) ac.out _).trans (((cell_far (p := ⟨ai, _, none⟩) ac.out _).trans (hHeld.2.2))))))⟩ (fun hHeld => ?_)
     clear hK K
     refine pu_ 10 (some 5) #[true, true, true, true, true, true, true, true, true, true, true] HT_ rfl rfl ?_
     refine done_ (done_of HT_.out (by kernel_rfl)) ?_
     try go_wp2
     refine bodyPost_ret (results_ct rfl _ _ ai 26 #[.string a0_0, .string (a0_1.extract 0 (a1 : Int).toNat), .int .i64 a0_2] (0, 0) _ rfl (ps_ ae.out) Tryd.underlying26 rfl (by kernel_rfl)) rfl ?_
     exact ⟨tw_, (tb_ HB.out)⟩
    ·
     rw [if_neg c8] at H
     exact absurd H (by simp)
   ·
    rw [if_neg c7] at H
    exact absurd H (by simp)
  ·
   replace c6 := Bool.eq_false_iff.mpr c6
   subst c6
   have H1 : (some ((⟨#[]⟩ : ByteArray), (⟨#[]⟩ : ByteArray), 0, false)) = some (r1, r2, r3, r4) := by rw [if_neg (show ¬ (false = true) by decide)] at H; exact H
   clear H
   have H := H1
   clear H1
   simp only [Option.some.injEq, Prod.mk.injEq] at H
   obtain ⟨rfl, rfl, rfl, rfl⟩ := H
   go_enter Tryd.func10, Tryd.ntmps10
   go_wp2_with (first | ((with_reducible refine gate_dst (N := 2) rfl ?_); (try (refine gate_guard (by rfl) ?_; dsimp only)); refine box_event ?hg (N := 2) ?hd (cs := #[.string a0_0, .string a0_1, .int .i64 a0_2]) (t := 26) ?hr ?_; (case hd => rfl); (case hg => rfl); (case hr => first | (go_simp; done) | (go_simp; rfl)); intro ao hg df hbox hb; have aa := Aside0.mk (hbox); have a5 := gx_ HB hg; have a6 := gx_ HB hg; replace HB := bs_ HB hb; clear hb hbox hg) | ((with_reducible refine gate_dst (N := 4) rfl ?_); (try (refine gate_guard (by rfl) ?_; dsimp only)); refine box_event ?hg (N := 4) ?hd (cs := #[.string (⟨#[]⟩ : ByteArray), .string (⟨#[]⟩ : ByteArray), .int .i64 0]) (t := 26) ?hr ?_; (case hd => rfl); (case hg => rfl); (case hr => first | (go_simp; done) | (go_simp; rfl)); intro ai hg dg hbox hb; have ae := Aside0.mk (hbox); have a7 := gx_ HB hg; have a8 := gx_ HB hg; replace HB := bs_ HB hb; have ac := nl_ aa hg; have ah := ng_ aa hg; replace aa := bb_ aa hb; clear hb hbox hg; have cG := ac.out; have cH := ah.out; have bZ := cz_ aa 0; have b0 := cz_ aa 1; have b1 := cz_ aa 2; have b2 := blk_frozen aa.out 0; have b3 := blk_frozen aa.out 1; have b4 := blk_frozen aa.out 2) | ((with_reducible refine gate_callee (f := 7) rfl ?_); refine gl_ (some 7) Tryd.func7 #[.agg #[.string a0_0, .string a0_1, .int .i64 a0_2]] ?_; (with_reducible refine (spec_StoreOk.calls k a0_0 a0_1 a0_2 true _ A3.out).mono ?_); rintro e bj ⟨rfl, hb⟩; refine ⟨_, rfl, ?_⟩; replace aa := bb_ aa hb; replace ae := bb_ ae hb; replace HB := bs_ HB hb; (try clear hb); (try clear hb2); (try clear hk); (try clear hi); have b5 := cz_ aa 0; have b6 := cz_ aa 1; have b7 := cz_ aa 2; have b8 := blk_frozen aa.out 0; have b9 := blk_frozen aa.out 1; have ca := blk_frozen aa.out 2) | (go_at_call 16; (with_reducible refine (spec_l1In.calls a1 a0_2 (a0_1.size : Int) false _ A5.out).mono ?_); rintro e w' ⟨rfl, ⟨nd, rfl⟩⟩; (try (rw [drewN_self bj]; generalize hq_ : World.drewN bj _ = bj; have n0_ : Aside0 (bj.heap[ao]? = some (.cells #[.string a0_0, .string a0_1, .int .i64 a0_2] 26 (0, 0))) := ⟨by rw [← hq_]; exact (tk_ aa.out)⟩; have n1_ : Aside0 (bj.heap[ai]? = some (.cells #[.string (⟨#[]⟩ : ByteArray), .string (⟨#[]⟩ : ByteArray), .int .i64 0] 26 (0, 0))) := ⟨by rw [← hq_]; exact (tk_ ae.out)⟩; have n2_ : Aside0 (Below w.heap.size w bj) := ⟨by rw [← hq_]; exact (tb_ HB.out)⟩; clear aa ae HB hq_; have aa := n0_; have ae := n1_; have HB := n2_; clear n0_ n1_ n2_)); have aL := cz_ ae 0; have aM := cz_ ae 1; have aN := cz_ ae 2; have aO := blk_frozen ae.out 0; have aP := blk_frozen ae.out 1; have aQ := blk_frozen ae.out 2))
   refine bodyPost_ret (results_ct rfl _ _ ai 26 #[.string (⟨#[]⟩ : ByteArray), .string (⟨#[]⟩ : ByteArray), .int .i64 0] (0, 0) _ rfl (ps_ ae.out) Tryd.underlying26 rfl (by kernel_rfl)) rfl ?_
   exact ⟨tw_, (tb_ HB.out)⟩
 ·
  replace c4 := Bool.eq_false_iff.mpr c4
  subst c4
  have H1 : (some ((⟨#[]⟩ : ByteArray), (⟨#[]⟩ : ByteArray), 0, false)) = some (r1, r2, r3, r4) := by rw [if_neg (show ¬ (false = true) by decide)] at H; exact H
  clear H
  have H := H1
  clear H1
  simp only [Option.some.injEq, Prod.mk.injEq] at H
  obtain ⟨rfl, rfl, rfl, rfl⟩ := H
  go_enter Tryd.func10, Tryd.ntmps10
  go_wp2_with (first | ((with_reducible refine gate_dst (N := 2) rfl ?_); (try (refine gate_guard (by rfl) ?_; dsimp only)); refine box_event ?hg (N := 2) ?hd (cs := #[.string a0_0, .string a0_1, .int .i64 a0_2]) (t := 26) ?hr ?_; (case hd => rfl); (case hg => rfl); (case hr => first | (go_simp; done) | (go_simp; rfl)); intro ao hg cS hbox hb; have aa := Aside0.mk (hbox); have a5 := gx_ HB hg; have a6 := gx_ HB hg; replace HB := bs_ HB hb; clear hb hbox hg) | ((with_reducible refine gate_dst (N := 4) rfl ?_); (try (refine gate_guard (by rfl) ?_; dsimp only)); refine box_event ?hg (N := 4) ?hd (cs := #[.string (⟨#[]⟩ : ByteArray), .string (⟨#[]⟩ : ByteArray), .int .i64 0]) (t := 26) ?hr ?_; (case hd => rfl); (case hg => rfl); (case hr => first | (go_simp; done) | (go_simp; rfl)); intro ai hg cT hbox hb; have ae := Aside0.mk (hbox); have a7 := gx_ HB hg; have a8 := gx_ HB hg; replace HB := bs_ HB hb; have ac := nl_ aa hg; have ah := ng_ aa hg; replace aa := bb_ aa hb; clear hb hbox hg; have cI := ac.out; have cJ := ah.out; have cb := cz_ aa 0; have cc := cz_ aa 1; have cd := cz_ aa 2; have ce := blk_frozen aa.out 0; have cf := blk_frozen aa.out 1; have cg := blk_frozen aa.out 2) | ((with_reducible refine gate_callee (f := 7) rfl ?_); refine gl_ (some 7) Tryd.func7 #[.agg #[.string a0_0, .string a0_1, .int .i64 a0_2]] ?_; (with_reducible refine (spec_StoreOk.calls k a0_0 a0_1 a0_2 false _ A3.out).mono ?_); rintro e dh ⟨rfl, hb⟩; refine ⟨_, rfl, ?_⟩; replace aa := bb_ aa hb; replace ae := bb_ ae hb; replace HB := bs_ HB hb; (try clear hb); (try clear hb2); (try clear hk); (try clear hi); have ch := cz_ ae 0; have ci := cz_ ae 1; have cj := cz_ ae 2; have ck := blk_frozen ae.out 0; have cl := blk_frozen ae.out 1; have cm := blk_frozen ae.out 2))
  refine bodyPost_ret (results_ct rfl _ _ ai 26 #[.string (⟨#[]⟩ : ByteArray), .string (⟨#[]⟩ : ByteArray), .int .i64 0] (0, 0) _ rfl (ps_ ae.out) Tryd.underlying26 rfl (by kernel_rfl)) rfl ?_
  exact ⟨tw_, (tb_ HB.out)⟩

/-! ### strings_Split: function 22 -/
def strings_Split.f (a0 : ByteArray) (a1 : ByteArray) : Option (List ByteArray) := if a0.size < 4294967281 ∧ 1 ≤ a1.size then some (Lib.splitB a1 0 (Lib.countB a0 a1) a0) else none
theorem strings_Split.calls (a0 : ByteArray) (a1 : ByteArray) (r : List ByteArray) (w : World) (hG : GWb w) (h : strings_Split.f a0 a1 = some r) :
  Calls Tryd.prog 22 #[.string a0, .string a1] w fun e w' => ∃ v0_ : Value, e = .returned (v0_) ∧ Kd.R Kd.string 9 w' w.heap.size (fun _ => True) v0_ r ∧ Below w.heap.size w w' := by
 unfold strings_Split.f at h
 split at h
 ·
  rename_i hb
  obtain rfl := Option.some.inj h
  refine (Sh.Tryd.strings_Split_shaped a0 a1 w hG.shape hb.1 hb.2).mono fun e w' ⟨he, hw⟩ => ?_
  have hl : (Lib.splitB a1 0 (Lib.countB a0 a1) a0).length = Lib.countB a0 a1 + 1 := Lib.splitB_all a1 hb.2 0 _ a0 rfl
  have hle := Lib.countB_le a1 hb.2 a0.size a0 (Nat.le_refl _)
  have ho := own_lit_of (enc := Value.string) w w.heap.size 9 (Lib.splitB a1 0 (Lib.countB a0 a1) a0) (Nat.le_refl _) (by rw [hl]; omega)
  refine ⟨_, he, ?_, ?_⟩
  ·
   rw [hw]
   rw [hl] at ho
   exact Kd.R_of_own (by rw [hl]; exact ho) (fun _ _ => trivial)
  ·
   rw [hw]
   exact (Below.refl _ _).alloc (Nat.le_refl _) _
 ·
  cases h

/-! ### strconv_Atoi: function 23 -/
def strconv_Atoi.f (a0 : ByteArray) : Option (Int × Option Int) := if a0.size ≤ 140737488355328 then some (match Lib.atoiAll a0.data.toList with | .ok v => (v, none) | Lib.NumEnd.syntax => (0, some 0) | .range => (Lib.atoiSat a0.data.toList, some 0)) else none
theorem strconv_Atoi.calls (a0 : ByteArray) (r1 : Int) (r2 : Option Int) (w : World) (hG : GWb w) (h : strconv_Atoi.f a0 = some (r1, r2)) :
  Calls Tryd.prog 23 #[.string a0] w fun e w' => ∃ N_ : Int, e = .returned (.tuple #[.int .i64 r1, errW (r2.map fun _ => N_)]) ∧ Below w.heap.size w w' := by
 unfold strconv_Atoi.f at h
 split at h
 ·
  rename_i hb
  rcases ha : Lib.atoiAll a0.data.toList with v | _ | _
  ·
   simp only [ha, Option.some.injEq, Prod.mk.injEq] at h
   obtain ⟨rfl, rfl⟩ := h
   exact (Sh.Tryd.strconv_Atoi_ok a0 (by omega) v ha w).mono fun e w' ⟨he, hw⟩ => ⟨0, he, atoi_below hw⟩
  ·
   simp only [ha, Option.some.injEq, Prod.mk.injEq] at h
   obtain ⟨rfl, rfl⟩ := h
   obtain ⟨t, p, hv⟩ := hG.esyn
   exact (Sh.Tryd.strconv_Atoi_syntax_var a0 (by omega) ha t p w hv).mono fun e w' ⟨N, he, _, _, hw⟩ => ⟨(N : Int), he, hw⟩
  ·
   simp only [ha, Option.some.injEq, Prod.mk.injEq] at h
   obtain ⟨rfl, rfl⟩ := h
   obtain ⟨t, p, hv⟩ := hG.erng
   exact (Sh.Tryd.strconv_Atoi_range_var a0 (by omega) ha t p w hv).mono fun e w' ⟨N, he, _, _, hw⟩ => ⟨(N : Int), he, hw⟩
 ·
  cases h

/-! ### impl_coloursOk: function 64 -/
def impl_coloursOk.f (a0 : Int) : Option (Bool) := if a0 ≥ 1 then (some (decide (a0 ≤ 3))) else (some false)
set_option maxHeartbeats 8000000 in
set_option maxRecDepth 100000 in
theorem impl_coloursOk.calls (a0 : Int) (r : Bool) (w : World) (h : impl_coloursOk.f a0 = some r) :
  Calls Tryd.prog 64 #[.int .i64 a0] w fun e w' => e = .returned (.bool r) ∧ Drawn0 w w' := by
 have H : (if a0 ≥ 1 then (some (decide (a0 ≤ 3))) else (some false)) = some r := h
 clear h
 by_cases c2 : a0 ≥ 1
 ·
  rw [if_pos c2] at H
  have ax : decide (1 ≤ a0) = true := decide_eq_true c2
  clear c2
  obtain rfl := Option.some.inj H
  go_enter Tryd.func64, Tryd.ntmps64
  go_wp2
  go_ret
  exact ⟨tx_, by repeat (first | exact Drawn0.refl _ | apply Drawn0.step)⟩
 ·
  rw [if_neg c2] at H
  have ax : decide (1 ≤ a0) = false := decide_eq_false c2
  clear c2
  obtain rfl := Option.some.inj H
  go_enter Tryd.func64, Tryd.ntmps64
  go_wp2
  go_ret
  exact ⟨tx_, by repeat (first | exact Drawn0.refl _ | apply Drawn0.step)⟩

/-! ### impl_UrnOk: function 63 -/
def impl_UrnOk.l0 : Nat → List Int → List Int → Int → Int → Option (Bool)
 | 0, _, _, _, _ => none
 | k + 1, x0, x5, x6, x7 => if x7 < x6 then (if 0 ≤ x7 then (if x7 < (x5.length : Int) then (if (rd x5 x7) < 0 then (some false) else (if (rd x5 x7) > 40 then (some false) else (impl_UrnOk.l0 k x0 x5 x6 (wrap64 (x7 + 1))))) else (none)) else (none)) else ((impl_coloursOk.f (x0.length : Int)).bind fun be => (some be))
def impl_UrnOk.f (k : Nat) (l0 : List Int) : Option (Bool) := impl_UrnOk.l0 k l0 l0 (l0.length : Int) 0
theorem impl_UrnOk.mono_l : ∀ k, (∀ y0 y1 y2 y3, LeO (impl_UrnOk.l0 k y0 y1 y2 y3) (impl_UrnOk.l0 (k + 1) y0 y1 y2 y3))
 | 0 => fun _ _ _ _ r h => by simp [impl_UrnOk.l0] at h
 | k + 1 => by
  have ih0 := impl_UrnOk.mono_l k
  ·
   intro y0 y1 y2 y3
   unfold impl_UrnOk.l0
   repeat' (with_reducible first | exact ih0 _ _ _ _ | exact mr_ | exact mn_ | refine mi_ ?_ ?_ | refine mb_ ?_ (fun _ => ?_))
theorem impl_UrnOk.mono : ∀ a0 k, LeO (impl_UrnOk.f k a0) (impl_UrnOk.f (k + 1) a0) := by
 intro a0 k
 have ih0 := impl_UrnOk.mono_l k
 unfold impl_UrnOk.f
 repeat' (with_reducible first | exact ih0 _ _ _ _ | exact mr_ | exact mn_ | refine mi_ ?_ ?_ | refine mb_ ?_ (fun _ => ?_))
set_option maxHeartbeats 8000000 in
set_option maxRecDepth 100000 in
theorem impl_UrnOk.calls (k : Nat) (A0 : Option Addr) (c0 : Nat) (l0 : List Int) (r : Bool) (w : World) (hr0 : Kd.C (Kd.int .i64) w A0 l0.length l0) (hc0 : l0.length ≤ c0) (h : impl_UrnOk.f k l0 = some r) :
  Calls Tryd.prog 63 #[.slice A0 l0.length c0] w fun e w' => e = .returned (.bool r) ∧ Drawn0 w w' := by
 have HR0 := Aside0.mk hr0
 have HC0 := Aside0.mk hc0
 clear hr0 hc0
 have H : (impl_UrnOk.l0 k l0 l0 (l0.length : Int) 0) = some r := h
 clear h
 have H' := Aside0.mk H
 clear H
 go_enter Tryd.func63, Tryd.ntmps63
 go_wp2
 go_loopg [7] k (fun kq v7 w' => ∃ (af : Int), v7 = .int .i64 af ∧ Aside0 (impl_UrnOk.l0 kq l0 l0 (l0.length : Int) af = some r) ∧ Aside0 (kq ≤ k) ∧ Drawn0 w w')
 case atStart => exact ⟨(0), tx_, H', ⟨Nat.le_refl _⟩, by repeat (first | exact Drawn0.refl _ | apply Drawn0.step)⟩
 case round =>
  clear H'
  obtain ⟨af, rfl, HA, HK1, ⟨m1, rfl⟩⟩ := hrel
  cases gk with
  | zero => exact absurd HA.out (by simp [impl_UrnOk.l0])
  | succ k1 =>
   have H := HA.out
   clear HA
   simp only [impl_UrnOk.l0] at H
   by_cases c2 : af < (l0.length : Int)
   ·
    rw [if_pos c2] at H
    have ax : decide (af < (l0.length : Int)) = true := decide_eq_true c2
    clear c2
    by_cases c3 : 0 ≤ af
    ·
     rw [if_pos c3] at H
     have bf : decide (0 ≤ af) = true := decide_eq_true c3
     clear c3
     by_cases c4 : af < (l0.length : Int)
     ·
      rw [if_pos c4] at H
      have ay : decide (af < (l0.length : Int)) = true := decide_eq_true c4
      clear c4
      by_cases c5 : (rd l0 af) < 0
      ·
       rw [if_pos c5] at H
       have aR : decide ((rd l0 af) < 0) = true := decide_eq_true c5
       clear c5
       obtain rfl := Option.some.inj H
       have p245 : 0 ≤ (af : Int) := od_
       have q245 : af < (l0.length : Int) := od_
       obtain ⟨ad245, e245, ar⟩ := Kd.at_int HR0.out af p245 q245
       cases e245
       replace p245 := eq_true p245
       replace q245 := eq_true q245
       go_wp2
       go_ret
       exact ⟨tx_, by repeat (first | exact Drawn0.refl _ | apply Drawn0.step)⟩
      ·
       rw [if_neg c5] at H
       have aR : decide ((rd l0 af) < 0) = false := decide_eq_false c5
       clear c5
       by_cases c6 : (rd l0 af) > 40
       ·
        rw [if_pos c6] at H
        have bg : decide (40 < (rd l0 af)) = true := decide_eq_true c6
        clear c6
        obtain rfl := Option.some.inj H
        have p245 : 0 ≤ (af : Int) := od_
        have q245 : af < (l0.length : Int) := od_
        obtain ⟨ad245, e245, ar⟩ := Kd.at_int HR0.out af p245 q245
        cases e245
        replace p245 := eq_true p245
        replace q245 := eq_true q245
        go_wp2
        go_ret
        exact ⟨tx_, by repeat (first | exact Drawn0.refl _ | apply Drawn0.step)⟩
       ·
        rw [if_neg c6] at H
        have bg : decide (40 < (rd l0 af)) = false := decide_eq_false c6
        clear c6
        have H' := Aside0.mk H
        clear H
        have p245 : 0 ≤ (af : Int) := od_
        have q245 : af < (l0.length : Int) := od_
        obtain ⟨ad245, e245, ar⟩ := Kd.at_int HR0.out af p245 q245
        cases e245
        replace p245 := eq_true p245
        replace q245 := eq_true q245
        go_wp2
        go_roundg k1
        case measure => have := HK1.out; omega
        case rel => exact ⟨(wrap64 (af + 1)), tx_, H', ⟨by have := HK1.out; omega⟩, by repeat (first | exact Drawn0.refl _ | apply Drawn0.step)⟩
     ·
      rw [if_neg c4] at H
      exact absurd H (by simp)
    ·
     rw [if_neg c3] at H
     exact absurd H (by simp)
   ·
    rw [if_neg c2] at H
    have ax : decide (af < (l0.length : Int)) = false := decide_eq_false c2
    clear c2
    obtain ⟨be, A7, H⟩ := bnd_ H
    try dsimp only at H
    obtain rfl := Option.some.inj H
    go_wp2_with (first | ((with_reducible refine gate_callee (f := 64) rfl ?_); refine gl_ (some 20) Tryd.func64 #[.int .i64 (l0.length : Int)] ?_; (with_reducible refine (impl_coloursOk.calls (l0.length : Int) be _ A7.out).mono ?_); rintro e w' ⟨rfl, ⟨nd, rfl⟩⟩; refine ⟨_, rfl, ?_⟩))
    go_ret
    exact ⟨tx_, by repeat (first | exact Drawn0.refl _ | apply Drawn0.step)⟩

/-! ### impl_StartOk: function 46 -/
def impl_StartOk.l0 : Nat → List Int → List Int → Int → Int → Option (Bool)
 | 0, _, _, _, _ => none
 | k + 1, x0, x5, x6, x7 => if x7 < x6 then (if 0 ≤ x7 then (if x7 < (x5.length : Int) then (if (rd x5 x7) > 10 then (some false) else (impl_StartOk.l0 k x0 x5 x6 (wrap64 (x7 + 1)))) else (none)) else (none)) else ((impl_UrnOk.f k x0).bind fun bh => (some bh))
def impl_StartOk.f (k : Nat) (l0 : List Int) : Option (Bool) := impl_StartOk.l0 k l0 l0 (l0.length : Int) 0
theorem impl_StartOk.mono_l : ∀ k, (∀ y0 y1 y2 y3, LeO (impl_StartOk.l0 k y0 y1 y2 y3) (impl_StartOk.l0 (k + 1) y0 y1 y2 y3))
 | 0 => fun _ _ _ _ r h => by simp [impl_StartOk.l0] at h
 | k + 1 => by
  have ih0 := impl_StartOk.mono_l k
  ·
   intro y0 y1 y2 y3
   unfold impl_StartOk.l0
   repeat' (with_reducible first | exact ih0 _ _ _ _ | exact impl_UrnOk.mono _ _ | exact mr_ | exact mn_ | refine mi_ ?_ ?_ | refine mb_ ?_ (fun _ => ?_))
theorem impl_StartOk.mono : ∀ a0 k, LeO (impl_StartOk.f k a0) (impl_StartOk.f (k + 1) a0) := by
 intro a0 k
 have ih0 := impl_StartOk.mono_l k
 unfold impl_StartOk.f
 repeat' (with_reducible first | exact ih0 _ _ _ _ | exact impl_UrnOk.mono _ _ | exact mr_ | exact mn_ | refine mi_ ?_ ?_ | refine mb_ ?_ (fun _ => ?_))
set_option maxHeartbeats 8000000 in
set_option maxRecDepth 100000 in
theorem impl_StartOk.calls (k : Nat) (A0 : Option Addr) (c0 : Nat) (l0 : List Int) (r : Bool) (w : World) (hr0 : Kd.C (Kd.int .i64) w A0 l0.length l0) (hc0 : l0.length ≤ c0) (h : impl_StartOk.f k l0 = some r) :
  Calls Tryd.prog 46 #[.slice A0 l0.length c0] w fun e w' => e = .returned (.bool r) ∧ Drawn0 w w' := by
 have HR0 := Aside0.mk hr0
 have HC0 := Aside0.mk hc0
 clear hr0 hc0
 have H : (impl_StartOk.l0 k l0 l0 (l0.length : Int) 0) = some r := h
 clear h
 have H' := Aside0.mk H
 clear H
 go_enter Tryd.func46, Tryd.ntmps46
 go_wp2
 go_loopg [7] k (fun kq v7 w' => ∃ (af : Int), v7 = .int .i64 af ∧ Aside0 (impl_StartOk.l0 kq l0 l0 (l0.length : Int) af = some r) ∧ Aside0 (kq ≤ k) ∧ Drawn0 w w')
 case atStart => exact ⟨(0), tx_, H', ⟨Nat.le_refl _⟩, by repeat (first | exact Drawn0.refl _ | apply Drawn0.step)⟩
 case round =>
  clear H'
  obtain ⟨af, rfl, HA, HK1, ⟨m1, rfl⟩⟩ := hrel
  cases gk with
  | zero => exact absurd HA.out (by simp [impl_StartOk.l0])
  | succ k1 =>
   have H := HA.out
   clear HA
   simp only [impl_StartOk.l0] at H
   by_cases c2 : af < (l0.length : Int)
   ·
    rw [if_pos c2] at H
    have ax : decide (af < (l0.length : Int)) = true := decide_eq_true c2
    clear c2
    by_cases c3 : 0 ≤ af
    ·
     rw [if_pos c3] at H
     have bf : decide (0 ≤ af) = true := decide_eq_true c3
     clear c3
     by_cases c4 : af < (l0.length : Int)
     ·
      rw [if_pos c4] at H
      have ay : decide (af < (l0.length : Int)) = true := decide_eq_true c4
      clear c4
      by_cases c5 : (rd l0 af) > 10
      ·
       rw [if_pos c5] at H
       have aR : decide (10 < (rd l0 af)) = true := decide_eq_true c5
       clear c5
       obtain rfl := Option.some.inj H
       have p247 : 0 ≤ (af : Int) := od_
       have q247 : af < (l0.length : Int) := od_
       obtain ⟨ad247, e247, aU⟩ := Kd.at_int HR0.out af p247 q247
       cases e247
       replace p247 := eq_true p247
       replace q247 := eq_true q247
       go_wp2
       go_ret
       exact ⟨tx_, by repeat (first | exact Drawn0.refl _ | apply Drawn0.step)⟩
      ·
       rw [if_neg c5] at H
       have aR : decide (10 < (rd l0 af)) = false := decide_eq_false c5
       clear c5
       have H' := Aside0.mk H
       clear H
       have p247 : 0 ≤ (af : Int) := od_
       have q247 : af < (l0.length : Int) := od_
       obtain ⟨ad247, e247, aU⟩ := Kd.at_int HR0.out af p247 q247
       cases e247
       replace p247 := eq_true p247
       replace q247 := eq_true q247
       go_wp2
       go_roundg k1
       case measure => have := HK1.out; omega
       case rel => exact ⟨(wrap64 (af + 1)), tx_, H', ⟨by have := HK1.out; omega⟩, by repeat (first | exact Drawn0.refl _ | apply Drawn0.step)⟩
     ·
      rw [if_neg c4] at H
      exact absurd H (by simp)
    ·
     rw [if_neg c3] at H
     exact absurd H (by simp)
   ·
    rw [if_neg c2] at H
    have ax : decide (af < (l0.length : Int)) = false := decide_eq_false c2
    clear c2
    obtain ⟨bh, A6, H⟩ := bnd_ H
    try dsimp only at H
    obtain rfl := Option.some.inj H
    go_wp2_with (first | ((with_reducible refine gate_callee (f := 63) rfl ?_); refine gl_ (some 15) Tryd.func63 #[.slice A0 l0.length c0] ?_; (with_reducible refine (impl_UrnOk.calls k1 _ _ l0 bh _ ?s1 ?s2 A6.out).mono ?_); (case s1 => exact td_); (case s2 => exact HC0.out); rintro e w' ⟨rfl, ⟨nd, rfl⟩⟩; refine ⟨_, rfl, ?_⟩))
    go_ret
    exact ⟨tx_, by repeat (first | exact Drawn0.refl _ | apply Drawn0.step)⟩

/-! ### impl_WordOk: function 47 -/
def impl_WordOk.l0 : Nat → Int → List Int → List Int → Int → Int → Option (Bool)
 | 0, _, _, _, _, _ => none
 | k + 1, x0, x1, x7, x8, x9 => if x9 < x8 then (if 0 ≤ x9 then (if x9 < (x7.length : Int) then (if (rd x7 x9) < 0 then (some false) else (if (rd x7 x9) ≥ x0 then (some false) else (impl_WordOk.l0 k x0 x1 x7 x8 (wrap64 (x9 + 1))))) else (none)) else (none)) else ((impl_coloursOk.f x0).bind fun bi => (if bi = true then (some (decide ((x1.length : Int) ≤ 6))) else (some false)))
def impl_WordOk.f (k : Nat) (a0 : Int) (l1 : List Int) : Option (Bool) := impl_WordOk.l0 k a0 l1 l1 (l1.length : Int) 0
theorem impl_WordOk.mono_l : ∀ k, (∀ y0 y1 y2 y3 y4, LeO (impl_WordOk.l0 k y0 y1 y2 y3 y4) (impl_WordOk.l0 (k + 1) y0 y1 y2 y3 y4))
 | 0 => fun _ _ _ _ _ r h => by simp [impl_WordOk.l0] at h
 | k + 1 => by
  have ih0 := impl_WordOk.mono_l k
  ·
   intro y0 y1 y2 y3 y4
   unfold impl_WordOk.l0
   repeat' (with_reducible first | exact ih0 _ _ _ _ _ | exact mr_ | exact mn_ | refine mi_ ?_ ?_ | refine mb_ ?_ (fun _ => ?_))
theorem impl_WordOk.mono : ∀ a0 a1 k, LeO (impl_WordOk.f k a0 a1) (impl_WordOk.f (k + 1) a0 a1) := by
 intro a0 a1 k
 have ih0 := impl_WordOk.mono_l k
 unfold impl_WordOk.f
 repeat' (with_reducible first | exact ih0 _ _ _ _ _ | exact mr_ | exact mn_ | refine mi_ ?_ ?_ | refine mb_ ?_ (fun _ => ?_))
set_option maxHeartbeats 8000000 in
set_option maxRecDepth 100000 in
theorem impl_WordOk.calls (k : Nat) (a0 : Int) (A1 : Option Addr) (c1 : Nat) (l1 : List Int) (r : Bool) (w : World) (hr1 : Kd.C (Kd.int .i64) w A1 l1.length l1) (hc1 : l1.length ≤ c1) (h : impl_WordOk.f k a0 l1 = some r) :
  Calls Tryd.prog 47 #[.int .i64 a0, .slice A1 l1.length c1] w fun e w' => e = .returned (.bool r) ∧ Drawn0 w w' := by
 have HR1 := Aside0.mk hr1
 have HC1 := Aside0.mk hc1
 clear hr1 hc1
 have H : (impl_WordOk.l0 k a0 l1 l1 (l1.length : Int) 0) = some r := h
 clear h
 have H' := Aside0.mk H
 clear H
 go_enter Tryd.func47, Tryd.ntmps47
 go_wp2
 go_loopg [9] k (fun kq v9 w' => ∃ (aj : Int), v9 = .int .i64 aj ∧ Aside0 (impl_WordOk.l0 kq a0 l1 l1 (l1.length : Int) aj = some r) ∧ Aside0 (kq ≤ k) ∧ Drawn0 w w')
 case atStart => exact ⟨(0), tx_, H', ⟨Nat.le_refl _⟩, by repeat (first | exact Drawn0.refl _ | apply Drawn0.step)⟩
 case round =>
  clear H'
  try clear c1
  try clear p2
  obtain ⟨aj, rfl, HA, HK1, ⟨m1, rfl⟩⟩ := hrel
  cases gk with
  | zero => exact absurd HA.out (by simp [impl_WordOk.l0])
  | succ k1 =>
   have H := HA.out
   clear HA
   simp only [impl_WordOk.l0] at H
   by_cases c3 : aj < (l1.length : Int)
   ·
    rw [if_pos c3] at H
    have bf : decide (aj < (l1.length : Int)) = true := decide_eq_true c3
    clear c3
    by_cases c4 : 0 ≤ aj
    ·
     rw [if_pos c4] at H
     have ay : decide (0 ≤ aj) = true := decide_eq_true c4
     clear c4
     by_cases c5 : aj < (l1.length : Int)
     ·
      rw [if_pos c5] at H
      have aR : decide (aj < (l1.length : Int)) = true := decide_eq_true c5
      clear c5
      by_cases c6 : (rd l1 aj) < 0
      ·
       rw [if_pos c6] at H
       have bg : decide ((rd l1 aj) < 0) = true := decide_eq_true c6
       clear c6
       obtain rfl := Option.some.inj H
       have p249 : 0 ≤ (aj : Int) := od_
       have q249 : aj < (l1.length : Int) := od_
       obtain ⟨ad249, e249, au⟩ := Kd.at_int HR1.out aj p249 q249
       cases e249
       replace p249 := eq_true p249
       replace q249 := eq_true q249
       go_wp2
       go_ret
       exact ⟨tx_, by repeat (first | exact Drawn0.refl _ | apply Drawn0.step)⟩
      ·
       rw [if_neg c6] at H
       have bg : decide ((rd l1 aj) < 0) = false := decide_eq_false c6
       clear c6
       by_cases c7 : (rd l1 aj) ≥ a0
       ·
        rw [if_pos c7] at H
        have bo : decide (a0 ≤ (rd l1 aj)) = true := decide_eq_true c7
        clear c7
        obtain rfl := Option.some.inj H
        have p249 : 0 ≤ (aj : Int) := od_
        have q249 : aj < (l1.length : Int) := od_
        obtain ⟨ad249, e249, au⟩ := Kd.at_int HR1.out aj p249 q249
        cases e249
        replace p249 := eq_true p249
        replace q249 := eq_true q249
        go_wp2
        go_ret
        exact ⟨tx_, by repeat (first | exact Drawn0.refl _ | apply Drawn0.step)⟩
       ·
        rw [if_neg c7] at H
        have bo : decide (a0 ≤ (rd l1 aj)) = false := decide_eq_false c7
        clear c7
        have H' := Aside0.mk H
        clear H
        have p249 : 0 ≤ (aj : Int) := od_
        have q249 : aj < (l1.length : Int) := od_
        obtain ⟨ad249, e249, au⟩ := Kd.at_int HR1.out aj p249 q249
        cases e249
        replace p249 := eq_true p249
        replace q249 := eq_true q249
        go_wp2
        go_roundg k1
        case measure => have := HK1.out; omega
        case rel => exact ⟨(wrap64 (aj + 1)), tx_, H', ⟨by have := HK1.out; omega⟩, by repeat (first | exact Drawn0.refl _ | apply Drawn0.step)⟩
     ·
      rw [if_neg c5] at H
      exact absurd H (by simp)
    ·
     rw [if_neg c4] at H
     exact absurd H (by simp)
   ·
    rw [if_neg c3] at H
    have bf : decide (aj < (l1.length : Int)) = false := decide_eq_false c3
    clear c3
    obtain ⟨bi, A8, H⟩ := bnd_ H
    try dsimp only at H
    by_cases c9 : bi = true
    ·
     subst c9
     have H1 : (some (decide ((l1.length : Int) ≤ 6))) = some r := by rw [if_pos rfl] at H; exact H
     clear H
     have H := H1
     clear H1
     obtain rfl := Option.some.inj H
     go_wp2_with (first | ((with_reducible refine gate_callee (f := 64) rfl ?_); refine gl_ (some 22) Tryd.func64 #[.int .i64 a0] ?_; (with_reducible refine (impl_coloursOk.calls a0 true _ A8.out).mono ?_); rintro e w' ⟨rfl, ⟨nd, rfl⟩⟩; refine ⟨_, rfl, ?_⟩))
     go_ret
     exact ⟨tx_, by repeat (first | exact Drawn0.refl _ | apply Drawn0.step)⟩
    ·
     replace c9 := Bool.eq_false_iff.mpr c9
     subst c9
     have H1 : (some false) = some r := by rw [if_neg (show ¬ (false = true) by decide)] at H; exact H
     clear H
     have H := H1
     clear H1
     obtain rfl := Option.some.inj H
     go_wp2_with (first | ((with_reducible refine gate_callee (f := 64) rfl ?_); refine gl_ (some 22) Tryd.func64 #[.int .i64 a0] ?_; (with_reducible refine (impl_coloursOk.calls a0 false _ A8.out).mono ?_); rintro e w' ⟨rfl, ⟨nd, rfl⟩⟩; refine ⟨_, rfl, ?_⟩))
     go_ret
     exact ⟨tx_, by repeat (first | exact Drawn0.refl _ | apply Drawn0.step)⟩

/-! ### slices_Clone_int_int: function 77 -/
def slices_Clone_int_int.f (l0 : List Int) : Option (List Int) := if l0.length * 8 ≤ 140737488355328 then some l0 else none
theorem slices_Clone_int_int.calls (A0 : Option Addr) (c0 : Nat) (l0 : List Int) (r : List Int) (w : World) (hr0 : Kd.C (Kd.int .i64) w A0 l0.length l0) (hc0 : l0.length ≤ c0) (h : slices_Clone_int_int.f l0 = some r) :
  Calls Tryd.prog 77 #[.slice A0 l0.length c0] w fun e w' => ∃ v0_ : Value, e = .returned (v0_) ∧ Kd.R (Kd.int .i64) 3 w' w.heap.size (fun _ => True) v0_ r ∧ Below w.heap.size w w' := by
 unfold slices_Clone_int_int.f at h
 by_cases hl : l0.length * 8 ≤ 140737488355328
 ·
  rw [if_pos hl] at h
  obtain rfl := Option.some.inj h
  rcases Nat.eq_zero_or_pos l0.length with h0 | h0
  ·
   obtain rfl : l0 = [] := List.eq_nil_of_length_eq_zero h0
   cases A0 with
   | none => exact (Sh.Tryd.slices_Clone_int_nil 0 c0 w).mono fun e w' ⟨he, hw⟩ => ⟨.slice none 0 0, he, Kd.R_nil _ _ _ _ _, hw ▸ Below.refl _ _⟩
   | some ad => exact (Sh.Tryd.slices_Clone_int_zero ad c0 w).mono fun e w' ⟨v, he, ho, _, hb⟩ => ⟨v, he, Kd.R_of_own (xs := []) ho (fun _ _ => trivial), hb⟩
  ·
   obtain ⟨ad, rfl, hc⟩ := hr0.2.2 h0
   have hcell : ∀ j, j < l0.length → w.cell? (ad.add j) = some (.int .i64 (l0.getD j 0)) := by
    intro j hj
    obtain ⟨c, hc1, hc2, hc3⟩ := hc j _ (List.getElem?_eq_getElem hj)
    have e1 : c = [.int .i64 l0[j]] := hc2
    have := hc3 0 _ (by rw [e1]; rfl)
    rw [List.getD_eq_getElem?_getD, List.getElem?_eq_getElem hj]
    simpa [Kd.int, Kd.scalar] using this
   have hs := hcell 0 h0
   have hsp : ad.spot = none := by
    cases hq : ad.spot with
    | none => rfl
    | some q => simp [World.cell?, Addr.add, hq] at hs; split at hs <;> simp at hs
   obtain ⟨b, o, sp⟩ := ad
   simp only at hsp
   subst hsp
   refine (Sh.Tryd.slices_Clone_int b o l0.length c0 l0 w (Nat.le_refl _) hl (fun j hj => by have := hcell j hj; unfold Addr.add at this; split at this <;> simp_all)).mono fun e w' ⟨v, he, ho, _, hb⟩ => ⟨v, he, Kd.R_of_own (by rw [List.take_length] at ho; exact ho) (fun _ _ => trivial), hb⟩
 ·
  rw [if_neg hl] at h
  exact absurd h (by simp)

end Go.Proofs.YtfibbdefcppfcaaDoor.MFnExactStoreCrash
