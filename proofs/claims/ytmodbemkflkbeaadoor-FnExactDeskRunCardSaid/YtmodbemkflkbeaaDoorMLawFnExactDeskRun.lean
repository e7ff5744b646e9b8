/- For the law FnExactDeskRun: the given statement itself and its tied card, out of its plain statement (Pure) and the walk of its function. No condition beyond those of the statement. -/
import Derived.Test.YtmodbemkflkbeaaDoorRows
import Derived.Test.YtmodbemkflkbeaaDoorOpen
import Derived.Test.YtmodbemkflkbeaaDoorDoorKit
import Derived.Test.YtmodbemkflkbeaaDoorFa
import Derived.Test.YtmodbemkflkbeaaDoorFb
import Derived.Test.YtmodbemkflkbeaaDoorFc
import Derived.Test.YtmodbemkflkbeaaDoorMFnExactDeskRunx14
import Derived.Test.YtmodbemkflkbeaaDoorPureFnExactDeskRun
import Derived.WalkKit
import Derived.JoinedOf
import Derived.ProofKit
import Derived.OpenShut
import Derived.ShutString
import Derived.ChangeOld
import Derived.Below
import Derived.SizedLaws
import Derived.LaidLaws
import Derived.Stop.Joined
namespace Go.Proofs.YtmodbemkflkbeaaDoor.fnExactDeskRun
open Go.ChangeShapes Go.WideShapes Go.ChangeAt Go.RowKit Go.Proofs.YtmodbemkflkbeaaDoorW.PrintWords Go.Proofs.YtmodbemkflkbeaaDoor.Base Go.Proofs.YtmodbemkflkbeaaDoor.MFnExactDeskRun
open Go.ChangeMaps (open_string shut_string)
set_option linter.unusedVariables false
theorem own : ownKnob Tryd.prog.godebug = none := by kernel_rfl
theorem laidOut : laidOutB Tryd.prog = true := by kernel_rfl
set_option maxRecDepth 100000 in
theorem lifted (os : Os) (started : os.Started) (H : Type) (enc : TypeId × Value → H) :
    ReturnsInHanded {} Tryd.checked os 4 .any (fun w args => (Rows.fnExactDeskRunSpec.pre enc Tryd.prog Tryd.f4 Rows.fnExactDeskRunRow.domain false w args ∧ laidMetH Tryd.prog Rows.fnExactDeskRunRow.laid w) ∧ sizedMet enc Tryd.prog Tryd.f4 (OpenSpec.ofChange Rows.fnExactDeskRunSpec) false w args) (Rows.fnExactDeskRunSpec.post enc Tryd.prog Tryd.f4 false true false false) := by
  refine returns_and_shaped (C := Tryd.checked) (X := fun w _ => laidMetH Tryd.prog Rows.fnExactDeskRunRow.laid w) (fun _ _ _ hh h => h.of_heap hh) own started (by kernel_rfl) Tryd.func4
    (ChangeSpec.witness_shaped (enc := enc) (C := Tryd.checked) (os := os) (X := fun w _ => laidMetH Tryd.prog Rows.fnExactDeskRunRow.laid w) false (World.laidAll Tryd.prog os Rows.fnExactDeskRunRow.laid) #[.agg #[.slice none 0 0, .int .i64 0, .slice none 0 0, .slice none 0 0], .slice none 0 0] 8 (World.laidAll_os _ _ _)
      (World.shaped_of_ZipB (by kernel_rfl) (by kernel_rfl)) (by kernel_rfl) (by kernel_rfl) (by kernel_rfl)
      (by rw [MakeChecks.laidMetH_plain _ _ _ (by kernel_rfl)]; exact laidMet_laidAll _ (by kernel_rfl) (by kernel_rfl))) ?_
  intro W base args ds gs before hval0 hW hcnd hsz0 hL hShape
  have hG := gwa_of_laid hShape hL
  have hval : ∀ (j : Nat) t v, Tryd.f4.params[j]? = some t → args[j]? = some v → Value.okWide Tryd.prog W .any base t v := hval0
  have hW' := hW
  obtain ⟨p, q, hA0, hV, rfl, hfz, hnd⟩ := hW
  have hA : DataW.TrodAll enc Tryd.prog W 0 (fun _ => true) true Tryd.f4.params.toList args.toList ds p := hA0
  rw [Tryd.params4] at hA hval
  obtain ⟨v0, vs0, d0, ds0, p0, q0, hargs, rfl, rfl, h0, r0⟩ := trodAll_cons hA
  obtain ⟨v1, vs1, d1, ds1, p1, q1, rfl, rfl, rfl, h1, r1⟩ := trodAll_cons r0
  obtain ⟨rfl, rfl, rfl⟩ := trodAll_nil r1
  obtain rfl : args = #[v0, v1] := by cases args; simp_all
  obtain ⟨rfl, rfl⟩ := trodVars_none hV
  obtain ⟨cs0, rfl, _⟩ := okWide_struct Tryd.underlying27 (hval 0 27 v0 rfl rfl)
  have k0 := h0
  have lt0 : ∀ x ∈ p0, x.block < W.heap.size := by obtain ⟨m, hm⟩ := k0; exact DataW.trod_lt m _ _ _ hm
  obtain ⟨fuel0, f0⟩ := h0
  obtain ⟨⟨⟨x0_0, x0_1, x0_2⟩, x0_3⟩, K0, ok0⟩ := (opens_struct2 (fun x : (List Int × Int × List Int) × List S24 => x) (fun a b => (a, b)) (fun _ _ => rfl) Tryd.underlying27 (opens_struct3 (fun x : List Int × Int × List Int => x) (fun a b c => (a, b, c)) (fun _ _ _ => rfl) Tryd.underlying24 (opens_slice 3 Tryd.underlying22 (by kernel_rfl) (opens_int Tryd.underlying3 (by kernel_rfl))) (opens_int Tryd.underlying3 (by kernel_rfl)) (opens_slice 3 Tryd.underlying22 (by kernel_rfl) (opens_int Tryd.underlying3 (by kernel_rfl))) ⟨rfl, rfl, rfl, by kernel_rfl⟩) (opens_slice 3 Tryd.underlying25 (by kernel_rfl) (opens_struct3 (fun x : S24 => (x.f0, x.f1, x.f2)) (fun a b c => (⟨a, b, c⟩ : S24)) (fun _ _ _ => rfl) Tryd.underlying24 (opens_slice 3 Tryd.underlying22 (by kernel_rfl) (opens_int Tryd.underlying3 (by kernel_rfl))) (opens_int Tryd.underlying3 (by kernel_rfl)) (opens_slice 3 Tryd.underlying22 (by kernel_rfl) (opens_int Tryd.underlying3 (by kernel_rfl))) ⟨rfl, rfl, rfl, by kernel_rfl⟩)) ⟨rfl, rfl, by kernel_rfl⟩).2 f0
  obtain ⟨_, _, e0, ⟨_, _, rfl, ⟨A0_0, cap0_0, rfl, hc0_0, hr0_0⟩, _, _, rfl, rfl, A0_2, cap0_2, rfl, hc0_2, hr0_2⟩, A0_3, cap0_3, rfl, hc0_3, hr0_3⟩ := K0
  obtain rfl : cs0 = #[.slice A0_0 x0_0.length cap0_0, .int .i64 x0_1, .slice A0_2 x0_2.length cap0_2, .slice A0_3 x0_3.length cap0_3] := Array.toList_inj.1 e0
  obtain ⟨B1, n1, m1, rfl⟩ := okWide_slice Tryd.underlying43 (hval 1 43 v1 rfl rfl)
  have k1 := h1
  have lt1 : ∀ x ∈ p1, x.block < W.heap.size := by obtain ⟨m, hm⟩ := k1; exact DataW.trod_lt m _ _ _ hm
  obtain ⟨fuel1, f1⟩ := h1
  obtain ⟨x1, K1, ok1⟩ := (opens_slice 3 Tryd.underlying43 (by kernel_rfl) (opens_struct3 (fun x : S29 => (x.f0, x.f1, x.f2)) (fun a b c => (⟨a, b, c⟩ : S29)) (fun _ _ _ => rfl) Tryd.underlying29 (opens_int Tryd.underlying3 (by kernel_rfl)) (opens_int Tryd.underlying3 (by kernel_rfl)) (opens_int Tryd.underlying3 (by kernel_rfl)) ⟨rfl, rfl, rfl, by kernel_rfl⟩)).2 f1
  obtain ⟨A1, cap1, e1, hc1, hr1⟩ := K1
  simp only [Value.cells, List.cons.injEq, and_true, Value.slice.injEq, Value.int.injEq, Value.string.injEq, true_and] at e1
  obtain ⟨rfl, rfl, rfl⟩ := e1
  obtain ⟨k, h⟩ := Pure.FnExactDeskRun x0_0 x0_1 x0_2 x0_3 x1 ok0 ok1
  clear hA0 hval0 hsz0
  refine (laws_FnExactDeskRun.calls k _ _ x0_0 x0_1 _ _ x0_2 _ _ x0_3 _ _ x1 true W hr0_0 hc0_0 hr0_2 hc0_2 hr0_3 hc0_3 hr1 hc1 hG h).mono fun e W' ⟨he, bel⟩ => ?_
  subst he
  exact ⟨_, rfl, _, _, _, [], _, [], hW', trodAll_mk1 (shut_bool Tryd.underlying4 _), (trodAll_cons_mk (Below.trod laidOut (by kernel_rfl) (of_decide_eq_true (by kernel_rfl)) k0 bel lt0) (trodAll_cons_mk (Below.trod laidOut (by kernel_rfl) (of_decide_eq_true (by kernel_rfl)) k1 bel lt1) trodAll_mk0)), rfl, bel.frame _, fun h => by cases h⟩
theorem closed : joinedFacts Tryd.prog 4 Tryd.f4 Rows.fnExactDeskRunSpec Rows.fnExactDeskRunRow = true := by
  unfold joinedFacts
  rw [enterF, liftsF, makeF]
  kernel_rfl
theorem over : Rows.fnExactDeskRunRow.holds Tryd.pinned (OpenSpec.ofChange Rows.fnExactDeskRunSpec) :=
  OpenClaim.holds_of_wide 4 Tryd.f4 rfl rfl rfl rfl rfl rfl rfl ⟨rfl, rfl, rfl, rfl, rfl⟩ rfl rfl rfl rfl rfl (by kernel_rfl) Tryd.func4 closed
    (of_decide_eq_true (by kernel_rfl)) (by unfold Func.isWrapper; first | (rw [if_pos (by decide +kernel)]; kernel_rfl) | (rw [if_neg (by decide +kernel)]; exact ⟨rfl, rfl⟩))
    (fun os started H enc _ => lifted os started H enc)
theorem proved : Rows.FnExactDeskRunSaid := over
theorem card : Rows.FnExactDeskRunCardSaid :=
  Claim7.holds_tied_plain_at .later [] [.data, .data, .data] true (true, "564a150b216dd600c132c0e57df13c79ab0cd026f1197a688fa84bc1b43d76d3") false proved (fun _ h => by cases h) (by kernel_rfl) (fun _ h => by cases h) fnExactDeskRun_row_tie rfl ⟨rfl, rfl⟩ (by kernel_rfl) rfl
    (fun f fn hf hfn => by
      obtain rfl : f = 4 := Option.some.inj ((show Tryd.prog.funcNamed "loop.example/urnsandballs/laws.FnExactDeskRun" = some 4 by kernel_rfl).symm.trans hf) |>.symm
      obtain rfl : fn = Tryd.f4 := (Option.some.inj (Tryd.func4.symm.trans hfn)).symm
      exact ⟨by kernel_rfl, fun j t ht => by
        rw [Tryd.params4] at ht
        have hm : t ∈ [27, 43] := by simpa using Array.mem_of_getElem? ht
        have hall : ([27, 43].all fun u => !Tryd.prog.wantsStandIn u) = true := by kernel_rfl
        exact (show Tryd.prog.wantsStandIn t = false by simpa using List.all_eq_true.1 hall t hm)⟩)
    (by kernel_rfl)
#print axioms card
end Go.Proofs.YtmodbemkflkbeaaDoor.fnExactDeskRun
namespace Go.Proofs.YtmodbemkflkbeaaDoor
theorem fnExactDeskRun_card : Rows.FnExactDeskRunCardSaid := fnExactDeskRun.card
end Go.Proofs.YtmodbemkflkbeaaDoor
