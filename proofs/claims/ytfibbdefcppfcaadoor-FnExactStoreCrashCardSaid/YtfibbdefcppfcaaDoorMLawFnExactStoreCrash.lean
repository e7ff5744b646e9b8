/- For the law FnExactStoreCrash: the given statement itself and its tied card, out of its plain statement (Pure) and the walk of its function. No condition beyond those of the statement. -/
import Derived.Test.YtfibbdefcppfcaaDoorRows
import Derived.Test.YtfibbdefcppfcaaDoorOpen
import Derived.Test.YtfibbdefcppfcaaDoorDoorKit
import Derived.Test.YtfibbdefcppfcaaDoorFa
import Derived.Test.YtfibbdefcppfcaaDoorFb
import Derived.Test.YtfibbdefcppfcaaDoorFc
import Derived.Test.YtfibbdefcppfcaaDoorMFnExactStoreCrashx12
import Derived.Test.YtfibbdefcppfcaaDoorPureFnExactStoreCrash
import Derived.WalkKit
import Derived.JoinedOf
import Derived.ProofKit
import Derived.OpenShut
import Derived.ShutString
import Derived.ChangeOld
import Derived.Below
import Derived.SizedLaws
import Derived.LaidLaws
import Derived.Stop.Joined
namespace Go.Proofs.YtfibbdefcppfcaaDoor.fnExactStoreCrash
open Go.ChangeShapes Go.WideShapes Go.ChangeAt Go.RowKit Go.Proofs.YtfibbdefcppfcaaDoorW.PrintWords Go.Proofs.YtfibbdefcppfcaaDoor.Base Go.Proofs.YtfibbdefcppfcaaDoor.MFnExactStoreCrash
open Go.ChangeMaps (open_string shut_string)
set_option linter.unusedVariables false
theorem own : ownKnob Tryd.prog.godebug = none := by kernel_rfl
theorem laidOut : laidOutB Tryd.prog = true := by kernel_rfl
set_option maxRecDepth 100000 in
theorem lifted (os : Os) (started : os.Started) (H : Type) (enc : TypeId × Value → H) :
    ReturnsInHanded {} Tryd.checked os 4 .any (fun w args => (Rows.fnExactStoreCrashSpec.pre enc Tryd.prog Tryd.f4 Rows.fnExactStoreCrashRow.domain false w args ∧ laidMetH Tryd.prog Rows.fnExactStoreCrashRow.laid w) ∧ sizedMet enc Tryd.prog Tryd.f4 (OpenSpec.ofChange Rows.fnExactStoreCrashSpec) false w args) (Rows.fnExactStoreCrashSpec.post enc Tryd.prog Tryd.f4 false true false false) := by
  refine returns_and_shaped (C := Tryd.checked) (X := fun w _ => laidMetH Tryd.prog Rows.fnExactStoreCrashRow.laid w) (fun _ _ _ hh h => h.of_heap hh) own started (by kernel_rfl) Tryd.func4
    (ChangeSpec.witness_shaped (enc := enc) (C := Tryd.checked) (os := os) (X := fun w _ => laidMetH Tryd.prog Rows.fnExactStoreCrashRow.laid w) false (World.laidAll Tryd.prog os Rows.fnExactStoreCrashRow.laid) #[.agg #[.string ByteArray.empty, .string ByteArray.empty, .int .i64 0], .int .i64 0] 8 (World.laidAll_os _ _ _)
      (World.shaped_of_ZipB (by kernel_rfl) (by kernel_rfl)) (by kernel_rfl) (by kernel_rfl) (by kernel_rfl)
      (by rw [MakeChecks.laidMetH_plain _ _ _ (by kernel_rfl)]; exact laidMet_laidAll _ (by kernel_rfl) (by kernel_rfl))) ?_
  intro W base args ds gs before hval0 hW hcnd hsz0 hL hShape
  have hG := gwb_of_laid hShape hL
  have hval : ∀ (j : Nat) t v, Tryd.f4.params[j]? = some t → args[j]? = some v → Value.okWide Tryd.prog W .any base t v := hval0
  have hW' := hW
  obtain ⟨p, q, hA0, hV, rfl, hfz, hnd⟩ := hW
  have hA : DataW.TrodAll enc Tryd.prog W 0 (fun _ => true) true Tryd.f4.params.toList args.toList ds p := hA0
  rw [Tryd.params4] at hA hval
  obtain ⟨v0, vs0, d0, ds0, p0, q0, hargs, rfl, rfl, h0, r0⟩ := trodAll_cons hA
  obtain ⟨v1, vs1, d1, ds1, p1, q1, rfl, rfl, rfl, h1, r1⟩ := trodAll_cons r0
  obtain ⟨rfl, rfl, rfl⟩ := trodAll_nil r1
  obtain rfl : args = #[v0, v1] := by cases args; simp_all
  obtain ⟨rfl, rfl⟩ := trodVars_none hV
  obtain ⟨cs0, rfl, _⟩ := okWide_struct Tryd.underlying23 (hval 0 23 v0 rfl rfl)
  have k0 := h0
  have lt0 : ∀ x ∈ p0, x.block < W.heap.size := by obtain ⟨m, hm⟩ := k0; exact DataW.trod_lt m _ _ _ hm
  obtain ⟨fuel0, f0⟩ := h0
  obtain ⟨⟨x0_0, x0_1, x0_2⟩, K0, ok0⟩ := (opens_struct3 (fun x : ByteArray × ByteArray × Int => x) (fun a b c => (a, b, c)) (fun _ _ _ => rfl) Tryd.underlying23 (opens_str Tryd.underlying9 (by kernel_rfl)) (opens_str Tryd.underlying9 (by kernel_rfl)) (opens_int Tryd.underlying3 (by kernel_rfl)) ⟨rfl, rfl, rfl, by kernel_rfl⟩).2 f0
  obtain ⟨_, _, e0, rfl, _, _, rfl, rfl, rfl⟩ := K0
  obtain rfl : cs0 = #[.string x0_0, .string x0_1, .int .i64 x0_2] := Array.toList_inj.1 e0
  obtain ⟨n1, rfl⟩ := okWide_int Tryd.underlying3 (hval 1 3 v1 rfl rfl)
  have k1 := h1
  have lt1 : ∀ x ∈ p1, x.block < W.heap.size := by obtain ⟨m, hm⟩ := k1; exact DataW.trod_lt m _ _ _ hm
  obtain ⟨fuel1, f1⟩ := h1
  obtain ⟨x1, K1, ok1⟩ := (opens_int Tryd.underlying3 (by kernel_rfl)).2 f1
  have e1 : _ = _ := K1
  simp only [Value.cells, List.cons.injEq, and_true, Value.slice.injEq, Value.int.injEq, Value.string.injEq, true_and] at e1
  obtain rfl := e1.symm
  obtain ⟨k, h⟩ := Pure.FnExactStoreCrash x0_0 x0_1 x0_2 x1 ok0 ok1
  clear hA0 hval0 hsz0
  refine (laws_FnExactStoreCrash.calls k x0_0 x0_1 x0_2 x1 true W hG h).mono fun e W' ⟨he, bel⟩ => ?_
  subst he
  exact ⟨_, rfl, _, _, _, [], _, [], hW', trodAll_mk1 (shut_bool Tryd.underlying4 _), (trodAll_cons_mk (Below.trod laidOut (by kernel_rfl) (of_decide_eq_true (by kernel_rfl)) k0 bel lt0) (trodAll_cons_mk (Below.trod laidOut (by kernel_rfl) (of_decide_eq_true (by kernel_rfl)) k1 bel lt1) trodAll_mk0)), rfl, bel.frame _, fun h => by cases h⟩
theorem closed : joinedFacts Tryd.prog 4 Tryd.f4 Rows.fnExactStoreCrashSpec Rows.fnExactStoreCrashRow = true := by
  unfold joinedFacts
  rw [enterF, liftsF, makeF]
  kernel_rfl
theorem over : Rows.fnExactStoreCrashRow.holds Tryd.pinned (OpenSpec.ofChange Rows.fnExactStoreCrashSpec) :=
  OpenClaim.holds_of_wide 4 Tryd.f4 rfl rfl rfl rfl rfl rfl rfl ⟨rfl, rfl, rfl, rfl, rfl⟩ rfl rfl rfl rfl rfl (by kernel_rfl) Tryd.func4 closed
    (of_decide_eq_true (by kernel_rfl)) (by unfold Func.isWrapper; first | (rw [if_pos (by decide +kernel)]; kernel_rfl) | (rw [if_neg (by decide +kernel)]; exact ⟨rfl, rfl⟩))
    (fun os started H enc _ => lifted os started H enc)
theorem proved : Rows.FnExactStoreCrashSaid := over
theorem card : Rows.FnExactStoreCrashCardSaid :=
  Claim7.holds_tied_plain_at .later [] [.data, .data, .data, .data, .sentinel, .sentinel, .pinned] true (true, "7d63e669125272822efced0dd97abe8f29d536f69e0d031320b20bd371dea029") true proved (fun _ h => by cases h) (by kernel_rfl) (fun _ h => by cases h) fnExactStoreCrash_row_tie rfl ⟨rfl, rfl⟩ (by kernel_rfl) rfl
    (fun f fn hf hfn => by
      obtain rfl : f = 4 := Option.some.inj ((show Tryd.prog.funcNamed "loop.example/urnsandballs/laws.FnExactStoreCrash" = some 4 by kernel_rfl).symm.trans hf) |>.symm
      obtain rfl : fn = Tryd.f4 := (Option.some.inj (Tryd.func4.symm.trans hfn)).symm
      exact ⟨by kernel_rfl, fun j t ht => by
        rw [Tryd.params4] at ht
        have hm : t ∈ [23, 3] := by simpa using Array.mem_of_getElem? ht
        have hall : ([23, 3].all fun u => !Tryd.prog.wantsStandIn u) = true := by kernel_rfl
        exact (show Tryd.prog.wantsStandIn t = false by simpa using List.all_eq_true.1 hall t hm)⟩)
    (by kernel_rfl)
#print axioms card
end Go.Proofs.YtfibbdefcppfcaaDoor.fnExactStoreCrash
namespace Go.Proofs.YtfibbdefcppfcaaDoor
theorem fnExactStoreCrash_card : Rows.FnExactStoreCrashCardSaid := fnExactStoreCrash.card
end Go.Proofs.YtfibbdefcppfcaaDoor
