/- For the law FnExactDeskNew: the given statement itself, out of its plain statement (Pure) and the walk of its function. No condition beyond those of the statement. -/
import Derived.Test.YtncgleffkbegjaaRows
import Derived.Test.YtncgleffkbegjaaOpen
import Derived.Test.YtncgleffkbegjaaMFnExactDeskNewx9
import Derived.Test.YtncgleffkbegjaaPureFnExactDeskNew
import Derived.WalkKit
import Derived.JoinedOf
import Derived.ProofKit
import Derived.OpenShut
import Derived.ShutString
import Derived.ChangeOld
import Derived.Below
import Derived.SizedLaws
import Derived.LaidLaws
namespace Go.Proofs.Ytncgleffkbegjaa.fnExactDeskNew
open Go.ChangeShapes Go.WideShapes Go.ChangeAt Go.RowKit Go.Proofs.YtncgleffkbegjaaW.PrintWords Go.Proofs.Ytncgleffkbegjaa.Base Go.Proofs.Ytncgleffkbegjaa.MFnExactDeskNew
open Go.ChangeMaps (open_string shut_string)
set_option linter.unusedVariables false
theorem own : ownKnob Try.prog.godebug = none := by kernel_rfl
theorem laidOut : laidOutB Try.prog = true := by kernel_rfl
set_option maxRecDepth 100000 in
theorem lifted (os : Os) (started : os.Started) (H : Type) (enc : TypeId × Value → H) :
    ReturnsInHanded {} Try.checked os 3 .any (Rows.fnExactDeskNewSpec.pre6 enc Try.prog Try.f3 Rows.fnExactDeskNewRow.domain false) (Rows.fnExactDeskNewSpec.post enc Try.prog Try.f3 false true false false) := by
  refine returnsInHanded_of_change_sized (C := Try.checked) own started (by kernel_rfl) Try.func3
    (ChangeSpec.witness6 (enc := enc) (C := Try.checked) false ⟨#[], #[.agg #[.slice none 0 0, .int .i64 0, .slice none 0 0]], []⟩ 8 (by kernel_rfl) (by kernel_rfl) (by kernel_rfl) (by kernel_rfl)) ?_
  intro W base args ds gs before hval0 hW hcnd hsz0 _
  have hval : ∀ (j : Nat) t v, Try.f3.params[j]? = some t → args[j]? = some v → Value.okWide Try.prog W .any base t v := hval0
  have hW' := hW
  obtain ⟨p, q, hA0, hV, rfl, hfz, hnd⟩ := hW
  have hA : DataW.TrodAll enc Try.prog W 0 (fun _ => true) true Try.f3.params.toList args.toList ds p := hA0
  rw [Try.params3] at hA hval
  obtain ⟨v0, vs0, d0, ds0, p0, q0, hargs, rfl, rfl, h0, r0⟩ := trodAll_cons hA
  obtain ⟨rfl, rfl, rfl⟩ := trodAll_nil r0
  obtain rfl : args = #[v0] := by cases args; simp_all
  obtain ⟨rfl, rfl⟩ := trodVars_none hV
  obtain ⟨cs0, rfl, _⟩ := okWide_struct Try.underlying24 (hval 0 24 v0 rfl rfl)
  have k0 := h0
  have lt0 : ∀ x ∈ p0, x.block < W.heap.size := by obtain ⟨m, hm⟩ := k0; exact DataW.trod_lt m _ _ _ hm
  obtain ⟨fuel0, f0⟩ := h0
  obtain ⟨⟨x0_0, x0_1, x0_2⟩, K0, ok0⟩ := (opens_struct3 (fun x : List Int × Int × List Int => x) (fun a b c => (a, b, c)) (fun _ _ _ => rfl) Try.underlying24 (opens_slice 3 Try.underlying22 (by kernel_rfl) (opens_int Try.underlying3 (by kernel_rfl))) (opens_int Try.underlying3 (by kernel_rfl)) (opens_slice 3 Try.underlying22 (by kernel_rfl) (opens_int Try.underlying3 (by kernel_rfl))) ⟨rfl, rfl, rfl, by kernel_rfl⟩).2 f0
  obtain ⟨_, _, e0, ⟨A0_0, cap0_0, rfl, hc0_0, hr0_0⟩, _, _, rfl, rfl, A0_2, cap0_2, rfl, hc0_2, hr0_2⟩ := K0
  obtain rfl : cs0 = #[.slice A0_0 x0_0.length cap0_0, .int .i64 x0_1, .slice A0_2 x0_2.length cap0_2] := Array.toList_inj.1 e0
  obtain ⟨k, h⟩ := Pure.FnExactDeskNew x0_0 x0_1 x0_2 ok0
  clear hA0 hval0 hsz0
  refine (laws_FnExactDeskNew.calls k _ _ x0_0 x0_1 _ _ x0_2 true W hr0_0 hc0_0 hr0_2 hc0_2 h).mono fun e W' ⟨he, bel⟩ => ?_
  subst he
  exact ⟨_, rfl, _, _, _, [], _, [], hW', trodAll_mk1 (shut_bool Try.underlying4 _), (trodAll_cons_mk (Below.trod laidOut (by kernel_rfl) (of_decide_eq_true (by kernel_rfl)) k0 bel lt0) trodAll_mk0), rfl, bel.frame _, fun h => by cases h⟩
theorem over : Rows.fnExactDeskNewRow.holds Try.pinned (OpenSpec.ofChange Rows.fnExactDeskNewSpec) :=
  OpenClaim.holds_of_wide 3 Try.f3 rfl rfl rfl rfl rfl rfl rfl ⟨rfl, rfl, rfl, rfl, rfl⟩ rfl rfl rfl rfl rfl (by kernel_rfl) Try.func3 (by kernel_rfl)
    (of_decide_eq_true (by kernel_rfl)) (by unfold Func.isWrapper; first | (rw [if_pos (by decide +kernel)]; kernel_rfl) | (rw [if_neg (by decide +kernel)]; exact ⟨rfl, rfl⟩))
    (fun os started H enc _ => lifted os started H enc)
theorem proved : Rows.FnExactDeskNewSaid := over
#print axioms proved
end Go.Proofs.Ytncgleffkbegjaa.fnExactDeskNew
namespace Go.Proofs.Ytncgleffkbegjaa
theorem fnExactDeskNew_holds : Rows.FnExactDeskNewSaid := fnExactDeskNew.proved
end Go.Proofs.Ytncgleffkbegjaa
