/- For the law FnExactStoreNew: the given statement itself and its tied card, out of its plain statement (Pure) and the walk of its function. No condition beyond those of the statement. -/
import Derived.Test.YtlnbobpmjbcejaaDoorRows
import Derived.Test.YtlnbobpmjbcejaaDoorOpen
import Derived.Test.YtlnbobpmjbcejaaDoorDoorKit
import Derived.Test.YtlnbobpmjbcejaaDoorFa
import Derived.Test.YtlnbobpmjbcejaaDoorFb
import Derived.Test.YtlnbobpmjbcejaaDoorFc
import Derived.Test.YtlnbobpmjbcejaaDoorMFnExactStoreNewx9
import Derived.Test.YtlnbobpmjbcejaaDoorPureFnExactStoreNew
import Derived.WalkKit
import Derived.JoinedOf
import Derived.ProofKit
import Derived.OpenShut
import Derived.ShutString
import Derived.ChangeOld
import Derived.Below
import Derived.SizedLaws
import Derived.LaidLaws
import Derived.Stop.Joined
namespace Go.Proofs.YtlnbobpmjbcejaaDoor.fnExactStoreNew
open Go.ChangeShapes Go.WideShapes Go.ChangeAt Go.RowKit Go.Proofs.YtlnbobpmjbcejaaDoorW.PrintWords Go.Proofs.YtlnbobpmjbcejaaDoor.Base Go.Proofs.YtlnbobpmjbcejaaDoor.MFnExactStoreNew
open Go.ChangeMaps (open_string shut_string)
set_option linter.unusedVariables false
theorem own : ownKnob Tryd.prog.godebug = none := by kernel_rfl
theorem laidOut : laidOutB Tryd.prog = true := by kernel_rfl
set_option maxRecDepth 100000 in
theorem lifted (os : Os) (started : os.Started) (H : Type) (enc : TypeId × Value → H) :
    ReturnsInHanded {} Tryd.checked os 6 .any (fun w args => (Rows.fnExactStoreNewSpec.pre enc Tryd.prog Tryd.f6 Rows.fnExactStoreNewRow.domain false w args ∧ laidMetH Tryd.prog Rows.fnExactStoreNewRow.laid w) ∧ sizedMet enc Tryd.prog Tryd.f6 (OpenSpec.ofChange Rows.fnExactStoreNewSpec) false w args) (Rows.fnExactStoreNewSpec.post enc Tryd.prog Tryd.f6 false true false false) := by
  refine returns_and_shaped (C := Tryd.checked) (X := fun w _ => laidMetH Tryd.prog Rows.fnExactStoreNewRow.laid w) (fun _ _ _ hh h => h.of_heap hh) own started (by kernel_rfl) Tryd.func6
    (ChangeSpec.witness_shaped (enc := enc) (C := Tryd.checked) (os := os) (X := fun w _ => laidMetH Tryd.prog Rows.fnExactStoreNewRow.laid w) false (World.laidAll Tryd.prog os Rows.fnExactStoreNewRow.laid) #[.agg #[.slice none 0 0, .int .i64 0, .slice none 0 0]] 8 (World.laidAll_os _ _ _)
      (World.shaped_of_ZipB (by kernel_rfl) (by kernel_rfl)) (by kernel_rfl) (by kernel_rfl) (by kernel_rfl)
      (by rw [MakeChecks.laidMetH_plain _ _ _ (by kernel_rfl)]; exact laidMet_laidAll _ (by kernel_rfl) (by kernel_rfl))) ?_
  intro W base args ds gs before hval0 hW hcnd hsz0 hL hShape
  have hG := gwa_of_laid hShape hL
  have hval : ∀ (j : Nat) t v, Tryd.f6.params[j]? = some t → args[j]? = some v → Value.okWide Tryd.prog W .any base t v := hval0
  have hW' := hW
  obtain ⟨p, q, hA0, hV, rfl, hfz, hnd⟩ := hW
  have hA : DataW.TrodAll enc Tryd.prog W 0 (fun _ => true) true Tryd.f6.params.toList args.toList ds p := hA0
  rw [Tryd.params6] at hA hval
  obtain ⟨v0, vs0, d0, ds0, p0, q0, hargs, rfl, rfl, h0, r0⟩ := trodAll_cons hA
  obtain ⟨rfl, rfl, rfl⟩ := trodAll_nil r0
  obtain rfl : args = #[v0] := by cases args; simp_all
  obtain ⟨rfl, rfl⟩ := trodVars_none hV
  obtain ⟨cs0, rfl, _⟩ := okWide_struct Tryd.underlying37 (hval 0 37 v0 rfl rfl)
  have k0 := h0
  have lt0 : ∀ x ∈ p0, x.block < W.heap.size := by obtain ⟨m, hm⟩ := k0; exact DataW.trod_lt m _ _ _ hm
  obtain ⟨fuel0, f0⟩ := h0
  obtain ⟨⟨x0_0, x0_1, x0_2⟩, K0, ok0⟩ := (opens_struct3 (fun x : List Int × Int × List Int => x) (fun a b c => (a, b, c)) (fun _ _ _ => rfl) Tryd.underlying37 (opens_slice 3 Tryd.underlying35 (by kernel_rfl) (opens_int Tryd.underlying3 (by kernel_rfl))) (opens_int Tryd.underlying3 (by kernel_rfl)) (opens_slice 3 Tryd.underlying35 (by kernel_rfl) (opens_int Tryd.underlying3 (by kernel_rfl))) ⟨rfl, rfl, rfl, by kernel_rfl⟩).2 f0
  obtain ⟨_, _, e0, ⟨A0_0, cap0_0, rfl, hc0_0, hr0_0⟩, _, _, rfl, rfl, A0_2, cap0_2, rfl, hc0_2, hr0_2⟩ := K0
  obtain rfl : cs0 = #[.slice A0_0 x0_0.length cap0_0, .int .i64 x0_1, .slice A0_2 x0_2.length cap0_2] := Array.toList_inj.1 e0
  obtain ⟨k, h⟩ := Pure.FnExactStoreNew x0_0 x0_1 x0_2 ok0
  clear hA0 hval0 hsz0
  refine (laws_FnExactStoreNew.calls k _ _ x0_0 x0_1 _ _ x0_2 true W hr0_0 hc0_0 hr0_2 hc0_2 hG h).mono fun e W' ⟨he, bel⟩ => ?_
  subst he
  exact ⟨_, rfl, _, _, _, [], _, [], hW', trodAll_mk1 (shut_bool Tryd.underlying4 _), (trodAll_cons_mk (Below.trod laidOut (by kernel_rfl) (of_decide_eq_true (by kernel_rfl)) k0 bel lt0) trodAll_mk0), rfl, bel.frame _, fun h => by cases h⟩
theorem closed : joinedFacts Tryd.prog 6 Tryd.f6 Rows.fnExactStoreNewSpec Rows.fnExactStoreNewRow = true := by
  unfold joinedFacts
  rw [enterF, liftsF, makeF]
  kernel_rfl
theorem over : Rows.fnExactStoreNewRow.holds Tryd.pinned (OpenSpec.ofChange Rows.fnExactStoreNewSpec) :=
  OpenClaim.holds_of_wide 6 Tryd.f6 rfl rfl rfl rfl rfl rfl rfl ⟨rfl, rfl, rfl, rfl, rfl⟩ rfl rfl rfl rfl rfl (by kernel_rfl) Tryd.func6 closed
    (of_decide_eq_true (by kernel_rfl)) (by unfold Func.isWrapper; first | (rw [if_pos (by decide +kernel)]; kernel_rfl) | (rw [if_neg (by decide +kernel)]; exact ⟨rfl, rfl⟩))
    (fun os started H enc _ => lifted os started H enc)
theorem proved : Rows.FnExactStoreNewSaid := over
theorem card : Rows.FnExactStoreNewCardSaid :=
  Claim7.holds_tied_plain_at .later [] [.data, .data, .data] true (true, "8fbd7943012d8452367882564dc565bbc3a02ba0cc944ddf5fbc902800a6867f") false proved (fun _ h => by cases h) (by kernel_rfl) (fun _ h => by cases h) fnExactStoreNew_row_tie rfl ⟨rfl, rfl⟩ (by kernel_rfl) rfl
    (fun f fn hf hfn => by
      obtain rfl : f = 6 := Option.some.inj ((show Tryd.prog.funcNamed "loop.example/urnsandballs/laws.FnExactStoreNew" = some 6 by kernel_rfl).symm.trans hf) |>.symm
      obtain rfl : fn = Tryd.f6 := (Option.some.inj (Tryd.func6.symm.trans hfn)).symm
      exact ⟨by kernel_rfl, fun j t ht => by
        rw [Tryd.params6] at ht
        have hm : t ∈ [37] := by simpa using Array.mem_of_getElem? ht
        have hall : ([37].all fun u => !Tryd.prog.wantsStandIn u) = true := by kernel_rfl
        exact (show Tryd.prog.wantsStandIn t = false by simpa using List.all_eq_true.1 hall t hm)⟩)
    (by kernel_rfl)
#print axioms card
end Go.Proofs.YtlnbobpmjbcejaaDoor.fnExactStoreNew
namespace Go.Proofs.YtlnbobpmjbcejaaDoor
theorem fnExactStoreNew_card : Rows.FnExactStoreNewCardSaid := fnExactStoreNew.card
end Go.Proofs.YtlnbobpmjbcejaaDoor
