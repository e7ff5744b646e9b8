/- For the law FnExactStoreOpen: the given statement itself and its tied card, out of its plain statement (Pure) and the walk of its function. No condition beyond those of the statement. -/
import Derived.Test.YtmodbemkflkbeaaGreatDoorRows
import Derived.Test.YtmodbemkflkbeaaGreatDoorOpen
import Derived.Test.YtmodbemkflkbeaaGreatDoorDoorKit
import Derived.Test.YtmodbemkflkbeaaGreatDoorFa
import Derived.Test.YtmodbemkflkbeaaGreatDoorFb
import Derived.Test.YtmodbemkflkbeaaGreatDoorFc
import Derived.Test.YtmodbemkflkbeaaGreatDoorMFnExactStoreOpenx16
import Derived.Test.YtmodbemkflkbeaaGreatDoorPureFnExactStoreOpen
import Derived.WalkKit
import Derived.JoinedOf
import Derived.ProofKit
import Derived.OpenShut
import Derived.ShutString
import Derived.ChangeOld
import Derived.Below
import Derived.SizedLaws
import Derived.LaidLaws
import Derived.Stop.Joined
namespace Go.Proofs.YtmodbemkflkbeaaGreatDoor.fnExactStoreOpen
open Go.ChangeShapes Go.WideShapes Go.ChangeAt Go.RowKit Go.Proofs.YtmodbemkflkbeaaGreatDoorW.PrintWords Go.Proofs.YtmodbemkflkbeaaGreatDoor.Base Go.Proofs.YtmodbemkflkbeaaGreatDoor.MFnExactStoreOpen
open Go.ChangeMaps (open_string shut_string)
set_option linter.unusedVariables false
theorem own : ownKnob Tryz.prog.godebug = none := by kernel_rfl
theorem laidOut : laidOutB Tryz.prog = true := by kernel_rfl
set_option maxRecDepth 100000 in
theorem lifted (os : Os) (started : os.Started) (H : Type) (enc : TypeId × Value → H) :
    ReturnsInHanded {} Tryz.checked os 3 .any (fun w args => (Rows.fnExactStoreOpenSpec.pre enc Tryz.prog Tryz.f3 Rows.fnExactStoreOpenRow.domain false w args ∧ laidMetH Tryz.prog Rows.fnExactStoreOpenRow.laid w) ∧ sizedMet enc Tryz.prog Tryz.f3 (OpenSpec.ofChange Rows.fnExactStoreOpenSpec) false w args) (Rows.fnExactStoreOpenSpec.post enc Tryz.prog Tryz.f3 false true false false) := by
  refine returns_and_shaped (C := Tryz.checked) (X := fun w _ => laidMetH Tryz.prog Rows.fnExactStoreOpenRow.laid w) (fun _ _ _ hh h => h.of_heap hh) own started (by kernel_rfl) Tryz.func3
    (ChangeSpec.witness_shaped (enc := enc) (C := Tryz.checked) (os := os) (X := fun w _ => laidMetH Tryz.prog Rows.fnExactStoreOpenRow.laid w) false (World.laidAll Tryz.prog os Rows.fnExactStoreOpenRow.laid) #[.agg #[.string ByteArray.empty, .string ByteArray.empty, .int .i64 0]] 8 (World.laidAll_os _ _ _)
      (World.shaped_of_ZipB (by kernel_rfl) (by kernel_rfl)) (by kernel_rfl) (by kernel_rfl) (by kernel_rfl)
      (by rw [MakeChecks.laidMetH_plain _ _ _ (by kernel_rfl)]; exact laidMet_laidAll _ (by kernel_rfl) (by kernel_rfl))) ?_
  intro W base args ds gs before hval0 hW hcnd hsz0 hL hShape
  have hG := gwb_of_laid hShape hL
  have hval : ∀ (j : Nat) t v, Tryz.f3.params[j]? = some t → args[j]? = some v → Value.okWide Tryz.prog W .any base t v := hval0
  have hW' := hW
  obtain ⟨p, q, hA0, hV, rfl, hfz, hnd⟩ := hW
  have hA : DataW.TrodAll enc Tryz.prog W 0 (fun _ => true) true Tryz.f3.params.toList args.toList ds p := hA0
  rw [Tryz.params3] at hA hval
  obtain ⟨v0, vs0, d0, ds0, p0, q0, hargs, rfl, rfl, h0, r0⟩ := trodAll_cons hA
  obtain ⟨rfl, rfl, rfl⟩ := trodAll_nil r0
  obtain rfl : args = #[v0] := by cases args; simp_all
  obtain ⟨rfl, rfl⟩ := trodVars_none hV
  obtain ⟨cs0, rfl, _⟩ := okWide_struct Tryz.underlying23 (hval 0 23 v0 rfl rfl)
  have k0 := h0
  have lt0 : ∀ x ∈ p0, x.block < W.heap.size := by obtain ⟨m, hm⟩ := k0; exact DataW.trod_lt m _ _ _ hm
  obtain ⟨fuel0, f0⟩ := h0
  obtain ⟨⟨x0_0, x0_1, x0_2⟩, K0, ok0⟩ := (opens_struct3 (fun x : ByteArray × ByteArray × Int => x) (fun a b c => (a, b, c)) (fun _ _ _ => rfl) Tryz.underlying23 (opens_str Tryz.underlying9 (by kernel_rfl)) (opens_str Tryz.underlying9 (by kernel_rfl)) (opens_int Tryz.underlying3 (by kernel_rfl)) ⟨rfl, rfl, rfl, by kernel_rfl⟩).2 f0
  obtain ⟨_, _, e0, rfl, _, _, rfl, rfl, rfl⟩ := K0
  obtain rfl : cs0 = #[.string x0_0, .string x0_1, .int .i64 x0_2] := Array.toList_inj.1 e0
  obtain ⟨k, h⟩ := Pure.FnExactStoreOpen x0_0 x0_1 x0_2 ok0
  clear hA0 hval0 hsz0
  refine (laws_FnExactStoreOpen.calls k x0_0 x0_1 x0_2 true W hG h).mono fun e W' ⟨he, bel⟩ => ?_
  subst he
  exact ⟨_, rfl, _, _, _, [], _, [], hW', trodAll_mk1 (shut_bool Tryz.underlying4 _), (trodAll_cons_mk (Below.trod laidOut (by kernel_rfl) (of_decide_eq_true (by kernel_rfl)) k0 bel lt0) trodAll_mk0), rfl, bel.frame _, fun h => by cases h⟩
theorem closed : joinedFacts Tryz.prog 3 Tryz.f3 Rows.fnExactStoreOpenSpec Rows.fnExactStoreOpenRow = true := by
  unfold joinedFacts
  rw [enterF, liftsF, makeF]
  kernel_rfl
theorem over : Rows.fnExactStoreOpenRow.holds Tryz.pinned (OpenSpec.ofChange Rows.fnExactStoreOpenSpec) :=
  OpenClaim.holds_of_wide 3 Tryz.f3 rfl rfl rfl rfl rfl rfl rfl ⟨rfl, rfl, rfl, rfl, rfl⟩ rfl rfl rfl rfl rfl (by kernel_rfl) Tryz.func3 closed
    (of_decide_eq_true (by kernel_rfl)) (by unfold Func.isWrapper; first | (rw [if_pos (by decide +kernel)]; kernel_rfl) | (rw [if_neg (by decide +kernel)]; exact ⟨rfl, rfl⟩))
    (fun os started H enc _ => lifted os started H enc)
theorem proved : Rows.FnExactStoreOpenSaid := over
theorem card : Rows.FnExactStoreOpenCardSaid :=
  Claim7.holds_tied_plain_at .later [] [.data, .data, .data, .data, .sentinel, .sentinel, .pinned] true (true, "301e152b0f4b5182fa23462120908269b6251a03a3d04b3184ccdeced67f0219") true proved (fun _ h => by cases h) (by kernel_rfl) (fun _ h => by cases h) fnExactStoreOpen_row_tie rfl ⟨rfl, rfl⟩ (by kernel_rfl) rfl
    (fun f fn hf hfn => by
      obtain rfl : f = 3 := Option.some.inj ((show Tryz.prog.funcNamed "loop.example/urnsandballs/laws.FnExactStoreOpen" = some 3 by kernel_rfl).symm.trans hf) |>.symm
      obtain rfl : fn = Tryz.f3 := (Option.some.inj (Tryz.func3.symm.trans hfn)).symm
      exact ⟨by kernel_rfl, fun j t ht => by
        rw [Tryz.params3] at ht
        have hm : t ∈ [23] := by simpa using Array.mem_of_getElem? ht
        have hall : ([23].all fun u => !Tryz.prog.wantsStandIn u) = true := by kernel_rfl
        exact (show Tryz.prog.wantsStandIn t = false by simpa using List.all_eq_true.1 hall t hm)⟩)
    (by kernel_rfl)
#print axioms card
end Go.Proofs.YtmodbemkflkbeaaGreatDoor.fnExactStoreOpen
namespace Go.Proofs.YtmodbemkflkbeaaGreatDoor
theorem fnExactStoreOpen_card : Rows.FnExactStoreOpenCardSaid := fnExactStoreOpen.card
end Go.Proofs.YtmodbemkflkbeaaGreatDoor
