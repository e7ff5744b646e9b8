/- For the law FnExactStoreAct: the given statement itself and its tied card, out of its plain statement (Pure) and the walk of its function. No condition beyond those of the statement. -/
import Derived.Test.YtopboabeigakoaaGreatDoorRows
import Derived.Test.YtopboabeigakoaaGreatDoorOpen
import Derived.Test.YtopboabeigakoaaGreatDoorDoorKit
import Derived.Test.YtopboabeigakoaaGreatDoorFa
import Derived.Test.YtopboabeigakoaaGreatDoorFb
import Derived.Test.YtopboabeigakoaaGreatDoorFc
import Derived.Test.YtopboabeigakoaaGreatDoorMFnExactStoreActx21
import Derived.Test.YtopboabeigakoaaGreatDoorPureFnExactStoreAct
import Derived.WalkKit
import Derived.JoinedOf
import Derived.ProofKit
import Derived.OpenShut
import Derived.ShutString
import Derived.ChangeOld
import Derived.Below
import Derived.SizedLaws
import Derived.LaidLaws
import Derived.Stop.Joined
namespace Go.Proofs.YtopboabeigakoaaGreatDoor.fnExactStoreAct
open Go.ChangeShapes Go.WideShapes Go.ChangeAt Go.RowKit Go.Proofs.YtopboabeigakoaaGreatDoorW.PrintWords Go.Proofs.YtopboabeigakoaaGreatDoor.Base Go.Proofs.YtopboabeigakoaaGreatDoor.MFnExactStoreAct
open Go.ChangeMaps (open_string shut_string)
set_option linter.unusedVariables false
theorem own : ownKnob Tryz.prog.godebug = none := by kernel_rfl
theorem laidOut : laidOutB Tryz.prog = true := by kernel_rfl
set_option maxRecDepth 100000 in
theorem lifted (os : Os) (started : os.Started) (H : Type) (enc : TypeId × Value → H) :
    ReturnsInHanded {} Tryz.checked os 10 .any (fun w args => (Rows.fnExactStoreActSpec.pre enc Tryz.prog Tryz.f10 Rows.fnExactStoreActRow.domain false w args ∧ laidMetH Tryz.prog Rows.fnExactStoreActRow.laid w) ∧ sizedMet enc Tryz.prog Tryz.f10 (OpenSpec.ofChange Rows.fnExactStoreActSpec) false w args) (Rows.fnExactStoreActSpec.post enc Tryz.prog Tryz.f10 false true false false) := by
  refine returns_and_shaped (C := Tryz.checked) (X := fun w _ => laidMetH Tryz.prog Rows.fnExactStoreActRow.laid w) (fun _ _ _ hh h => h.of_heap hh) own started (by kernel_rfl) Tryz.func10
    (ChangeSpec.witness_shaped (enc := enc) (C := Tryz.checked) (os := os) (X := fun w _ => laidMetH Tryz.prog Rows.fnExactStoreActRow.laid w) false (World.laidAll Tryz.prog os Rows.fnExactStoreActRow.laid) #[.agg #[.string ByteArray.empty, .string ByteArray.empty, .int .i64 0], .agg #[.int .i64 0, .int .i64 0, .int .i64 0]] 8 (World.laidAll_os _ _ _)
      (World.shaped_of_ZipB (by kernel_rfl) (by kernel_rfl)) (by kernel_rfl) (by kernel_rfl) (by kernel_rfl)
      (by rw [MakeChecks.laidMetH_plain _ _ _ (by kernel_rfl)]; exact laidMet_laidAll _ (by kernel_rfl) (by kernel_rfl))) ?_
  intro W base args ds gs before hval0 hW hcnd hsz0 hL hShape
  have hG := gwb_of_laid hShape hL
  have hval : ∀ (j : Nat) t v, Tryz.f10.params[j]? = some t → args[j]? = some v → Value.okWide Tryz.prog W .any base t v := hval0
  have hW' := hW
  obtain ⟨p, q, hA0, hV, rfl, hfz, hnd⟩ := hW
  have hA : DataW.TrodAll enc Tryz.prog W 0 (fun _ => true) true Tryz.f10.params.toList args.toList ds p := hA0
  rw [Tryz.params10] at hA hval
  obtain ⟨v0, vs0, d0, ds0, p0, q0, hargs, rfl, rfl, h0, r0⟩ := trodAll_cons hA
  obtain ⟨v1, vs1, d1, ds1, p1, q1, rfl, rfl, rfl, h1, r1⟩ := trodAll_cons r0
  obtain ⟨rfl, rfl, rfl⟩ := trodAll_nil r1
  obtain rfl : args = #[v0, v1] := by cases args; simp_all
  obtain ⟨rfl, rfl⟩ := trodVars_none hV
  obtain ⟨cs0, rfl, _⟩ := okWide_struct Tryz.underlying63 (hval 0 63 v0 rfl rfl)
  have k0 := h0
  have lt0 : ∀ x ∈ p0, x.block < W.heap.size := by obtain ⟨m, hm⟩ := k0; exact DataW.trod_lt m _ _ _ hm
  obtain ⟨fuel0, f0⟩ := h0
  obtain ⟨⟨x0_0, x0_1, x0_2⟩, K0, ok0⟩ := (opens_struct3 (fun x : ByteArray × ByteArray × Int => x) (fun a b c => (a, b, c)) (fun _ _ _ => rfl) Tryz.underlying63 (opens_str Tryz.underlying9 (by kernel_rfl)) (opens_str Tryz.underlying9 (by kernel_rfl)) (opens_int Tryz.underlying3 (by kernel_rfl)) ⟨rfl, rfl, rfl, by kernel_rfl⟩).2 f0
  obtain ⟨_, _, e0, rfl, _, _, rfl, rfl, rfl⟩ := K0
  obtain rfl : cs0 = #[.string x0_0, .string x0_1, .int .i64 x0_2] := Array.toList_inj.1 e0
  obtain ⟨cs1, rfl, _⟩ := okWide_struct Tryz.underlying64 (hval 1 64 v1 rfl rfl)
  have k1 := h1
  have lt1 : ∀ x ∈ p1, x.block < W.heap.size := by obtain ⟨m, hm⟩ := k1; exact DataW.trod_lt m _ _ _ hm
  obtain ⟨fuel1, f1⟩ := h1
  obtain ⟨⟨x1_0, x1_1, x1_2⟩, K1, ok1⟩ := (opens_struct3 (fun x : Int × Int × Int => x) (fun a b c => (a, b, c)) (fun _ _ _ => rfl) Tryz.underlying64 (opens_int Tryz.underlying3 (by kernel_rfl)) (opens_int Tryz.underlying3 (by kernel_rfl)) (opens_int Tryz.underlying3 (by kernel_rfl)) ⟨rfl, rfl, rfl, by kernel_rfl⟩).2 f1
  obtain ⟨_, _, e1, rfl, _, _, rfl, rfl, rfl⟩ := K1
  obtain rfl : cs1 = #[.int .i64 x1_0, .int .i64 x1_1, .int .i64 x1_2] := Array.toList_inj.1 e1
  obtain ⟨k, h⟩ := Pure.FnExactStoreAct x0_0 x0_1 x0_2 x1_0 x1_1 x1_2 ok0 ok1
  clear hA0 hval0 hsz0
  refine (laws_FnExactStoreAct.calls k x0_0 x0_1 x0_2 x1_0 x1_1 x1_2 true W hG h).mono fun e W' ⟨he, bel⟩ => ?_
  subst he
  exact ⟨_, rfl, _, _, _, [], _, [], hW', trodAll_mk1 (shut_bool Tryz.underlying4 _), (trodAll_cons_mk (Below.trod laidOut (by kernel_rfl) (of_decide_eq_true (by kernel_rfl)) k0 bel lt0) (trodAll_cons_mk (Below.trod laidOut (by kernel_rfl) (of_decide_eq_true (by kernel_rfl)) k1 bel lt1) trodAll_mk0)), rfl, bel.frame _, fun h => by cases h⟩
theorem closed : joinedFacts Tryz.prog 10 Tryz.f10 Rows.fnExactStoreActSpec Rows.fnExactStoreActRow = true := by
  unfold joinedFacts
  rw [enterF, liftsF, makeF]
  kernel_rfl
theorem over : Rows.fnExactStoreActRow.holds Tryz.pinned (OpenSpec.ofChange Rows.fnExactStoreActSpec) :=
  OpenClaim.holds_of_wide 10 Tryz.f10 rfl rfl rfl rfl rfl rfl rfl ⟨rfl, rfl, rfl, rfl, rfl⟩ rfl rfl rfl rfl rfl (by kernel_rfl) Tryz.func10 closed
    (of_decide_eq_true (by kernel_rfl)) (by unfold Func.isWrapper; first | (rw [if_pos (by decide +kernel)]; kernel_rfl) | (rw [if_neg (by decide +kernel)]; exact ⟨rfl, rfl⟩))
    (fun os started H enc _ => lifted os started H enc)
theorem proved : Rows.FnExactStoreActSaid := over
theorem card : Rows.FnExactStoreActCardSaid :=
  Claim7.holds_tied_plain_at .later [] [.data, .data, .data, .data, .sentinel, .sentinel, .pinned] true (true, "d7c1021d4d9f53e96a4999cb7e5945f07120fe3039485a0b9283a8ca0ebf3a78") true proved (fun _ h => by cases h) (by kernel_rfl) (fun _ h => by cases h) fnExactStoreAct_row_tie rfl ⟨rfl, rfl⟩ (by kernel_rfl) rfl
    (fun f fn hf hfn => by
      obtain rfl : f = 10 := Option.some.inj ((show Tryz.prog.funcNamed "loop.example/urnsandballs/laws.FnExactStoreAct" = some 10 by kernel_rfl).symm.trans hf) |>.symm
      obtain rfl : fn = Tryz.f10 := (Option.some.inj (Tryz.func10.symm.trans hfn)).symm
      exact ⟨by kernel_rfl, fun j t ht => by
        rw [Tryz.params10] at ht
        have hm : t ∈ [63, 64] := by simpa using Array.mem_of_getElem? ht
        have hall : ([63, 64].all fun u => !Tryz.prog.wantsStandIn u) = true := by kernel_rfl
        exact (show Tryz.prog.wantsStandIn t = false by simpa using List.all_eq_true.1 hall t hm)⟩)
    (by kernel_rfl)
#print axioms card
end Go.Proofs.YtopboabeigakoaaGreatDoor.fnExactStoreAct
namespace Go.Proofs.YtopboabeigakoaaGreatDoor
theorem fnExactStoreAct_card : Rows.FnExactStoreActCardSaid := fnExactStoreAct.card
end Go.Proofs.YtopboabeigakoaaGreatDoor
