/-
  No cell of these rows narrows 'for every input' (looked for: loops, veiled, ifaces, maps, wideKeys, modest, calm, conditions, laid).
  DERIVED. THE GIVEN ROWS OF THIS SEAT. 6 by the template 'for every input the law returns true; each argument reads behind the call as it read before'; 0 by the template 'total and deterministic' (their statements: YtnajepeajjbhcaaTotals.lean).
  GIVEN WITH THE SEED: the statements are not yours to turn. If you find one false, say at which input.
  Laid BY PROGRAM, IN A SANDBOX (cutbox-rows.mjs): the forced cells as the released guide's own fill.sh prints them over the translation 1455b146b4f8eae6… (all of the seat's roots in one cut). By AI agents, Wed Nov 11 2026. No macro, syntax, notation, axiom, sorry.
-/
import Derived.Test.YtnajepeajjbhcaaChecked
import GoSem.Claim
import GoSem.ClaimJoined
import GoSem.ClaimMapViews
import Derived.JoinedTies
import Derived.KernelRfl
namespace Go.Proofs.Ytnajepeajjbhcaa
/- THE CELL 'sum', in the pinned program and in every row, IS THE sha256 OF THE DUMP (.gsa) THAT YtnajepeajjbhcaaProg.lean LOADS. Nothing in Lean hashes anything: it is a label: what it is worth is what the hold of that sum in a sandbox is worth. -/
noncomputable def Try.pinned : Pinned := { name := "ytnajepeajjbhcaa", sum := "1455b146b4f8eae6c89c9bc82b98c4310c14c6521f572b3655f8d2f8ed66e2ec", checked := Try.checked }
namespace Rows
def none {H : Type} : Left H := { results := [], args := [] }

/-- 'laws.FnExactMatchesOf': WHATEVER THE INPUT: true; the input reads as it did. -/
def fnExactMatchesOfSpec : ChangeSpec := { name := "fnExactMatchesOf", fn := fun _ => fun
  | [d] => { results := [.lit (.bool true)], args := [d] }
  | _ => none }
def fnExactMatchesOfRow : OpenClaim := { program := "ytnajepeajjbhcaa", sum := "1455b146b4f8eae6c89c9bc82b98c4310c14c6521f572b3655f8d2f8ed66e2ec", func := "loop.example/urnsandballs/laws.FnExactMatchesOf", spec := "fnExactMatchesOf", apart := false }
def FnExactMatchesOfSaid : Prop := fnExactMatchesOfRow.holds Try.pinned (OpenSpec.ofChange fnExactMatchesOfSpec)

/-- ITS FALSE NEIGHBOUR: 'it returns false'. Refute it at one input. -/
def fnExactMatchesOfWrong : ChangeSpec := { name := "fnExactMatchesOf", fn := fun _ => fun
  | [d] => { results := [.lit (.bool false)], args := [d] }
  | _ => none }
def FnExactMatchesOfWrongFalsely : Prop := fnExactMatchesOfRow.holds Try.pinned (OpenSpec.ofChange fnExactMatchesOfWrong)

/-- 'laws.FnMatchOrders': WHATEVER THE INPUT: true; the input reads as it did. -/
def fnMatchOrdersSpec : ChangeSpec := { name := "fnMatchOrders", fn := fun _ => fun
  | [d] => { results := [.lit (.bool true)], args := [d] }
  | _ => none }
def fnMatchOrdersRow : OpenClaim := { program := "ytnajepeajjbhcaa", sum := "1455b146b4f8eae6c89c9bc82b98c4310c14c6521f572b3655f8d2f8ed66e2ec", func := "loop.example/urnsandballs/laws.FnMatchOrders", spec := "fnMatchOrders", recurses := true, apart := false }
def FnMatchOrdersSaid : Prop := fnMatchOrdersRow.holds Try.pinned (OpenSpec.ofChange fnMatchOrdersSpec)

/-- ITS FALSE NEIGHBOUR: 'it returns false'. Refute it at one input. -/
def fnMatchOrdersWrong : ChangeSpec := { name := "fnMatchOrders", fn := fun _ => fun
  | [d] => { results := [.lit (.bool false)], args := [d] }
  | _ => none }
def FnMatchOrdersWrongFalsely : Prop := fnMatchOrdersRow.holds Try.pinned (OpenSpec.ofChange fnMatchOrdersWrong)

/-- 'laws.FnMatchPairs': WHATEVER THE INPUT: true; the input reads as it did. -/
def fnMatchPairsSpec : ChangeSpec := { name := "fnMatchPairs", fn := fun _ => fun
  | [d] => { results := [.lit (.bool true)], args := [d] }
  | _ => none }
def fnMatchPairsRow : OpenClaim := { program := "ytnajepeajjbhcaa", sum := "1455b146b4f8eae6c89c9bc82b98c4310c14c6521f572b3655f8d2f8ed66e2ec", func := "loop.example/urnsandballs/laws.FnMatchPairs", spec := "fnMatchPairs", recurses := true, apart := false }
def FnMatchPairsSaid : Prop := fnMatchPairsRow.holds Try.pinned (OpenSpec.ofChange fnMatchPairsSpec)

/-- ITS FALSE NEIGHBOUR: 'it returns false'. Refute it at one input. -/
def fnMatchPairsWrong : ChangeSpec := { name := "fnMatchPairs", fn := fun _ => fun
  | [d] => { results := [.lit (.bool false)], args := [d] }
  | _ => none }
def FnMatchPairsWrongFalsely : Prop := fnMatchPairsRow.holds Try.pinned (OpenSpec.ofChange fnMatchPairsWrong)

/-- 'laws.FnMatchesOf': WHATEVER THE INPUT: true; the input reads as it did. -/
def fnMatchesOfSpec : ChangeSpec := { name := "fnMatchesOf", fn := fun _ => fun
  | [d] => { results := [.lit (.bool true)], args := [d] }
  | _ => none }
def fnMatchesOfRow : OpenClaim := { program := "ytnajepeajjbhcaa", sum := "1455b146b4f8eae6c89c9bc82b98c4310c14c6521f572b3655f8d2f8ed66e2ec", func := "loop.example/urnsandballs/laws.FnMatchesOf", spec := "fnMatchesOf", apart := false }
def FnMatchesOfSaid : Prop := fnMatchesOfRow.holds Try.pinned (OpenSpec.ofChange fnMatchesOfSpec)

/-- ITS FALSE NEIGHBOUR: 'it returns false'. Refute it at one input. -/
def fnMatchesOfWrong : ChangeSpec := { name := "fnMatchesOf", fn := fun _ => fun
  | [d] => { results := [.lit (.bool false)], args := [d] }
  | _ => none }
def FnMatchesOfWrongFalsely : Prop := fnMatchesOfRow.holds Try.pinned (OpenSpec.ofChange fnMatchesOfWrong)

/-- 'laws.FnUnmatchedOrders': WHATEVER THE INPUT: true; the input reads as it did. -/
def fnUnmatchedOrdersSpec : ChangeSpec := { name := "fnUnmatchedOrders", fn := fun _ => fun
  | [d] => { results := [.lit (.bool true)], args := [d] }
  | _ => none }
def fnUnmatchedOrdersRow : OpenClaim := { program := "ytnajepeajjbhcaa", sum := "1455b146b4f8eae6c89c9bc82b98c4310c14c6521f572b3655f8d2f8ed66e2ec", func := "loop.example/urnsandballs/laws.FnUnmatchedOrders", spec := "fnUnmatchedOrders", recurses := true, apart := false }
def FnUnmatchedOrdersSaid : Prop := fnUnmatchedOrdersRow.holds Try.pinned (OpenSpec.ofChange fnUnmatchedOrdersSpec)

/-- ITS FALSE NEIGHBOUR: 'it returns false'. Refute it at one input. -/
def fnUnmatchedOrdersWrong : ChangeSpec := { name := "fnUnmatchedOrders", fn := fun _ => fun
  | [d] => { results := [.lit (.bool false)], args := [d] }
  | _ => none }
def FnUnmatchedOrdersWrongFalsely : Prop := fnUnmatchedOrdersRow.holds Try.pinned (OpenSpec.ofChange fnUnmatchedOrdersWrong)

/-- 'laws.FnOneRound': WHATEVER THE INPUT: true; the input reads as it did. -/
def fnOneRoundSpec : ChangeSpec := { name := "fnOneRound", fn := fun _ => fun
  | [d] => { results := [.lit (.bool true)], args := [d] }
  | _ => none }
def fnOneRoundRow : OpenClaim := { program := "ytnajepeajjbhcaa", sum := "1455b146b4f8eae6c89c9bc82b98c4310c14c6521f572b3655f8d2f8ed66e2ec", func := "loop.example/urnsandballs/laws.FnOneRound", spec := "fnOneRound", apart := false }
def FnOneRoundSaid : Prop := fnOneRoundRow.holds Try.pinned (OpenSpec.ofChange fnOneRoundSpec)

/-- ITS FALSE NEIGHBOUR: 'it returns false'. Refute it at one input. -/
def fnOneRoundWrong : ChangeSpec := { name := "fnOneRound", fn := fun _ => fun
  | [d] => { results := [.lit (.bool false)], args := [d] }
  | _ => none }
def FnOneRoundWrongFalsely : Prop := fnOneRoundRow.holds Try.pinned (OpenSpec.ofChange fnOneRoundWrong)

/- THE SECOND FORM. 'bulk': how many values and letters a reading holds, each counted each time it is reached (what is shared counts as often as it is met; a slice's spare places count too). A statement '..UptoSaid' is the law's where the arguments, and the package variables that the reading takes, are together of bulk at most 1048576: NARROWER than '..Said'. Prove '..Said' where nothing that the law and all that it calls make is longer than what came in: it says more and counts as full. Else prove '..UptoSaid'. A law counts once. -/
mutual
def uptoBulk {H : Type} : DataW H → Nat
  | .lit (.string bytes) => bytes.length + 1
  | .lit _ => 1
  | .nil => 1
  | .ptr d => uptoBulk d + 1
  | .slice elems spare => uptoBulkAll elems + uptoBulkAll spare + 1
  | .agg parts => uptoBulkAll parts + 1
  | .iface _ d => uptoBulk d + 1
  | .map entries => uptoBulkEntries entries + 1
  | .held _ => 1
def uptoBulkAll {H : Type} : List (DataW H) → Nat
  | [] => 0
  | d :: r => uptoBulk d + uptoBulkAll r
def uptoBulkEntries {H : Type} : List (Lit × DataW H) → Nat
  | [] => 0
  | x :: r => uptoBulkEntry x + uptoBulkEntries r
def uptoBulkEntry {H : Type} : Lit × DataW H → Nat
  | (.string bytes, d) => bytes.length + uptoBulk d + 1
  | (_, d) => uptoBulk d + 1
 end
def uptoSmall : (H : Type) → List (DataW H) → Bool := fun _ ds => decide (uptoBulkAll ds ≤ 1048576)
def OpenSpec.upto (s : _root_.Go.ChangeSpec) : _root_.Go.OpenSpec := { _root_.Go.OpenSpec.ofChange s with cond := some uptoSmall }

/-- 'laws.FnExactMatchesOf', WHERE WHAT IT READS IS OF BULK AT MOST 1048576: true; the input reads as it did. -/
def fnExactMatchesOfUptoRow : OpenClaim := { program := "ytnajepeajjbhcaa", sum := "1455b146b4f8eae6c89c9bc82b98c4310c14c6521f572b3655f8d2f8ed66e2ec", func := "loop.example/urnsandballs/laws.FnExactMatchesOf", spec := "fnExactMatchesOf", apart := false, narrowed := true }
def FnExactMatchesOfUptoSaid : Prop := fnExactMatchesOfUptoRow.holds Try.pinned (OpenSpec.upto fnExactMatchesOfSpec)

/-- 'laws.FnMatchOrders', WHERE WHAT IT READS IS OF BULK AT MOST 1048576: true; the input reads as it did. -/
def fnMatchOrdersUptoRow : OpenClaim := { program := "ytnajepeajjbhcaa", sum := "1455b146b4f8eae6c89c9bc82b98c4310c14c6521f572b3655f8d2f8ed66e2ec", func := "loop.example/urnsandballs/laws.FnMatchOrders", spec := "fnMatchOrders", recurses := true, apart := false, narrowed := true }
def FnMatchOrdersUptoSaid : Prop := fnMatchOrdersUptoRow.holds Try.pinned (OpenSpec.upto fnMatchOrdersSpec)

/-- 'laws.FnMatchPairs', WHERE WHAT IT READS IS OF BULK AT MOST 1048576: true; the input reads as it did. -/
def fnMatchPairsUptoRow : OpenClaim := { program := "ytnajepeajjbhcaa", sum := "1455b146b4f8eae6c89c9bc82b98c4310c14c6521f572b3655f8d2f8ed66e2ec", func := "loop.example/urnsandballs/laws.FnMatchPairs", spec := "fnMatchPairs", recurses := true, apart := false, narrowed := true }
def FnMatchPairsUptoSaid : Prop := fnMatchPairsUptoRow.holds Try.pinned (OpenSpec.upto fnMatchPairsSpec)

/-- 'laws.FnMatchesOf', WHERE WHAT IT READS IS OF BULK AT MOST 1048576: true; the input reads as it did. -/
def fnMatchesOfUptoRow : OpenClaim := { program := "ytnajepeajjbhcaa", sum := "1455b146b4f8eae6c89c9bc82b98c4310c14c6521f572b3655f8d2f8ed66e2ec", func := "loop.example/urnsandballs/laws.FnMatchesOf", spec := "fnMatchesOf", apart := false, narrowed := true }
def FnMatchesOfUptoSaid : Prop := fnMatchesOfUptoRow.holds Try.pinned (OpenSpec.upto fnMatchesOfSpec)

/-- 'laws.FnUnmatchedOrders', WHERE WHAT IT READS IS OF BULK AT MOST 1048576: true; the input reads as it did. -/
def fnUnmatchedOrdersUptoRow : OpenClaim := { program := "ytnajepeajjbhcaa", sum := "1455b146b4f8eae6c89c9bc82b98c4310c14c6521f572b3655f8d2f8ed66e2ec", func := "loop.example/urnsandballs/laws.FnUnmatchedOrders", spec := "fnUnmatchedOrders", recurses := true, apart := false, narrowed := true }
def FnUnmatchedOrdersUptoSaid : Prop := fnUnmatchedOrdersUptoRow.holds Try.pinned (OpenSpec.upto fnUnmatchedOrdersSpec)

/-- 'laws.FnOneRound', WHERE WHAT IT READS IS OF BULK AT MOST 1048576: true; the input reads as it did. -/
def fnOneRoundUptoRow : OpenClaim := { program := "ytnajepeajjbhcaa", sum := "1455b146b4f8eae6c89c9bc82b98c4310c14c6521f572b3655f8d2f8ed66e2ec", func := "loop.example/urnsandballs/laws.FnOneRound", spec := "fnOneRound", apart := false, narrowed := true }
def FnOneRoundUptoSaid : Prop := fnOneRoundUptoRow.holds Try.pinned (OpenSpec.upto fnOneRoundSpec)

end Rows
end Go.Proofs.Ytnajepeajjbhcaa
