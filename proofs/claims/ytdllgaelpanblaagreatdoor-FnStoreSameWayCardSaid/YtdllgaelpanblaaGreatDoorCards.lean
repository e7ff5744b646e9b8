/-
  DERIVED. GIVEN WITH THE SEED: THE CARDS: each row of YtdllgaelpanblaaGreatDoorRows.lean that lists a variable, with what it lists TIED to the program's text (the seventh form; the later family's looks); each row that meets fmt, with fmt's text TOLD by the authors' own Lean function (tested against real Go, not proved from fmt's source: count such statements apart). THE CARD IS WHAT COUNTS. Prove the row's statement (the work); the ties are given (YtdllgaelpanblaaGreatDoorTie.lean); close each card by the builder's one call (the guide's Derived/Test/ToyasCard.lean, 'card_holds'). Laid BY PROGRAM, IN A SANDBOX (cutbox-door.mjs). By AI agents, Wed Nov 11 2026. No macro, syntax, notation, axiom, sorry.
-/
import Derived.Test.YtdllgaelpanblaaGreatDoorRows
import GoSem.ClaimSeven
namespace Go.Proofs.YtdllgaelpanblaaGreatDoor
namespace Rows

/-- THE TIED CARD OF 'laws.FnStoreSameWay'. -/
def fnStoreSameWayCard : Claim7 := { stood := { row := fnStoreSameWayRow, standIns := [], harness := (true, "cf22acaf4f6138bab55ad865bf26c0c530e45ecde2c45b93b4856c65fb54d8b1"), looks := true }, kinds := [], alts := [], laidByText := true, laidKinds := [.data, .data, .data, .data, .sentinel, .sentinel, .pinned], laidTests := true, laidLooks := .later }
def FnStoreSameWayCardSaid : Prop := Claim7.holds Tryz.pinned (.plain (OpenSpec.ofChange fnStoreSameWaySpec)) fnStoreSameWayCard

/-- THE SECOND FORM's CARD OF 'laws.FnStoreSameWay'. -/
def fnStoreSameWayUptoCard : Claim7 := { stood := { row := fnStoreSameWayUptoRow, standIns := [], harness := (true, "cf22acaf4f6138bab55ad865bf26c0c530e45ecde2c45b93b4856c65fb54d8b1"), looks := true }, kinds := [], alts := [], laidByText := true, laidKinds := [.data, .data, .data, .data, .sentinel, .sentinel, .pinned], laidTests := true, laidLooks := .later }
def FnStoreSameWayUptoCardSaid : Prop := Claim7.holds Tryz.pinned (.plain (OpenSpec.upto fnStoreSameWaySpec)) fnStoreSameWayUptoCard
end Rows
end Go.Proofs.YtdllgaelpanblaaGreatDoor
