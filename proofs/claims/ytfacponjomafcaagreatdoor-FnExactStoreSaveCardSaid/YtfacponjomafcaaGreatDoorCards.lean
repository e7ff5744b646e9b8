/-
  DERIVED. GIVEN WITH THE SEED: THE CARDS: each row of YtfacponjomafcaaGreatDoorRows.lean that lists a variable, with what it lists TIED to the program's text (the seventh form; the later family's looks); each row that meets fmt, with fmt's text TOLD by the authors' own Lean function (tested against real Go, not proved from fmt's source: count such statements apart). THE CARD IS WHAT COUNTS. Prove the row's statement (the work); the ties are given (YtfacponjomafcaaGreatDoorTie.lean); close each card by the builder's one call (the guide's Derived/Test/ToyasCard.lean, 'card_holds'). Laid BY PROGRAM, IN A SANDBOX (cutbox-door.mjs). By AI agents, Wed Nov 11 2026. No macro, syntax, notation, axiom, sorry.
-/
import Derived.Test.YtfacponjomafcaaGreatDoorRows
import GoSem.ClaimSeven
namespace Go.Proofs.YtfacponjomafcaaGreatDoor
namespace Rows

/-- THE TIED CARD OF 'laws.FnStoreNew'. -/
def fnStoreNewCard : Claim7 := { stood := { row := fnStoreNewRow, standIns := [], harness := (true, "1a16dcd586ef604b59d56f07be131e4f201670aa8f5ea27cd740bc2e29d3c336"), looks := true }, kinds := [], alts := [], laidByText := true, laidKinds := [.data, .data, .data, .data, .sentinel, .sentinel, .pinned], laidTests := true, laidLooks := .later }
def FnStoreNewCardSaid : Prop := Claim7.holds Tryz.pinned (.plain (OpenSpec.ofChange fnStoreNewSpec)) fnStoreNewCard

/-- THE TIED CARD OF 'laws.FnExactStoreSave'. -/
def fnExactStoreSaveCard : Claim7 := { stood := { row := fnExactStoreSaveRow, standIns := [], harness := (true, "1a16dcd586ef604b59d56f07be131e4f201670aa8f5ea27cd740bc2e29d3c336"), looks := true }, kinds := [], alts := [], laidByText := true, laidKinds := [.data, .data, .data, .data, .sentinel, .sentinel, .pinned], laidTests := true, laidLooks := .later }
def FnExactStoreSaveCardSaid : Prop := Claim7.holds Tryz.pinned (.plain (OpenSpec.ofChange fnExactStoreSaveSpec)) fnExactStoreSaveCard

/-- THE SECOND FORM's CARD OF 'laws.FnStoreNew'. -/
def fnStoreNewUptoCard : Claim7 := { stood := { row := fnStoreNewUptoRow, standIns := [], harness := (true, "1a16dcd586ef604b59d56f07be131e4f201670aa8f5ea27cd740bc2e29d3c336"), looks := true }, kinds := [], alts := [], laidByText := true, laidKinds := [.data, .data, .data, .data, .sentinel, .sentinel, .pinned], laidTests := true, laidLooks := .later }
def FnStoreNewUptoCardSaid : Prop := Claim7.holds Tryz.pinned (.plain (OpenSpec.upto fnStoreNewSpec)) fnStoreNewUptoCard

/-- THE SECOND FORM's CARD OF 'laws.FnExactStoreSave'. -/
def fnExactStoreSaveUptoCard : Claim7 := { stood := { row := fnExactStoreSaveUptoRow, standIns := [], harness := (true, "1a16dcd586ef604b59d56f07be131e4f201670aa8f5ea27cd740bc2e29d3c336"), looks := true }, kinds := [], alts := [], laidByText := true, laidKinds := [.data, .data, .data, .data, .sentinel, .sentinel, .pinned], laidTests := true, laidLooks := .later }
def FnExactStoreSaveUptoCardSaid : Prop := Claim7.holds Tryz.pinned (.plain (OpenSpec.upto fnExactStoreSaveSpec)) fnExactStoreSaveUptoCard
end Rows
end Go.Proofs.YtfacponjomafcaaGreatDoor
