/-
  DERIVED. GIVEN WITH THE SEED: THE CARDS: each row of YtopboabeigakoaaGreatDoorRows.lean that lists a variable, with what it lists TIED to the program's text (the seventh form; the later family's looks); each row that meets fmt, with fmt's text TOLD by the authors' own Lean function (tested against real Go, not proved from fmt's source: count such statements apart). THE CARD IS WHAT COUNTS. Prove the row's statement (the work); the ties are given (YtopboabeigakoaaGreatDoorTie.lean); close each card by the builder's one call (the guide's Derived/Test/ToyasCard.lean, 'card_holds'). Laid BY PROGRAM, IN A SANDBOX (cutbox-door.mjs). By AI agents, Wed Nov 11 2026. No macro, syntax, notation, axiom, sorry.
-/
import Derived.Test.YtopboabeigakoaaGreatDoorRows
import GoSem.ClaimSeven
namespace Go.Proofs.YtopboabeigakoaaGreatDoor
namespace Rows

/-- THE TIED CARD OF 'laws.FnStoreMend'. -/
def fnStoreMendCard : Claim7 := { stood := { row := fnStoreMendRow, standIns := [], harness := (true, "d7c1021d4d9f53e96a4999cb7e5945f07120fe3039485a0b9283a8ca0ebf3a78"), looks := true }, kinds := [], alts := [], laidByText := true, laidKinds := [.data, .data, .data, .data, .sentinel, .sentinel, .pinned], laidTests := true, laidLooks := .later }
def FnStoreMendCardSaid : Prop := Claim7.holds Tryz.pinned (.plain (OpenSpec.ofChange fnStoreMendSpec)) fnStoreMendCard

/-- THE TIED CARD OF 'laws.FnStoreSave'. -/
def fnStoreSaveCard : Claim7 := { stood := { row := fnStoreSaveRow, standIns := [], harness := (true, "d7c1021d4d9f53e96a4999cb7e5945f07120fe3039485a0b9283a8ca0ebf3a78"), looks := true }, kinds := [], alts := [], laidByText := true, laidKinds := [.data, .data, .data, .data, .sentinel, .sentinel, .pinned], laidTests := true, laidLooks := .later }
def FnStoreSaveCardSaid : Prop := Claim7.holds Tryz.pinned (.plain (OpenSpec.ofChange fnStoreSaveSpec)) fnStoreSaveCard

/-- THE TIED CARD OF 'laws.FnStoreAct'. -/
def fnStoreActCard : Claim7 := { stood := { row := fnStoreActRow, standIns := [], harness := (true, "d7c1021d4d9f53e96a4999cb7e5945f07120fe3039485a0b9283a8ca0ebf3a78"), looks := true }, kinds := [], alts := [], laidByText := true, laidKinds := [.data, .data, .data, .data, .sentinel, .sentinel, .pinned], laidTests := true, laidLooks := .later }
def FnStoreActCardSaid : Prop := Claim7.holds Tryz.pinned (.plain (OpenSpec.ofChange fnStoreActSpec)) fnStoreActCard

/-- THE TIED CARD OF 'laws.FnStoreOpen'. -/
def fnStoreOpenCard : Claim7 := { stood := { row := fnStoreOpenRow, standIns := [], harness := (true, "d7c1021d4d9f53e96a4999cb7e5945f07120fe3039485a0b9283a8ca0ebf3a78"), looks := true }, kinds := [], alts := [], laidByText := true, laidKinds := [.data, .data, .data, .data, .sentinel, .sentinel, .pinned], laidTests := true, laidLooks := .later }
def FnStoreOpenCardSaid : Prop := Claim7.holds Tryz.pinned (.plain (OpenSpec.ofChange fnStoreOpenSpec)) fnStoreOpenCard

/-- THE TIED CARD OF 'laws.FnStoreNever'. -/
def fnStoreNeverCard : Claim7 := { stood := { row := fnStoreNeverRow, standIns := [], harness := (true, "d7c1021d4d9f53e96a4999cb7e5945f07120fe3039485a0b9283a8ca0ebf3a78"), looks := true }, kinds := [], alts := [], laidByText := true, laidKinds := [.data, .data, .data, .data, .sentinel, .sentinel, .pinned], laidTests := true, laidLooks := .later }
def FnStoreNeverCardSaid : Prop := Claim7.holds Tryz.pinned (.plain (OpenSpec.ofChange fnStoreNeverSpec)) fnStoreNeverCard

/-- THE TIED CARD OF 'laws.FnStoreEnd'. -/
def fnStoreEndCard : Claim7 := { stood := { row := fnStoreEndRow, standIns := [], harness := (true, "d7c1021d4d9f53e96a4999cb7e5945f07120fe3039485a0b9283a8ca0ebf3a78"), looks := true }, kinds := [], alts := [], laidByText := true, laidKinds := [.data, .data, .data, .data, .sentinel, .sentinel, .pinned], laidTests := true, laidLooks := .later }
def FnStoreEndCardSaid : Prop := Claim7.holds Tryz.pinned (.plain (OpenSpec.ofChange fnStoreEndSpec)) fnStoreEndCard

/-- THE TIED CARD OF 'laws.FnStoreSameWay'. -/
def fnStoreSameWayCard : Claim7 := { stood := { row := fnStoreSameWayRow, standIns := [], harness := (true, "d7c1021d4d9f53e96a4999cb7e5945f07120fe3039485a0b9283a8ca0ebf3a78"), looks := true }, kinds := [], alts := [], laidByText := true, laidKinds := [.data, .data, .data, .data, .sentinel, .sentinel, .pinned], laidTests := true, laidLooks := .later }
def FnStoreSameWayCardSaid : Prop := Claim7.holds Tryz.pinned (.plain (OpenSpec.ofChange fnStoreSameWaySpec)) fnStoreSameWayCard

/-- THE TIED CARD OF 'laws.FnExactStoreAct'. -/
def fnExactStoreActCard : Claim7 := { stood := { row := fnExactStoreActRow, standIns := [], harness := (true, "d7c1021d4d9f53e96a4999cb7e5945f07120fe3039485a0b9283a8ca0ebf3a78"), looks := true }, kinds := [], alts := [], laidByText := true, laidKinds := [.data, .data, .data, .data, .sentinel, .sentinel, .pinned], laidTests := true, laidLooks := .later }
def FnExactStoreActCardSaid : Prop := Claim7.holds Tryz.pinned (.plain (OpenSpec.ofChange fnExactStoreActSpec)) fnExactStoreActCard

/-- THE TIED CARD OF 'laws.FnExactStoreOpen'. -/
def fnExactStoreOpenCard : Claim7 := { stood := { row := fnExactStoreOpenRow, standIns := [], harness := (true, "d7c1021d4d9f53e96a4999cb7e5945f07120fe3039485a0b9283a8ca0ebf3a78"), looks := true }, kinds := [], alts := [], laidByText := true, laidKinds := [.data, .data, .data, .data, .sentinel, .sentinel, .pinned], laidTests := true, laidLooks := .later }
def FnExactStoreOpenCardSaid : Prop := Claim7.holds Tryz.pinned (.plain (OpenSpec.ofChange fnExactStoreOpenSpec)) fnExactStoreOpenCard

/-- THE SECOND FORM's CARD OF 'laws.FnStoreMend'. -/
def fnStoreMendUptoCard : Claim7 := { stood := { row := fnStoreMendUptoRow, standIns := [], harness := (true, "d7c1021d4d9f53e96a4999cb7e5945f07120fe3039485a0b9283a8ca0ebf3a78"), looks := true }, kinds := [], alts := [], laidByText := true, laidKinds := [.data, .data, .data, .data, .sentinel, .sentinel, .pinned], laidTests := true, laidLooks := .later }
def FnStoreMendUptoCardSaid : Prop := Claim7.holds Tryz.pinned (.plain (OpenSpec.upto fnStoreMendSpec)) fnStoreMendUptoCard

/-- THE SECOND FORM's CARD OF 'laws.FnStoreSave'. -/
def fnStoreSaveUptoCard : Claim7 := { stood := { row := fnStoreSaveUptoRow, standIns := [], harness := (true, "d7c1021d4d9f53e96a4999cb7e5945f07120fe3039485a0b9283a8ca0ebf3a78"), looks := true }, kinds := [], alts := [], laidByText := true, laidKinds := [.data, .data, .data, .data, .sentinel, .sentinel, .pinned], laidTests := true, laidLooks := .later }
def FnStoreSaveUptoCardSaid : Prop := Claim7.holds Tryz.pinned (.plain (OpenSpec.upto fnStoreSaveSpec)) fnStoreSaveUptoCard

/-- THE SECOND FORM's CARD OF 'laws.FnStoreAct'. -/
def fnStoreActUptoCard : Claim7 := { stood := { row := fnStoreActUptoRow, standIns := [], harness := (true, "d7c1021d4d9f53e96a4999cb7e5945f07120fe3039485a0b9283a8ca0ebf3a78"), looks := true }, kinds := [], alts := [], laidByText := true, laidKinds := [.data, .data, .data, .data, .sentinel, .sentinel, .pinned], laidTests := true, laidLooks := .later }
def FnStoreActUptoCardSaid : Prop := Claim7.holds Tryz.pinned (.plain (OpenSpec.upto fnStoreActSpec)) fnStoreActUptoCard

/-- THE SECOND FORM's CARD OF 'laws.FnStoreOpen'. -/
def fnStoreOpenUptoCard : Claim7 := { stood := { row := fnStoreOpenUptoRow, standIns := [], harness := (true, "d7c1021d4d9f53e96a4999cb7e5945f07120fe3039485a0b9283a8ca0ebf3a78"), looks := true }, kinds := [], alts := [], laidByText := true, laidKinds := [.data, .data, .data, .data, .sentinel, .sentinel, .pinned], laidTests := true, laidLooks := .later }
def FnStoreOpenUptoCardSaid : Prop := Claim7.holds Tryz.pinned (.plain (OpenSpec.upto fnStoreOpenSpec)) fnStoreOpenUptoCard

/-- THE SECOND FORM's CARD OF 'laws.FnStoreNever'. -/
def fnStoreNeverUptoCard : Claim7 := { stood := { row := fnStoreNeverUptoRow, standIns := [], harness := (true, "d7c1021d4d9f53e96a4999cb7e5945f07120fe3039485a0b9283a8ca0ebf3a78"), looks := true }, kinds := [], alts := [], laidByText := true, laidKinds := [.data, .data, .data, .data, .sentinel, .sentinel, .pinned], laidTests := true, laidLooks := .later }
def FnStoreNeverUptoCardSaid : Prop := Claim7.holds Tryz.pinned (.plain (OpenSpec.upto fnStoreNeverSpec)) fnStoreNeverUptoCard

/-- THE SECOND FORM's CARD OF 'laws.FnStoreEnd'. -/
def fnStoreEndUptoCard : Claim7 := { stood := { row := fnStoreEndUptoRow, standIns := [], harness := (true, "d7c1021d4d9f53e96a4999cb7e5945f07120fe3039485a0b9283a8ca0ebf3a78"), looks := true }, kinds := [], alts := [], laidByText := true, laidKinds := [.data, .data, .data, .data, .sentinel, .sentinel, .pinned], laidTests := true, laidLooks := .later }
def FnStoreEndUptoCardSaid : Prop := Claim7.holds Tryz.pinned (.plain (OpenSpec.upto fnStoreEndSpec)) fnStoreEndUptoCard

/-- THE SECOND FORM's CARD OF 'laws.FnStoreSameWay'. -/
def fnStoreSameWayUptoCard : Claim7 := { stood := { row := fnStoreSameWayUptoRow, standIns := [], harness := (true, "d7c1021d4d9f53e96a4999cb7e5945f07120fe3039485a0b9283a8ca0ebf3a78"), looks := true }, kinds := [], alts := [], laidByText := true, laidKinds := [.data, .data, .data, .data, .sentinel, .sentinel, .pinned], laidTests := true, laidLooks := .later }
def FnStoreSameWayUptoCardSaid : Prop := Claim7.holds Tryz.pinned (.plain (OpenSpec.upto fnStoreSameWaySpec)) fnStoreSameWayUptoCard

/-- THE SECOND FORM's CARD OF 'laws.FnExactStoreAct'. -/
def fnExactStoreActUptoCard : Claim7 := { stood := { row := fnExactStoreActUptoRow, standIns := [], harness := (true, "d7c1021d4d9f53e96a4999cb7e5945f07120fe3039485a0b9283a8ca0ebf3a78"), looks := true }, kinds := [], alts := [], laidByText := true, laidKinds := [.data, .data, .data, .data, .sentinel, .sentinel, .pinned], laidTests := true, laidLooks := .later }
def FnExactStoreActUptoCardSaid : Prop := Claim7.holds Tryz.pinned (.plain (OpenSpec.upto fnExactStoreActSpec)) fnExactStoreActUptoCard

/-- THE SECOND FORM's CARD OF 'laws.FnExactStoreOpen'. -/
def fnExactStoreOpenUptoCard : Claim7 := { stood := { row := fnExactStoreOpenUptoRow, standIns := [], harness := (true, "d7c1021d4d9f53e96a4999cb7e5945f07120fe3039485a0b9283a8ca0ebf3a78"), looks := true }, kinds := [], alts := [], laidByText := true, laidKinds := [.data, .data, .data, .data, .sentinel, .sentinel, .pinned], laidTests := true, laidLooks := .later }
def FnExactStoreOpenUptoCardSaid : Prop := Claim7.holds Tryz.pinned (.plain (OpenSpec.upto fnExactStoreOpenSpec)) fnExactStoreOpenUptoCard
end Rows
end Go.Proofs.YtopboabeigakoaaGreatDoor
