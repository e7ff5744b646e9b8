/-
  DERIVED. GIVEN WITH THE SEED: THE CARDS: each row of YtfibbdefcppfcaaGreatDoorRows.lean that lists a variable, with what it lists TIED to the program's text (the seventh form; the later family's looks); each row that meets fmt, with fmt's text TOLD by the authors' own Lean function (tested against real Go, not proved from fmt's source: count such statements apart). THE CARD IS WHAT COUNTS. Prove the row's statement (the work); the ties are given (YtfibbdefcppfcaaGreatDoorTie.lean); close each card by the builder's one call (the guide's Derived/Test/ToyasCard.lean, 'card_holds'). Laid BY PROGRAM, IN A SANDBOX (cutbox-door.mjs). By AI agents, Wed Nov 11 2026. No macro, syntax, notation, axiom, sorry.
-/
import Derived.Test.YtfibbdefcppfcaaGreatDoorRows
import GoSem.ClaimSeven
namespace Go.Proofs.YtfibbdefcppfcaaGreatDoor
namespace Rows

/-- THE TIED CARD OF 'laws.FnExactStoreMend'. -/
def fnExactStoreMendCard : Claim7 := { stood := { row := fnExactStoreMendRow, standIns := [], harness := (true, "a9fcf9b4c121c712d588af088ecff63ff98cc5aa7f69d1decd2c831e6b485f00"), looks := true }, kinds := [], alts := [], laidByText := true, laidKinds := [.data, .data, .data, .data, .sentinel, .sentinel, .pinned], laidTests := true, laidLooks := .later }
def FnExactStoreMendCardSaid : Prop := Claim7.holds Tryz.pinned (.plain (OpenSpec.ofChange fnExactStoreMendSpec)) fnExactStoreMendCard

/-- THE TIED CARD OF 'laws.FnExactStoreSave'. -/
def fnExactStoreSaveCard : Claim7 := { stood := { row := fnExactStoreSaveRow, standIns := [], harness := (true, "a9fcf9b4c121c712d588af088ecff63ff98cc5aa7f69d1decd2c831e6b485f00"), looks := true }, kinds := [], alts := [], laidByText := true, laidKinds := [.data, .data, .data, .data, .sentinel, .sentinel, .pinned], laidTests := true, laidLooks := .later }
def FnExactStoreSaveCardSaid : Prop := Claim7.holds Tryz.pinned (.plain (OpenSpec.ofChange fnExactStoreSaveSpec)) fnExactStoreSaveCard

/-- THE TIED CARD OF 'laws.FnExactStoreAct'. -/
def fnExactStoreActCard : Claim7 := { stood := { row := fnExactStoreActRow, standIns := [], harness := (true, "a9fcf9b4c121c712d588af088ecff63ff98cc5aa7f69d1decd2c831e6b485f00"), looks := true }, kinds := [], alts := [], laidByText := true, laidKinds := [.data, .data, .data, .data, .sentinel, .sentinel, .pinned], laidTests := true, laidLooks := .later }
def FnExactStoreActCardSaid : Prop := Claim7.holds Tryz.pinned (.plain (OpenSpec.ofChange fnExactStoreActSpec)) fnExactStoreActCard

/-- THE TIED CARD OF 'laws.FnExactStoreOpen'. -/
def fnExactStoreOpenCard : Claim7 := { stood := { row := fnExactStoreOpenRow, standIns := [], harness := (true, "a9fcf9b4c121c712d588af088ecff63ff98cc5aa7f69d1decd2c831e6b485f00"), looks := true }, kinds := [], alts := [], laidByText := true, laidKinds := [.data, .data, .data, .data, .sentinel, .sentinel, .pinned], laidTests := true, laidLooks := .later }
def FnExactStoreOpenCardSaid : Prop := Claim7.holds Tryz.pinned (.plain (OpenSpec.ofChange fnExactStoreOpenSpec)) fnExactStoreOpenCard

/-- THE TIED CARD OF 'laws.FnStoreNew'. -/
def fnStoreNewCard : Claim7 := { stood := { row := fnStoreNewRow, standIns := [], harness := (true, "a9fcf9b4c121c712d588af088ecff63ff98cc5aa7f69d1decd2c831e6b485f00"), looks := true }, kinds := [], alts := [], laidByText := true, laidKinds := [.data, .data, .data, .data, .sentinel, .sentinel, .pinned], laidTests := true, laidLooks := .later }
def FnStoreNewCardSaid : Prop := Claim7.holds Tryz.pinned (.plain (OpenSpec.ofChange fnStoreNewSpec)) fnStoreNewCard

/-- THE TIED CARD OF 'laws.FnStoreOk'. -/
def fnStoreOkCard : Claim7 := { stood := { row := fnStoreOkRow, standIns := [], harness := (true, "a9fcf9b4c121c712d588af088ecff63ff98cc5aa7f69d1decd2c831e6b485f00"), looks := true }, kinds := [], alts := [], laidByText := true, laidKinds := [.data, .data, .data, .data, .sentinel, .sentinel, .pinned], laidTests := true, laidLooks := .later }
def FnStoreOkCardSaid : Prop := Claim7.holds Tryz.pinned (.plain (OpenSpec.ofChange fnStoreOkSpec)) fnStoreOkCard

/-- THE TIED CARD OF 'laws.FnStoreCrash'. -/
def fnStoreCrashCard : Claim7 := { stood := { row := fnStoreCrashRow, standIns := [], harness := (true, "a9fcf9b4c121c712d588af088ecff63ff98cc5aa7f69d1decd2c831e6b485f00"), looks := true }, kinds := [], alts := [], laidByText := true, laidKinds := [.data, .data, .data, .data, .sentinel, .sentinel, .pinned], laidTests := true, laidLooks := .later }
def FnStoreCrashCardSaid : Prop := Claim7.holds Tryz.pinned (.plain (OpenSpec.ofChange fnStoreCrashSpec)) fnStoreCrashCard

/-- THE TIED CARD OF 'laws.FnStoreSync'. -/
def fnStoreSyncCard : Claim7 := { stood := { row := fnStoreSyncRow, standIns := [], harness := (true, "a9fcf9b4c121c712d588af088ecff63ff98cc5aa7f69d1decd2c831e6b485f00"), looks := true }, kinds := [], alts := [], laidByText := true, laidKinds := [.data, .data, .data, .data, .sentinel, .sentinel, .pinned], laidTests := true, laidLooks := .later }
def FnStoreSyncCardSaid : Prop := Claim7.holds Tryz.pinned (.plain (OpenSpec.ofChange fnStoreSyncSpec)) fnStoreSyncCard

/-- THE SECOND FORM's CARD OF 'laws.FnExactStoreMend'. -/
def fnExactStoreMendUptoCard : Claim7 := { stood := { row := fnExactStoreMendUptoRow, standIns := [], harness := (true, "a9fcf9b4c121c712d588af088ecff63ff98cc5aa7f69d1decd2c831e6b485f00"), looks := true }, kinds := [], alts := [], laidByText := true, laidKinds := [.data, .data, .data, .data, .sentinel, .sentinel, .pinned], laidTests := true, laidLooks := .later }
def FnExactStoreMendUptoCardSaid : Prop := Claim7.holds Tryz.pinned (.plain (OpenSpec.upto fnExactStoreMendSpec)) fnExactStoreMendUptoCard

/-- THE SECOND FORM's CARD OF 'laws.FnExactStoreSave'. -/
def fnExactStoreSaveUptoCard : Claim7 := { stood := { row := fnExactStoreSaveUptoRow, standIns := [], harness := (true, "a9fcf9b4c121c712d588af088ecff63ff98cc5aa7f69d1decd2c831e6b485f00"), looks := true }, kinds := [], alts := [], laidByText := true, laidKinds := [.data, .data, .data, .data, .sentinel, .sentinel, .pinned], laidTests := true, laidLooks := .later }
def FnExactStoreSaveUptoCardSaid : Prop := Claim7.holds Tryz.pinned (.plain (OpenSpec.upto fnExactStoreSaveSpec)) fnExactStoreSaveUptoCard

/-- THE SECOND FORM's CARD OF 'laws.FnExactStoreAct'. -/
def fnExactStoreActUptoCard : Claim7 := { stood := { row := fnExactStoreActUptoRow, standIns := [], harness := (true, "a9fcf9b4c121c712d588af088ecff63ff98cc5aa7f69d1decd2c831e6b485f00"), looks := true }, kinds := [], alts := [], laidByText := true, laidKinds := [.data, .data, .data, .data, .sentinel, .sentinel, .pinned], laidTests := true, laidLooks := .later }
def FnExactStoreActUptoCardSaid : Prop := Claim7.holds Tryz.pinned (.plain (OpenSpec.upto fnExactStoreActSpec)) fnExactStoreActUptoCard

/-- THE SECOND FORM's CARD OF 'laws.FnExactStoreOpen'. -/
def fnExactStoreOpenUptoCard : Claim7 := { stood := { row := fnExactStoreOpenUptoRow, standIns := [], harness := (true, "a9fcf9b4c121c712d588af088ecff63ff98cc5aa7f69d1decd2c831e6b485f00"), looks := true }, kinds := [], alts := [], laidByText := true, laidKinds := [.data, .data, .data, .data, .sentinel, .sentinel, .pinned], laidTests := true, laidLooks := .later }
def FnExactStoreOpenUptoCardSaid : Prop := Claim7.holds Tryz.pinned (.plain (OpenSpec.upto fnExactStoreOpenSpec)) fnExactStoreOpenUptoCard

/-- THE SECOND FORM's CARD OF 'laws.FnStoreNew'. -/
def fnStoreNewUptoCard : Claim7 := { stood := { row := fnStoreNewUptoRow, standIns := [], harness := (true, "a9fcf9b4c121c712d588af088ecff63ff98cc5aa7f69d1decd2c831e6b485f00"), looks := true }, kinds := [], alts := [], laidByText := true, laidKinds := [.data, .data, .data, .data, .sentinel, .sentinel, .pinned], laidTests := true, laidLooks := .later }
def FnStoreNewUptoCardSaid : Prop := Claim7.holds Tryz.pinned (.plain (OpenSpec.upto fnStoreNewSpec)) fnStoreNewUptoCard

/-- THE SECOND FORM's CARD OF 'laws.FnStoreOk'. -/
def fnStoreOkUptoCard : Claim7 := { stood := { row := fnStoreOkUptoRow, standIns := [], harness := (true, "a9fcf9b4c121c712d588af088ecff63ff98cc5aa7f69d1decd2c831e6b485f00"), looks := true }, kinds := [], alts := [], laidByText := true, laidKinds := [.data, .data, .data, .data, .sentinel, .sentinel, .pinned], laidTests := true, laidLooks := .later }
def FnStoreOkUptoCardSaid : Prop := Claim7.holds Tryz.pinned (.plain (OpenSpec.upto fnStoreOkSpec)) fnStoreOkUptoCard

/-- THE SECOND FORM's CARD OF 'laws.FnStoreCrash'. -/
def fnStoreCrashUptoCard : Claim7 := { stood := { row := fnStoreCrashUptoRow, standIns := [], harness := (true, "a9fcf9b4c121c712d588af088ecff63ff98cc5aa7f69d1decd2c831e6b485f00"), looks := true }, kinds := [], alts := [], laidByText := true, laidKinds := [.data, .data, .data, .data, .sentinel, .sentinel, .pinned], laidTests := true, laidLooks := .later }
def FnStoreCrashUptoCardSaid : Prop := Claim7.holds Tryz.pinned (.plain (OpenSpec.upto fnStoreCrashSpec)) fnStoreCrashUptoCard

/-- THE SECOND FORM's CARD OF 'laws.FnStoreSync'. -/
def fnStoreSyncUptoCard : Claim7 := { stood := { row := fnStoreSyncUptoRow, standIns := [], harness := (true, "a9fcf9b4c121c712d588af088ecff63ff98cc5aa7f69d1decd2c831e6b485f00"), looks := true }, kinds := [], alts := [], laidByText := true, laidKinds := [.data, .data, .data, .data, .sentinel, .sentinel, .pinned], laidTests := true, laidLooks := .later }
def FnStoreSyncUptoCardSaid : Prop := Claim7.holds Tryz.pinned (.plain (OpenSpec.upto fnStoreSyncSpec)) fnStoreSyncUptoCard
end Rows
end Go.Proofs.YtfibbdefcppfcaaGreatDoor
