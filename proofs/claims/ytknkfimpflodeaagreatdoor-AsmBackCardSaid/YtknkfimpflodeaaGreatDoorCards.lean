/-
  DERIVED. GIVEN WITH THE SEED: THE CARDS: each row of YtknkfimpflodeaaGreatDoorRows.lean that lists a variable, with what it lists TIED to the program's text (the seventh form; the later family's looks); each row that meets fmt, with fmt's text TOLD by the authors' own Lean function (tested against real Go, not proved from fmt's source: count such statements apart). THE CARD IS WHAT COUNTS. Prove the row's statement (the work); the ties are given (YtknkfimpflodeaaGreatDoorTie.lean); close each card by the builder's one call (the guide's Derived/Test/ToyasCard.lean, 'card_holds'). Laid BY PROGRAM, IN A SANDBOX (cutbox-door.mjs). By AI agents, Wed Nov 11 2026. No macro, syntax, notation, axiom, sorry.
-/
import Derived.Test.YtknkfimpflodeaaGreatDoorRows
import GoSem.ClaimSeven
namespace Go.Proofs.YtknkfimpflodeaaGreatDoor
namespace Rows

/-- THE TIED CARD OF 'mezzaninelaw10.AsmPrints'. -/
def asmPrintsCard : Claim7 := { stood := { row := asmPrintsRow, standIns := [], harness := (true, "42483267b4187a4f1fa52b6874f60e696d2a18b608a7ee4a3e37214019013461"), looks := true }, kinds := [], alts := [], laidByText := true, laidKinds := [.data, .data, .data, .data, .sentinel, .sentinel, .pinned], laidTests := true, laidLooks := .later }
def AsmPrintsCardSaid : Prop := Claim7.holds Tryz.pinned (.plain (OpenSpec.ofChange asmPrintsSpec)) asmPrintsCard

/-- THE TIED CARD OF 'mezzaninelaw10.AsmLis'. -/
def asmLisCard : Claim7 := { stood := { row := asmLisRow, standIns := [], harness := (true, "42483267b4187a4f1fa52b6874f60e696d2a18b608a7ee4a3e37214019013461"), looks := true }, kinds := [], alts := [], laidByText := true, laidKinds := [.data, .data, .data, .data, .sentinel, .sentinel, .pinned], laidTests := true, laidLooks := .later }
def AsmLisCardSaid : Prop := Claim7.holds Tryz.pinned (.plain (OpenSpec.ofChange asmLisSpec)) asmLisCard

/-- THE TIED CARD OF 'mezzaninelaw10.AsmAssembles'. -/
def asmAssemblesCard : Claim7 := { stood := { row := asmAssemblesRow, standIns := [], harness := (true, "42483267b4187a4f1fa52b6874f60e696d2a18b608a7ee4a3e37214019013461"), looks := true }, kinds := [], alts := [], laidByText := true, laidKinds := [.data, .data, .data, .data, .sentinel, .sentinel, .pinned], laidTests := true, laidLooks := .later }
def AsmAssemblesCardSaid : Prop := Claim7.holds Tryz.pinned (.plain (OpenSpec.ofChange asmAssemblesSpec)) asmAssemblesCard

/-- THE TIED CARD OF 'mezzaninelaw10.AsmMakes'. -/
def asmMakesCard : Claim7 := { stood := { row := asmMakesRow, standIns := [], harness := (true, "42483267b4187a4f1fa52b6874f60e696d2a18b608a7ee4a3e37214019013461"), looks := true }, kinds := [], alts := [], laidByText := true, laidKinds := [.data, .data, .data, .data, .sentinel, .sentinel, .pinned], laidTests := true, laidLooks := .later }
def AsmMakesCardSaid : Prop := Claim7.holds Tryz.pinned (.plain (OpenSpec.ofChange asmMakesSpec)) asmMakesCard

/-- THE TIED CARD OF 'mezzaninelaw10.AsmLines'. -/
def asmLinesCard : Claim7 := { stood := { row := asmLinesRow, standIns := [], harness := (true, "42483267b4187a4f1fa52b6874f60e696d2a18b608a7ee4a3e37214019013461"), looks := true }, kinds := [], alts := [], laidByText := true, laidKinds := [.data, .data, .data, .data, .sentinel, .sentinel, .pinned], laidTests := true, laidLooks := .later }
def AsmLinesCardSaid : Prop := Claim7.holds Tryz.pinned (.plain (OpenSpec.ofChange asmLinesSpec)) asmLinesCard

/-- THE TIED CARD OF 'mezzaninelaw10.AsmParses'. -/
def asmParsesCard : Claim7 := { stood := { row := asmParsesRow, standIns := [], harness := (true, "42483267b4187a4f1fa52b6874f60e696d2a18b608a7ee4a3e37214019013461"), looks := true }, kinds := [], alts := [], laidByText := true, laidKinds := [.data, .data, .data, .data, .sentinel, .sentinel, .pinned], laidTests := true, laidLooks := .later }
def AsmParsesCardSaid : Prop := Claim7.holds Tryz.pinned (.plain (OpenSpec.ofChange asmParsesSpec)) asmParsesCard

/-- THE TIED CARD OF 'mezzaninelaw10.AsmBack'. -/
def asmBackCard : Claim7 := { stood := { row := asmBackRow, standIns := [], harness := (true, "42483267b4187a4f1fa52b6874f60e696d2a18b608a7ee4a3e37214019013461"), looks := true }, kinds := [], alts := [], laidByText := true, laidKinds := [.data, .data, .data, .data, .sentinel, .sentinel, .pinned], laidTests := true, laidLooks := .later }
def AsmBackCardSaid : Prop := Claim7.holds Tryz.pinned (.plain (OpenSpec.ofChange asmBackSpec)) asmBackCard

/-- THE TIED CARD OF 'mezzaninelaw27.HvcodeSources'. -/
def hvcodeSourcesCard : Claim7 := { stood := { row := hvcodeSourcesRow, standIns := [], harness := (true, "42483267b4187a4f1fa52b6874f60e696d2a18b608a7ee4a3e37214019013461"), looks := true }, kinds := [], alts := [], laidByText := true, laidKinds := [.data, .data, .data, .data, .sentinel, .sentinel, .pinned], laidTests := true, laidLooks := .later }
def HvcodeSourcesCardSaid : Prop := Claim7.holds Tryz.pinned (.plain (OpenSpec.ofChange hvcodeSourcesSpec)) hvcodeSourcesCard

/-- THE TIED CARD OF 'mezzaninelaw27.HvcodeContexts'. -/
def hvcodeContextsCard : Claim7 := { stood := { row := hvcodeContextsRow, standIns := [], harness := (true, "42483267b4187a4f1fa52b6874f60e696d2a18b608a7ee4a3e37214019013461"), looks := true }, kinds := [], alts := [], laidByText := true, laidKinds := [.data, .data, .data, .data, .sentinel, .sentinel, .pinned], laidTests := true, laidLooks := .later }
def HvcodeContextsCardSaid : Prop := Claim7.holds Tryz.pinned (.plain (OpenSpec.ofChange hvcodeContextsSpec)) hvcodeContextsCard

/-- THE TIED CARD OF 'mezzaninelaw27.HvcodeGuests'. -/
def hvcodeGuestsCard : Claim7 := { stood := { row := hvcodeGuestsRow, standIns := [], harness := (true, "42483267b4187a4f1fa52b6874f60e696d2a18b608a7ee4a3e37214019013461"), looks := true }, kinds := [], alts := [], laidByText := true, laidKinds := [.data, .data, .data, .data, .sentinel, .sentinel, .pinned], laidTests := true, laidLooks := .later }
def HvcodeGuestsCardSaid : Prop := Claim7.holds Tryz.pinned (.plain (OpenSpec.ofChange hvcodeGuestsSpec)) hvcodeGuestsCard

/-- THE TIED CARD OF 'mezzaninelaw27.HvcodeRight'. -/
def hvcodeRightCard : Claim7 := { stood := { row := hvcodeRightRow, standIns := [], harness := (true, "42483267b4187a4f1fa52b6874f60e696d2a18b608a7ee4a3e37214019013461"), looks := true }, kinds := [], alts := [], laidByText := true, laidKinds := [.data, .data, .data, .data, .sentinel, .sentinel, .pinned], laidTests := true, laidLooks := .later }
def HvcodeRightCardSaid : Prop := Claim7.holds Tryz.pinned (.plain (OpenSpec.ofChange hvcodeRightSpec)) hvcodeRightCard

/-- THE SECOND FORM's CARD OF 'mezzaninelaw10.AsmPrints'. -/
def asmPrintsUptoCard : Claim7 := { stood := { row := asmPrintsUptoRow, standIns := [], harness := (true, "42483267b4187a4f1fa52b6874f60e696d2a18b608a7ee4a3e37214019013461"), looks := true }, kinds := [], alts := [], laidByText := true, laidKinds := [.data, .data, .data, .data, .sentinel, .sentinel, .pinned], laidTests := true, laidLooks := .later }
def AsmPrintsUptoCardSaid : Prop := Claim7.holds Tryz.pinned (.plain (OpenSpec.upto asmPrintsSpec)) asmPrintsUptoCard

/-- THE SECOND FORM's CARD OF 'mezzaninelaw10.AsmLis'. -/
def asmLisUptoCard : Claim7 := { stood := { row := asmLisUptoRow, standIns := [], harness := (true, "42483267b4187a4f1fa52b6874f60e696d2a18b608a7ee4a3e37214019013461"), looks := true }, kinds := [], alts := [], laidByText := true, laidKinds := [.data, .data, .data, .data, .sentinel, .sentinel, .pinned], laidTests := true, laidLooks := .later }
def AsmLisUptoCardSaid : Prop := Claim7.holds Tryz.pinned (.plain (OpenSpec.upto asmLisSpec)) asmLisUptoCard

/-- THE SECOND FORM's CARD OF 'mezzaninelaw10.AsmAssembles'. -/
def asmAssemblesUptoCard : Claim7 := { stood := { row := asmAssemblesUptoRow, standIns := [], harness := (true, "42483267b4187a4f1fa52b6874f60e696d2a18b608a7ee4a3e37214019013461"), looks := true }, kinds := [], alts := [], laidByText := true, laidKinds := [.data, .data, .data, .data, .sentinel, .sentinel, .pinned], laidTests := true, laidLooks := .later }
def AsmAssemblesUptoCardSaid : Prop := Claim7.holds Tryz.pinned (.plain (OpenSpec.upto asmAssemblesSpec)) asmAssemblesUptoCard

/-- THE SECOND FORM's CARD OF 'mezzaninelaw10.AsmMakes'. -/
def asmMakesUptoCard : Claim7 := { stood := { row := asmMakesUptoRow, standIns := [], harness := (true, "42483267b4187a4f1fa52b6874f60e696d2a18b608a7ee4a3e37214019013461"), looks := true }, kinds := [], alts := [], laidByText := true, laidKinds := [.data, .data, .data, .data, .sentinel, .sentinel, .pinned], laidTests := true, laidLooks := .later }
def AsmMakesUptoCardSaid : Prop := Claim7.holds Tryz.pinned (.plain (OpenSpec.upto asmMakesSpec)) asmMakesUptoCard

/-- THE SECOND FORM's CARD OF 'mezzaninelaw10.AsmLines'. -/
def asmLinesUptoCard : Claim7 := { stood := { row := asmLinesUptoRow, standIns := [], harness := (true, "42483267b4187a4f1fa52b6874f60e696d2a18b608a7ee4a3e37214019013461"), looks := true }, kinds := [], alts := [], laidByText := true, laidKinds := [.data, .data, .data, .data, .sentinel, .sentinel, .pinned], laidTests := true, laidLooks := .later }
def AsmLinesUptoCardSaid : Prop := Claim7.holds Tryz.pinned (.plain (OpenSpec.upto asmLinesSpec)) asmLinesUptoCard

/-- THE SECOND FORM's CARD OF 'mezzaninelaw10.AsmParses'. -/
def asmParsesUptoCard : Claim7 := { stood := { row := asmParsesUptoRow, standIns := [], harness := (true, "42483267b4187a4f1fa52b6874f60e696d2a18b608a7ee4a3e37214019013461"), looks := true }, kinds := [], alts := [], laidByText := true, laidKinds := [.data, .data, .data, .data, .sentinel, .sentinel, .pinned], laidTests := true, laidLooks := .later }
def AsmParsesUptoCardSaid : Prop := Claim7.holds Tryz.pinned (.plain (OpenSpec.upto asmParsesSpec)) asmParsesUptoCard

/-- THE SECOND FORM's CARD OF 'mezzaninelaw10.AsmBack'. -/
def asmBackUptoCard : Claim7 := { stood := { row := asmBackUptoRow, standIns := [], harness := (true, "42483267b4187a4f1fa52b6874f60e696d2a18b608a7ee4a3e37214019013461"), looks := true }, kinds := [], alts := [], laidByText := true, laidKinds := [.data, .data, .data, .data, .sentinel, .sentinel, .pinned], laidTests := true, laidLooks := .later }
def AsmBackUptoCardSaid : Prop := Claim7.holds Tryz.pinned (.plain (OpenSpec.upto asmBackSpec)) asmBackUptoCard

/-- THE SECOND FORM's CARD OF 'mezzaninelaw27.HvcodeSources'. -/
def hvcodeSourcesUptoCard : Claim7 := { stood := { row := hvcodeSourcesUptoRow, standIns := [], harness := (true, "42483267b4187a4f1fa52b6874f60e696d2a18b608a7ee4a3e37214019013461"), looks := true }, kinds := [], alts := [], laidByText := true, laidKinds := [.data, .data, .data, .data, .sentinel, .sentinel, .pinned], laidTests := true, laidLooks := .later }
def HvcodeSourcesUptoCardSaid : Prop := Claim7.holds Tryz.pinned (.plain (OpenSpec.upto hvcodeSourcesSpec)) hvcodeSourcesUptoCard

/-- THE SECOND FORM's CARD OF 'mezzaninelaw27.HvcodeContexts'. -/
def hvcodeContextsUptoCard : Claim7 := { stood := { row := hvcodeContextsUptoRow, standIns := [], harness := (true, "42483267b4187a4f1fa52b6874f60e696d2a18b608a7ee4a3e37214019013461"), looks := true }, kinds := [], alts := [], laidByText := true, laidKinds := [.data, .data, .data, .data, .sentinel, .sentinel, .pinned], laidTests := true, laidLooks := .later }
def HvcodeContextsUptoCardSaid : Prop := Claim7.holds Tryz.pinned (.plain (OpenSpec.upto hvcodeContextsSpec)) hvcodeContextsUptoCard

/-- THE SECOND FORM's CARD OF 'mezzaninelaw27.HvcodeGuests'. -/
def hvcodeGuestsUptoCard : Claim7 := { stood := { row := hvcodeGuestsUptoRow, standIns := [], harness := (true, "42483267b4187a4f1fa52b6874f60e696d2a18b608a7ee4a3e37214019013461"), looks := true }, kinds := [], alts := [], laidByText := true, laidKinds := [.data, .data, .data, .data, .sentinel, .sentinel, .pinned], laidTests := true, laidLooks := .later }
def HvcodeGuestsUptoCardSaid : Prop := Claim7.holds Tryz.pinned (.plain (OpenSpec.upto hvcodeGuestsSpec)) hvcodeGuestsUptoCard

/-- THE SECOND FORM's CARD OF 'mezzaninelaw27.HvcodeRight'. -/
def hvcodeRightUptoCard : Claim7 := { stood := { row := hvcodeRightUptoRow, standIns := [], harness := (true, "42483267b4187a4f1fa52b6874f60e696d2a18b608a7ee4a3e37214019013461"), looks := true }, kinds := [], alts := [], laidByText := true, laidKinds := [.data, .data, .data, .data, .sentinel, .sentinel, .pinned], laidTests := true, laidLooks := .later }
def HvcodeRightUptoCardSaid : Prop := Claim7.holds Tryz.pinned (.plain (OpenSpec.upto hvcodeRightSpec)) hvcodeRightUptoCard
end Rows
end Go.Proofs.YtknkfimpflodeaaGreatDoor
