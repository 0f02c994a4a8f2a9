/-
  DERIVED. GIVEN WITH THE SEED: THE CARDS: each row of YtnejjdcbbminaaaGreatDoorRows.lean that lists a variable, with what it lists TIED to the program's text (the seventh form; the later family's looks); each row that meets fmt, with fmt's text TOLD by the authors' own Lean function (tested against real Go, not proved from fmt's source: count such statements apart). THE CARD IS WHAT COUNTS. Prove the row's statement (the work); the ties are given (YtnejjdcbbminaaaGreatDoorTie.lean); close each card by the builder's one call (the guide's Derived/Test/ToyasCard.lean, 'card_holds'). Laid BY PROGRAM, IN A SANDBOX (cutbox-door.mjs). By AI agents, Wed Nov 11 2026. No macro, syntax, notation, axiom, sorry.
-/
import Derived.Test.YtnejjdcbbminaaaGreatDoorRows
import GoSem.ClaimSeven
namespace Go.Proofs.YtnejjdcbbminaaaGreatDoor
namespace Rows

/-- THE TIED CARD OF 'katabasislaw10.FractionCompiles'. -/
def fractionCompilesCard : Claim7 := { stood := { row := fractionCompilesRow, standIns := [], harness := (true, "9c8200e5db2038ed62b49883509648c6b9d0af845fce05d2f60e47c2d5ba4793"), looks := true }, kinds := [], alts := [], laidByText := true, laidKinds := [.data, .data, .data, .sentinel, .sentinel], laidTests := true, laidLooks := .later }
def FractionCompilesCardSaid : Prop := Claim7.holds Tryz.pinned (.plain (OpenSpec.ofChange fractionCompilesSpec)) fractionCompilesCard

/-- THE TIED CARD OF 'katabasislaw10.FractionPlays'. -/
def fractionPlaysCard : Claim7 := { stood := { row := fractionPlaysRow, standIns := [], harness := (true, "9c8200e5db2038ed62b49883509648c6b9d0af845fce05d2f60e47c2d5ba4793"), looks := true }, kinds := [], alts := [], laidByText := true, laidKinds := [.data, .data, .data, .sentinel, .sentinel], laidTests := true, laidLooks := .later }
def FractionPlaysCardSaid : Prop := Claim7.holds Tryz.pinned (.plain (OpenSpec.ofChange fractionPlaysSpec)) fractionPlaysCard

/-- THE TIED CARD OF 'katabasislaw10.FractionParts'. -/
def fractionPartsCard : Claim7 := { stood := { row := fractionPartsRow, standIns := [], harness := (true, "9c8200e5db2038ed62b49883509648c6b9d0af845fce05d2f60e47c2d5ba4793"), looks := true }, kinds := [], alts := [], laidByText := true, laidKinds := [.data, .data, .data, .sentinel, .sentinel], laidTests := true, laidLooks := .later }
def FractionPartsCardSaid : Prop := Claim7.holds Tryz.pinned (.plain (OpenSpec.ofChange fractionPartsSpec)) fractionPartsCard

/-- THE TIED CARD OF 'katabasislaw10.FractionCommons'. -/
def fractionCommonsCard : Claim7 := { stood := { row := fractionCommonsRow, standIns := [], harness := (true, "9c8200e5db2038ed62b49883509648c6b9d0af845fce05d2f60e47c2d5ba4793"), looks := true }, kinds := [], alts := [], laidByText := true, laidKinds := [.data, .data, .data, .sentinel, .sentinel], laidTests := true, laidLooks := .later }
def FractionCommonsCardSaid : Prop := Claim7.holds Tryz.pinned (.plain (OpenSpec.ofChange fractionCommonsSpec)) fractionCommonsCard

/-- THE TIED CARD OF 'katabasislaw10.FractionRests'. -/
def fractionRestsCard : Claim7 := { stood := { row := fractionRestsRow, standIns := [], harness := (true, "9c8200e5db2038ed62b49883509648c6b9d0af845fce05d2f60e47c2d5ba4793"), looks := true }, kinds := [], alts := [], laidByText := true, laidKinds := [.data, .data, .data, .sentinel, .sentinel], laidTests := true, laidLooks := .later }
def FractionRestsCardSaid : Prop := Claim7.holds Tryz.pinned (.plain (OpenSpec.ofChange fractionRestsSpec)) fractionRestsCard

/-- THE TIED CARD OF 'katabasislaw10.FractionCodes'. -/
def fractionCodesCard : Claim7 := { stood := { row := fractionCodesRow, standIns := [], harness := (true, "9c8200e5db2038ed62b49883509648c6b9d0af845fce05d2f60e47c2d5ba4793"), looks := true }, kinds := [], alts := [], laidByText := true, laidKinds := [.data, .data, .data, .sentinel, .sentinel], laidTests := true, laidLooks := .later }
def FractionCodesCardSaid : Prop := Claim7.holds Tryz.pinned (.plain (OpenSpec.ofChange fractionCodesSpec)) fractionCodesCard

/-- THE TIED CARD OF 'katabasislaw10.FractionSteps'. -/
def fractionStepsCard : Claim7 := { stood := { row := fractionStepsRow, standIns := [], harness := (true, "9c8200e5db2038ed62b49883509648c6b9d0af845fce05d2f60e47c2d5ba4793"), looks := true }, kinds := [], alts := [], laidByText := true, laidKinds := [.data, .data, .data, .sentinel, .sentinel], laidTests := true, laidLooks := .later }
def FractionStepsCardSaid : Prop := Claim7.holds Tryz.pinned (.plain (OpenSpec.ofChange fractionStepsSpec)) fractionStepsCard

/-- THE TIED CARD OF 'katabasislaw10.FractionRuns'. -/
def fractionRunsCard : Claim7 := { stood := { row := fractionRunsRow, standIns := [], harness := (true, "9c8200e5db2038ed62b49883509648c6b9d0af845fce05d2f60e47c2d5ba4793"), looks := true }, kinds := [], alts := [], laidByText := true, laidKinds := [.data, .data, .data, .sentinel, .sentinel], laidTests := true, laidLooks := .later }
def FractionRunsCardSaid : Prop := Claim7.holds Tryz.pinned (.plain (OpenSpec.ofChange fractionRunsSpec)) fractionRunsCard

/-- THE TIED CARD OF 'katabasistop.TopMachine'. -/
def topMachineCard : Claim7 := { stood := { row := topMachineRow, standIns := [], harness := (true, "9c8200e5db2038ed62b49883509648c6b9d0af845fce05d2f60e47c2d5ba4793"), looks := true }, kinds := [], alts := [], laidByText := true, laidKinds := [.data, .data, .data, .sentinel, .sentinel], laidTests := true, laidLooks := .later }
def TopMachineCardSaid : Prop := Claim7.holds Tryz.pinned (.plain (OpenSpec.ofChange topMachineSpec)) topMachineCard

/-- THE SECOND FORM's CARD OF 'katabasislaw10.FractionCompiles'. -/
def fractionCompilesUptoCard : Claim7 := { stood := { row := fractionCompilesUptoRow, standIns := [], harness := (true, "9c8200e5db2038ed62b49883509648c6b9d0af845fce05d2f60e47c2d5ba4793"), looks := true }, kinds := [], alts := [], laidByText := true, laidKinds := [.data, .data, .data, .sentinel, .sentinel], laidTests := true, laidLooks := .later }
def FractionCompilesUptoCardSaid : Prop := Claim7.holds Tryz.pinned (.plain (OpenSpec.upto fractionCompilesSpec)) fractionCompilesUptoCard

/-- THE SECOND FORM's CARD OF 'katabasislaw10.FractionPlays'. -/
def fractionPlaysUptoCard : Claim7 := { stood := { row := fractionPlaysUptoRow, standIns := [], harness := (true, "9c8200e5db2038ed62b49883509648c6b9d0af845fce05d2f60e47c2d5ba4793"), looks := true }, kinds := [], alts := [], laidByText := true, laidKinds := [.data, .data, .data, .sentinel, .sentinel], laidTests := true, laidLooks := .later }
def FractionPlaysUptoCardSaid : Prop := Claim7.holds Tryz.pinned (.plain (OpenSpec.upto fractionPlaysSpec)) fractionPlaysUptoCard

/-- THE SECOND FORM's CARD OF 'katabasislaw10.FractionParts'. -/
def fractionPartsUptoCard : Claim7 := { stood := { row := fractionPartsUptoRow, standIns := [], harness := (true, "9c8200e5db2038ed62b49883509648c6b9d0af845fce05d2f60e47c2d5ba4793"), looks := true }, kinds := [], alts := [], laidByText := true, laidKinds := [.data, .data, .data, .sentinel, .sentinel], laidTests := true, laidLooks := .later }
def FractionPartsUptoCardSaid : Prop := Claim7.holds Tryz.pinned (.plain (OpenSpec.upto fractionPartsSpec)) fractionPartsUptoCard

/-- THE SECOND FORM's CARD OF 'katabasislaw10.FractionCommons'. -/
def fractionCommonsUptoCard : Claim7 := { stood := { row := fractionCommonsUptoRow, standIns := [], harness := (true, "9c8200e5db2038ed62b49883509648c6b9d0af845fce05d2f60e47c2d5ba4793"), looks := true }, kinds := [], alts := [], laidByText := true, laidKinds := [.data, .data, .data, .sentinel, .sentinel], laidTests := true, laidLooks := .later }
def FractionCommonsUptoCardSaid : Prop := Claim7.holds Tryz.pinned (.plain (OpenSpec.upto fractionCommonsSpec)) fractionCommonsUptoCard

/-- THE SECOND FORM's CARD OF 'katabasislaw10.FractionRests'. -/
def fractionRestsUptoCard : Claim7 := { stood := { row := fractionRestsUptoRow, standIns := [], harness := (true, "9c8200e5db2038ed62b49883509648c6b9d0af845fce05d2f60e47c2d5ba4793"), looks := true }, kinds := [], alts := [], laidByText := true, laidKinds := [.data, .data, .data, .sentinel, .sentinel], laidTests := true, laidLooks := .later }
def FractionRestsUptoCardSaid : Prop := Claim7.holds Tryz.pinned (.plain (OpenSpec.upto fractionRestsSpec)) fractionRestsUptoCard

/-- THE SECOND FORM's CARD OF 'katabasislaw10.FractionCodes'. -/
def fractionCodesUptoCard : Claim7 := { stood := { row := fractionCodesUptoRow, standIns := [], harness := (true, "9c8200e5db2038ed62b49883509648c6b9d0af845fce05d2f60e47c2d5ba4793"), looks := true }, kinds := [], alts := [], laidByText := true, laidKinds := [.data, .data, .data, .sentinel, .sentinel], laidTests := true, laidLooks := .later }
def FractionCodesUptoCardSaid : Prop := Claim7.holds Tryz.pinned (.plain (OpenSpec.upto fractionCodesSpec)) fractionCodesUptoCard

/-- THE SECOND FORM's CARD OF 'katabasislaw10.FractionSteps'. -/
def fractionStepsUptoCard : Claim7 := { stood := { row := fractionStepsUptoRow, standIns := [], harness := (true, "9c8200e5db2038ed62b49883509648c6b9d0af845fce05d2f60e47c2d5ba4793"), looks := true }, kinds := [], alts := [], laidByText := true, laidKinds := [.data, .data, .data, .sentinel, .sentinel], laidTests := true, laidLooks := .later }
def FractionStepsUptoCardSaid : Prop := Claim7.holds Tryz.pinned (.plain (OpenSpec.upto fractionStepsSpec)) fractionStepsUptoCard

/-- THE SECOND FORM's CARD OF 'katabasislaw10.FractionRuns'. -/
def fractionRunsUptoCard : Claim7 := { stood := { row := fractionRunsUptoRow, standIns := [], harness := (true, "9c8200e5db2038ed62b49883509648c6b9d0af845fce05d2f60e47c2d5ba4793"), looks := true }, kinds := [], alts := [], laidByText := true, laidKinds := [.data, .data, .data, .sentinel, .sentinel], laidTests := true, laidLooks := .later }
def FractionRunsUptoCardSaid : Prop := Claim7.holds Tryz.pinned (.plain (OpenSpec.upto fractionRunsSpec)) fractionRunsUptoCard

/-- THE SECOND FORM's CARD OF 'katabasistop.TopMachine'. -/
def topMachineUptoCard : Claim7 := { stood := { row := topMachineUptoRow, standIns := [], harness := (true, "9c8200e5db2038ed62b49883509648c6b9d0af845fce05d2f60e47c2d5ba4793"), looks := true }, kinds := [], alts := [], laidByText := true, laidKinds := [.data, .data, .data, .sentinel, .sentinel], laidTests := true, laidLooks := .later }
def TopMachineUptoCardSaid : Prop := Claim7.holds Tryz.pinned (.plain (OpenSpec.upto topMachineSpec)) topMachineUptoCard
end Rows
end Go.Proofs.YtnejjdcbbminaaaGreatDoor
