/-
  DERIVED. GIVEN WITH THE SEED: THE CARDS: each row of YtdmkejloknejdaaGreatDoorRows.lean that lists a variable, with what it lists TIED to the program's text (the seventh form; the later family's looks); each row that meets fmt, with fmt's text TOLD by the authors' own Lean function (tested against real Go, not proved from fmt's source: count such statements apart). THE CARD IS WHAT COUNTS. Prove the row's statement (the work); the ties are given (YtdmkejloknejdaaGreatDoorTie.lean); close each card by the builder's one call (the guide's Derived/Test/ToyasCard.lean, 'card_holds'). Laid BY PROGRAM, IN A SANDBOX (cutbox-door.mjs). By AI agents, Wed Nov 11 2026. No macro, syntax, notation, axiom, sorry.
-/
import Derived.Test.YtdmkejloknejdaaGreatDoorRows
import GoSem.ClaimSeven
namespace Go.Proofs.YtdmkejloknejdaaGreatDoor
namespace Rows

/-- THE TIED CARD OF 'katabasislaw06.CycleLoops'. -/
def cycleLoopsCard : Claim7 := { stood := { row := cycleLoopsRow, standIns := [], harness := (true, "1900cb69c6cffab79e66fe9cae37f76cbf8a0fd04d2ae4a933f99a00c01015b3"), looks := true }, kinds := [], alts := [], laidByText := true, laidKinds := [.data, .data, .data], laidTests := true, laidLooks := .later }
def CycleLoopsCardSaid : Prop := Claim7.holds Tryz.pinned (.plain (OpenSpec.ofChange cycleLoopsSpec)) cycleLoopsCard

/-- THE TIED CARD OF 'katabasislaw06.CycleFixed'. -/
def cycleFixedCard : Claim7 := { stood := { row := cycleFixedRow, standIns := [], harness := (true, "1900cb69c6cffab79e66fe9cae37f76cbf8a0fd04d2ae4a933f99a00c01015b3"), looks := true }, kinds := [], alts := [], laidByText := true, laidKinds := [.data, .data, .data], laidTests := true, laidLooks := .later }
def CycleFixedCardSaid : Prop := Claim7.holds Tryz.pinned (.plain (OpenSpec.ofChange cycleFixedSpec)) cycleFixedCard

/-- THE TIED CARD OF 'katabasislaw06.CycleIntegers'. -/
def cycleIntegersCard : Claim7 := { stood := { row := cycleIntegersRow, standIns := [], harness := (true, "1900cb69c6cffab79e66fe9cae37f76cbf8a0fd04d2ae4a933f99a00c01015b3"), looks := true }, kinds := [], alts := [], laidByText := true, laidKinds := [.data, .data, .data], laidTests := true, laidLooks := .later }
def CycleIntegersCardSaid : Prop := Claim7.holds Tryz.pinned (.plain (OpenSpec.ofChange cycleIntegersSpec)) cycleIntegersCard

/-- THE TIED CARD OF 'katabasislaw06.CycleFixes'. -/
def cycleFixesCard : Claim7 := { stood := { row := cycleFixesRow, standIns := [], harness := (true, "1900cb69c6cffab79e66fe9cae37f76cbf8a0fd04d2ae4a933f99a00c01015b3"), looks := true }, kinds := [], alts := [], laidByText := true, laidKinds := [.data, .data, .data], laidTests := true, laidLooks := .later }
def CycleFixesCardSaid : Prop := Claim7.holds Tryz.pinned (.plain (OpenSpec.ofChange cycleFixesSpec)) cycleFixesCard

/-- THE TIED CARD OF 'katabasistop.TopCycles'. -/
def topCyclesCard : Claim7 := { stood := { row := topCyclesRow, standIns := [], harness := (true, "1900cb69c6cffab79e66fe9cae37f76cbf8a0fd04d2ae4a933f99a00c01015b3"), looks := true }, kinds := [], alts := [], laidByText := true, laidKinds := [.data, .data, .data], laidTests := true, laidLooks := .later }
def TopCyclesCardSaid : Prop := Claim7.holds Tryz.pinned (.plain (OpenSpec.ofChange topCyclesSpec)) topCyclesCard

/-- THE TIED CARD OF 'katabasistop.TopFive'. -/
def topFiveCard : Claim7 := { stood := { row := topFiveRow, standIns := [], harness := (true, "1900cb69c6cffab79e66fe9cae37f76cbf8a0fd04d2ae4a933f99a00c01015b3"), looks := true }, kinds := [], alts := [], laidByText := true, laidKinds := [.data, .data, .data, .sentinel, .sentinel], laidTests := true, laidLooks := .later }
def TopFiveCardSaid : Prop := Claim7.holds Tryz.pinned (.plain (OpenSpec.ofChange topFiveSpec)) topFiveCard

/-- THE SECOND FORM's CARD OF 'katabasislaw06.CycleLoops'. -/
def cycleLoopsUptoCard : Claim7 := { stood := { row := cycleLoopsUptoRow, standIns := [], harness := (true, "1900cb69c6cffab79e66fe9cae37f76cbf8a0fd04d2ae4a933f99a00c01015b3"), looks := true }, kinds := [], alts := [], laidByText := true, laidKinds := [.data, .data, .data], laidTests := true, laidLooks := .later }
def CycleLoopsUptoCardSaid : Prop := Claim7.holds Tryz.pinned (.plain (OpenSpec.upto cycleLoopsSpec)) cycleLoopsUptoCard

/-- THE SECOND FORM's CARD OF 'katabasislaw06.CycleFixed'. -/
def cycleFixedUptoCard : Claim7 := { stood := { row := cycleFixedUptoRow, standIns := [], harness := (true, "1900cb69c6cffab79e66fe9cae37f76cbf8a0fd04d2ae4a933f99a00c01015b3"), looks := true }, kinds := [], alts := [], laidByText := true, laidKinds := [.data, .data, .data], laidTests := true, laidLooks := .later }
def CycleFixedUptoCardSaid : Prop := Claim7.holds Tryz.pinned (.plain (OpenSpec.upto cycleFixedSpec)) cycleFixedUptoCard

/-- THE SECOND FORM's CARD OF 'katabasislaw06.CycleIntegers'. -/
def cycleIntegersUptoCard : Claim7 := { stood := { row := cycleIntegersUptoRow, standIns := [], harness := (true, "1900cb69c6cffab79e66fe9cae37f76cbf8a0fd04d2ae4a933f99a00c01015b3"), looks := true }, kinds := [], alts := [], laidByText := true, laidKinds := [.data, .data, .data], laidTests := true, laidLooks := .later }
def CycleIntegersUptoCardSaid : Prop := Claim7.holds Tryz.pinned (.plain (OpenSpec.upto cycleIntegersSpec)) cycleIntegersUptoCard

/-- THE SECOND FORM's CARD OF 'katabasislaw06.CycleFixes'. -/
def cycleFixesUptoCard : Claim7 := { stood := { row := cycleFixesUptoRow, standIns := [], harness := (true, "1900cb69c6cffab79e66fe9cae37f76cbf8a0fd04d2ae4a933f99a00c01015b3"), looks := true }, kinds := [], alts := [], laidByText := true, laidKinds := [.data, .data, .data], laidTests := true, laidLooks := .later }
def CycleFixesUptoCardSaid : Prop := Claim7.holds Tryz.pinned (.plain (OpenSpec.upto cycleFixesSpec)) cycleFixesUptoCard

/-- THE SECOND FORM's CARD OF 'katabasistop.TopCycles'. -/
def topCyclesUptoCard : Claim7 := { stood := { row := topCyclesUptoRow, standIns := [], harness := (true, "1900cb69c6cffab79e66fe9cae37f76cbf8a0fd04d2ae4a933f99a00c01015b3"), looks := true }, kinds := [], alts := [], laidByText := true, laidKinds := [.data, .data, .data], laidTests := true, laidLooks := .later }
def TopCyclesUptoCardSaid : Prop := Claim7.holds Tryz.pinned (.plain (OpenSpec.upto topCyclesSpec)) topCyclesUptoCard

/-- THE SECOND FORM's CARD OF 'katabasistop.TopFive'. -/
def topFiveUptoCard : Claim7 := { stood := { row := topFiveUptoRow, standIns := [], harness := (true, "1900cb69c6cffab79e66fe9cae37f76cbf8a0fd04d2ae4a933f99a00c01015b3"), looks := true }, kinds := [], alts := [], laidByText := true, laidKinds := [.data, .data, .data, .sentinel, .sentinel], laidTests := true, laidLooks := .later }
def TopFiveUptoCardSaid : Prop := Claim7.holds Tryz.pinned (.plain (OpenSpec.upto topFiveSpec)) topFiveUptoCard
end Rows
end Go.Proofs.YtdmkejloknejdaaGreatDoor
