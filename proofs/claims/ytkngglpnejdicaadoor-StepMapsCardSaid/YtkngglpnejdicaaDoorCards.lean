/-
  DERIVED. GIVEN WITH THE SEED: THE CARDS: each row of YtkngglpnejdicaaDoorRows.lean that lists a variable, with what it lists TIED to the program's text (the seventh form; the later family's looks); each row that meets fmt, with fmt's text TOLD by the authors' own Lean function (tested against real Go, not proved from fmt's source: count such statements apart). THE CARD IS WHAT COUNTS. Prove the row's statement (the work); the ties are given (YtkngglpnejdicaaDoorTie.lean); close each card by the builder's one call (the guide's Derived/Test/ToyasCard.lean, 'card_holds'). Laid BY PROGRAM, IN A SANDBOX (cutbox-door.mjs). By AI agents, Wed Nov 11 2026. No macro, syntax, notation, axiom, sorry.
-/
import Derived.Test.YtkngglpnejdicaaDoorRows
import GoSem.ClaimSeven
namespace Go.Proofs.YtkngglpnejdicaaDoor
namespace Rows

/-- THE TIED CARD OF 'katabasislaw02.StepOrbits'. -/
def stepOrbitsCard : Claim7 := { stood := { row := stepOrbitsRow, standIns := [], harness := (true, "0a20d8fd68e529de31c5fdda131a888473a50892aeabd920e60630e5e4f7c79d"), looks := true }, kinds := [], alts := [], laidByText := true, laidKinds := [.data, .data, .data, .sentinel, .sentinel], laidTests := true, laidLooks := .later }
def StepOrbitsCardSaid : Prop := Claim7.holds Tryd.pinned (.plain (OpenSpec.ofChange stepOrbitsSpec)) stepOrbitsCard

/-- THE TIED CARD OF 'katabasislaw02.StepFalls'. -/
def stepFallsCard : Claim7 := { stood := { row := stepFallsRow, standIns := [], harness := (true, "0a20d8fd68e529de31c5fdda131a888473a50892aeabd920e60630e5e4f7c79d"), looks := true }, kinds := [], alts := [], laidByText := true, laidKinds := [.data, .data, .data, .sentinel, .sentinel], laidTests := true, laidLooks := .later }
def StepFallsCardSaid : Prop := Claim7.holds Tryd.pinned (.plain (OpenSpec.ofChange stepFallsSpec)) stepFallsCard

/-- THE TIED CARD OF 'katabasislaw02.StepAlike'. -/
def stepAlikeCard : Claim7 := { stood := { row := stepAlikeRow, standIns := [], harness := (true, "0a20d8fd68e529de31c5fdda131a888473a50892aeabd920e60630e5e4f7c79d"), looks := true }, kinds := [], alts := [], laidByText := true, laidKinds := [.data, .data, .data, .sentinel, .sentinel], laidTests := true, laidLooks := .later }
def StepAlikeCardSaid : Prop := Claim7.holds Tryd.pinned (.plain (OpenSpec.ofChange stepAlikeSpec)) stepAlikeCard

/-- THE TIED CARD OF 'katabasislaw02.StepFirst'. -/
def stepFirstCard : Claim7 := { stood := { row := stepFirstRow, standIns := [], harness := (true, "0a20d8fd68e529de31c5fdda131a888473a50892aeabd920e60630e5e4f7c79d"), looks := true }, kinds := [], alts := [], laidByText := true, laidKinds := [.data, .data, .data, .sentinel, .sentinel], laidTests := true, laidLooks := .later }
def StepFirstCardSaid : Prop := Claim7.holds Tryd.pinned (.plain (OpenSpec.ofChange stepFirstSpec)) stepFirstCard

/-- THE TIED CARD OF 'katabasislaw02.StepMaps'. -/
def stepMapsCard : Claim7 := { stood := { row := stepMapsRow, standIns := [], harness := (true, "0a20d8fd68e529de31c5fdda131a888473a50892aeabd920e60630e5e4f7c79d"), looks := true }, kinds := [], alts := [], laidByText := true, laidKinds := [.data, .data, .data, .sentinel, .sentinel], laidTests := true, laidLooks := .later }
def StepMapsCardSaid : Prop := Claim7.holds Tryd.pinned (.plain (OpenSpec.ofChange stepMapsSpec)) stepMapsCard

/-- THE TIED CARD OF 'katabasislaw02.StepRuns'. -/
def stepRunsCard : Claim7 := { stood := { row := stepRunsRow, standIns := [], harness := (true, "0a20d8fd68e529de31c5fdda131a888473a50892aeabd920e60630e5e4f7c79d"), looks := true }, kinds := [], alts := [], laidByText := true, laidKinds := [.data, .data, .data, .sentinel, .sentinel], laidTests := true, laidLooks := .later }
def StepRunsCardSaid : Prop := Claim7.holds Tryd.pinned (.plain (OpenSpec.ofChange stepRunsSpec)) stepRunsCard

/-- THE TIED CARD OF 'katabasislaw02.StepParts'. -/
def stepPartsCard : Claim7 := { stood := { row := stepPartsRow, standIns := [], harness := (true, "0a20d8fd68e529de31c5fdda131a888473a50892aeabd920e60630e5e4f7c79d"), looks := true }, kinds := [], alts := [], laidByText := true, laidKinds := [.data, .data, .data, .sentinel, .sentinel], laidTests := true, laidLooks := .later }
def StepPartsCardSaid : Prop := Claim7.holds Tryd.pinned (.plain (OpenSpec.ofChange stepPartsSpec)) stepPartsCard

/-- THE TIED CARD OF 'katabasislaw01.NumPowered'. -/
def numPoweredCard : Claim7 := { stood := { row := numPoweredRow, standIns := [], harness := (true, "0a20d8fd68e529de31c5fdda131a888473a50892aeabd920e60630e5e4f7c79d"), looks := true }, kinds := [], alts := [], laidByText := true, laidKinds := [.data, .data, .data, .sentinel, .sentinel], laidTests := true, laidLooks := .later }
def NumPoweredCardSaid : Prop := Claim7.holds Tryd.pinned (.plain (OpenSpec.ofChange numPoweredSpec)) numPoweredCard

/-- THE TIED CARD OF 'katabasislaw01.NumRing'. -/
def numRingCard : Claim7 := { stood := { row := numRingRow, standIns := [], harness := (true, "0a20d8fd68e529de31c5fdda131a888473a50892aeabd920e60630e5e4f7c79d"), looks := true }, kinds := [], alts := [], laidByText := true, laidKinds := [.data, .data, .data, .sentinel, .sentinel], laidTests := true, laidLooks := .later }
def NumRingCardSaid : Prop := Claim7.holds Tryd.pinned (.plain (OpenSpec.ofChange numRingSpec)) numRingCard

/-- THE TIED CARD OF 'katabasislaw01.NumDivides'. -/
def numDividesCard : Claim7 := { stood := { row := numDividesRow, standIns := [], harness := (true, "0a20d8fd68e529de31c5fdda131a888473a50892aeabd920e60630e5e4f7c79d"), looks := true }, kinds := [], alts := [], laidByText := true, laidKinds := [.data, .data, .data, .sentinel, .sentinel], laidTests := true, laidLooks := .later }
def NumDividesCardSaid : Prop := Claim7.holds Tryd.pinned (.plain (OpenSpec.ofChange numDividesSpec)) numDividesCard

/-- THE TIED CARD OF 'katabasislaw01.NumDivisors'. -/
def numDivisorsCard : Claim7 := { stood := { row := numDivisorsRow, standIns := [], harness := (true, "0a20d8fd68e529de31c5fdda131a888473a50892aeabd920e60630e5e4f7c79d"), looks := true }, kinds := [], alts := [], laidByText := true, laidKinds := [.data, .data, .data, .sentinel, .sentinel], laidTests := true, laidLooks := .later }
def NumDivisorsCardSaid : Prop := Claim7.holds Tryd.pinned (.plain (OpenSpec.ofChange numDivisorsSpec)) numDivisorsCard

/-- THE TIED CARD OF 'katabasislaw01.NumOrders'. -/
def numOrdersCard : Claim7 := { stood := { row := numOrdersRow, standIns := [], harness := (true, "0a20d8fd68e529de31c5fdda131a888473a50892aeabd920e60630e5e4f7c79d"), looks := true }, kinds := [], alts := [], laidByText := true, laidKinds := [.data, .data, .data, .sentinel, .sentinel], laidTests := true, laidLooks := .later }
def NumOrdersCardSaid : Prop := Claim7.holds Tryd.pinned (.plain (OpenSpec.ofChange numOrdersSpec)) numOrdersCard

/-- THE TIED CARD OF 'katabasislaw01.NumSums'. -/
def numSumsCard : Claim7 := { stood := { row := numSumsRow, standIns := [], harness := (true, "0a20d8fd68e529de31c5fdda131a888473a50892aeabd920e60630e5e4f7c79d"), looks := true }, kinds := [], alts := [], laidByText := true, laidKinds := [.data, .data, .data, .sentinel, .sentinel], laidTests := true, laidLooks := .later }
def NumSumsCardSaid : Prop := Claim7.holds Tryd.pinned (.plain (OpenSpec.ofChange numSumsSpec)) numSumsCard

/-- THE TIED CARD OF 'katabasislaw01.NumPowers'. -/
def numPowersCard : Claim7 := { stood := { row := numPowersRow, standIns := [], harness := (true, "0a20d8fd68e529de31c5fdda131a888473a50892aeabd920e60630e5e4f7c79d"), looks := true }, kinds := [], alts := [], laidByText := true, laidKinds := [.data, .data, .data, .sentinel, .sentinel], laidTests := true, laidLooks := .later }
def NumPowersCardSaid : Prop := Claim7.holds Tryd.pinned (.plain (OpenSpec.ofChange numPowersSpec)) numPowersCard

/-- THE TIED CARD OF 'katabasislaw01.NumQuotients'. -/
def numQuotientsCard : Claim7 := { stood := { row := numQuotientsRow, standIns := [], harness := (true, "0a20d8fd68e529de31c5fdda131a888473a50892aeabd920e60630e5e4f7c79d"), looks := true }, kinds := [], alts := [], laidByText := true, laidKinds := [.data, .data, .data, .sentinel, .sentinel], laidTests := true, laidLooks := .later }
def NumQuotientsCardSaid : Prop := Claim7.holds Tryd.pinned (.plain (OpenSpec.ofChange numQuotientsSpec)) numQuotientsCard

/-- THE SECOND FORM's CARD OF 'katabasislaw02.StepOrbits'. -/
def stepOrbitsUptoCard : Claim7 := { stood := { row := stepOrbitsUptoRow, standIns := [], harness := (true, "0a20d8fd68e529de31c5fdda131a888473a50892aeabd920e60630e5e4f7c79d"), looks := true }, kinds := [], alts := [], laidByText := true, laidKinds := [.data, .data, .data, .sentinel, .sentinel], laidTests := true, laidLooks := .later }
def StepOrbitsUptoCardSaid : Prop := Claim7.holds Tryd.pinned (.plain (OpenSpec.upto stepOrbitsSpec)) stepOrbitsUptoCard

/-- THE SECOND FORM's CARD OF 'katabasislaw02.StepFalls'. -/
def stepFallsUptoCard : Claim7 := { stood := { row := stepFallsUptoRow, standIns := [], harness := (true, "0a20d8fd68e529de31c5fdda131a888473a50892aeabd920e60630e5e4f7c79d"), looks := true }, kinds := [], alts := [], laidByText := true, laidKinds := [.data, .data, .data, .sentinel, .sentinel], laidTests := true, laidLooks := .later }
def StepFallsUptoCardSaid : Prop := Claim7.holds Tryd.pinned (.plain (OpenSpec.upto stepFallsSpec)) stepFallsUptoCard

/-- THE SECOND FORM's CARD OF 'katabasislaw02.StepAlike'. -/
def stepAlikeUptoCard : Claim7 := { stood := { row := stepAlikeUptoRow, standIns := [], harness := (true, "0a20d8fd68e529de31c5fdda131a888473a50892aeabd920e60630e5e4f7c79d"), looks := true }, kinds := [], alts := [], laidByText := true, laidKinds := [.data, .data, .data, .sentinel, .sentinel], laidTests := true, laidLooks := .later }
def StepAlikeUptoCardSaid : Prop := Claim7.holds Tryd.pinned (.plain (OpenSpec.upto stepAlikeSpec)) stepAlikeUptoCard

/-- THE SECOND FORM's CARD OF 'katabasislaw02.StepFirst'. -/
def stepFirstUptoCard : Claim7 := { stood := { row := stepFirstUptoRow, standIns := [], harness := (true, "0a20d8fd68e529de31c5fdda131a888473a50892aeabd920e60630e5e4f7c79d"), looks := true }, kinds := [], alts := [], laidByText := true, laidKinds := [.data, .data, .data, .sentinel, .sentinel], laidTests := true, laidLooks := .later }
def StepFirstUptoCardSaid : Prop := Claim7.holds Tryd.pinned (.plain (OpenSpec.upto stepFirstSpec)) stepFirstUptoCard

/-- THE SECOND FORM's CARD OF 'katabasislaw02.StepMaps'. -/
def stepMapsUptoCard : Claim7 := { stood := { row := stepMapsUptoRow, standIns := [], harness := (true, "0a20d8fd68e529de31c5fdda131a888473a50892aeabd920e60630e5e4f7c79d"), looks := true }, kinds := [], alts := [], laidByText := true, laidKinds := [.data, .data, .data, .sentinel, .sentinel], laidTests := true, laidLooks := .later }
def StepMapsUptoCardSaid : Prop := Claim7.holds Tryd.pinned (.plain (OpenSpec.upto stepMapsSpec)) stepMapsUptoCard

/-- THE SECOND FORM's CARD OF 'katabasislaw02.StepRuns'. -/
def stepRunsUptoCard : Claim7 := { stood := { row := stepRunsUptoRow, standIns := [], harness := (true, "0a20d8fd68e529de31c5fdda131a888473a50892aeabd920e60630e5e4f7c79d"), looks := true }, kinds := [], alts := [], laidByText := true, laidKinds := [.data, .data, .data, .sentinel, .sentinel], laidTests := true, laidLooks := .later }
def StepRunsUptoCardSaid : Prop := Claim7.holds Tryd.pinned (.plain (OpenSpec.upto stepRunsSpec)) stepRunsUptoCard

/-- THE SECOND FORM's CARD OF 'katabasislaw02.StepParts'. -/
def stepPartsUptoCard : Claim7 := { stood := { row := stepPartsUptoRow, standIns := [], harness := (true, "0a20d8fd68e529de31c5fdda131a888473a50892aeabd920e60630e5e4f7c79d"), looks := true }, kinds := [], alts := [], laidByText := true, laidKinds := [.data, .data, .data, .sentinel, .sentinel], laidTests := true, laidLooks := .later }
def StepPartsUptoCardSaid : Prop := Claim7.holds Tryd.pinned (.plain (OpenSpec.upto stepPartsSpec)) stepPartsUptoCard

/-- THE SECOND FORM's CARD OF 'katabasislaw01.NumPowered'. -/
def numPoweredUptoCard : Claim7 := { stood := { row := numPoweredUptoRow, standIns := [], harness := (true, "0a20d8fd68e529de31c5fdda131a888473a50892aeabd920e60630e5e4f7c79d"), looks := true }, kinds := [], alts := [], laidByText := true, laidKinds := [.data, .data, .data, .sentinel, .sentinel], laidTests := true, laidLooks := .later }
def NumPoweredUptoCardSaid : Prop := Claim7.holds Tryd.pinned (.plain (OpenSpec.upto numPoweredSpec)) numPoweredUptoCard

/-- THE SECOND FORM's CARD OF 'katabasislaw01.NumRing'. -/
def numRingUptoCard : Claim7 := { stood := { row := numRingUptoRow, standIns := [], harness := (true, "0a20d8fd68e529de31c5fdda131a888473a50892aeabd920e60630e5e4f7c79d"), looks := true }, kinds := [], alts := [], laidByText := true, laidKinds := [.data, .data, .data, .sentinel, .sentinel], laidTests := true, laidLooks := .later }
def NumRingUptoCardSaid : Prop := Claim7.holds Tryd.pinned (.plain (OpenSpec.upto numRingSpec)) numRingUptoCard

/-- THE SECOND FORM's CARD OF 'katabasislaw01.NumDivides'. -/
def numDividesUptoCard : Claim7 := { stood := { row := numDividesUptoRow, standIns := [], harness := (true, "0a20d8fd68e529de31c5fdda131a888473a50892aeabd920e60630e5e4f7c79d"), looks := true }, kinds := [], alts := [], laidByText := true, laidKinds := [.data, .data, .data, .sentinel, .sentinel], laidTests := true, laidLooks := .later }
def NumDividesUptoCardSaid : Prop := Claim7.holds Tryd.pinned (.plain (OpenSpec.upto numDividesSpec)) numDividesUptoCard

/-- THE SECOND FORM's CARD OF 'katabasislaw01.NumDivisors'. -/
def numDivisorsUptoCard : Claim7 := { stood := { row := numDivisorsUptoRow, standIns := [], harness := (true, "0a20d8fd68e529de31c5fdda131a888473a50892aeabd920e60630e5e4f7c79d"), looks := true }, kinds := [], alts := [], laidByText := true, laidKinds := [.data, .data, .data, .sentinel, .sentinel], laidTests := true, laidLooks := .later }
def NumDivisorsUptoCardSaid : Prop := Claim7.holds Tryd.pinned (.plain (OpenSpec.upto numDivisorsSpec)) numDivisorsUptoCard

/-- THE SECOND FORM's CARD OF 'katabasislaw01.NumOrders'. -/
def numOrdersUptoCard : Claim7 := { stood := { row := numOrdersUptoRow, standIns := [], harness := (true, "0a20d8fd68e529de31c5fdda131a888473a50892aeabd920e60630e5e4f7c79d"), looks := true }, kinds := [], alts := [], laidByText := true, laidKinds := [.data, .data, .data, .sentinel, .sentinel], laidTests := true, laidLooks := .later }
def NumOrdersUptoCardSaid : Prop := Claim7.holds Tryd.pinned (.plain (OpenSpec.upto numOrdersSpec)) numOrdersUptoCard

/-- THE SECOND FORM's CARD OF 'katabasislaw01.NumSums'. -/
def numSumsUptoCard : Claim7 := { stood := { row := numSumsUptoRow, standIns := [], harness := (true, "0a20d8fd68e529de31c5fdda131a888473a50892aeabd920e60630e5e4f7c79d"), looks := true }, kinds := [], alts := [], laidByText := true, laidKinds := [.data, .data, .data, .sentinel, .sentinel], laidTests := true, laidLooks := .later }
def NumSumsUptoCardSaid : Prop := Claim7.holds Tryd.pinned (.plain (OpenSpec.upto numSumsSpec)) numSumsUptoCard

/-- THE SECOND FORM's CARD OF 'katabasislaw01.NumPowers'. -/
def numPowersUptoCard : Claim7 := { stood := { row := numPowersUptoRow, standIns := [], harness := (true, "0a20d8fd68e529de31c5fdda131a888473a50892aeabd920e60630e5e4f7c79d"), looks := true }, kinds := [], alts := [], laidByText := true, laidKinds := [.data, .data, .data, .sentinel, .sentinel], laidTests := true, laidLooks := .later }
def NumPowersUptoCardSaid : Prop := Claim7.holds Tryd.pinned (.plain (OpenSpec.upto numPowersSpec)) numPowersUptoCard

/-- THE SECOND FORM's CARD OF 'katabasislaw01.NumQuotients'. -/
def numQuotientsUptoCard : Claim7 := { stood := { row := numQuotientsUptoRow, standIns := [], harness := (true, "0a20d8fd68e529de31c5fdda131a888473a50892aeabd920e60630e5e4f7c79d"), looks := true }, kinds := [], alts := [], laidByText := true, laidKinds := [.data, .data, .data, .sentinel, .sentinel], laidTests := true, laidLooks := .later }
def NumQuotientsUptoCardSaid : Prop := Claim7.holds Tryd.pinned (.plain (OpenSpec.upto numQuotientsSpec)) numQuotientsUptoCard
end Rows
end Go.Proofs.YtkngglpnejdicaaDoor
