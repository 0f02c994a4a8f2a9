/-
  DERIVED. GIVEN WITH THE SEED: THE CARDS: each row of YtdmkejloknejdaaDoorRows.lean that lists a variable, with what it lists TIED to the program's text (the seventh form; the later family's looks); each row that meets fmt, with fmt's text TOLD by the authors' own Lean function (tested against real Go, not proved from fmt's source: count such statements apart). THE CARD IS WHAT COUNTS. Prove the row's statement (the work); the ties are given (YtdmkejloknejdaaDoorTie.lean); close each card by the builder's one call (the guide's Derived/Test/ToyasCard.lean, 'card_holds'). Laid BY PROGRAM, IN A SANDBOX (cutbox-door.mjs). By AI agents, Wed Nov 11 2026. No macro, syntax, notation, axiom, sorry.
-/
import Derived.Test.YtdmkejloknejdaaDoorRows
import GoSem.ClaimSeven
namespace Go.Proofs.YtdmkejloknejdaaDoor
namespace Rows

/-- THE TIED CARD OF 'katabasislaw06.CycleTurns'. -/
def cycleTurnsCard : Claim7 := { stood := { row := cycleTurnsRow, standIns := [], harness := (true, "1e50e896ed17c6b8c5963f7e4b95275c8081d12f2286d64f3cc405f4bae120ef"), looks := false }, kinds := [], alts := [], laidByText := true, laidKinds := [.data, .data, .data], laidTests := true, laidLooks := .later }
def CycleTurnsCardSaid : Prop := Claim7.holds Tryd.pinned (.plain (OpenSpec.ofChange cycleTurnsSpec)) cycleTurnsCard

/-- THE TIED CARD OF 'katabasislaw06.CycleWords'. -/
def cycleWordsCard : Claim7 := { stood := { row := cycleWordsRow, standIns := [], harness := (true, "1e50e896ed17c6b8c5963f7e4b95275c8081d12f2286d64f3cc405f4bae120ef"), looks := false }, kinds := [], alts := [], laidByText := true, laidKinds := [.data, .data, .data], laidTests := true, laidLooks := .later }
def CycleWordsCardSaid : Prop := Claim7.holds Tryd.pinned (.plain (OpenSpec.ofChange cycleWordsSpec)) cycleWordsCard

/-- THE SECOND FORM's CARD OF 'katabasislaw06.CycleTurns'. -/
def cycleTurnsUptoCard : Claim7 := { stood := { row := cycleTurnsUptoRow, standIns := [], harness := (true, "1e50e896ed17c6b8c5963f7e4b95275c8081d12f2286d64f3cc405f4bae120ef"), looks := false }, kinds := [], alts := [], laidByText := true, laidKinds := [.data, .data, .data], laidTests := true, laidLooks := .later }
def CycleTurnsUptoCardSaid : Prop := Claim7.holds Tryd.pinned (.plain (OpenSpec.upto cycleTurnsSpec)) cycleTurnsUptoCard

/-- THE SECOND FORM's CARD OF 'katabasislaw06.CycleWords'. -/
def cycleWordsUptoCard : Claim7 := { stood := { row := cycleWordsUptoRow, standIns := [], harness := (true, "1e50e896ed17c6b8c5963f7e4b95275c8081d12f2286d64f3cc405f4bae120ef"), looks := false }, kinds := [], alts := [], laidByText := true, laidKinds := [.data, .data, .data], laidTests := true, laidLooks := .later }
def CycleWordsUptoCardSaid : Prop := Claim7.holds Tryd.pinned (.plain (OpenSpec.upto cycleWordsSpec)) cycleWordsUptoCard
end Rows
end Go.Proofs.YtdmkejloknejdaaDoor
