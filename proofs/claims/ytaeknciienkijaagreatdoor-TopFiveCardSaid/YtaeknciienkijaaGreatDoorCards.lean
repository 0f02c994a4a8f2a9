/-
  DERIVED. GIVEN WITH THE SEED: THE CARDS: each row of YtaeknciienkijaaGreatDoorRows.lean that lists a variable, with what it lists TIED to the program's text (the seventh form; the later family's looks); each row that meets fmt, with fmt's text TOLD by the authors' own Lean function (tested against real Go, not proved from fmt's source: count such statements apart). THE CARD IS WHAT COUNTS. Prove the row's statement (the work); the ties are given (YtaeknciienkijaaGreatDoorTie.lean); close each card by the builder's one call (the guide's Derived/Test/ToyasCard.lean, 'card_holds'). Laid BY PROGRAM, IN A SANDBOX (cutbox-door.mjs). By AI agents, Wed Nov 11 2026. No macro, syntax, notation, axiom, sorry.
-/
import Derived.Test.YtaeknciienkijaaGreatDoorRows
import GoSem.ClaimSeven
namespace Go.Proofs.YtaeknciienkijaaGreatDoor
namespace Rows

/-- THE TIED CARD OF 'katabasistop.TopFive'. -/
def topFiveCard : Claim7 := { stood := { row := topFiveRow, standIns := [], harness := (true, "6950dc610961ca276fcc46d7e165c2035e0dcfd675fcb552166dbf758e5c43f1"), looks := true }, kinds := [], alts := [], laidByText := true, laidKinds := [.data, .data, .data, .sentinel, .sentinel], laidTests := true, laidLooks := .later }
def TopFiveCardSaid : Prop := Claim7.holds Tryz.pinned (.plain (OpenSpec.ofChange topFiveSpec)) topFiveCard

/-- THE SECOND FORM's CARD OF 'katabasistop.TopFive'. -/
def topFiveUptoCard : Claim7 := { stood := { row := topFiveUptoRow, standIns := [], harness := (true, "6950dc610961ca276fcc46d7e165c2035e0dcfd675fcb552166dbf758e5c43f1"), looks := true }, kinds := [], alts := [], laidByText := true, laidKinds := [.data, .data, .data, .sentinel, .sentinel], laidTests := true, laidLooks := .later }
def TopFiveUptoCardSaid : Prop := Claim7.holds Tryz.pinned (.plain (OpenSpec.upto topFiveSpec)) topFiveUptoCard
end Rows
end Go.Proofs.YtaeknciienkijaaGreatDoor
