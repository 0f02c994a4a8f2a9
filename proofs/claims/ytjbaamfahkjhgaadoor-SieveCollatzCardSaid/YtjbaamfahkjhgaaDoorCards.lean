/-
  DERIVED. GIVEN WITH THE SEED: THE CARDS: each row of YtjbaamfahkjhgaaDoorRows.lean that lists a variable, with what it lists TIED to the program's text (the seventh form; the later family's looks); each row that meets fmt, with fmt's text TOLD by the authors' own Lean function (tested against real Go, not proved from fmt's source: count such statements apart). THE CARD IS WHAT COUNTS. Prove the row's statement (the work); the ties are given (YtjbaamfahkjhgaaDoorTie.lean); close each card by the builder's one call (the guide's Derived/Test/ToyasCard.lean, 'card_holds'). Laid BY PROGRAM, IN A SANDBOX (cutbox-door.mjs). By AI agents, Wed Nov 11 2026. No macro, syntax, notation, axiom, sorry.
-/
import Derived.Test.YtjbaamfahkjhgaaDoorRows
import GoSem.ClaimSeven
namespace Go.Proofs.YtjbaamfahkjhgaaDoor
namespace Rows

/-- THE TIED CARD OF 'katabasislaw04.SieveCollatz'. -/
def sieveCollatzCard : Claim7 := { stood := { row := sieveCollatzRow, standIns := [], harness := (true, "9bca68a1bb17300398388851d29233bf84f060cadc0954b4b437578dcdc13305"), looks := true }, kinds := [], alts := [], laidByText := true, laidKinds := [.data, .data, .data, .sentinel, .sentinel], laidTests := true, laidLooks := .later }
def SieveCollatzCardSaid : Prop := Claim7.holds Tryd.pinned (.plain (OpenSpec.ofChange sieveCollatzSpec)) sieveCollatzCard

/-- THE SECOND FORM's CARD OF 'katabasislaw04.SieveCollatz'. -/
def sieveCollatzUptoCard : Claim7 := { stood := { row := sieveCollatzUptoRow, standIns := [], harness := (true, "9bca68a1bb17300398388851d29233bf84f060cadc0954b4b437578dcdc13305"), looks := true }, kinds := [], alts := [], laidByText := true, laidKinds := [.data, .data, .data, .sentinel, .sentinel], laidTests := true, laidLooks := .later }
def SieveCollatzUptoCardSaid : Prop := Claim7.holds Tryd.pinned (.plain (OpenSpec.upto sieveCollatzSpec)) sieveCollatzUptoCard
end Rows
end Go.Proofs.YtjbaamfahkjhgaaDoor
