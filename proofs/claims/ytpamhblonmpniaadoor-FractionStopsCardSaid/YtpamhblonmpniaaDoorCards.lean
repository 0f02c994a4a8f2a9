/-
  DERIVED. GIVEN WITH THE SEED: THE CARDS: each row of YtpamhblonmpniaaDoorRows.lean that lists a variable, with what it lists TIED to the program's text (the seventh form; the later family's looks); each row that meets fmt, with fmt's text TOLD by the authors' own Lean function (tested against real Go, not proved from fmt's source: count such statements apart). THE CARD IS WHAT COUNTS. Prove the row's statement (the work); the ties are given (YtpamhblonmpniaaDoorTie.lean); close each card by the builder's one call (the guide's Derived/Test/ToyasCard.lean, 'card_holds'). Laid BY PROGRAM, IN A SANDBOX (cutbox-door.mjs). By AI agents, Wed Nov 11 2026. No macro, syntax, notation, axiom, sorry.
-/
import Derived.Test.YtpamhblonmpniaaDoorRows
import GoSem.ClaimSeven
namespace Go.Proofs.YtpamhblonmpniaaDoor
namespace Rows

/-- THE TIED CARD OF 'katabasislaw10.FractionStops'. -/
def fractionStopsCard : Claim7 := { stood := { row := fractionStopsRow, standIns := [], harness := (true, "f1ea77b02c28ca1810dc5a27b84de55c528b13d9fbf428ecbca6e1136bcb2a5c"), looks := true }, kinds := [], alts := [], laidByText := true, laidKinds := [.data, .data, .data, .sentinel, .sentinel], laidTests := true, laidLooks := .later }
def FractionStopsCardSaid : Prop := Claim7.holds Tryd.pinned (.plain (OpenSpec.ofChange fractionStopsSpec)) fractionStopsCard

/-- THE TIED CARD OF 'katabasislaw10.FractionTwice'. -/
def fractionTwiceCard : Claim7 := { stood := { row := fractionTwiceRow, standIns := [], harness := (true, "f1ea77b02c28ca1810dc5a27b84de55c528b13d9fbf428ecbca6e1136bcb2a5c"), looks := true }, kinds := [], alts := [], laidByText := true, laidKinds := [.data, .data, .data, .sentinel, .sentinel], laidTests := true, laidLooks := .later }
def FractionTwiceCardSaid : Prop := Claim7.holds Tryd.pinned (.plain (OpenSpec.ofChange fractionTwiceSpec)) fractionTwiceCard

/-- THE SECOND FORM's CARD OF 'katabasislaw10.FractionStops'. -/
def fractionStopsUptoCard : Claim7 := { stood := { row := fractionStopsUptoRow, standIns := [], harness := (true, "f1ea77b02c28ca1810dc5a27b84de55c528b13d9fbf428ecbca6e1136bcb2a5c"), looks := true }, kinds := [], alts := [], laidByText := true, laidKinds := [.data, .data, .data, .sentinel, .sentinel], laidTests := true, laidLooks := .later }
def FractionStopsUptoCardSaid : Prop := Claim7.holds Tryd.pinned (.plain (OpenSpec.upto fractionStopsSpec)) fractionStopsUptoCard

/-- THE SECOND FORM's CARD OF 'katabasislaw10.FractionTwice'. -/
def fractionTwiceUptoCard : Claim7 := { stood := { row := fractionTwiceUptoRow, standIns := [], harness := (true, "f1ea77b02c28ca1810dc5a27b84de55c528b13d9fbf428ecbca6e1136bcb2a5c"), looks := true }, kinds := [], alts := [], laidByText := true, laidKinds := [.data, .data, .data, .sentinel, .sentinel], laidTests := true, laidLooks := .later }
def FractionTwiceUptoCardSaid : Prop := Claim7.holds Tryd.pinned (.plain (OpenSpec.upto fractionTwiceSpec)) fractionTwiceUptoCard
end Rows
end Go.Proofs.YtpamhblonmpniaaDoor
