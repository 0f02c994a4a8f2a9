/-
  DERIVED. GIVEN WITH THE SEED: THE CARDS: each row of YtbilndahjkimkaaDoorRows.lean that lists a variable, with what it lists TIED to the program's text (the seventh form; the later family's looks); each row that meets fmt, with fmt's text TOLD by the authors' own Lean function (tested against real Go, not proved from fmt's source: count such statements apart). THE CARD IS WHAT COUNTS. Prove the row's statement (the work); the ties are given (YtbilndahjkimkaaDoorTie.lean); close each card by the builder's one call (the guide's Derived/Test/ToyasCard.lean, 'card_holds'). Laid BY PROGRAM, IN A SANDBOX (cutbox-door.mjs). By AI agents, Wed Nov 11 2026. No macro, syntax, notation, axiom, sorry.
-/
import Derived.Test.YtbilndahjkimkaaDoorRows
import GoSem.ClaimSeven
namespace Go.Proofs.YtbilndahjkimkaaDoor
namespace Rows

/-- THE TIED CARD OF 'katabasislaw03.WordReads'. -/
def wordReadsCard : Claim7 := { stood := { row := wordReadsRow, standIns := [], harness := (true, "83cd244e7fe4729b23ed7fc7b0e7079f5acdaf3ee0ec24bfd97492d73e2b6163"), looks := true }, kinds := [], alts := [], laidByText := true, laidKinds := [.data, .data, .data, .sentinel, .sentinel], laidTests := true, laidLooks := .later }
def WordReadsCardSaid : Prop := Claim7.holds Tryd.pinned (.plain (OpenSpec.ofChange wordReadsSpec)) wordReadsCard

/-- THE TIED CARD OF 'katabasislaw03.WordLines'. -/
def wordLinesCard : Claim7 := { stood := { row := wordLinesRow, standIns := [], harness := (true, "83cd244e7fe4729b23ed7fc7b0e7079f5acdaf3ee0ec24bfd97492d73e2b6163"), looks := true }, kinds := [], alts := [], laidByText := true, laidKinds := [.data, .data, .data, .sentinel, .sentinel], laidTests := true, laidLooks := .later }
def WordLinesCardSaid : Prop := Claim7.holds Tryd.pinned (.plain (OpenSpec.ofChange wordLinesSpec)) wordLinesCard

/-- THE TIED CARD OF 'katabasislaw03.WordApplies'. -/
def wordAppliesCard : Claim7 := { stood := { row := wordAppliesRow, standIns := [], harness := (true, "83cd244e7fe4729b23ed7fc7b0e7079f5acdaf3ee0ec24bfd97492d73e2b6163"), looks := true }, kinds := [], alts := [], laidByText := true, laidKinds := [.data, .data, .data, .sentinel, .sentinel], laidTests := true, laidLooks := .later }
def WordAppliesCardSaid : Prop := Claim7.holds Tryd.pinned (.plain (OpenSpec.ofChange wordAppliesSpec)) wordAppliesCard

/-- THE TIED CARD OF 'katabasislaw03.WordTerras'. -/
def wordTerrasCard : Claim7 := { stood := { row := wordTerrasRow, standIns := [], harness := (true, "83cd244e7fe4729b23ed7fc7b0e7079f5acdaf3ee0ec24bfd97492d73e2b6163"), looks := true }, kinds := [], alts := [], laidByText := true, laidKinds := [.data, .data, .data, .sentinel, .sentinel], laidTests := true, laidLooks := .later }
def WordTerrasCardSaid : Prop := Claim7.holds Tryd.pinned (.plain (OpenSpec.ofChange wordTerrasSpec)) wordTerrasCard

/-- THE TIED CARD OF 'katabasislaw03.WordParts'. -/
def wordPartsCard : Claim7 := { stood := { row := wordPartsRow, standIns := [], harness := (true, "83cd244e7fe4729b23ed7fc7b0e7079f5acdaf3ee0ec24bfd97492d73e2b6163"), looks := true }, kinds := [], alts := [], laidByText := true, laidKinds := [.data, .data, .data, .sentinel, .sentinel], laidTests := true, laidLooks := .later }
def WordPartsCardSaid : Prop := Claim7.holds Tryd.pinned (.plain (OpenSpec.ofChange wordPartsSpec)) wordPartsCard

/-- THE TIED CARD OF 'katabasislaw03.WordPowers'. -/
def wordPowersCard : Claim7 := { stood := { row := wordPowersRow, standIns := [], harness := (true, "83cd244e7fe4729b23ed7fc7b0e7079f5acdaf3ee0ec24bfd97492d73e2b6163"), looks := true }, kinds := [], alts := [], laidByText := true, laidKinds := [.data, .data, .data, .sentinel, .sentinel], laidTests := true, laidLooks := .later }
def WordPowersCardSaid : Prop := Claim7.holds Tryd.pinned (.plain (OpenSpec.ofChange wordPowersSpec)) wordPowersCard

/-- THE TIED CARD OF 'katabasislaw03.WordLinear'. -/
def wordLinearCard : Claim7 := { stood := { row := wordLinearRow, standIns := [], harness := (true, "83cd244e7fe4729b23ed7fc7b0e7079f5acdaf3ee0ec24bfd97492d73e2b6163"), looks := true }, kinds := [], alts := [], laidByText := true, laidKinds := [.data, .data, .data, .sentinel, .sentinel], laidTests := true, laidLooks := .later }
def WordLinearCardSaid : Prop := Claim7.holds Tryd.pinned (.plain (OpenSpec.ofChange wordLinearSpec)) wordLinearCard

/-- THE TIED CARD OF 'katabasistop.TopWords'. -/
def topWordsCard : Claim7 := { stood := { row := topWordsRow, standIns := [], harness := (true, "83cd244e7fe4729b23ed7fc7b0e7079f5acdaf3ee0ec24bfd97492d73e2b6163"), looks := true }, kinds := [], alts := [], laidByText := true, laidKinds := [.data, .data, .data, .sentinel, .sentinel], laidTests := true, laidLooks := .later }
def TopWordsCardSaid : Prop := Claim7.holds Tryd.pinned (.plain (OpenSpec.ofChange topWordsSpec)) topWordsCard

/-- THE SECOND FORM's CARD OF 'katabasislaw03.WordReads'. -/
def wordReadsUptoCard : Claim7 := { stood := { row := wordReadsUptoRow, standIns := [], harness := (true, "83cd244e7fe4729b23ed7fc7b0e7079f5acdaf3ee0ec24bfd97492d73e2b6163"), looks := true }, kinds := [], alts := [], laidByText := true, laidKinds := [.data, .data, .data, .sentinel, .sentinel], laidTests := true, laidLooks := .later }
def WordReadsUptoCardSaid : Prop := Claim7.holds Tryd.pinned (.plain (OpenSpec.upto wordReadsSpec)) wordReadsUptoCard

/-- THE SECOND FORM's CARD OF 'katabasislaw03.WordLines'. -/
def wordLinesUptoCard : Claim7 := { stood := { row := wordLinesUptoRow, standIns := [], harness := (true, "83cd244e7fe4729b23ed7fc7b0e7079f5acdaf3ee0ec24bfd97492d73e2b6163"), looks := true }, kinds := [], alts := [], laidByText := true, laidKinds := [.data, .data, .data, .sentinel, .sentinel], laidTests := true, laidLooks := .later }
def WordLinesUptoCardSaid : Prop := Claim7.holds Tryd.pinned (.plain (OpenSpec.upto wordLinesSpec)) wordLinesUptoCard

/-- THE SECOND FORM's CARD OF 'katabasislaw03.WordApplies'. -/
def wordAppliesUptoCard : Claim7 := { stood := { row := wordAppliesUptoRow, standIns := [], harness := (true, "83cd244e7fe4729b23ed7fc7b0e7079f5acdaf3ee0ec24bfd97492d73e2b6163"), looks := true }, kinds := [], alts := [], laidByText := true, laidKinds := [.data, .data, .data, .sentinel, .sentinel], laidTests := true, laidLooks := .later }
def WordAppliesUptoCardSaid : Prop := Claim7.holds Tryd.pinned (.plain (OpenSpec.upto wordAppliesSpec)) wordAppliesUptoCard

/-- THE SECOND FORM's CARD OF 'katabasislaw03.WordTerras'. -/
def wordTerrasUptoCard : Claim7 := { stood := { row := wordTerrasUptoRow, standIns := [], harness := (true, "83cd244e7fe4729b23ed7fc7b0e7079f5acdaf3ee0ec24bfd97492d73e2b6163"), looks := true }, kinds := [], alts := [], laidByText := true, laidKinds := [.data, .data, .data, .sentinel, .sentinel], laidTests := true, laidLooks := .later }
def WordTerrasUptoCardSaid : Prop := Claim7.holds Tryd.pinned (.plain (OpenSpec.upto wordTerrasSpec)) wordTerrasUptoCard

/-- THE SECOND FORM's CARD OF 'katabasislaw03.WordParts'. -/
def wordPartsUptoCard : Claim7 := { stood := { row := wordPartsUptoRow, standIns := [], harness := (true, "83cd244e7fe4729b23ed7fc7b0e7079f5acdaf3ee0ec24bfd97492d73e2b6163"), looks := true }, kinds := [], alts := [], laidByText := true, laidKinds := [.data, .data, .data, .sentinel, .sentinel], laidTests := true, laidLooks := .later }
def WordPartsUptoCardSaid : Prop := Claim7.holds Tryd.pinned (.plain (OpenSpec.upto wordPartsSpec)) wordPartsUptoCard

/-- THE SECOND FORM's CARD OF 'katabasislaw03.WordPowers'. -/
def wordPowersUptoCard : Claim7 := { stood := { row := wordPowersUptoRow, standIns := [], harness := (true, "83cd244e7fe4729b23ed7fc7b0e7079f5acdaf3ee0ec24bfd97492d73e2b6163"), looks := true }, kinds := [], alts := [], laidByText := true, laidKinds := [.data, .data, .data, .sentinel, .sentinel], laidTests := true, laidLooks := .later }
def WordPowersUptoCardSaid : Prop := Claim7.holds Tryd.pinned (.plain (OpenSpec.upto wordPowersSpec)) wordPowersUptoCard

/-- THE SECOND FORM's CARD OF 'katabasislaw03.WordLinear'. -/
def wordLinearUptoCard : Claim7 := { stood := { row := wordLinearUptoRow, standIns := [], harness := (true, "83cd244e7fe4729b23ed7fc7b0e7079f5acdaf3ee0ec24bfd97492d73e2b6163"), looks := true }, kinds := [], alts := [], laidByText := true, laidKinds := [.data, .data, .data, .sentinel, .sentinel], laidTests := true, laidLooks := .later }
def WordLinearUptoCardSaid : Prop := Claim7.holds Tryd.pinned (.plain (OpenSpec.upto wordLinearSpec)) wordLinearUptoCard

/-- THE SECOND FORM's CARD OF 'katabasistop.TopWords'. -/
def topWordsUptoCard : Claim7 := { stood := { row := topWordsUptoRow, standIns := [], harness := (true, "83cd244e7fe4729b23ed7fc7b0e7079f5acdaf3ee0ec24bfd97492d73e2b6163"), looks := true }, kinds := [], alts := [], laidByText := true, laidKinds := [.data, .data, .data, .sentinel, .sentinel], laidTests := true, laidLooks := .later }
def TopWordsUptoCardSaid : Prop := Claim7.holds Tryd.pinned (.plain (OpenSpec.upto topWordsSpec)) topWordsUptoCard
end Rows
end Go.Proofs.YtbilndahjkimkaaDoor
