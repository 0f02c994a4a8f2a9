/-
  DERIVED. GIVEN WITH THE SEED: THE CARDS: each row of YtjbaamfahkjhgaaGreatDoorRows.lean that lists a variable, with what it lists TIED to the program's text (the seventh form; the later family's looks); each row that meets fmt, with fmt's text TOLD by the authors' own Lean function (tested against real Go, not proved from fmt's source: count such statements apart). THE CARD IS WHAT COUNTS. Prove the row's statement (the work); the ties are given (YtjbaamfahkjhgaaGreatDoorTie.lean); close each card by the builder's one call (the guide's Derived/Test/ToyasCard.lean, 'card_holds'). Laid BY PROGRAM, IN A SANDBOX (cutbox-door.mjs). By AI agents, Wed Nov 11 2026. No macro, syntax, notation, axiom, sorry.
-/
import Derived.Test.YtjbaamfahkjhgaaGreatDoorRows
import GoSem.ClaimSeven
namespace Go.Proofs.YtjbaamfahkjhgaaGreatDoor
namespace Rows

/-- THE TIED CARD OF 'katabasislaw04.SieveTells'. -/
def sieveTellsCard : Claim7 := { stood := { row := sieveTellsRow, standIns := [], harness := (true, "3e464e4643f802e885d21e71ccd04c5c205c747b51137b3239955df73c4988f7"), looks := true }, kinds := [], alts := [], laidByText := true, laidKinds := [.data, .data, .data, .sentinel, .sentinel], laidTests := true, laidLooks := .later }
def SieveTellsCardSaid : Prop := Claim7.holds Tryz.pinned (.plain (OpenSpec.ofChange sieveTellsSpec)) sieveTellsCard

/-- THE TIED CARD OF 'katabasislaw04.SieveFinds'. -/
def sieveFindsCard : Claim7 := { stood := { row := sieveFindsRow, standIns := [], harness := (true, "3e464e4643f802e885d21e71ccd04c5c205c747b51137b3239955df73c4988f7"), looks := true }, kinds := [], alts := [], laidByText := true, laidKinds := [.data, .data, .data, .sentinel, .sentinel], laidTests := true, laidLooks := .later }
def SieveFindsCardSaid : Prop := Claim7.holds Tryz.pinned (.plain (OpenSpec.ofChange sieveFindsSpec)) sieveFindsCard

/-- THE TIED CARD OF 'katabasislaw04.SieveAll'. -/
def sieveAllCard : Claim7 := { stood := { row := sieveAllRow, standIns := [], harness := (true, "3e464e4643f802e885d21e71ccd04c5c205c747b51137b3239955df73c4988f7"), looks := true }, kinds := [], alts := [], laidByText := true, laidKinds := [.data, .data, .data, .sentinel, .sentinel], laidTests := true, laidLooks := .later }
def SieveAllCardSaid : Prop := Claim7.holds Tryz.pinned (.plain (OpenSpec.ofChange sieveAllSpec)) sieveAllCard

/-- THE TIED CARD OF 'katabasislaw04.SieveLeft'. -/
def sieveLeftCard : Claim7 := { stood := { row := sieveLeftRow, standIns := [], harness := (true, "3e464e4643f802e885d21e71ccd04c5c205c747b51137b3239955df73c4988f7"), looks := true }, kinds := [], alts := [], laidByText := true, laidKinds := [.data, .data, .data, .sentinel, .sentinel], laidTests := true, laidLooks := .later }
def SieveLeftCardSaid : Prop := Claim7.holds Tryz.pinned (.plain (OpenSpec.ofChange sieveLeftSpec)) sieveLeftCard

/-- THE TIED CARD OF 'katabasislaw04.SieveExact'. -/
def sieveExactCard : Claim7 := { stood := { row := sieveExactRow, standIns := [], harness := (true, "3e464e4643f802e885d21e71ccd04c5c205c747b51137b3239955df73c4988f7"), looks := true }, kinds := [], alts := [], laidByText := true, laidKinds := [.data, .data, .data, .sentinel, .sentinel], laidTests := true, laidLooks := .later }
def SieveExactCardSaid : Prop := Claim7.holds Tryz.pinned (.plain (OpenSpec.ofChange sieveExactSpec)) sieveExactCard

/-- THE TIED CARD OF 'katabasistop.TopFalls'. -/
def topFallsCard : Claim7 := { stood := { row := topFallsRow, standIns := [], harness := (true, "3e464e4643f802e885d21e71ccd04c5c205c747b51137b3239955df73c4988f7"), looks := true }, kinds := [], alts := [], laidByText := true, laidKinds := [.data, .data, .data, .sentinel, .sentinel], laidTests := true, laidLooks := .later }
def TopFallsCardSaid : Prop := Claim7.holds Tryz.pinned (.plain (OpenSpec.ofChange topFallsSpec)) topFallsCard

/-- THE SECOND FORM's CARD OF 'katabasislaw04.SieveTells'. -/
def sieveTellsUptoCard : Claim7 := { stood := { row := sieveTellsUptoRow, standIns := [], harness := (true, "3e464e4643f802e885d21e71ccd04c5c205c747b51137b3239955df73c4988f7"), looks := true }, kinds := [], alts := [], laidByText := true, laidKinds := [.data, .data, .data, .sentinel, .sentinel], laidTests := true, laidLooks := .later }
def SieveTellsUptoCardSaid : Prop := Claim7.holds Tryz.pinned (.plain (OpenSpec.upto sieveTellsSpec)) sieveTellsUptoCard

/-- THE SECOND FORM's CARD OF 'katabasislaw04.SieveFinds'. -/
def sieveFindsUptoCard : Claim7 := { stood := { row := sieveFindsUptoRow, standIns := [], harness := (true, "3e464e4643f802e885d21e71ccd04c5c205c747b51137b3239955df73c4988f7"), looks := true }, kinds := [], alts := [], laidByText := true, laidKinds := [.data, .data, .data, .sentinel, .sentinel], laidTests := true, laidLooks := .later }
def SieveFindsUptoCardSaid : Prop := Claim7.holds Tryz.pinned (.plain (OpenSpec.upto sieveFindsSpec)) sieveFindsUptoCard

/-- THE SECOND FORM's CARD OF 'katabasislaw04.SieveAll'. -/
def sieveAllUptoCard : Claim7 := { stood := { row := sieveAllUptoRow, standIns := [], harness := (true, "3e464e4643f802e885d21e71ccd04c5c205c747b51137b3239955df73c4988f7"), looks := true }, kinds := [], alts := [], laidByText := true, laidKinds := [.data, .data, .data, .sentinel, .sentinel], laidTests := true, laidLooks := .later }
def SieveAllUptoCardSaid : Prop := Claim7.holds Tryz.pinned (.plain (OpenSpec.upto sieveAllSpec)) sieveAllUptoCard

/-- THE SECOND FORM's CARD OF 'katabasislaw04.SieveLeft'. -/
def sieveLeftUptoCard : Claim7 := { stood := { row := sieveLeftUptoRow, standIns := [], harness := (true, "3e464e4643f802e885d21e71ccd04c5c205c747b51137b3239955df73c4988f7"), looks := true }, kinds := [], alts := [], laidByText := true, laidKinds := [.data, .data, .data, .sentinel, .sentinel], laidTests := true, laidLooks := .later }
def SieveLeftUptoCardSaid : Prop := Claim7.holds Tryz.pinned (.plain (OpenSpec.upto sieveLeftSpec)) sieveLeftUptoCard

/-- THE SECOND FORM's CARD OF 'katabasislaw04.SieveExact'. -/
def sieveExactUptoCard : Claim7 := { stood := { row := sieveExactUptoRow, standIns := [], harness := (true, "3e464e4643f802e885d21e71ccd04c5c205c747b51137b3239955df73c4988f7"), looks := true }, kinds := [], alts := [], laidByText := true, laidKinds := [.data, .data, .data, .sentinel, .sentinel], laidTests := true, laidLooks := .later }
def SieveExactUptoCardSaid : Prop := Claim7.holds Tryz.pinned (.plain (OpenSpec.upto sieveExactSpec)) sieveExactUptoCard

/-- THE SECOND FORM's CARD OF 'katabasistop.TopFalls'. -/
def topFallsUptoCard : Claim7 := { stood := { row := topFallsUptoRow, standIns := [], harness := (true, "3e464e4643f802e885d21e71ccd04c5c205c747b51137b3239955df73c4988f7"), looks := true }, kinds := [], alts := [], laidByText := true, laidKinds := [.data, .data, .data, .sentinel, .sentinel], laidTests := true, laidLooks := .later }
def TopFallsUptoCardSaid : Prop := Claim7.holds Tryz.pinned (.plain (OpenSpec.upto topFallsSpec)) topFallsUptoCard
end Rows
end Go.Proofs.YtjbaamfahkjhgaaGreatDoor
