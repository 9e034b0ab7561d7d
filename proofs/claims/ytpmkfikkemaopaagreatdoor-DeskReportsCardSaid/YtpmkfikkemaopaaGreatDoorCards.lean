/-
  DERIVED. GIVEN WITH THE SEED: THE CARDS: each row of YtpmkfikkemaopaaGreatDoorRows.lean that lists a variable, with what it lists TIED to the program's text (the seventh form; the later family's looks); each row that meets fmt, with fmt's text TOLD by the authors' own Lean function (tested against real Go, not proved from fmt's source: count such statements apart). THE CARD IS WHAT COUNTS. Prove the row's statement (the work); the ties are given (YtpmkfikkemaopaaGreatDoorTie.lean); close each card by the builder's one call (the guide's Derived/Test/ToyasCard.lean, 'card_holds'). Laid BY PROGRAM, IN A SANDBOX (cutbox-door.mjs). By AI agents, Wed Nov 11 2026. No macro, syntax, notation, axiom, sorry.
-/
import Derived.Test.YtpmkfikkemaopaaGreatDoorRows
import GoSem.ClaimSeven
namespace Go.Proofs.YtpmkfikkemaopaaGreatDoor
namespace Rows

/-- THE TIED CARD OF 'kinespherelaw50.DeskReports'. -/
def deskReportsCard : Claim7 := { stood := { row := deskReportsRow, standIns := [], harness := (true, "18bb2aa88daf24f3462d07b354fe7485b8a3cecb1fd8dc11673503fbd398e8be"), looks := true }, kinds := [], alts := [], laidByText := true, laidKinds := [.data, .data, .data], laidTests := true, laidLooks := .later }
def DeskReportsCardSaid : Prop := Claim7.holds Tryz.pinned (.plain (OpenSpec.ofChange deskReportsSpec)) deskReportsCard

/-- THE SECOND FORM's CARD OF 'kinespherelaw50.DeskReports'. -/
def deskReportsUptoCard : Claim7 := { stood := { row := deskReportsUptoRow, standIns := [], harness := (true, "18bb2aa88daf24f3462d07b354fe7485b8a3cecb1fd8dc11673503fbd398e8be"), looks := true }, kinds := [], alts := [], laidByText := true, laidKinds := [.data, .data, .data], laidTests := true, laidLooks := .later }
def DeskReportsUptoCardSaid : Prop := Claim7.holds Tryz.pinned (.plain (OpenSpec.upto deskReportsSpec)) deskReportsUptoCard
end Rows
end Go.Proofs.YtpmkfikkemaopaaGreatDoor
