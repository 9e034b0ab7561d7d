/-
  DERIVED. GIVEN WITH THE SEED: THE CARDS: each row of YtejplpmpldcmlaaGreatDoorRows.lean that lists a variable, with what it lists TIED to the program's text (the seventh form; the later family's looks); each row that meets fmt, with fmt's text TOLD by the authors' own Lean function (tested against real Go, not proved from fmt's source: count such statements apart). THE CARD IS WHAT COUNTS. Prove the row's statement (the work); the ties are given (YtejplpmpldcmlaaGreatDoorTie.lean); close each card by the builder's one call (the guide's Derived/Test/ToyasCard.lean, 'card_holds'). Laid BY PROGRAM, IN A SANDBOX (cutbox-door.mjs). By AI agents, Wed Nov 11 2026. No macro, syntax, notation, axiom, sorry.
-/
import Derived.Test.YtejplpmpldcmlaaGreatDoorRows
import GoSem.ClaimSeven
namespace Go.Proofs.YtejplpmpldcmlaaGreatDoor
namespace Rows

/-- THE TIED CARD OF 'kinespherelaw50.DeskHold'. -/
def deskHoldCard : Claim7 := { stood := { row := deskHoldRow, standIns := [], harness := (true, "b2dd6e578d185d9ef4dfa7e2dd372e763c7eefa952090418838d60e4924011fd"), looks := true }, kinds := [], alts := [], laidByText := true, laidKinds := [.data, .data, .data], laidTests := true, laidLooks := .later }
def DeskHoldCardSaid : Prop := Claim7.holds Tryz.pinned (.plain (OpenSpec.ofChange deskHoldSpec)) deskHoldCard

/-- THE TIED CARD OF 'kinespherelaw50.DeskMany'. -/
def deskManyCard : Claim7 := { stood := { row := deskManyRow, standIns := [], harness := (true, "b2dd6e578d185d9ef4dfa7e2dd372e763c7eefa952090418838d60e4924011fd"), looks := true }, kinds := [], alts := [], laidByText := true, laidKinds := [.data, .data, .data], laidTests := true, laidLooks := .later }
def DeskManyCardSaid : Prop := Claim7.holds Tryz.pinned (.plain (OpenSpec.ofChange deskManySpec)) deskManyCard

/-- THE SECOND FORM's CARD OF 'kinespherelaw50.DeskHold'. -/
def deskHoldUptoCard : Claim7 := { stood := { row := deskHoldUptoRow, standIns := [], harness := (true, "b2dd6e578d185d9ef4dfa7e2dd372e763c7eefa952090418838d60e4924011fd"), looks := true }, kinds := [], alts := [], laidByText := true, laidKinds := [.data, .data, .data], laidTests := true, laidLooks := .later }
def DeskHoldUptoCardSaid : Prop := Claim7.holds Tryz.pinned (.plain (OpenSpec.upto deskHoldSpec)) deskHoldUptoCard

/-- THE SECOND FORM's CARD OF 'kinespherelaw50.DeskMany'. -/
def deskManyUptoCard : Claim7 := { stood := { row := deskManyUptoRow, standIns := [], harness := (true, "b2dd6e578d185d9ef4dfa7e2dd372e763c7eefa952090418838d60e4924011fd"), looks := true }, kinds := [], alts := [], laidByText := true, laidKinds := [.data, .data, .data], laidTests := true, laidLooks := .later }
def DeskManyUptoCardSaid : Prop := Claim7.holds Tryz.pinned (.plain (OpenSpec.upto deskManySpec)) deskManyUptoCard
end Rows
end Go.Proofs.YtejplpmpldcmlaaGreatDoor
