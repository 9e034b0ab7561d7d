/-
  DERIVED. GIVEN WITH THE SEED: THE CARDS: each row of YtfpoabmmjhhncaaGreatDoorRows.lean that lists a variable, with what it lists TIED to the program's text (the seventh form; the later family's looks); each row that meets fmt, with fmt's text TOLD by the authors' own Lean function (tested against real Go, not proved from fmt's source: count such statements apart). THE CARD IS WHAT COUNTS. Prove the row's statement (the work); the ties are given (YtfpoabmmjhhncaaGreatDoorTie.lean); close each card by the builder's one call (the guide's Derived/Test/ToyasCard.lean, 'card_holds'). Laid BY PROGRAM, IN A SANDBOX (cutbox-door.mjs). By AI agents, Wed Nov 11 2026. No macro, syntax, notation, axiom, sorry.
-/
import Derived.Test.YtfpoabmmjhhncaaGreatDoorRows
import GoSem.ClaimSeven
namespace Go.Proofs.YtfpoabmmjhhncaaGreatDoor
namespace Rows

/-- THE TIED CARD OF 'kinespherelaw52.ReplanKept'. -/
def replanKeptCard : Claim7 := { stood := { row := replanKeptRow, standIns := [], harness := (true, "49c493963b1ca916793ecc0a9039632e081ce4c2527966040faf5026e0493388"), looks := true }, kinds := [], alts := [], laidByText := true, laidKinds := [.data, .data, .data], laidTests := true, laidLooks := .later }
def ReplanKeptCardSaid : Prop := Claim7.holds Tryz.pinned (.plain (OpenSpec.ofChange replanKeptSpec)) replanKeptCard

/-- THE SECOND FORM's CARD OF 'kinespherelaw52.ReplanKept'. -/
def replanKeptUptoCard : Claim7 := { stood := { row := replanKeptUptoRow, standIns := [], harness := (true, "49c493963b1ca916793ecc0a9039632e081ce4c2527966040faf5026e0493388"), looks := true }, kinds := [], alts := [], laidByText := true, laidKinds := [.data, .data, .data], laidTests := true, laidLooks := .later }
def ReplanKeptUptoCardSaid : Prop := Claim7.holds Tryz.pinned (.plain (OpenSpec.upto replanKeptSpec)) replanKeptUptoCard
end Rows
end Go.Proofs.YtfpoabmmjhhncaaGreatDoor
