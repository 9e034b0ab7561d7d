/-
  DERIVED. GIVEN WITH THE SEED: THE CARDS: each row of YtjnmghiggfgjlaaGreatDoorRows.lean that lists a variable, with what it lists TIED to the program's text (the seventh form; the later family's looks); each row that meets fmt, with fmt's text TOLD by the authors' own Lean function (tested against real Go, not proved from fmt's source: count such statements apart). THE CARD IS WHAT COUNTS. Prove the row's statement (the work); the ties are given (YtjnmghiggfgjlaaGreatDoorTie.lean); close each card by the builder's one call (the guide's Derived/Test/ToyasCard.lean, 'card_holds'). Laid BY PROGRAM, IN A SANDBOX (cutbox-door.mjs). By AI agents, Wed Nov 11 2026. No macro, syntax, notation, axiom, sorry.
-/
import Derived.Test.YtjnmghiggfgjlaaGreatDoorRows
import GoSem.ClaimSeven
namespace Go.Proofs.YtjnmghiggfgjlaaGreatDoor
namespace Rows

/-- THE TIED CARD OF 'kinespherelaw52.ReplanSafe'. -/
def replanSafeCard : Claim7 := { stood := { row := replanSafeRow, standIns := [], harness := (true, "6d79e29c8f3ba62df5421549e41872dbde15744b90f45bb077eb1af07a9b7e8c"), looks := true }, kinds := [], alts := [], laidByText := true, laidKinds := [.data, .data, .data], laidTests := true, laidLooks := .later }
def ReplanSafeCardSaid : Prop := Claim7.holds Tryz.pinned (.plain (OpenSpec.ofChange replanSafeSpec)) replanSafeCard

/-- THE TIED CARD OF 'kinespherelaw52.ReplanMost'. -/
def replanMostCard : Claim7 := { stood := { row := replanMostRow, standIns := [], harness := (true, "6d79e29c8f3ba62df5421549e41872dbde15744b90f45bb077eb1af07a9b7e8c"), looks := true }, kinds := [], alts := [], laidByText := true, laidKinds := [.data, .data, .data], laidTests := true, laidLooks := .later }
def ReplanMostCardSaid : Prop := Claim7.holds Tryz.pinned (.plain (OpenSpec.ofChange replanMostSpec)) replanMostCard

/-- THE TIED CARD OF 'kinespherelaw52.ReplanBudget'. -/
def replanBudgetCard : Claim7 := { stood := { row := replanBudgetRow, standIns := [], harness := (true, "6d79e29c8f3ba62df5421549e41872dbde15744b90f45bb077eb1af07a9b7e8c"), looks := true }, kinds := [], alts := [], laidByText := true, laidKinds := [.data, .data, .data], laidTests := true, laidLooks := .later }
def ReplanBudgetCardSaid : Prop := Claim7.holds Tryz.pinned (.plain (OpenSpec.ofChange replanBudgetSpec)) replanBudgetCard

/-- THE SECOND FORM's CARD OF 'kinespherelaw52.ReplanSafe'. -/
def replanSafeUptoCard : Claim7 := { stood := { row := replanSafeUptoRow, standIns := [], harness := (true, "6d79e29c8f3ba62df5421549e41872dbde15744b90f45bb077eb1af07a9b7e8c"), looks := true }, kinds := [], alts := [], laidByText := true, laidKinds := [.data, .data, .data], laidTests := true, laidLooks := .later }
def ReplanSafeUptoCardSaid : Prop := Claim7.holds Tryz.pinned (.plain (OpenSpec.upto replanSafeSpec)) replanSafeUptoCard

/-- THE SECOND FORM's CARD OF 'kinespherelaw52.ReplanMost'. -/
def replanMostUptoCard : Claim7 := { stood := { row := replanMostUptoRow, standIns := [], harness := (true, "6d79e29c8f3ba62df5421549e41872dbde15744b90f45bb077eb1af07a9b7e8c"), looks := true }, kinds := [], alts := [], laidByText := true, laidKinds := [.data, .data, .data], laidTests := true, laidLooks := .later }
def ReplanMostUptoCardSaid : Prop := Claim7.holds Tryz.pinned (.plain (OpenSpec.upto replanMostSpec)) replanMostUptoCard

/-- THE SECOND FORM's CARD OF 'kinespherelaw52.ReplanBudget'. -/
def replanBudgetUptoCard : Claim7 := { stood := { row := replanBudgetUptoRow, standIns := [], harness := (true, "6d79e29c8f3ba62df5421549e41872dbde15744b90f45bb077eb1af07a9b7e8c"), looks := true }, kinds := [], alts := [], laidByText := true, laidKinds := [.data, .data, .data], laidTests := true, laidLooks := .later }
def ReplanBudgetUptoCardSaid : Prop := Claim7.holds Tryz.pinned (.plain (OpenSpec.upto replanBudgetSpec)) replanBudgetUptoCard
end Rows
end Go.Proofs.YtjnmghiggfgjlaaGreatDoor
