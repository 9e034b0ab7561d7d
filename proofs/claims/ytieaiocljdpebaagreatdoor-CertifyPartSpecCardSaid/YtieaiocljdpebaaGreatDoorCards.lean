/-
  DERIVED. GIVEN WITH THE SEED: THE CARDS: each row of YtieaiocljdpebaaGreatDoorRows.lean that lists a variable, with what it lists TIED to the program's text (the seventh form; the later family's looks); each row that meets fmt, with fmt's text TOLD by the authors' own Lean function (tested against real Go, not proved from fmt's source: count such statements apart). THE CARD IS WHAT COUNTS. Prove the row's statement (the work); the ties are given (YtieaiocljdpebaaGreatDoorTie.lean); close each card by the builder's one call (the guide's Derived/Test/ToyasCard.lean, 'card_holds'). Laid BY PROGRAM, IN A SANDBOX (cutbox-door.mjs). By AI agents, Wed Nov 11 2026. No macro, syntax, notation, axiom, sorry.
-/
import Derived.Test.YtieaiocljdpebaaGreatDoorRows
import GoSem.ClaimSeven
namespace Go.Proofs.YtieaiocljdpebaaGreatDoor
namespace Rows

/-- THE TIED CARD OF 'kinespherelaw31.CertifySpec'. -/
def certifySpecCard : Claim7 := { stood := { row := certifySpecRow, standIns := [], harness := (true, "57593e251adffd7189ca25ecb687f2763f394fbebdb6f59057952cb2f0c25e9a"), looks := true }, kinds := [], alts := [], laidByText := true, laidKinds := [.data, .data, .data], laidTests := true, laidLooks := .later }
def CertifySpecCardSaid : Prop := Claim7.holds Tryz.pinned (.plain (OpenSpec.ofChange certifySpecSpec)) certifySpecCard

/-- THE TIED CARD OF 'kinespherelaw31.CertifyObjectionsSpec'. -/
def certifyObjectionsSpecCard : Claim7 := { stood := { row := certifyObjectionsSpecRow, standIns := [], harness := (true, "57593e251adffd7189ca25ecb687f2763f394fbebdb6f59057952cb2f0c25e9a"), looks := true }, kinds := [], alts := [], laidByText := true, laidKinds := [.data, .data, .data], laidTests := true, laidLooks := .later }
def CertifyObjectionsSpecCardSaid : Prop := Claim7.holds Tryz.pinned (.plain (OpenSpec.ofChange certifyObjectionsSpecSpec)) certifyObjectionsSpecCard

/-- THE TIED CARD OF 'kinespherelaw31.CertifyPartSpec'. -/
def certifyPartSpecCard : Claim7 := { stood := { row := certifyPartSpecRow, standIns := [], harness := (true, "57593e251adffd7189ca25ecb687f2763f394fbebdb6f59057952cb2f0c25e9a"), looks := true }, kinds := [], alts := [], laidByText := true, laidKinds := [.data, .data, .data], laidTests := true, laidLooks := .later }
def CertifyPartSpecCardSaid : Prop := Claim7.holds Tryz.pinned (.plain (OpenSpec.ofChange certifyPartSpecSpec)) certifyPartSpecCard

/-- THE TIED CARD OF 'kinespherelaw31.CertifySafe'. -/
def certifySafeCard : Claim7 := { stood := { row := certifySafeRow, standIns := [], harness := (true, "57593e251adffd7189ca25ecb687f2763f394fbebdb6f59057952cb2f0c25e9a"), looks := true }, kinds := [], alts := [], laidByText := true, laidKinds := [.data, .data, .data], laidTests := true, laidLooks := .later }
def CertifySafeCardSaid : Prop := Claim7.holds Tryz.pinned (.plain (OpenSpec.ofChange certifySafeSpec)) certifySafeCard

/-- THE TIED CARD OF 'kinespherelaw31.CertifyParts'. -/
def certifyPartsCard : Claim7 := { stood := { row := certifyPartsRow, standIns := [], harness := (true, "57593e251adffd7189ca25ecb687f2763f394fbebdb6f59057952cb2f0c25e9a"), looks := true }, kinds := [], alts := [], laidByText := true, laidKinds := [.data, .data, .data], laidTests := true, laidLooks := .later }
def CertifyPartsCardSaid : Prop := Claim7.holds Tryz.pinned (.plain (OpenSpec.ofChange certifyPartsSpec)) certifyPartsCard

/-- THE TIED CARD OF 'kinespherelaw31.CertifyWagon'. -/
def certifyWagonCard : Claim7 := { stood := { row := certifyWagonRow, standIns := [], harness := (true, "57593e251adffd7189ca25ecb687f2763f394fbebdb6f59057952cb2f0c25e9a"), looks := true }, kinds := [], alts := [], laidByText := true, laidKinds := [.data, .data, .data], laidTests := true, laidLooks := .later }
def CertifyWagonCardSaid : Prop := Claim7.holds Tryz.pinned (.plain (OpenSpec.ofChange certifyWagonSpec)) certifyWagonCard

/-- THE TIED CARD OF 'kinespherelaw31.CertifyMade'. -/
def certifyMadeCard : Claim7 := { stood := { row := certifyMadeRow, standIns := [], harness := (true, "57593e251adffd7189ca25ecb687f2763f394fbebdb6f59057952cb2f0c25e9a"), looks := true }, kinds := [], alts := [], laidByText := true, laidKinds := [.data, .data, .data], laidTests := true, laidLooks := .later }
def CertifyMadeCardSaid : Prop := Claim7.holds Tryz.pinned (.plain (OpenSpec.ofChange certifyMadeSpec)) certifyMadeCard

/-- THE TIED CARD OF 'kinespherelaw31.CertifyStronger'. -/
def certifyStrongerCard : Claim7 := { stood := { row := certifyStrongerRow, standIns := [], harness := (true, "57593e251adffd7189ca25ecb687f2763f394fbebdb6f59057952cb2f0c25e9a"), looks := true }, kinds := [], alts := [], laidByText := true, laidKinds := [.data, .data, .data], laidTests := true, laidLooks := .later }
def CertifyStrongerCardSaid : Prop := Claim7.holds Tryz.pinned (.plain (OpenSpec.ofChange certifyStrongerSpec)) certifyStrongerCard

/-- THE SECOND FORM's CARD OF 'kinespherelaw31.CertifySpec'. -/
def certifySpecUptoCard : Claim7 := { stood := { row := certifySpecUptoRow, standIns := [], harness := (true, "57593e251adffd7189ca25ecb687f2763f394fbebdb6f59057952cb2f0c25e9a"), looks := true }, kinds := [], alts := [], laidByText := true, laidKinds := [.data, .data, .data], laidTests := true, laidLooks := .later }
def CertifySpecUptoCardSaid : Prop := Claim7.holds Tryz.pinned (.plain (OpenSpec.upto certifySpecSpec)) certifySpecUptoCard

/-- THE SECOND FORM's CARD OF 'kinespherelaw31.CertifyObjectionsSpec'. -/
def certifyObjectionsSpecUptoCard : Claim7 := { stood := { row := certifyObjectionsSpecUptoRow, standIns := [], harness := (true, "57593e251adffd7189ca25ecb687f2763f394fbebdb6f59057952cb2f0c25e9a"), looks := true }, kinds := [], alts := [], laidByText := true, laidKinds := [.data, .data, .data], laidTests := true, laidLooks := .later }
def CertifyObjectionsSpecUptoCardSaid : Prop := Claim7.holds Tryz.pinned (.plain (OpenSpec.upto certifyObjectionsSpecSpec)) certifyObjectionsSpecUptoCard

/-- THE SECOND FORM's CARD OF 'kinespherelaw31.CertifyPartSpec'. -/
def certifyPartSpecUptoCard : Claim7 := { stood := { row := certifyPartSpecUptoRow, standIns := [], harness := (true, "57593e251adffd7189ca25ecb687f2763f394fbebdb6f59057952cb2f0c25e9a"), looks := true }, kinds := [], alts := [], laidByText := true, laidKinds := [.data, .data, .data], laidTests := true, laidLooks := .later }
def CertifyPartSpecUptoCardSaid : Prop := Claim7.holds Tryz.pinned (.plain (OpenSpec.upto certifyPartSpecSpec)) certifyPartSpecUptoCard

/-- THE SECOND FORM's CARD OF 'kinespherelaw31.CertifySafe'. -/
def certifySafeUptoCard : Claim7 := { stood := { row := certifySafeUptoRow, standIns := [], harness := (true, "57593e251adffd7189ca25ecb687f2763f394fbebdb6f59057952cb2f0c25e9a"), looks := true }, kinds := [], alts := [], laidByText := true, laidKinds := [.data, .data, .data], laidTests := true, laidLooks := .later }
def CertifySafeUptoCardSaid : Prop := Claim7.holds Tryz.pinned (.plain (OpenSpec.upto certifySafeSpec)) certifySafeUptoCard

/-- THE SECOND FORM's CARD OF 'kinespherelaw31.CertifyParts'. -/
def certifyPartsUptoCard : Claim7 := { stood := { row := certifyPartsUptoRow, standIns := [], harness := (true, "57593e251adffd7189ca25ecb687f2763f394fbebdb6f59057952cb2f0c25e9a"), looks := true }, kinds := [], alts := [], laidByText := true, laidKinds := [.data, .data, .data], laidTests := true, laidLooks := .later }
def CertifyPartsUptoCardSaid : Prop := Claim7.holds Tryz.pinned (.plain (OpenSpec.upto certifyPartsSpec)) certifyPartsUptoCard

/-- THE SECOND FORM's CARD OF 'kinespherelaw31.CertifyWagon'. -/
def certifyWagonUptoCard : Claim7 := { stood := { row := certifyWagonUptoRow, standIns := [], harness := (true, "57593e251adffd7189ca25ecb687f2763f394fbebdb6f59057952cb2f0c25e9a"), looks := true }, kinds := [], alts := [], laidByText := true, laidKinds := [.data, .data, .data], laidTests := true, laidLooks := .later }
def CertifyWagonUptoCardSaid : Prop := Claim7.holds Tryz.pinned (.plain (OpenSpec.upto certifyWagonSpec)) certifyWagonUptoCard

/-- THE SECOND FORM's CARD OF 'kinespherelaw31.CertifyMade'. -/
def certifyMadeUptoCard : Claim7 := { stood := { row := certifyMadeUptoRow, standIns := [], harness := (true, "57593e251adffd7189ca25ecb687f2763f394fbebdb6f59057952cb2f0c25e9a"), looks := true }, kinds := [], alts := [], laidByText := true, laidKinds := [.data, .data, .data], laidTests := true, laidLooks := .later }
def CertifyMadeUptoCardSaid : Prop := Claim7.holds Tryz.pinned (.plain (OpenSpec.upto certifyMadeSpec)) certifyMadeUptoCard

/-- THE SECOND FORM's CARD OF 'kinespherelaw31.CertifyStronger'. -/
def certifyStrongerUptoCard : Claim7 := { stood := { row := certifyStrongerUptoRow, standIns := [], harness := (true, "57593e251adffd7189ca25ecb687f2763f394fbebdb6f59057952cb2f0c25e9a"), looks := true }, kinds := [], alts := [], laidByText := true, laidKinds := [.data, .data, .data], laidTests := true, laidLooks := .later }
def CertifyStrongerUptoCardSaid : Prop := Claim7.holds Tryz.pinned (.plain (OpenSpec.upto certifyStrongerSpec)) certifyStrongerUptoCard
end Rows
end Go.Proofs.YtieaiocljdpebaaGreatDoor
