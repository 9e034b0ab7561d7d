/- Part 16 of the proof. -/
import Derived.Test.YtieaiocljdpebaaGreatDoorQ6
import Derived.Test.YtieaiocljdpebaaGreatDoorRows
import Derived.JoinedOf
import Derived.ProofKit
set_option linter.all false
open Bool renaming true->J
open Option renaming some->U,none->Z
namespace Go.Proofs.YtieaiocljdpebaaGreatDoor.Y
open Go.RowKit
noncomputable section
section
def aB{a b:Bool}(h:a=J)(k:b=J):(a&&b)=true:=by rw[h,k];rfl
set_option maxRecDepth 100000
def jf0:(Go.Proofs.YtieaiocljdpebaaGreatDoor.Rows.certifySafeRow.wf (OpenSpec.ofChange Go.Proofs.YtieaiocljdpebaaGreatDoor.Rows.certifySafeSpec))=true:=by kernel_rfl
def jf1:(laidOutB Tryz.prog)=true:=by kernel_rfl
def jf2:(mapsRowed Tryz.prog)=true:=by kernel_rfl
def jf3:(Tryz.f6.params.all (Tryz.prog.readableRec ·))=true:=by kernel_rfl
def jf4:(namedTie Tryz.prog Go.Proofs.YtieaiocljdpebaaGreatDoor.Rows.certifySafeRow.named Go.Proofs.YtieaiocljdpebaaGreatDoor.Rows.certifySafeSpec.vars)=true:=by kernel_rfl
def jf5:(Go.Proofs.YtieaiocljdpebaaGreatDoor.Rows.certifySafeRow.stops==[])=true:=by kernel_rfl
def jf6:(Tryz.prog.stops==[])=true:=by kernel_rfl
def jf7:(Go.Proofs.YtieaiocljdpebaaGreatDoor.Rows.certifySafeRow.knobs==[])=true:=by kernel_rfl
def jf8:(Tryz.prog.stopKnobs==[])=true:=by kernel_rfl
def jf9:(Go.Proofs.YtieaiocljdpebaaGreatDoor.Rows.certifySafeRow.inPlace==Tryz.prog.inPlace 6)=true:=by kernel_rfl
def aBU:(Go.Proofs.YtieaiocljdpebaaGreatDoor.Rows.certifySafeRow.unfollowed==Tryz.prog.unfollowed 6)=true:=by kernel_rfl
def aBV:(Go.Proofs.YtieaiocljdpebaaGreatDoor.Rows.certifySafeRow.recurses==Tryz.prog.recurses 6)=true:=by kernel_rfl
def aBW:(Go.Proofs.YtieaiocljdpebaaGreatDoor.Rows.certifySafeRow.named==Tryz.prog.varsNamed 6)=true:=by kernel_rfl
def aBX:(Go.Proofs.YtieaiocljdpebaaGreatDoor.Rows.certifySafeRow.maps==(Tryz.f6.params.toList++Go.Proofs.YtieaiocljdpebaaGreatDoor.Rows.certifySafeSpec.plain.varTypes Tryz.prog).any (Tryz.prog.mapsRec ·))=true:=by kernel_rfl
def aBY:(Go.Proofs.YtieaiocljdpebaaGreatDoor.Rows.certifySafeRow.ifaces==(Tryz.f6.params.toList++Go.Proofs.YtieaiocljdpebaaGreatDoor.Rows.certifySafeSpec.plain.varTypes Tryz.prog).any (Tryz.prog.ifacesRec ·))=true:=by kernel_rfl
def aBZ:(Go.Proofs.YtieaiocljdpebaaGreatDoor.Rows.certifySafeRow.mapsOut==Tryz.prog.mapsAmong Tryz.f6.resultTypes.toList)=true:=by kernel_rfl
def aB0:(Go.Proofs.YtieaiocljdpebaaGreatDoor.Rows.certifySafeRow.loops==(Tryz.f6.params.toList++Go.Proofs.YtieaiocljdpebaaGreatDoor.Rows.certifySafeSpec.plain.varTypes Tryz.prog).any (Tryz.prog.loopsFrom ·))=true:=by kernel_rfl
def aB1:(Go.Proofs.YtieaiocljdpebaaGreatDoor.Rows.certifySafeRow.wideKeys==(Tryz.f6.params.toList++Go.Proofs.YtieaiocljdpebaaGreatDoor.Rows.certifySafeSpec.plain.varTypes Tryz.prog++Tryz.f6.resultTypes.toList).any (Tryz.prog.wideKeysFrom ·))=true:=by kernel_rfl
def aB2:(Go.Proofs.YtieaiocljdpebaaGreatDoor.Rows.certifySafeSpec.vars.all (Tryz.prog.varReadable ·))=true:=by kernel_rfl
def aB3:(Tryz.f6.resultTypes.all (λt=>Tryz.prog.readableRec t&&decide (t<Tryz.prog.types.size)))=true:=by kernel_rfl
def aB4:(Go.Proofs.YtieaiocljdpebaaGreatDoor.Rows.certifySafeRow.ifacesOut==Tryz.f6.resultTypes.toList.any (Tryz.prog.ifacesRec ·))=true:=by kernel_rfl
def aB5:(Go.Proofs.YtieaiocljdpebaaGreatDoor.Rows.certifySafeRow.loopsOut==Tryz.f6.resultTypes.toList.any (Tryz.prog.loopsFrom ·))=true:=by kernel_rfl
def aB6:(Go.Proofs.YtieaiocljdpebaaGreatDoor.Rows.certifySafeRow.plainKeys==Tryz.prog.plainKeys)=true:=by kernel_rfl
def aB7:(Go.Proofs.YtieaiocljdpebaaGreatDoor.Rows.certifySafeRow.shortTexts.isNone)=true:=by kernel_rfl
def aB8:(Tryz.prog.stopsHeard)=true:=by kernel_rfl
def aB9:(Tryz.prog.mayEnter)=true:=by kernel_rfl
def aCa:(Go.Proofs.YtieaiocljdpebaaGreatDoor.Rows.certifySafeRow.lifted==Tryz.prog.liftsFinal)=true:=by kernel_rfl
def aCb:(Tryz.prog.make==U Go.Proofs.YtieaiocljdpebaaGreatDoor.Rows.certifySafeRow.make)=true:=by kernel_rfl
def aCc:(Go.Proofs.YtieaiocljdpebaaGreatDoor.Rows.certifySafeRow.kinds==(if Go.Proofs.YtieaiocljdpebaaGreatDoor.Rows.certifySafeRow.domain.isEmpty then[] else Tryz.f6.params.toList.map λt=>match Tryz.prog.underlying t with|U (.int k)=>U k|_=>Z))=true:=by kernel_rfl
def aCd:(Go.Proofs.YtieaiocljdpebaaGreatDoor.Rows.certifySafeRow.pinned==Go.Proofs.YtieaiocljdpebaaGreatDoor.Rows.certifySafeRow.pinnedBy)=true:=by kernel_rfl
def aCe:(Go.Proofs.YtieaiocljdpebaaGreatDoor.Rows.certifySafeRow.veiled==(Tryz.f6.params.toList++Go.Proofs.YtieaiocljdpebaaGreatDoor.Rows.certifySafeSpec.plain.varTypes Tryz.prog++Tryz.f6.resultTypes.toList).any (Tryz.prog.veiledRec ·))=true:=by kernel_rfl
def aCf:(Go.Proofs.YtieaiocljdpebaaGreatDoor.Rows.certifySafeRow.veiledFits Tryz.prog Tryz.f6.params.toList (Tryz.f6.params.toList++Go.Proofs.YtieaiocljdpebaaGreatDoor.Rows.certifySafeSpec.plain.varTypes Tryz.prog++Tryz.f6.resultTypes.toList))=true:=by kernel_rfl
def aCg:joinedFacts Tryz.pinned.checked.prog 6 Tryz.f6 Go.Proofs.YtieaiocljdpebaaGreatDoor.Rows.certifySafeSpec Go.Proofs.YtieaiocljdpebaaGreatDoor.Rows.certifySafeRow=true:=(aB (aB (aB (aB (aB (aB (aB (aB (aB (aB (aB (aB (aB (aB (aB (aB (aB (aB (aB (aB (aB (aB (aB (aB (aB (aB (aB (aB (aB (aB (aB jf0 jf1) jf2) jf3) jf4) jf5) jf6) jf7) jf8) jf9) aBU) aBV) aBW) aBX) aBY) aBZ) aB0) aB1) aB2) aB3) aB4) aB5) aB6) aB7) aB8) aB9) aCa) aCb) aCc) aCd) aCe) aCf)
end
