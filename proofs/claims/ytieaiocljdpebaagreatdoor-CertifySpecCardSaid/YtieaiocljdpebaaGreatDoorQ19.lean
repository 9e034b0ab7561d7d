/- Part 19 of the proof. -/
import Derived.Test.YtieaiocljdpebaaGreatDoorQ3
import Derived.Test.YtieaiocljdpebaaGreatDoorRows
import Derived.JoinedOf
import Derived.KernelRfl
import Derived.ProofKit
set_option linter.all false
open Bool renaming true->J
open Option renaming some->U,none->Z
namespace Go.Proofs.YtieaiocljdpebaaGreatDoor.Y
open Go.RowKit
noncomputable section
section
def aB{a b:Bool}(h:a=J)(k:b=J):(a&&b)=true:=by rw[h,k];rfl
set_option maxRecDepth 100000
def jf0:(Go.Proofs.YtieaiocljdpebaaGreatDoor.Rows.certifySpecRow.wf (OpenSpec.ofChange Go.Proofs.YtieaiocljdpebaaGreatDoor.Rows.certifySpecSpec))=true:=by kernel_rfl
def jf1:(laidOutB Tryz.prog)=true:=by kernel_rfl
def jf2:(mapsRowed Tryz.prog)=true:=by kernel_rfl
def jf3:(Tryz.f3.params.all (Tryz.prog.readableRec ·))=true:=by kernel_rfl
def jf4:(namedTie Tryz.prog Go.Proofs.YtieaiocljdpebaaGreatDoor.Rows.certifySpecRow.named Go.Proofs.YtieaiocljdpebaaGreatDoor.Rows.certifySpecSpec.vars)=true:=by kernel_rfl
def jf5:(Go.Proofs.YtieaiocljdpebaaGreatDoor.Rows.certifySpecRow.stops==[])=true:=by kernel_rfl
def jf6:(Tryz.prog.stops==[])=true:=by kernel_rfl
def jf7:(Go.Proofs.YtieaiocljdpebaaGreatDoor.Rows.certifySpecRow.knobs==[])=true:=by kernel_rfl
def jf8:(Tryz.prog.stopKnobs==[])=true:=by kernel_rfl
def jf9:(Go.Proofs.YtieaiocljdpebaaGreatDoor.Rows.certifySpecRow.inPlace==Tryz.prog.inPlace 3)=true:=by kernel_rfl
def aG2:(Go.Proofs.YtieaiocljdpebaaGreatDoor.Rows.certifySpecRow.unfollowed==Tryz.prog.unfollowed 3)=true:=by kernel_rfl
def aG3:(Go.Proofs.YtieaiocljdpebaaGreatDoor.Rows.certifySpecRow.recurses==Tryz.prog.recurses 3)=true:=by kernel_rfl
def aG4:(Go.Proofs.YtieaiocljdpebaaGreatDoor.Rows.certifySpecRow.named==Tryz.prog.varsNamed 3)=true:=by kernel_rfl
def aG5:(Go.Proofs.YtieaiocljdpebaaGreatDoor.Rows.certifySpecRow.maps==(Tryz.f3.params.toList++Go.Proofs.YtieaiocljdpebaaGreatDoor.Rows.certifySpecSpec.plain.varTypes Tryz.prog).any (Tryz.prog.mapsRec ·))=true:=by kernel_rfl
def aG6:(Go.Proofs.YtieaiocljdpebaaGreatDoor.Rows.certifySpecRow.ifaces==(Tryz.f3.params.toList++Go.Proofs.YtieaiocljdpebaaGreatDoor.Rows.certifySpecSpec.plain.varTypes Tryz.prog).any (Tryz.prog.ifacesRec ·))=true:=by kernel_rfl
def aG7:(Go.Proofs.YtieaiocljdpebaaGreatDoor.Rows.certifySpecRow.mapsOut==Tryz.prog.mapsAmong Tryz.f3.resultTypes.toList)=true:=by kernel_rfl
def aG8:(Go.Proofs.YtieaiocljdpebaaGreatDoor.Rows.certifySpecRow.loops==(Tryz.f3.params.toList++Go.Proofs.YtieaiocljdpebaaGreatDoor.Rows.certifySpecSpec.plain.varTypes Tryz.prog).any (Tryz.prog.loopsFrom ·))=true:=by kernel_rfl
def aG9:(Go.Proofs.YtieaiocljdpebaaGreatDoor.Rows.certifySpecRow.wideKeys==(Tryz.f3.params.toList++Go.Proofs.YtieaiocljdpebaaGreatDoor.Rows.certifySpecSpec.plain.varTypes Tryz.prog++Tryz.f3.resultTypes.toList).any (Tryz.prog.wideKeysFrom ·))=true:=by kernel_rfl
def aHa:(Go.Proofs.YtieaiocljdpebaaGreatDoor.Rows.certifySpecSpec.vars.all (Tryz.prog.varReadable ·))=true:=by kernel_rfl
def aHb:(Tryz.f3.resultTypes.all (λt=>Tryz.prog.readableRec t&&decide (t<Tryz.prog.types.size)))=true:=by kernel_rfl
def aHc:(Go.Proofs.YtieaiocljdpebaaGreatDoor.Rows.certifySpecRow.ifacesOut==Tryz.f3.resultTypes.toList.any (Tryz.prog.ifacesRec ·))=true:=by kernel_rfl
def aHd:(Go.Proofs.YtieaiocljdpebaaGreatDoor.Rows.certifySpecRow.loopsOut==Tryz.f3.resultTypes.toList.any (Tryz.prog.loopsFrom ·))=true:=by kernel_rfl
def aHe:(Go.Proofs.YtieaiocljdpebaaGreatDoor.Rows.certifySpecRow.plainKeys==Tryz.prog.plainKeys)=true:=by kernel_rfl
def aHf:(Go.Proofs.YtieaiocljdpebaaGreatDoor.Rows.certifySpecRow.shortTexts.isNone)=true:=by kernel_rfl
def aHg:(Tryz.prog.stopsHeard)=true:=by kernel_rfl
def aHh:(Tryz.prog.mayEnter)=true:=by kernel_rfl
def aHi:(Go.Proofs.YtieaiocljdpebaaGreatDoor.Rows.certifySpecRow.lifted==Tryz.prog.liftsFinal)=true:=by kernel_rfl
def aHj:(Tryz.prog.make==U Go.Proofs.YtieaiocljdpebaaGreatDoor.Rows.certifySpecRow.make)=true:=by kernel_rfl
def aHk:(Go.Proofs.YtieaiocljdpebaaGreatDoor.Rows.certifySpecRow.kinds==(if Go.Proofs.YtieaiocljdpebaaGreatDoor.Rows.certifySpecRow.domain.isEmpty then[] else Tryz.f3.params.toList.map λt=>match Tryz.prog.underlying t with|U (.int k)=>U k|_=>Z))=true:=by kernel_rfl
def aHl:(Go.Proofs.YtieaiocljdpebaaGreatDoor.Rows.certifySpecRow.pinned==Go.Proofs.YtieaiocljdpebaaGreatDoor.Rows.certifySpecRow.pinnedBy)=true:=by kernel_rfl
def aHm:(Go.Proofs.YtieaiocljdpebaaGreatDoor.Rows.certifySpecRow.veiled==(Tryz.f3.params.toList++Go.Proofs.YtieaiocljdpebaaGreatDoor.Rows.certifySpecSpec.plain.varTypes Tryz.prog++Tryz.f3.resultTypes.toList).any (Tryz.prog.veiledRec ·))=true:=by kernel_rfl
def aHn:(Go.Proofs.YtieaiocljdpebaaGreatDoor.Rows.certifySpecRow.veiledFits Tryz.prog Tryz.f3.params.toList (Tryz.f3.params.toList++Go.Proofs.YtieaiocljdpebaaGreatDoor.Rows.certifySpecSpec.plain.varTypes Tryz.prog++Tryz.f3.resultTypes.toList))=true:=by kernel_rfl
def aHo:joinedFacts Tryz.pinned.checked.prog 3 Tryz.f3 Go.Proofs.YtieaiocljdpebaaGreatDoor.Rows.certifySpecSpec Go.Proofs.YtieaiocljdpebaaGreatDoor.Rows.certifySpecRow=true:=(aB (aB (aB (aB (aB (aB (aB (aB (aB (aB (aB (aB (aB (aB (aB (aB (aB (aB (aB (aB (aB (aB (aB (aB (aB (aB (aB (aB (aB (aB (aB jf0 jf1) jf2) jf3) jf4) jf5) jf6) jf7) jf8) jf9) aG2) aG3) aG4) aG5) aG6) aG7) aG8) aG9) aHa) aHb) aHc) aHd) aHe) aHf) aHg) aHh) aHi) aHj) aHk) aHl) aHm) aHn)
end
