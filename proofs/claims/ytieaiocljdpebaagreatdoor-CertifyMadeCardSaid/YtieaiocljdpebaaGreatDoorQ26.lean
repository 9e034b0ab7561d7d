/- Part 26 of the proof; the last part says what is shown. -/
import Derived.Test.YtieaiocljdpebaaGreatDoorRows
import Derived.JoinedOf
import Derived.KernelRfl
import Derived.ProofKit
set_option linter.all false
namespace Go.Proofs.YtieaiocljdpebaaGreatDoor.Y
open Go.RowKit
noncomputable section
section
def aB{a b:Bool}(h:a=true)(k:b=true):(a&&b)=true:=by rw[h,k];rfl
set_option maxRecDepth 100000
def jf0:(Go.Proofs.YtieaiocljdpebaaGreatDoor.Rows.certifyMadeRow.wf (OpenSpec.ofChange Go.Proofs.YtieaiocljdpebaaGreatDoor.Rows.certifyMadeSpec))=true:=by kernel_rfl
def jf1:(laidOutB Tryz.prog)=true:=by kernel_rfl
def jf2:(mapsRowed Tryz.prog)=true:=by kernel_rfl
def jf3:(Tryz.f9.params.all (Tryz.prog.readableRec ·))=true:=by kernel_rfl
def jf4:(namedTie Tryz.prog Go.Proofs.YtieaiocljdpebaaGreatDoor.Rows.certifyMadeRow.named Go.Proofs.YtieaiocljdpebaaGreatDoor.Rows.certifyMadeSpec.vars)=true:=by kernel_rfl
def jf5:(Go.Proofs.YtieaiocljdpebaaGreatDoor.Rows.certifyMadeRow.stops==[])=true:=by kernel_rfl
def jf6:(Tryz.prog.stops==[])=true:=by kernel_rfl
def jf7:(Go.Proofs.YtieaiocljdpebaaGreatDoor.Rows.certifyMadeRow.knobs==[])=true:=by kernel_rfl
def jf8:(Tryz.prog.stopKnobs==[])=true:=by kernel_rfl
def jf9:(Go.Proofs.YtieaiocljdpebaaGreatDoor.Rows.certifyMadeRow.inPlace==Tryz.prog.inPlace 9)=true:=by kernel_rfl
def awq:(Go.Proofs.YtieaiocljdpebaaGreatDoor.Rows.certifyMadeRow.unfollowed==Tryz.prog.unfollowed 9)=true:=by kernel_rfl
def awr:(Go.Proofs.YtieaiocljdpebaaGreatDoor.Rows.certifyMadeRow.recurses==Tryz.prog.recurses 9)=true:=by kernel_rfl
def aws:(Go.Proofs.YtieaiocljdpebaaGreatDoor.Rows.certifyMadeRow.named==Tryz.prog.varsNamed 9)=true:=by kernel_rfl
def awt:(Go.Proofs.YtieaiocljdpebaaGreatDoor.Rows.certifyMadeRow.maps==(Tryz.f9.params.toList++Go.Proofs.YtieaiocljdpebaaGreatDoor.Rows.certifyMadeSpec.plain.varTypes Tryz.prog).any (Tryz.prog.mapsRec ·))=true:=by kernel_rfl
def awu:(Go.Proofs.YtieaiocljdpebaaGreatDoor.Rows.certifyMadeRow.ifaces==(Tryz.f9.params.toList++Go.Proofs.YtieaiocljdpebaaGreatDoor.Rows.certifyMadeSpec.plain.varTypes Tryz.prog).any (Tryz.prog.ifacesRec ·))=true:=by kernel_rfl
def awv:(Go.Proofs.YtieaiocljdpebaaGreatDoor.Rows.certifyMadeRow.mapsOut==Tryz.prog.mapsAmong Tryz.f9.resultTypes.toList)=true:=by kernel_rfl
def aww:(Go.Proofs.YtieaiocljdpebaaGreatDoor.Rows.certifyMadeRow.loops==(Tryz.f9.params.toList++Go.Proofs.YtieaiocljdpebaaGreatDoor.Rows.certifyMadeSpec.plain.varTypes Tryz.prog).any (Tryz.prog.loopsFrom ·))=true:=by kernel_rfl
def awx:(Go.Proofs.YtieaiocljdpebaaGreatDoor.Rows.certifyMadeRow.wideKeys==(Tryz.f9.params.toList++Go.Proofs.YtieaiocljdpebaaGreatDoor.Rows.certifyMadeSpec.plain.varTypes Tryz.prog++Tryz.f9.resultTypes.toList).any (Tryz.prog.wideKeysFrom ·))=true:=by kernel_rfl
def awy:(Go.Proofs.YtieaiocljdpebaaGreatDoor.Rows.certifyMadeSpec.vars.all (Tryz.prog.varReadable ·))=true:=by kernel_rfl
def awz:(Tryz.f9.resultTypes.all (λt=>Tryz.prog.readableRec t&&decide (t<Tryz.prog.types.size)))=true:=by kernel_rfl
def awA:(Go.Proofs.YtieaiocljdpebaaGreatDoor.Rows.certifyMadeRow.ifacesOut==Tryz.f9.resultTypes.toList.any (Tryz.prog.ifacesRec ·))=true:=by kernel_rfl
def awB:(Go.Proofs.YtieaiocljdpebaaGreatDoor.Rows.certifyMadeRow.loopsOut==Tryz.f9.resultTypes.toList.any (Tryz.prog.loopsFrom ·))=true:=by kernel_rfl
def awC:(Go.Proofs.YtieaiocljdpebaaGreatDoor.Rows.certifyMadeRow.plainKeys==Tryz.prog.plainKeys)=true:=by kernel_rfl
def awD:(Go.Proofs.YtieaiocljdpebaaGreatDoor.Rows.certifyMadeRow.shortTexts.isNone)=true:=by kernel_rfl
def awE:(Tryz.prog.stopsHeard)=true:=by kernel_rfl
def awF:(Tryz.prog.mayEnter)=true:=by kernel_rfl
def awG:(Go.Proofs.YtieaiocljdpebaaGreatDoor.Rows.certifyMadeRow.lifted==Tryz.prog.liftsFinal)=true:=by kernel_rfl
def awH:(Tryz.prog.make==some Go.Proofs.YtieaiocljdpebaaGreatDoor.Rows.certifyMadeRow.make)=true:=by kernel_rfl
def awI:(Go.Proofs.YtieaiocljdpebaaGreatDoor.Rows.certifyMadeRow.kinds==(if Go.Proofs.YtieaiocljdpebaaGreatDoor.Rows.certifyMadeRow.domain.isEmpty then[] else Tryz.f9.params.toList.map λt=>match Tryz.prog.underlying t with|some (.int k)=>some k|_=>none))=true:=by kernel_rfl
def awJ:(Go.Proofs.YtieaiocljdpebaaGreatDoor.Rows.certifyMadeRow.pinned==Go.Proofs.YtieaiocljdpebaaGreatDoor.Rows.certifyMadeRow.pinnedBy)=true:=by kernel_rfl
def awK:(Go.Proofs.YtieaiocljdpebaaGreatDoor.Rows.certifyMadeRow.veiled==(Tryz.f9.params.toList++Go.Proofs.YtieaiocljdpebaaGreatDoor.Rows.certifyMadeSpec.plain.varTypes Tryz.prog++Tryz.f9.resultTypes.toList).any (Tryz.prog.veiledRec ·))=true:=by kernel_rfl
def awL:(Go.Proofs.YtieaiocljdpebaaGreatDoor.Rows.certifyMadeRow.veiledFits Tryz.prog Tryz.f9.params.toList (Tryz.f9.params.toList++Go.Proofs.YtieaiocljdpebaaGreatDoor.Rows.certifyMadeSpec.plain.varTypes Tryz.prog++Tryz.f9.resultTypes.toList))=true:=by kernel_rfl
def awM:joinedFacts Tryz.pinned.checked.prog 9 Tryz.f9 Go.Proofs.YtieaiocljdpebaaGreatDoor.Rows.certifyMadeSpec Go.Proofs.YtieaiocljdpebaaGreatDoor.Rows.certifyMadeRow=true:=(aB (aB (aB (aB (aB (aB (aB (aB (aB (aB (aB (aB (aB (aB (aB (aB (aB (aB (aB (aB (aB (aB (aB (aB (aB (aB (aB (aB (aB (aB (aB jf0 jf1) jf2) jf3) jf4) jf5) jf6) jf7) jf8) jf9) awq) awr) aws) awt) awu) awv) aww) awx) awy) awz) awA) awB) awC) awD) awE) awF) awG) awH) awI) awJ) awK) awL)
end
end
end Go.Proofs.YtieaiocljdpebaaGreatDoor.Y
