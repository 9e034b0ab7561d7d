/- Part 26 of the proof; the last part says what is shown. -/
import Derived.Test.YtieaiocljdpebaaGreatDoorRows
import Derived.JoinedOf
import Derived.KernelRfl
import Derived.ProofKit
set_option linter.all false
namespace Go.Proofs.YtieaiocljdpebaaGreatDoor.Y
open Go.RowKit
noncomputable section
section
def aB{a b:Bool}(h:a=true)(k:b=true):(a&&b)=true:=by rw[h,k];rfl
set_option maxRecDepth 100000
def jf0:(Go.Proofs.YtieaiocljdpebaaGreatDoor.Rows.certifyStrongerRow.wf (OpenSpec.ofChange Go.Proofs.YtieaiocljdpebaaGreatDoor.Rows.certifyStrongerSpec))=true:=by kernel_rfl
def jf1:(laidOutB Tryz.prog)=true:=by kernel_rfl
def jf2:(mapsRowed Tryz.prog)=true:=by kernel_rfl
def jf3:(Tryz.f10.params.all (Tryz.prog.readableRec ·))=true:=by kernel_rfl
def jf4:(namedTie Tryz.prog Go.Proofs.YtieaiocljdpebaaGreatDoor.Rows.certifyStrongerRow.named Go.Proofs.YtieaiocljdpebaaGreatDoor.Rows.certifyStrongerSpec.vars)=true:=by kernel_rfl
def jf5:(Go.Proofs.YtieaiocljdpebaaGreatDoor.Rows.certifyStrongerRow.stops==[])=true:=by kernel_rfl
def jf6:(Tryz.prog.stops==[])=true:=by kernel_rfl
def jf7:(Go.Proofs.YtieaiocljdpebaaGreatDoor.Rows.certifyStrongerRow.knobs==[])=true:=by kernel_rfl
def jf8:(Tryz.prog.stopKnobs==[])=true:=by kernel_rfl
def jf9:(Go.Proofs.YtieaiocljdpebaaGreatDoor.Rows.certifyStrongerRow.inPlace==Tryz.prog.inPlace 10)=true:=by kernel_rfl
def awq:(Go.Proofs.YtieaiocljdpebaaGreatDoor.Rows.certifyStrongerRow.unfollowed==Tryz.prog.unfollowed 10)=true:=by kernel_rfl
def awr:(Go.Proofs.YtieaiocljdpebaaGreatDoor.Rows.certifyStrongerRow.recurses==Tryz.prog.recurses 10)=true:=by kernel_rfl
def aws:(Go.Proofs.YtieaiocljdpebaaGreatDoor.Rows.certifyStrongerRow.named==Tryz.prog.varsNamed 10)=true:=by kernel_rfl
def awt:(Go.Proofs.YtieaiocljdpebaaGreatDoor.Rows.certifyStrongerRow.maps==(Tryz.f10.params.toList++Go.Proofs.YtieaiocljdpebaaGreatDoor.Rows.certifyStrongerSpec.plain.varTypes Tryz.prog).any (Tryz.prog.mapsRec ·))=true:=by kernel_rfl
def awu:(Go.Proofs.YtieaiocljdpebaaGreatDoor.Rows.certifyStrongerRow.ifaces==(Tryz.f10.params.toList++Go.Proofs.YtieaiocljdpebaaGreatDoor.Rows.certifyStrongerSpec.plain.varTypes Tryz.prog).any (Tryz.prog.ifacesRec ·))=true:=by kernel_rfl
def awv:(Go.Proofs.YtieaiocljdpebaaGreatDoor.Rows.certifyStrongerRow.mapsOut==Tryz.prog.mapsAmong Tryz.f10.resultTypes.toList)=true:=by kernel_rfl
def aww:(Go.Proofs.YtieaiocljdpebaaGreatDoor.Rows.certifyStrongerRow.loops==(Tryz.f10.params.toList++Go.Proofs.YtieaiocljdpebaaGreatDoor.Rows.certifyStrongerSpec.plain.varTypes Tryz.prog).any (Tryz.prog.loopsFrom ·))=true:=by kernel_rfl
def awx:(Go.Proofs.YtieaiocljdpebaaGreatDoor.Rows.certifyStrongerRow.wideKeys==(Tryz.f10.params.toList++Go.Proofs.YtieaiocljdpebaaGreatDoor.Rows.certifyStrongerSpec.plain.varTypes Tryz.prog++Tryz.f10.resultTypes.toList).any (Tryz.prog.wideKeysFrom ·))=true:=by kernel_rfl
def awy:(Go.Proofs.YtieaiocljdpebaaGreatDoor.Rows.certifyStrongerSpec.vars.all (Tryz.prog.varReadable ·))=true:=by kernel_rfl
def awz:(Tryz.f10.resultTypes.all (λt=>Tryz.prog.readableRec t&&decide (t<Tryz.prog.types.size)))=true:=by kernel_rfl
def awA:(Go.Proofs.YtieaiocljdpebaaGreatDoor.Rows.certifyStrongerRow.ifacesOut==Tryz.f10.resultTypes.toList.any (Tryz.prog.ifacesRec ·))=true:=by kernel_rfl
def awB:(Go.Proofs.YtieaiocljdpebaaGreatDoor.Rows.certifyStrongerRow.loopsOut==Tryz.f10.resultTypes.toList.any (Tryz.prog.loopsFrom ·))=true:=by kernel_rfl
def awC:(Go.Proofs.YtieaiocljdpebaaGreatDoor.Rows.certifyStrongerRow.plainKeys==Tryz.prog.plainKeys)=true:=by kernel_rfl
def awD:(Go.Proofs.YtieaiocljdpebaaGreatDoor.Rows.certifyStrongerRow.shortTexts.isNone)=true:=by kernel_rfl
def awE:(Tryz.prog.stopsHeard)=true:=by kernel_rfl
def awF:(Tryz.prog.mayEnter)=true:=by kernel_rfl
def awG:(Go.Proofs.YtieaiocljdpebaaGreatDoor.Rows.certifyStrongerRow.lifted==Tryz.prog.liftsFinal)=true:=by kernel_rfl
def awH:(Tryz.prog.make==some Go.Proofs.YtieaiocljdpebaaGreatDoor.Rows.certifyStrongerRow.make)=true:=by kernel_rfl
def awI:(Go.Proofs.YtieaiocljdpebaaGreatDoor.Rows.certifyStrongerRow.kinds==(if Go.Proofs.YtieaiocljdpebaaGreatDoor.Rows.certifyStrongerRow.domain.isEmpty then[] else Tryz.f10.params.toList.map λt=>match Tryz.prog.underlying t with|some (.int k)=>some k|_=>none))=true:=by kernel_rfl
def awJ:(Go.Proofs.YtieaiocljdpebaaGreatDoor.Rows.certifyStrongerRow.pinned==Go.Proofs.YtieaiocljdpebaaGreatDoor.Rows.certifyStrongerRow.pinnedBy)=true:=by kernel_rfl
def awK:(Go.Proofs.YtieaiocljdpebaaGreatDoor.Rows.certifyStrongerRow.veiled==(Tryz.f10.params.toList++Go.Proofs.YtieaiocljdpebaaGreatDoor.Rows.certifyStrongerSpec.plain.varTypes Tryz.prog++Tryz.f10.resultTypes.toList).any (Tryz.prog.veiledRec ·))=true:=by kernel_rfl
def awL:(Go.Proofs.YtieaiocljdpebaaGreatDoor.Rows.certifyStrongerRow.veiledFits Tryz.prog Tryz.f10.params.toList (Tryz.f10.params.toList++Go.Proofs.YtieaiocljdpebaaGreatDoor.Rows.certifyStrongerSpec.plain.varTypes Tryz.prog++Tryz.f10.resultTypes.toList))=true:=by kernel_rfl
def awM:joinedFacts Tryz.pinned.checked.prog 10 Tryz.f10 Go.Proofs.YtieaiocljdpebaaGreatDoor.Rows.certifyStrongerSpec Go.Proofs.YtieaiocljdpebaaGreatDoor.Rows.certifyStrongerRow=true:=(aB (aB (aB (aB (aB (aB (aB (aB (aB (aB (aB (aB (aB (aB (aB (aB (aB (aB (aB (aB (aB (aB (aB (aB (aB (aB (aB (aB (aB (aB (aB jf0 jf1) jf2) jf3) jf4) jf5) jf6) jf7) jf8) jf9) awq) awr) aws) awt) awu) awv) aww) awx) awy) awz) awA) awB) awC) awD) awE) awF) awG) awH) awI) awJ) awK) awL)
end
end
end Go.Proofs.YtieaiocljdpebaaGreatDoor.Y
