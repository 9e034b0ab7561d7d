/- Part 26 of the proof; the last part says what is shown. -/
import Derived.Test.YtieaiocljdpebaaGreatDoorRows
import Derived.JoinedOf
import Derived.KernelRfl
import Derived.ProofKit
set_option linter.defProp false
set_option linter.unusedVariables false
set_option linter.unusedSimpArgs false
set_option linter.unnecessarySimpa false
namespace Go.Proofs.YtieaiocljdpebaaGreatDoor.Y
open Go.RowKit
noncomputable section
section
def aB{a b:Bool}(h:a=true)(k:b=true):(a&&b)=true:=by rw[h,k];rfl
set_option maxRecDepth 100000
def jf0:(Go.Proofs.YtieaiocljdpebaaGreatDoor.Rows.certifyWagonRow.wf (OpenSpec.ofChange Go.Proofs.YtieaiocljdpebaaGreatDoor.Rows.certifyWagonSpec))=true:=by kernel_rfl
def jf1:(laidOutB Tryz.prog)=true:=by kernel_rfl
def jf2:(mapsRowed Tryz.prog)=true:=by kernel_rfl
def jf3:(Tryz.f8.params.all (Tryz.prog.readableRec ·))=true:=by kernel_rfl
def jf4:(namedTie Tryz.prog Go.Proofs.YtieaiocljdpebaaGreatDoor.Rows.certifyWagonRow.named Go.Proofs.YtieaiocljdpebaaGreatDoor.Rows.certifyWagonSpec.vars)=true:=by kernel_rfl
def jf5:(Go.Proofs.YtieaiocljdpebaaGreatDoor.Rows.certifyWagonRow.stops==[])=true:=by kernel_rfl
def jf6:(Tryz.prog.stops==[])=true:=by kernel_rfl
def jf7:(Go.Proofs.YtieaiocljdpebaaGreatDoor.Rows.certifyWagonRow.knobs==[])=true:=by kernel_rfl
def jf8:(Tryz.prog.stopKnobs==[])=true:=by kernel_rfl
def jf9:(Go.Proofs.YtieaiocljdpebaaGreatDoor.Rows.certifyWagonRow.inPlace==Tryz.prog.inPlace 8)=true:=by kernel_rfl
def avo:(Go.Proofs.YtieaiocljdpebaaGreatDoor.Rows.certifyWagonRow.unfollowed==Tryz.prog.unfollowed 8)=true:=by kernel_rfl
def avp:(Go.Proofs.YtieaiocljdpebaaGreatDoor.Rows.certifyWagonRow.recurses==Tryz.prog.recurses 8)=true:=by kernel_rfl
def avq:(Go.Proofs.YtieaiocljdpebaaGreatDoor.Rows.certifyWagonRow.named==Tryz.prog.varsNamed 8)=true:=by kernel_rfl
def avr:(Go.Proofs.YtieaiocljdpebaaGreatDoor.Rows.certifyWagonRow.maps==(Tryz.f8.params.toList++Go.Proofs.YtieaiocljdpebaaGreatDoor.Rows.certifyWagonSpec.plain.varTypes Tryz.prog).any (Tryz.prog.mapsRec ·))=true:=by kernel_rfl
def avs:(Go.Proofs.YtieaiocljdpebaaGreatDoor.Rows.certifyWagonRow.ifaces==(Tryz.f8.params.toList++Go.Proofs.YtieaiocljdpebaaGreatDoor.Rows.certifyWagonSpec.plain.varTypes Tryz.prog).any (Tryz.prog.ifacesRec ·))=true:=by kernel_rfl
def avt:(Go.Proofs.YtieaiocljdpebaaGreatDoor.Rows.certifyWagonRow.mapsOut==Tryz.prog.mapsAmong Tryz.f8.resultTypes.toList)=true:=by kernel_rfl
def avu:(Go.Proofs.YtieaiocljdpebaaGreatDoor.Rows.certifyWagonRow.loops==(Tryz.f8.params.toList++Go.Proofs.YtieaiocljdpebaaGreatDoor.Rows.certifyWagonSpec.plain.varTypes Tryz.prog).any (Tryz.prog.loopsFrom ·))=true:=by kernel_rfl
def avv:(Go.Proofs.YtieaiocljdpebaaGreatDoor.Rows.certifyWagonRow.wideKeys==(Tryz.f8.params.toList++Go.Proofs.YtieaiocljdpebaaGreatDoor.Rows.certifyWagonSpec.plain.varTypes Tryz.prog++Tryz.f8.resultTypes.toList).any (Tryz.prog.wideKeysFrom ·))=true:=by kernel_rfl
def avw:(Go.Proofs.YtieaiocljdpebaaGreatDoor.Rows.certifyWagonSpec.vars.all (Tryz.prog.varReadable ·))=true:=by kernel_rfl
def avx:(Tryz.f8.resultTypes.all (λt=>Tryz.prog.readableRec t&&decide (t<Tryz.prog.types.size)))=true:=by kernel_rfl
def avy:(Go.Proofs.YtieaiocljdpebaaGreatDoor.Rows.certifyWagonRow.ifacesOut==Tryz.f8.resultTypes.toList.any (Tryz.prog.ifacesRec ·))=true:=by kernel_rfl
def avz:(Go.Proofs.YtieaiocljdpebaaGreatDoor.Rows.certifyWagonRow.loopsOut==Tryz.f8.resultTypes.toList.any (Tryz.prog.loopsFrom ·))=true:=by kernel_rfl
def avA:(Go.Proofs.YtieaiocljdpebaaGreatDoor.Rows.certifyWagonRow.plainKeys==Tryz.prog.plainKeys)=true:=by kernel_rfl
def avB:(Go.Proofs.YtieaiocljdpebaaGreatDoor.Rows.certifyWagonRow.shortTexts.isNone)=true:=by kernel_rfl
def avC:(Tryz.prog.stopsHeard)=true:=by kernel_rfl
def avD:(Tryz.prog.mayEnter)=true:=by kernel_rfl
def avE:(Go.Proofs.YtieaiocljdpebaaGreatDoor.Rows.certifyWagonRow.lifted==Tryz.prog.liftsFinal)=true:=by kernel_rfl
def avF:(Tryz.prog.make==some Go.Proofs.YtieaiocljdpebaaGreatDoor.Rows.certifyWagonRow.make)=true:=by kernel_rfl
def avG:(Go.Proofs.YtieaiocljdpebaaGreatDoor.Rows.certifyWagonRow.kinds==(if Go.Proofs.YtieaiocljdpebaaGreatDoor.Rows.certifyWagonRow.domain.isEmpty then[] else Tryz.f8.params.toList.map λt=>match Tryz.prog.underlying t with|some (.int k)=>some k|_=>none))=true:=by kernel_rfl
def avH:(Go.Proofs.YtieaiocljdpebaaGreatDoor.Rows.certifyWagonRow.pinned==Go.Proofs.YtieaiocljdpebaaGreatDoor.Rows.certifyWagonRow.pinnedBy)=true:=by kernel_rfl
def avI:(Go.Proofs.YtieaiocljdpebaaGreatDoor.Rows.certifyWagonRow.veiled==(Tryz.f8.params.toList++Go.Proofs.YtieaiocljdpebaaGreatDoor.Rows.certifyWagonSpec.plain.varTypes Tryz.prog++Tryz.f8.resultTypes.toList).any (Tryz.prog.veiledRec ·))=true:=by kernel_rfl
def avJ:(Go.Proofs.YtieaiocljdpebaaGreatDoor.Rows.certifyWagonRow.veiledFits Tryz.prog Tryz.f8.params.toList (Tryz.f8.params.toList++Go.Proofs.YtieaiocljdpebaaGreatDoor.Rows.certifyWagonSpec.plain.varTypes Tryz.prog++Tryz.f8.resultTypes.toList))=true:=by kernel_rfl
def avK:joinedFacts Tryz.pinned.checked.prog 8 Tryz.f8 Go.Proofs.YtieaiocljdpebaaGreatDoor.Rows.certifyWagonSpec Go.Proofs.YtieaiocljdpebaaGreatDoor.Rows.certifyWagonRow=true:=(aB (aB (aB (aB (aB (aB (aB (aB (aB (aB (aB (aB (aB (aB (aB (aB (aB (aB (aB (aB (aB (aB (aB (aB (aB (aB (aB (aB (aB (aB (aB jf0 jf1) jf2) jf3) jf4) jf5) jf6) jf7) jf8) jf9) avo) avp) avq) avr) avs) avt) avu) avv) avw) avx) avy) avz) avA) avB) avC) avD) avE) avF) avG) avH) avI) avJ)
end
end
end Go.Proofs.YtieaiocljdpebaaGreatDoor.Y
