/- Part 27 of the proof; the last part says what is shown. -/
import Derived.Test.YtieaiocljdpebaaGreatDoorRows
import Derived.JoinedOf
import Derived.KernelRfl
import Derived.ProofKit
set_option linter.all false
namespace Go.Proofs.YtieaiocljdpebaaGreatDoor.Y
open Go.RowKit
noncomputable section
section
def aB{a b:Bool}(h:a=true)(k:b=true):(a&&b)=true:=by rw[h,k];rfl
set_option maxRecDepth 100000
def jf0:(Go.Proofs.YtieaiocljdpebaaGreatDoor.Rows.certifyPartsRow.wf (OpenSpec.ofChange Go.Proofs.YtieaiocljdpebaaGreatDoor.Rows.certifyPartsSpec))=true:=by kernel_rfl
def jf1:(laidOutB Tryz.prog)=true:=by kernel_rfl
def jf2:(mapsRowed Tryz.prog)=true:=by kernel_rfl
def jf3:(Tryz.f7.params.all (Tryz.prog.readableRec ·))=true:=by kernel_rfl
def jf4:(namedTie Tryz.prog Go.Proofs.YtieaiocljdpebaaGreatDoor.Rows.certifyPartsRow.named Go.Proofs.YtieaiocljdpebaaGreatDoor.Rows.certifyPartsSpec.vars)=true:=by kernel_rfl
def jf5:(Go.Proofs.YtieaiocljdpebaaGreatDoor.Rows.certifyPartsRow.stops==[])=true:=by kernel_rfl
def jf6:(Tryz.prog.stops==[])=true:=by kernel_rfl
def jf7:(Go.Proofs.YtieaiocljdpebaaGreatDoor.Rows.certifyPartsRow.knobs==[])=true:=by kernel_rfl
def jf8:(Tryz.prog.stopKnobs==[])=true:=by kernel_rfl
def jf9:(Go.Proofs.YtieaiocljdpebaaGreatDoor.Rows.certifyPartsRow.inPlace==Tryz.prog.inPlace 7)=true:=by kernel_rfl
def aw5:(Go.Proofs.YtieaiocljdpebaaGreatDoor.Rows.certifyPartsRow.unfollowed==Tryz.prog.unfollowed 7)=true:=by kernel_rfl
def aw6:(Go.Proofs.YtieaiocljdpebaaGreatDoor.Rows.certifyPartsRow.recurses==Tryz.prog.recurses 7)=true:=by kernel_rfl
def aw7:(Go.Proofs.YtieaiocljdpebaaGreatDoor.Rows.certifyPartsRow.named==Tryz.prog.varsNamed 7)=true:=by kernel_rfl
def aw8:(Go.Proofs.YtieaiocljdpebaaGreatDoor.Rows.certifyPartsRow.maps==(Tryz.f7.params.toList++Go.Proofs.YtieaiocljdpebaaGreatDoor.Rows.certifyPartsSpec.plain.varTypes Tryz.prog).any (Tryz.prog.mapsRec ·))=true:=by kernel_rfl
def aw9:(Go.Proofs.YtieaiocljdpebaaGreatDoor.Rows.certifyPartsRow.ifaces==(Tryz.f7.params.toList++Go.Proofs.YtieaiocljdpebaaGreatDoor.Rows.certifyPartsSpec.plain.varTypes Tryz.prog).any (Tryz.prog.ifacesRec ·))=true:=by kernel_rfl
def axa:(Go.Proofs.YtieaiocljdpebaaGreatDoor.Rows.certifyPartsRow.mapsOut==Tryz.prog.mapsAmong Tryz.f7.resultTypes.toList)=true:=by kernel_rfl
def axb:(Go.Proofs.YtieaiocljdpebaaGreatDoor.Rows.certifyPartsRow.loops==(Tryz.f7.params.toList++Go.Proofs.YtieaiocljdpebaaGreatDoor.Rows.certifyPartsSpec.plain.varTypes Tryz.prog).any (Tryz.prog.loopsFrom ·))=true:=by kernel_rfl
def axc:(Go.Proofs.YtieaiocljdpebaaGreatDoor.Rows.certifyPartsRow.wideKeys==(Tryz.f7.params.toList++Go.Proofs.YtieaiocljdpebaaGreatDoor.Rows.certifyPartsSpec.plain.varTypes Tryz.prog++Tryz.f7.resultTypes.toList).any (Tryz.prog.wideKeysFrom ·))=true:=by kernel_rfl
def axd:(Go.Proofs.YtieaiocljdpebaaGreatDoor.Rows.certifyPartsSpec.vars.all (Tryz.prog.varReadable ·))=true:=by kernel_rfl
def axe:(Tryz.f7.resultTypes.all (λt=>Tryz.prog.readableRec t&&decide (t<Tryz.prog.types.size)))=true:=by kernel_rfl
def axf:(Go.Proofs.YtieaiocljdpebaaGreatDoor.Rows.certifyPartsRow.ifacesOut==Tryz.f7.resultTypes.toList.any (Tryz.prog.ifacesRec ·))=true:=by kernel_rfl
def axg:(Go.Proofs.YtieaiocljdpebaaGreatDoor.Rows.certifyPartsRow.loopsOut==Tryz.f7.resultTypes.toList.any (Tryz.prog.loopsFrom ·))=true:=by kernel_rfl
def axh:(Go.Proofs.YtieaiocljdpebaaGreatDoor.Rows.certifyPartsRow.plainKeys==Tryz.prog.plainKeys)=true:=by kernel_rfl
def axi:(Go.Proofs.YtieaiocljdpebaaGreatDoor.Rows.certifyPartsRow.shortTexts.isNone)=true:=by kernel_rfl
def axj:(Tryz.prog.stopsHeard)=true:=by kernel_rfl
def axk:(Tryz.prog.mayEnter)=true:=by kernel_rfl
def axl:(Go.Proofs.YtieaiocljdpebaaGreatDoor.Rows.certifyPartsRow.lifted==Tryz.prog.liftsFinal)=true:=by kernel_rfl
def axm:(Tryz.prog.make==some Go.Proofs.YtieaiocljdpebaaGreatDoor.Rows.certifyPartsRow.make)=true:=by kernel_rfl
def axn:(Go.Proofs.YtieaiocljdpebaaGreatDoor.Rows.certifyPartsRow.kinds==(if Go.Proofs.YtieaiocljdpebaaGreatDoor.Rows.certifyPartsRow.domain.isEmpty then[] else Tryz.f7.params.toList.map λt=>match Tryz.prog.underlying t with|some (.int k)=>some k|_=>none))=true:=by kernel_rfl
def axo:(Go.Proofs.YtieaiocljdpebaaGreatDoor.Rows.certifyPartsRow.pinned==Go.Proofs.YtieaiocljdpebaaGreatDoor.Rows.certifyPartsRow.pinnedBy)=true:=by kernel_rfl
def axp:(Go.Proofs.YtieaiocljdpebaaGreatDoor.Rows.certifyPartsRow.veiled==(Tryz.f7.params.toList++Go.Proofs.YtieaiocljdpebaaGreatDoor.Rows.certifyPartsSpec.plain.varTypes Tryz.prog++Tryz.f7.resultTypes.toList).any (Tryz.prog.veiledRec ·))=true:=by kernel_rfl
def axq:(Go.Proofs.YtieaiocljdpebaaGreatDoor.Rows.certifyPartsRow.veiledFits Tryz.prog Tryz.f7.params.toList (Tryz.f7.params.toList++Go.Proofs.YtieaiocljdpebaaGreatDoor.Rows.certifyPartsSpec.plain.varTypes Tryz.prog++Tryz.f7.resultTypes.toList))=true:=by kernel_rfl
def axr:joinedFacts Tryz.pinned.checked.prog 7 Tryz.f7 Go.Proofs.YtieaiocljdpebaaGreatDoor.Rows.certifyPartsSpec Go.Proofs.YtieaiocljdpebaaGreatDoor.Rows.certifyPartsRow=true:=(aB (aB (aB (aB (aB (aB (aB (aB (aB (aB (aB (aB (aB (aB (aB (aB (aB (aB (aB (aB (aB (aB (aB (aB (aB (aB (aB (aB (aB (aB (aB jf0 jf1) jf2) jf3) jf4) jf5) jf6) jf7) jf8) jf9) aw5) aw6) aw7) aw8) aw9) axa) axb) axc) axd) axe) axf) axg) axh) axi) axj) axk) axl) axm) axn) axo) axp) axq)
end
end
end Go.Proofs.YtieaiocljdpebaaGreatDoor.Y
