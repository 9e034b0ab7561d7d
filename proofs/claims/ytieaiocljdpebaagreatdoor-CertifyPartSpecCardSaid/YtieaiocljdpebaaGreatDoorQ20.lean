/- Part 20 of the proof. -/
import Derived.Test.YtieaiocljdpebaaGreatDoorQ3
import Derived.Test.YtieaiocljdpebaaGreatDoorRows
import Derived.JoinedOf
import Derived.KernelRfl
import Derived.ProofKit
set_option linter.all false
set_option maxRecDepth 100000
set_option maxHeartbeats 100000000
open Bool renaming true->J
open Option renaming some->U,none->Z
namespace Go.Proofs.YtieaiocljdpebaaGreatDoor.Y
open Go.RowKit
noncomputable section
def aB{a b:Bool}(h:a=J)(k:b=J):(a&&b)=true:=by rw[h,k];rfl
def jf0:(Rows.certifyPartSpecRow.wf (OpenSpec.ofChange Rows.certifyPartSpecSpec))=true:=by kernel_rfl
def jf1:(laidOutB Tryz.prog)=true:=by kernel_rfl
def jf2:(mapsRowed Tryz.prog)=true:=by kernel_rfl
def jf3:(Tryz.f5.params.all (Tryz.prog.readableRec ·))=true:=by kernel_rfl
def jf4:(namedTie Tryz.prog Rows.certifyPartSpecRow.named Rows.certifyPartSpecSpec.vars)=true:=by kernel_rfl
def jf5:(Rows.certifyPartSpecRow.stops==[])=true:=by kernel_rfl
def jf6:(Tryz.prog.stops==[])=true:=by kernel_rfl
def jf7:(Rows.certifyPartSpecRow.knobs==[])=true:=by kernel_rfl
def jf8:(Tryz.prog.stopKnobs==[])=true:=by kernel_rfl
def jf9:(Rows.certifyPartSpecRow.inPlace==Tryz.prog.inPlace 5)=true:=by kernel_rfl
def aJG:(Rows.certifyPartSpecRow.unfollowed==Tryz.prog.unfollowed 5)=true:=by kernel_rfl
def aJH:(Rows.certifyPartSpecRow.recurses==Tryz.prog.recurses 5)=true:=by kernel_rfl
def aJI:(Rows.certifyPartSpecRow.named==Tryz.prog.varsNamed 5)=true:=by kernel_rfl
def aJJ:(Rows.certifyPartSpecRow.maps==(Tryz.f5.params.toList++Rows.certifyPartSpecSpec.plain.varTypes Tryz.prog).any (Tryz.prog.mapsRec ·))=true:=by kernel_rfl
def aJK:(Rows.certifyPartSpecRow.ifaces==(Tryz.f5.params.toList++Rows.certifyPartSpecSpec.plain.varTypes Tryz.prog).any (Tryz.prog.ifacesRec ·))=true:=by kernel_rfl
def aJL:(Rows.certifyPartSpecRow.mapsOut==Tryz.prog.mapsAmong Tryz.f5.resultTypes.toList)=true:=by kernel_rfl
def aJM:(Rows.certifyPartSpecRow.loops==(Tryz.f5.params.toList++Rows.certifyPartSpecSpec.plain.varTypes Tryz.prog).any (Tryz.prog.loopsFrom ·))=true:=by kernel_rfl
def aJN:(Rows.certifyPartSpecRow.wideKeys==(Tryz.f5.params.toList++Rows.certifyPartSpecSpec.plain.varTypes Tryz.prog++Tryz.f5.resultTypes.toList).any (Tryz.prog.wideKeysFrom ·))=true:=by kernel_rfl
def aJO:(Rows.certifyPartSpecSpec.vars.all (Tryz.prog.varReadable ·))=true:=by kernel_rfl
def aJP:(Tryz.f5.resultTypes.all (λt=>Tryz.prog.readableRec t&&decide (t<Tryz.prog.types.size)))=true:=by kernel_rfl
def aJQ:(Rows.certifyPartSpecRow.ifacesOut==Tryz.f5.resultTypes.toList.any (Tryz.prog.ifacesRec ·))=true:=by kernel_rfl
def aJR:(Rows.certifyPartSpecRow.loopsOut==Tryz.f5.resultTypes.toList.any (Tryz.prog.loopsFrom ·))=true:=by kernel_rfl
def aJS:(Rows.certifyPartSpecRow.plainKeys==Tryz.prog.plainKeys)=true:=by kernel_rfl
def aJT:(Rows.certifyPartSpecRow.shortTexts.isNone)=true:=by kernel_rfl
def aJU:(Tryz.prog.stopsHeard)=true:=by kernel_rfl
def aJV:(Tryz.prog.mayEnter)=true:=by kernel_rfl
def aJW:(Rows.certifyPartSpecRow.lifted==Tryz.prog.liftsFinal)=true:=by kernel_rfl
def aJX:(Tryz.prog.make==U Rows.certifyPartSpecRow.make)=true:=by kernel_rfl
def aJY:(Rows.certifyPartSpecRow.kinds==(if Rows.certifyPartSpecRow.domain.isEmpty then[] else Tryz.f5.params.toList.map λt=>match Tryz.prog.underlying t with|U (.int k)=>U k|_=>Z))=true:=by kernel_rfl
def aJZ:(Rows.certifyPartSpecRow.pinned==Rows.certifyPartSpecRow.pinnedBy)=true:=by kernel_rfl
def aJ0:(Rows.certifyPartSpecRow.veiled==(Tryz.f5.params.toList++Rows.certifyPartSpecSpec.plain.varTypes Tryz.prog++Tryz.f5.resultTypes.toList).any (Tryz.prog.veiledRec ·))=true:=by kernel_rfl
def aJ1:(Rows.certifyPartSpecRow.veiledFits Tryz.prog Tryz.f5.params.toList (Tryz.f5.params.toList++Rows.certifyPartSpecSpec.plain.varTypes Tryz.prog++Tryz.f5.resultTypes.toList))=true:=by kernel_rfl
def aJ2:joinedFacts Tryz.pinned.checked.prog 5 Tryz.f5 Rows.certifyPartSpecSpec Rows.certifyPartSpecRow=true:=(aB (aB (aB (aB (aB (aB (aB (aB (aB (aB (aB (aB (aB (aB (aB (aB (aB (aB (aB (aB (aB (aB (aB (aB (aB (aB (aB (aB (aB (aB (aB jf0 jf1) jf2) jf3) jf4) jf5) jf6) jf7) jf8) jf9) aJG) aJH) aJI) aJJ) aJK) aJL) aJM) aJN) aJO) aJP) aJQ) aJR) aJS) aJT) aJU) aJV) aJW) aJX) aJY) aJZ) aJ0) aJ1)
