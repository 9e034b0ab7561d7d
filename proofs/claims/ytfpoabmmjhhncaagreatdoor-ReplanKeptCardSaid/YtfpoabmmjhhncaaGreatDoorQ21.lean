/- Part 21 of the proof. -/
import Derived.Test.YtfpoabmmjhhncaaGreatDoorQ3
import Derived.Test.YtfpoabmmjhhncaaGreatDoorRows
import Derived.JoinedOf
import Derived.KernelRfl
import Derived.ProofKit
set_option linter.all false
set_option maxRecDepth 100000
set_option maxHeartbeats 100000000
open Bool renaming true->J
open Option renaming some->U,none->Z
namespace Go.Proofs.YtfpoabmmjhhncaaGreatDoor.Y
open Go.RowKit
noncomputable section
theorem aB{a b:Bool}(h:a=J)(k:b=J):(a&&b)=true:=by rw[h,k];rfl
theorem jf0:(Rows.replanKeptRow.wf (OpenSpec.ofChange Rows.replanKeptSpec))=true:=by kernel_rfl
theorem jf1:(laidOutB Tryz.prog)=true:=by kernel_rfl
theorem jf2:(mapsRowed Tryz.prog)=true:=by kernel_rfl
theorem jf3:(Tryz.f3.params.all (Tryz.prog.readableRec ·))=true:=by kernel_rfl
theorem jf4:(namedTie Tryz.prog Rows.replanKeptRow.named Rows.replanKeptSpec.vars)=true:=by kernel_rfl
theorem jf5:(Rows.replanKeptRow.stops==[])=true:=by kernel_rfl
theorem jf6:(Tryz.prog.stops==[])=true:=by kernel_rfl
theorem jf7:(Rows.replanKeptRow.knobs==[])=true:=by kernel_rfl
theorem jf8:(Tryz.prog.stopKnobs==[])=true:=by kernel_rfl
theorem jf9:(Rows.replanKeptRow.inPlace==Tryz.prog.inPlace 3)=true:=by kernel_rfl
theorem awj:(Rows.replanKeptRow.unfollowed==Tryz.prog.unfollowed 3)=true:=by kernel_rfl
theorem awk:(Rows.replanKeptRow.recurses==Tryz.prog.recurses 3)=true:=by kernel_rfl
theorem awl:(Rows.replanKeptRow.named==Tryz.prog.varsNamed 3)=true:=by kernel_rfl
theorem awm:(Rows.replanKeptRow.maps==(Tryz.f3.params.toList++Rows.replanKeptSpec.plain.varTypes Tryz.prog).any (Tryz.prog.mapsRec ·))=true:=by kernel_rfl
theorem awn:(Rows.replanKeptRow.ifaces==(Tryz.f3.params.toList++Rows.replanKeptSpec.plain.varTypes Tryz.prog).any (Tryz.prog.ifacesRec ·))=true:=by kernel_rfl
theorem awo:(Rows.replanKeptRow.mapsOut==Tryz.prog.mapsAmong Tryz.f3.resultTypes.toList)=true:=by kernel_rfl
theorem awp:(Rows.replanKeptRow.loops==(Tryz.f3.params.toList++Rows.replanKeptSpec.plain.varTypes Tryz.prog).any (Tryz.prog.loopsFrom ·))=true:=by kernel_rfl
theorem awq:(Rows.replanKeptRow.wideKeys==(Tryz.f3.params.toList++Rows.replanKeptSpec.plain.varTypes Tryz.prog++Tryz.f3.resultTypes.toList).any (Tryz.prog.wideKeysFrom ·))=true:=by kernel_rfl
theorem awr:(Rows.replanKeptSpec.vars.all (Tryz.prog.varReadable ·))=true:=by kernel_rfl
theorem aws:(Tryz.f3.resultTypes.all (λt=>Tryz.prog.readableRec t&&decide (t<Tryz.prog.types.size)))=true:=by kernel_rfl
theorem awt:(Rows.replanKeptRow.ifacesOut==Tryz.f3.resultTypes.toList.any (Tryz.prog.ifacesRec ·))=true:=by kernel_rfl
theorem awu:(Rows.replanKeptRow.loopsOut==Tryz.f3.resultTypes.toList.any (Tryz.prog.loopsFrom ·))=true:=by kernel_rfl
theorem awv:(Rows.replanKeptRow.plainKeys==Tryz.prog.plainKeys)=true:=by kernel_rfl
theorem aww:(Rows.replanKeptRow.shortTexts.isNone)=true:=by kernel_rfl
theorem awx:(Tryz.prog.stopsHeard)=true:=by kernel_rfl
theorem awy:(Tryz.prog.mayEnter)=true:=by kernel_rfl
theorem awz:(Rows.replanKeptRow.lifted==Tryz.prog.liftsFinal)=true:=by kernel_rfl
theorem awA:(Tryz.prog.make==U Rows.replanKeptRow.make)=true:=by kernel_rfl
theorem awB:(Rows.replanKeptRow.kinds==(if Rows.replanKeptRow.domain.isEmpty then[] else Tryz.f3.params.toList.map λt=>match Tryz.prog.underlying t with|U (.int k)=>U k|_=>Z))=true:=by kernel_rfl
theorem awC:(Rows.replanKeptRow.pinned==Rows.replanKeptRow.pinnedBy)=true:=by kernel_rfl
theorem awD:(Rows.replanKeptRow.veiled==(Tryz.f3.params.toList++Rows.replanKeptSpec.plain.varTypes Tryz.prog++Tryz.f3.resultTypes.toList).any (Tryz.prog.veiledRec ·))=true:=by kernel_rfl
theorem awE:(Rows.replanKeptRow.veiledFits Tryz.prog Tryz.f3.params.toList (Tryz.f3.params.toList++Rows.replanKeptSpec.plain.varTypes Tryz.prog++Tryz.f3.resultTypes.toList))=true:=by kernel_rfl
theorem awF:joinedFacts Tryz.pinned.checked.prog 3 Tryz.f3 Rows.replanKeptSpec Rows.replanKeptRow=true:=(aB (aB (aB (aB (aB (aB (aB (aB (aB (aB (aB (aB (aB (aB (aB (aB (aB (aB (aB (aB (aB (aB (aB (aB (aB (aB (aB (aB (aB (aB (aB jf0 jf1) jf2) jf3) jf4) jf5) jf6) jf7) jf8) jf9) awj) awk) awl) awm) awn) awo) awp) awq) awr) aws) awt) awu) awv) aww) awx) awy) awz) awA) awB) awC) awD) awE)
