/- Part 21 of the proof. -/
import Derived.Test.YtpmkfikkemaopaaGreatDoorQ3
import Derived.Test.YtpmkfikkemaopaaGreatDoorRows
import Derived.JoinedOf
import Derived.KernelRfl
import Derived.ProofKit
set_option linter.all false
set_option maxRecDepth 100000
set_option maxHeartbeats 100000000
open Bool renaming true->J
open Option renaming some->U,none->Z
namespace Go.Proofs.YtpmkfikkemaopaaGreatDoor.Y
open Go.RowKit
noncomputable section
theorem aB{a b:Bool}(h:a=J)(k:b=J):(a&&b)=true:=by rw[h,k];rfl
theorem jf0:(Rows.deskReportsRow.wf (OpenSpec.ofChange Rows.deskReportsSpec))=true:=by kernel_rfl
theorem jf1:(laidOutB Tryz.prog)=true:=by kernel_rfl
theorem jf2:(mapsRowed Tryz.prog)=true:=by kernel_rfl
theorem jf3:(Tryz.f3.params.all (Tryz.prog.readableRec ·))=true:=by kernel_rfl
theorem jf4:(namedTie Tryz.prog Rows.deskReportsRow.named Rows.deskReportsSpec.vars)=true:=by kernel_rfl
theorem jf5:(Rows.deskReportsRow.stops==[])=true:=by kernel_rfl
theorem jf6:(Tryz.prog.stops==[])=true:=by kernel_rfl
theorem jf7:(Rows.deskReportsRow.knobs==[])=true:=by kernel_rfl
theorem jf8:(Tryz.prog.stopKnobs==[])=true:=by kernel_rfl
theorem jf9:(Rows.deskReportsRow.inPlace==Tryz.prog.inPlace 3)=true:=by kernel_rfl
theorem aCw:(Rows.deskReportsRow.unfollowed==Tryz.prog.unfollowed 3)=true:=by kernel_rfl
theorem aCx:(Rows.deskReportsRow.recurses==Tryz.prog.recurses 3)=true:=by kernel_rfl
theorem aCy:(Rows.deskReportsRow.named==Tryz.prog.varsNamed 3)=true:=by kernel_rfl
theorem aCz:(Rows.deskReportsRow.maps==(Tryz.f3.params.toList++Rows.deskReportsSpec.plain.varTypes Tryz.prog).any (Tryz.prog.mapsRec ·))=true:=by kernel_rfl
theorem aCA:(Rows.deskReportsRow.ifaces==(Tryz.f3.params.toList++Rows.deskReportsSpec.plain.varTypes Tryz.prog).any (Tryz.prog.ifacesRec ·))=true:=by kernel_rfl
theorem aCB:(Rows.deskReportsRow.mapsOut==Tryz.prog.mapsAmong Tryz.f3.resultTypes.toList)=true:=by kernel_rfl
theorem aCC:(Rows.deskReportsRow.loops==(Tryz.f3.params.toList++Rows.deskReportsSpec.plain.varTypes Tryz.prog).any (Tryz.prog.loopsFrom ·))=true:=by kernel_rfl
theorem aCD:(Rows.deskReportsRow.wideKeys==(Tryz.f3.params.toList++Rows.deskReportsSpec.plain.varTypes Tryz.prog++Tryz.f3.resultTypes.toList).any (Tryz.prog.wideKeysFrom ·))=true:=by kernel_rfl
theorem aCE:(Rows.deskReportsSpec.vars.all (Tryz.prog.varReadable ·))=true:=by kernel_rfl
theorem aCF:(Tryz.f3.resultTypes.all (λt=>Tryz.prog.readableRec t&&decide (t<Tryz.prog.types.size)))=true:=by kernel_rfl
theorem aCG:(Rows.deskReportsRow.ifacesOut==Tryz.f3.resultTypes.toList.any (Tryz.prog.ifacesRec ·))=true:=by kernel_rfl
theorem aCH:(Rows.deskReportsRow.loopsOut==Tryz.f3.resultTypes.toList.any (Tryz.prog.loopsFrom ·))=true:=by kernel_rfl
theorem aCI:(Rows.deskReportsRow.plainKeys==Tryz.prog.plainKeys)=true:=by kernel_rfl
theorem aCJ:(Rows.deskReportsRow.shortTexts.isNone)=true:=by kernel_rfl
theorem aCK:(Tryz.prog.stopsHeard)=true:=by kernel_rfl
theorem aCL:(Tryz.prog.mayEnter)=true:=by kernel_rfl
theorem aCM:(Rows.deskReportsRow.lifted==Tryz.prog.liftsFinal)=true:=by kernel_rfl
theorem aCN:(Tryz.prog.make==U Rows.deskReportsRow.make)=true:=by kernel_rfl
theorem aCO:(Rows.deskReportsRow.kinds==(if Rows.deskReportsRow.domain.isEmpty then[] else Tryz.f3.params.toList.map λt=>match Tryz.prog.underlying t with|U (.int k)=>U k|_=>Z))=true:=by kernel_rfl
theorem aCP:(Rows.deskReportsRow.pinned==Rows.deskReportsRow.pinnedBy)=true:=by kernel_rfl
theorem aCQ:(Rows.deskReportsRow.veiled==(Tryz.f3.params.toList++Rows.deskReportsSpec.plain.varTypes Tryz.prog++Tryz.f3.resultTypes.toList).any (Tryz.prog.veiledRec ·))=true:=by kernel_rfl
theorem aCR:(Rows.deskReportsRow.veiledFits Tryz.prog Tryz.f3.params.toList (Tryz.f3.params.toList++Rows.deskReportsSpec.plain.varTypes Tryz.prog++Tryz.f3.resultTypes.toList))=true:=by kernel_rfl
theorem aCS:joinedFacts Tryz.pinned.checked.prog 3 Tryz.f3 Rows.deskReportsSpec Rows.deskReportsRow=true:=(aB (aB (aB (aB (aB (aB (aB (aB (aB (aB (aB (aB (aB (aB (aB (aB (aB (aB (aB (aB (aB (aB (aB (aB (aB (aB (aB (aB (aB (aB (aB jf0 jf1) jf2) jf3) jf4) jf5) jf6) jf7) jf8) jf9) aCw) aCx) aCy) aCz) aCA) aCB) aCC) aCD) aCE) aCF) aCG) aCH) aCI) aCJ) aCK) aCL) aCM) aCN) aCO) aCP) aCQ) aCR)
