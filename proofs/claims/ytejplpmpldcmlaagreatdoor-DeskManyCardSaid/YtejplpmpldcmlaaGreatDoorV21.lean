/- Part 21 of the proof. -/
import Derived.Test.YtejplpmpldcmlaaGreatDoorV3
import Derived.Test.YtejplpmpldcmlaaGreatDoorRows
import Derived.JoinedOf
import Derived.KernelRfl
import Derived.ProofKit
set_option linter.all false
set_option maxRecDepth 100000
set_option maxHeartbeats 100000000
open Bool renaming true->J
open Option renaming some->U,none->Z
namespace Go.Proofs.YtejplpmpldcmlaaGreatDoor.Y
open Go.RowKit
noncomputable section
theorem aB{a b:Bool}(h:a=J)(k:b=J):(a&&b)=true:=by rw[h,k];rfl
theorem jf0:(Rows.deskManyRow.wf (OpenSpec.ofChange Rows.deskManySpec))=true:=by kernel_rfl
theorem jf1:(laidOutB Tryz.prog)=true:=by kernel_rfl
theorem jf2:(mapsRowed Tryz.prog)=true:=by kernel_rfl
theorem jf3:(Tryz.f4.params.all (Tryz.prog.readableRec ·))=true:=by kernel_rfl
theorem jf4:(namedTie Tryz.prog Rows.deskManyRow.named Rows.deskManySpec.vars)=true:=by kernel_rfl
theorem jf5:(Rows.deskManyRow.stops==[])=true:=by kernel_rfl
theorem jf6:(Tryz.prog.stops==[])=true:=by kernel_rfl
theorem jf7:(Rows.deskManyRow.knobs==[])=true:=by kernel_rfl
theorem jf8:(Tryz.prog.stopKnobs==[])=true:=by kernel_rfl
theorem jf9:(Rows.deskManyRow.inPlace==Tryz.prog.inPlace 4)=true:=by kernel_rfl
theorem aIf:(Rows.deskManyRow.unfollowed==Tryz.prog.unfollowed 4)=true:=by kernel_rfl
theorem aIg:(Rows.deskManyRow.recurses==Tryz.prog.recurses 4)=true:=by kernel_rfl
theorem aIh:(Rows.deskManyRow.named==Tryz.prog.varsNamed 4)=true:=by kernel_rfl
theorem aIi:(Rows.deskManyRow.maps==(Tryz.f4.params.toList++Rows.deskManySpec.plain.varTypes Tryz.prog).any (Tryz.prog.mapsRec ·))=true:=by kernel_rfl
theorem aIj:(Rows.deskManyRow.ifaces==(Tryz.f4.params.toList++Rows.deskManySpec.plain.varTypes Tryz.prog).any (Tryz.prog.ifacesRec ·))=true:=by kernel_rfl
theorem aIk:(Rows.deskManyRow.mapsOut==Tryz.prog.mapsAmong Tryz.f4.resultTypes.toList)=true:=by kernel_rfl
theorem aIl:(Rows.deskManyRow.loops==(Tryz.f4.params.toList++Rows.deskManySpec.plain.varTypes Tryz.prog).any (Tryz.prog.loopsFrom ·))=true:=by kernel_rfl
theorem aIm:(Rows.deskManyRow.wideKeys==(Tryz.f4.params.toList++Rows.deskManySpec.plain.varTypes Tryz.prog++Tryz.f4.resultTypes.toList).any (Tryz.prog.wideKeysFrom ·))=true:=by kernel_rfl
theorem aIn:(Rows.deskManySpec.vars.all (Tryz.prog.varReadable ·))=true:=by kernel_rfl
theorem aIo:(Tryz.f4.resultTypes.all (λt=>Tryz.prog.readableRec t&&decide (t<Tryz.prog.types.size)))=true:=by kernel_rfl
theorem aIp:(Rows.deskManyRow.ifacesOut==Tryz.f4.resultTypes.toList.any (Tryz.prog.ifacesRec ·))=true:=by kernel_rfl
theorem aIq:(Rows.deskManyRow.loopsOut==Tryz.f4.resultTypes.toList.any (Tryz.prog.loopsFrom ·))=true:=by kernel_rfl
theorem aIr:(Rows.deskManyRow.plainKeys==Tryz.prog.plainKeys)=true:=by kernel_rfl
theorem aIs:(Rows.deskManyRow.shortTexts.isNone)=true:=by kernel_rfl
theorem aIt:(Tryz.prog.stopsHeard)=true:=by kernel_rfl
theorem aIu:(Tryz.prog.mayEnter)=true:=by kernel_rfl
theorem aIv:(Rows.deskManyRow.lifted==Tryz.prog.liftsFinal)=true:=by kernel_rfl
theorem aIw:(Tryz.prog.make==U Rows.deskManyRow.make)=true:=by kernel_rfl
theorem aIx:(Rows.deskManyRow.kinds==(if Rows.deskManyRow.domain.isEmpty then[] else Tryz.f4.params.toList.map λt=>match Tryz.prog.underlying t with|U (.int k)=>U k|_=>Z))=true:=by kernel_rfl
theorem aIy:(Rows.deskManyRow.pinned==Rows.deskManyRow.pinnedBy)=true:=by kernel_rfl
theorem aIz:(Rows.deskManyRow.veiled==(Tryz.f4.params.toList++Rows.deskManySpec.plain.varTypes Tryz.prog++Tryz.f4.resultTypes.toList).any (Tryz.prog.veiledRec ·))=true:=by kernel_rfl
theorem aIA:(Rows.deskManyRow.veiledFits Tryz.prog Tryz.f4.params.toList (Tryz.f4.params.toList++Rows.deskManySpec.plain.varTypes Tryz.prog++Tryz.f4.resultTypes.toList))=true:=by kernel_rfl
theorem aIB:joinedFacts Tryz.pinned.checked.prog 4 Tryz.f4 Rows.deskManySpec Rows.deskManyRow=true:=(aB (aB (aB (aB (aB (aB (aB (aB (aB (aB (aB (aB (aB (aB (aB (aB (aB (aB (aB (aB (aB (aB (aB (aB (aB (aB (aB (aB (aB (aB (aB jf0 jf1) jf2) jf3) jf4) jf5) jf6) jf7) jf8) jf9) aIf) aIg) aIh) aIi) aIj) aIk) aIl) aIm) aIn) aIo) aIp) aIq) aIr) aIs) aIt) aIu) aIv) aIw) aIx) aIy) aIz) aIA)
