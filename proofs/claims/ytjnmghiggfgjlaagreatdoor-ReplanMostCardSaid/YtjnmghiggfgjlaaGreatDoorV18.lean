/- Part 18. -/
import Derived.Test.YtjnmghiggfgjlaaGreatDoorV3
import Derived.Test.YtjnmghiggfgjlaaGreatDoorRows
import Derived.JoinedOf
import Derived.KernelRfl
import Derived.ProofKit
set_option linter.all false
set_option maxRecDepth 100000
set_option maxHeartbeats 100000000
open Bool renaming true->J
open Option renaming some->U,none->Z
namespace Go.Proofs.YtjnmghiggfgjlaaGreatDoor.Y
open Go.RowKit
noncomputable section
theorem aB{a b:Bool}(h:a=J)(k:b=J):(a&&b)=true:=by rw[h,k];rfl
theorem jf0:(Rows.replanMostRow.wf (OpenSpec.ofChange Rows.replanMostSpec))=true:=by kernel_rfl
theorem jf1:(laidOutB Tryz.prog)=true:=by kernel_rfl
theorem jf2:(mapsRowed Tryz.prog)=true:=by kernel_rfl
theorem jf3:(Tryz.f4.params.all (Tryz.prog.readableRec ·))=true:=by kernel_rfl
theorem jf4:(namedTie Tryz.prog Rows.replanMostRow.named Rows.replanMostSpec.vars)=true:=by kernel_rfl
theorem jf5:(Rows.replanMostRow.stops==[])=true:=by kernel_rfl
theorem jf6:(Tryz.prog.stops==[])=true:=by kernel_rfl
theorem jf7:(Rows.replanMostRow.knobs==[])=true:=by kernel_rfl
theorem jf8:(Tryz.prog.stopKnobs==[])=true:=by kernel_rfl
theorem jf9:(Rows.replanMostRow.inPlace==Tryz.prog.inPlace 4)=true:=by kernel_rfl
theorem aH7:(Rows.replanMostRow.unfollowed==Tryz.prog.unfollowed 4)=true:=by kernel_rfl
theorem aH8:(Rows.replanMostRow.recurses==Tryz.prog.recurses 4)=true:=by kernel_rfl
theorem aH9:(Rows.replanMostRow.named==Tryz.prog.varsNamed 4)=true:=by kernel_rfl
theorem aIa:(Rows.replanMostRow.maps==(Tryz.f4.params.toList++Rows.replanMostSpec.plain.varTypes Tryz.prog).any (Tryz.prog.mapsRec ·))=true:=by kernel_rfl
theorem aIb:(Rows.replanMostRow.ifaces==(Tryz.f4.params.toList++Rows.replanMostSpec.plain.varTypes Tryz.prog).any (Tryz.prog.ifacesRec ·))=true:=by kernel_rfl
theorem aIc:(Rows.replanMostRow.mapsOut==Tryz.prog.mapsAmong Tryz.f4.resultTypes.toList)=true:=by kernel_rfl
theorem aId:(Rows.replanMostRow.loops==(Tryz.f4.params.toList++Rows.replanMostSpec.plain.varTypes Tryz.prog).any (Tryz.prog.loopsFrom ·))=true:=by kernel_rfl
theorem aIe:(Rows.replanMostRow.wideKeys==(Tryz.f4.params.toList++Rows.replanMostSpec.plain.varTypes Tryz.prog++Tryz.f4.resultTypes.toList).any (Tryz.prog.wideKeysFrom ·))=true:=by kernel_rfl
theorem aIf:(Rows.replanMostSpec.vars.all (Tryz.prog.varReadable ·))=true:=by kernel_rfl
theorem aIg:(Tryz.f4.resultTypes.all (λt=>Tryz.prog.readableRec t&&decide (t<Tryz.prog.types.size)))=true:=by kernel_rfl
theorem aIh:(Rows.replanMostRow.ifacesOut==Tryz.f4.resultTypes.toList.any (Tryz.prog.ifacesRec ·))=true:=by kernel_rfl
theorem aIi:(Rows.replanMostRow.loopsOut==Tryz.f4.resultTypes.toList.any (Tryz.prog.loopsFrom ·))=true:=by kernel_rfl
theorem aIj:(Rows.replanMostRow.plainKeys==Tryz.prog.plainKeys)=true:=by kernel_rfl
theorem aIk:(Rows.replanMostRow.shortTexts.isNone)=true:=by kernel_rfl
theorem aIl:(Tryz.prog.stopsHeard)=true:=by kernel_rfl
theorem aIm:(Tryz.prog.mayEnter)=true:=by kernel_rfl
theorem aIn:(Rows.replanMostRow.lifted==Tryz.prog.liftsFinal)=true:=by kernel_rfl
theorem aIo:(Tryz.prog.make==U Rows.replanMostRow.make)=true:=by kernel_rfl
theorem aIp:(Rows.replanMostRow.kinds==(if Rows.replanMostRow.domain.isEmpty then[] else Tryz.f4.params.toList.map λt=>match Tryz.prog.underlying t with|U (.int k)=>U k|_=>Z))=true:=by kernel_rfl
theorem aIq:(Rows.replanMostRow.pinned==Rows.replanMostRow.pinnedBy)=true:=by kernel_rfl
theorem aIr:(Rows.replanMostRow.veiled==(Tryz.f4.params.toList++Rows.replanMostSpec.plain.varTypes Tryz.prog++Tryz.f4.resultTypes.toList).any (Tryz.prog.veiledRec ·))=true:=by kernel_rfl
theorem aIs:(Rows.replanMostRow.veiledFits Tryz.prog Tryz.f4.params.toList (Tryz.f4.params.toList++Rows.replanMostSpec.plain.varTypes Tryz.prog++Tryz.f4.resultTypes.toList))=true:=by kernel_rfl
theorem aIt:joinedFacts Tryz.pinned.checked.prog 4 Tryz.f4 Rows.replanMostSpec Rows.replanMostRow=true:=(aB (aB (aB (aB (aB (aB (aB (aB (aB (aB (aB (aB (aB (aB (aB (aB (aB (aB (aB (aB (aB (aB (aB (aB (aB (aB (aB (aB (aB (aB (aB jf0 jf1) jf2) jf3) jf4) jf5) jf6) jf7) jf8) jf9) aH7) aH8) aH9) aIa) aIb) aIc) aId) aIe) aIf) aIg) aIh) aIi) aIj) aIk) aIl) aIm) aIn) aIo) aIp) aIq) aIr) aIs)
