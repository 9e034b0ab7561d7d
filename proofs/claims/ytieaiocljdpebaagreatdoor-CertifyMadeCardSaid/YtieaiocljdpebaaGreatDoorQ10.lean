/- Part 10 of the proof; the last part says what is shown. -/
import Derived.Test.YtieaiocljdpebaaGreatDoorQ8
import Derived.Test.YtieaiocljdpebaaGreatDoorQ9
set_option linter.all false
namespace Go.Proofs.YtieaiocljdpebaaGreatDoor.Y
open Go.RowKit
noncomputable section
section
section
variable(W D A B C a:Int)(b c d f i:RV)
def brc:SO:=λW D A B C a b c d f i h aN ae Z X V U R Q P O N M L J I H r bv G=>by
 obtain⟨o,F,v,e,E,z,_⟩:=aaX W D A B C a b c d f i h aN ae Z X V U R Q P O N M L J I H r bv G;exact⟨o,F,v,e,E,z⟩
structure axF(wg' wg:RV):Prop where
 len:wg'.rows.length<=wg.rows.length
 row:∀g<wg'.rows.length,∃g'<wg.rows.length,ci wg' g=ci wg g'
end
end
end
end Go.Proofs.YtieaiocljdpebaaGreatDoor.Y
