/- Part 10 of the proof; the last part says what is shown. -/
import Derived.Test.YtieaiocljdpebaaGreatDoorQ8
import Derived.Test.YtieaiocljdpebaaGreatDoorQ9
set_option linter.all false
namespace Go.Proofs.YtieaiocljdpebaaGreatDoor.Y
open Go.RowKit
noncomputable section
section
section
variable(W D A B C a:Int)(b c d e f:RV)
structure ayu(wg' wg:RV):Prop where
 len:wg'.rows.length<=wg.rows.length
 row:∀g<wg'.rows.length,∃g'<wg.rows.length,ci wg' g=ci wg g'
end
end
end
end Go.Proofs.YtieaiocljdpebaaGreatDoor.Y
