/- Part 9 of the proof; the last part says what is shown. -/
import Derived.Test.YtieaiocljdpebaaGreatDoorQ7
set_option linter.all false
namespace Go.Proofs.YtieaiocljdpebaaGreatDoor.Y
open Go.RowKit
noncomputable section
section
section
variable{R:aQ->Prop}{a:List LK}{t:T}{O:aa}{L:List PC}
variable(W D A B C b:Int)(c d e f g:RV)
end
end
section
section
variable(W D A B C a:Int)(b c d e f:RV)
end
end
section
section
variable(W D A B C a:Int)(b c d e f:RV)
end
end
section
section
variable(W D A B C a:Int)(b c d e f:RV)
end
end
end
end Go.Proofs.YtieaiocljdpebaaGreatDoor.Y
