/- Part 9 of the proof; the last part says what is shown. -/
import Derived.Test.YtieaiocljdpebaaGreatDoorQ7
set_option linter.all false
namespace Go.Proofs.YtieaiocljdpebaaGreatDoor.Y
open Go.RowKit
noncomputable section
section
def aaY:List Nat:=[0,1,1,0,0,0,1,0,0,0,1,0,1,0,1,0,1,0,0,0,1,0,1,0,1]
section
variable{R:aT->Prop}{a:List LK}{t:T}{O:aa}{L:List PC}
variable(W D A B C b:Int)(c d e f g:RV)
end
end
section
section
variable(W D A B C a:Int)(b c d e f:RV)
def SU:List Nat:=[0,1,1,0,0,0,1,0,0,0,1,0,1,0,1,0,1,0,0,0,1,0,0,0,0,0,0,0,0,0,0,0,0,0,0,0,0,0,0,0,0,0,1,0,0]
def SX:List Nat:=[0,1,1,0,0,0,1,0,0,0,1,0,1,0,1,0,1,0,0,0,1,0,0,0,0,0,0,0,0,0,0,0,0,0,0,0,0,0,0,0,0,0,1,1]
def SY:List Nat:=[0,1,1,0,0,0,1,0,0,0,1,0,1,0,1,0,1,0,0,0,1,0,0,0,0,0,0,0,0,0,0,0,0,0,0,1,0,0,0,0,0,1,0,0]
def SZ:List Nat:=[0,1,1,0,0,0,1,0,0,0,1,0,1,0,1,0,1,0,0,0,1,0,0,0,0,0,0,0,0,0,0,0,0,0,0,1,0,0,0,0,0,1,1]
def SgQ(q:List Nat)(X:List RV):Prop:=(q=SU/\∃Z V,X=[Z,V])\/(q=SX/\∃Z,X=[Z])\/(q=SY/\∃Z,X=[Z])\/(q=SZ/\X=[])
end
end
section
section
variable(W D A B C a:Int)(b c d e f:RV)
def RoI(ae:Int)(Z X V U R:RV)(i:Nat):Prop:=cK (gB W D A B C a b c d e f ae Z X V U i 0) (gB W D A B C a b c d e f ae Z X V U i 1) (gB W D A B C a b c d e f ae Z X V U i 2) (gB W D A B C a b c d e f ae Z X V U i 3)=true/\vB R i=true
def aaZ:List Nat:=[0,1,1,0,0,0,1,0,0,0,1,0,1,0,1,0,1,0,0,0,1]
end
end
section
section
variable(W D A B C a:Int)(b c d e f:RV)
end
end
end
end Go.Proofs.YtieaiocljdpebaaGreatDoor.Y
