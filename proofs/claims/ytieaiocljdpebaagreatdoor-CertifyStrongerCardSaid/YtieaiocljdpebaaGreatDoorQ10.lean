/- Part 10 of the proof; the last part says what is shown. -/
import Derived.Test.YtieaiocljdpebaaGreatDoorQ8
import Derived.Test.YtieaiocljdpebaaGreatDoorQ9
set_option linter.all false
open List renaming cons_append->axY,nil_append->ax2
namespace Go.Proofs.YtieaiocljdpebaaGreatDoor.Y
open Go.RowKit
noncomputable section
section
section
variable(W D A B C m:Int)(a c d f l:RV)
def brc:SO:=λW D A B C m a c d f l h aN ae Z X V U R Q P O N M L J I H r bv G=>by
 obtain⟨o,F,v,e,E,z,_⟩:=aaX W D A B C m a c d f l h aN ae Z X V U R Q P O N M L J I H r bv G;exact⟨o,F,v,e,E,z⟩
def t18(h:fF a c d f l)(ae:Int)(Z X V U R Q P:RV)(L:EB a Z X V U R Q P):∃o,TB.Ev 18 (wk W D A B C m a c d f l++[.r Z,.r X,.i ae,.r V,.r U,.r R,.r Q,.r P]) o/\∃b e,o=.ret [.b b,.i e]/\(¬e=0->b=false)/\(b=true<->zT W D A B C m a c d f l ae Z X V U R Q P):=by
 generalize J:zT W D A B C m a c d f l ae Z X V U R Q P=K;refine dw rfl rfl (.inl rfl) ?_;obtain⟨o,M,v,e,rfl,H,O⟩:=t16 W D A B C m a c d f l brc h ae Z X V U R Q P L;rw[J] at O;simp only[wk,axY,ax2] at M;simp[T18,wk,aS M];refine bj (λN=> ?_) (λN=> ?_);by_cases k:K;exact .inr ⟨e,⟨(O.2 k).2,rfl⟩,N,k⟩;exact .inl ⟨λI=>k (O.1 ⟨N,I⟩),k⟩;exact λk=>N (O.2 k).1
structure axF(wg' wg:RV):Prop where
 len:wg'.rows.length<=wg.rows.length
 row:∀g<wg'.rows.length,∃g'<wg.rows.length,ci wg' g=ci wg g'
end
end
end
end Go.Proofs.YtieaiocljdpebaaGreatDoor.Y
