/- Part 8 of the proof; the last part says what is shown. -/
import Derived.Test.YtieaiocljdpebaaGreatDoorQ7
set_option linter.all false
namespace Go.Proofs.YtieaiocljdpebaaGreatDoor.Y
open Go.RowKit
noncomputable section
section
section
variable{R:aQ->Prop}{d:List LK}{t:T}{O:aa}{L:List PC}
def asw(a b:Int)(h:b≠0):∃o,TB.Ev 371 [.i a,.i b] o/\∃Z,o=.ret Z/\dj (kI 1) Z=true:=by
 refine eS rfl rfl (.inl rfl) ?_;simp[aax,h]
def asx(a b:Int)(h:b≠0):eQ TB.Ev R 371 [.i a,.i b] d t O L=eR TB.Ev R (.ret [.i (oi 371 [.i a,.i b] 0)]) d t O L:=bC (mY _ (asw a b h))
def asy{a b:Int}(h:iG a b=true):b≠0:=by
 simp[iG] at h;omega
def asz(a b c:Int):∃o,TB.Ev 354 [.i a,.i b,.i c] o/\∃Z,o=.ret Z/\dj (kI 3) Z=true:=by
 refine eS rfl rfl (.inl rfl) ?_;by_cases h:iG a b=true;simp[Sf,h,asx _ _ (asy h)];simp[Sf,h]
@[simp] def ayn (a b c:Int):eQ TB.Ev R 354 [.i a,.i b,.i c] d t O L=eR TB.Ev R (.ret [.i (oi 354 [.i a,.i b,.i c] 0),.i (oi 354 [.i a,.i b,.i c] 1),.i (oi 354 [.i a,.i b,.i c] 2)]) d t O L:=bC (mY _ (asz a b c))
end
end
section
def akH(id:Int)(m:Nat):List RV:=[iV ((m:Int)+1),iV id]
def LS(b:Nat->Bool)(id:Int)(Z:List Nat):List (List RV):=(Z.filter b).map (akH id)
def zB(Z:RV)(id:Int)(k:Nat):Int:=match fY 1 [id,0,0] Z.rows with
 |some X=>bc (X[k]?.getD default).val
 |none=>0
def SP(Z X W V U q:Int):Int:=if q=0 then Z else if q=1 then X else if q=2 then W else if q=3 then V else if q=4 then U else 0
def asA(v w:Nat->Int):Int:=max 0 (max (aP .sub .i64 (v 0) (w 0)) (max (aP .sub .i64 0 (aP .sub .i64 (v 0) (w 0))) (max (aP .sub .i64 (v 1) (w 1)) (max (aP .sub .i64 0 (aP .sub .i64 (v 1) (w 1))) (max (aP .sub .i64 (v 2) (w 2)) (aP .sub .i64 0 (aP .sub .i64 (v 2) (w 2))))))))
def spB(W:Int)(V U R Z:RV)(X:Nat)(x:Nat->Int)(Q P q d l:Int)(k:Nat):Bool:=decide (aP .mul .i64 (aP .mul .i64 841 (ci Z X (k+9))) (oi 249 ([.i W,.r V,.r U,.r R]++ja x) 0)<aP .mul .i64 (aP .mul .i64 1000 (ci Z X (k+6))) (asA (oi 248 [.i Q,.i P,.i q]) (oi 248 [.i d,.i l,.i q])))
def brB(V:Int)(U R Q Z:RV)(X:Nat)(W:RV)(x s:Nat->Int):Nat->Bool
 |0=>if x 4=3 then decide (ci Z X 12<zB W (x 0) 3) else if x 4=4\/x 4=9 then decide (ci Z X 13<zB W (x 0) 3) else if x 4=5 then decide (ci Z X 14<zB W (x 0) 3) else false
 |1=>if x 4=3 then spB V U R Q Z X x (zB W (x 0) 2) (zB W (x 0) 3) (x 5-1) (SP (s 3) (s 5) (s 7) (s 9) (s 11) (x 5-1)) (SP (s 4) (s 6) (s 8) (s 10) (s 12) (x 5-1)) 0 else if x 4=4 then spB V U R Q Z X x (zB W (x 0) 2) (zB W (x 0) 3) (x 5+1) (SP (s 3) (s 5) (s 7) (s 9) (s 11) (x 5+1)) (SP (s 4) (s 6) (s 8) (s 10) (s 12) (x 5+1)) 1 else if x 4=5 then spB V U R Q Z X x (zB W (x 0) 2) (zB W (x 0) 3) 4 (s 11) (s 12) 2 else false
 |2=>if x 4=1 then decide (ci Z X 4<x 8) else if x 4=2 then decide (ci Z X 5<x 8) else false
 |3=>if x 4=7 then decide (ci Z X 2<ci Z ((x 9).toNat-1) 1) else false
 |_=>false
def asC(l:List Int)(k:Nat):Int:=l.getD k 0
end
section
structure ayo(k bars:Int)(rl tp ps sp sg:RV)(o0:aQ)(n i rn:Nat)(bd mp:RV)(rs acc:List (List RV))(b:Nat->Bool)(s:List Int):Prop where
 ho:uu o0 o0=true
 h:gH rl tp ps sp sg
 hb:b=brB bars tp ps sp bd rn mp (eh rs i) (asC s)
 hi:i<n
 hn:n<=4096
 bA:rs.length=n
 hac:acc.length<=100000
 hrn:rn<bd.rows.length
 bU:Sl bd
 nu:bd.rows.length=rl.rows.length
 Eg:rl.rows.length<=64
 tJ:BO rl.rows.length bars (eh rs i)
 hk:eh rs i 4=k
structure ayr(js:List Nat)(j:Nat)(z:Int)(b:Nat->Bool)(id:Int):Prop where
 z4:z=0/\j=0\/z=1/\j=1\/z=2/\j=2\/z=3/\j=3
 hlen:js.length<4
 zC:fg 1 [RV.mk (Value.int IntKind.i64 z) []] (SO js)=SO (js++[j])
 lT:(SO (js++[j])).length=js.length+1
 har:aP BinOp.sub IntKind.i64 ((js.length:Int)+1) 1=(js.length:Int)
 bZ:bc (cellAt (SO (js++[j])) (js.length:Int) 0).val=z
 ayt:(LS b id js).length<=js.length
 eW:b j=true->LS b id (js++[j])=LS b id js++[akH id j]
 hbf:b j=false->LS b id (js++[j])=LS b id js
end
section
section
variable{a:FuncId->List XV->aQ->Prop}{R:aQ->Prop}{O:aa}{L:List PC}
def asD{ao:Nat}{Q:List LK}{U:List SV}{t:T}(X:aQ->Prop)(P:∀o,X o->R o)(n:Nat)(J:Nat->List XV->Prop)(N:BN n J (U.map (SV.xv O)))(h:∀(i:Nat) Z,i<=n->J i Z->t.wp a X (O.ext (.i i::Z)) [⟨ao,BN n J,zx n,n-i⟩]):T.wp a R (.loop ao Q U t) O L:=by
 refine arp X P (BN n J) (zx n) N λM V=> ?_
 match M,V with
 |.i j::Z,V=>
  obtain⟨i,rfl,I,H⟩:=V;have:=h i Z I H;simpa[zx] using this
end
section
variable(W D A B C b:Int)(c d e f g:RV)
end
end
section
section
variable(W D A B C a:Int)(b c d e f:RV)
end
end
end
end Go.Proofs.YtieaiocljdpebaaGreatDoor.Y
