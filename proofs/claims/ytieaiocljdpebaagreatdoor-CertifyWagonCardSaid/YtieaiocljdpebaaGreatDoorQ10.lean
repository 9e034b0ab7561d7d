/- Part 10 of the proof; the last part says what is shown. -/
import Derived.Test.YtieaiocljdpebaaGreatDoorQ8
import Derived.Test.YtieaiocljdpebaaGreatDoorQ9
set_option linter.defProp false
set_option linter.unusedVariables false
set_option linter.unusedSimpArgs false
set_option linter.unnecessarySimpa false
open List renaming getElem?_append_left→awI,getD_eq_getElem?_getD→awK,getElem?_append_right→awM,length_append→awQ,cons_append→awV,nil_append→awX,getElem?_take→axc,getElem?_drop→axl,length_take→axJ,length_drop→axW
open Nat renaming le_trans→axn
open Int renaming toNat_natCast→axy,tmod_eq_emod_of_nonneg→azA
namespace Go.Proofs.YtieaiocljdpebaaGreatDoor.Y
open Go.RowKit
noncomputable section
section
section
variable(W D A B C I:Int)(c u ps sp H:RV)
def brc:RG:=λW D A B C I c u ps sp H h aQ ae Z X V U R Q P O N M L J G F r aO E=>by
 obtain⟨o,z,v,e,y,x,_⟩:=arl W D A B C I c u ps sp H h aQ ae Z X V U R Q P O N M L J G F r aO E;exact⟨o,z,v,e,y,x⟩
def t18(h:iL c u ps sp H)(ae:Int)(Z X V U R Q bx:RV)(M:H4 c Z X V U R Q bx):∃o,TB.Ev 18 (wk W D A B C I c u ps sp H++[.r Z,.r X,.i ae,.r V,.r U,.r R,.r Q,.r bx]) o/\∃b e,o=.ret [.b b,.i e]/\(¬e=0->b=false)/\(b=true<->zw W D A B C I c u ps sp H ae Z X V U R Q bx):=by
 generalize L:zw W D A B C I c u ps sp H ae Z X V U R Q bx=K;refine eA rfl rfl (.inl rfl) ?_;obtain⟨o,N,v,e,rfl,G,P⟩:=t16 W D A B C I c u ps sp H brc h ae Z X V U R Q bx M;rw[L] at P;simp only[wk,awV,awX] at N;simp[Zx,wk,bo N];refine bB (λO=> ?_) (λO=> ?_);by_cases k:K;exact .inr ⟨e,⟨(P.2 k).2,rfl⟩,O,k⟩;exact .inl ⟨λJ=>k (P.1 ⟨O,J⟩),k⟩;exact λk=>O (P.2 k).1
structure aad(wg' wg:RV):Prop where
 len:wg'.rows.length<=wg.rows.length
 row:∀g<wg'.rows.length,∃g'<wg.rows.length,ci wg' g=ci wg g'
def BD.less{ae:Int}{Q P O N pr:RV}(Z:aad Q P)(h:BD W D A B C I c u ps sp H P ae O N pr):BD W D A B C I c u ps sp H Q ae O N pr where
 wk:=h.wk
 nw:=axn Z.len h.nw
 Lz:=h.Lz
 lm:=h.lm
 lh:=h.lh
 vm:=h.vm
 vh:=h.vh
 zu:=h.zu
 D5:=λg X=>by
  obtain⟨V,U,R⟩:=Z.row g X;rw[R];exact h.D5 V U
 n1:=h.n1
 n2:=h.n2
 n3:=h.n3
 n4:=h.n4
 Z3:=λa M g X=>by
  obtain⟨V,U,R⟩:=Z.row g X;have:=h.Z3 a M V U;simp only[kM,R] at this⊢;exact this
 Z4:=h.Z4
def zw.less{ae:Int}{X V U R Q P O bx:RV}(Z:aad X V)(h:zw W D A B C I c u ps sp H ae V U R Q P O bx):zw W D A B C I c u ps sp H ae X U R Q P O bx where
 ex:={h.ex with
  nw:=axn Z.len h.ex.nw
  D5:=λg N=>by
   obtain⟨M,L,J⟩:=Z.row g N;rw[J];exact h.ex.D5 M L}
 LH:=h.LH
 ro:=h.ro
 zu:=h.zu
 st1:=h.st1
 st2:=h.st2
 cl:=h.cl.less W D A B C I c u ps sp H Z
 eL:=h.eL
end
end
section
section
variable(W D A B C I:Int)(c u ps sp H:RV)
def art{Z:RV}{k:Nat}:aad (aH (Z.rows.take k++Z.rows.drop (k+1))) Z:=by
 have Q:(Z.rows.take k++Z.rows.drop (k+1)).length<=Z.rows.length:=by
  simp only[awQ,axJ,axW];omega
 refine⟨Q,λg V=> ?_⟩;have V:g<(Z.rows.take k++Z.rows.drop (k+1)).length:=V;have key:∀X:Nat,X<Z.rows.length->(Z.rows.take k++Z.rows.drop (k+1))[g]?=Z.rows[X]?->ci (aH (Z.rows.take k++Z.rows.drop (k+1))) g=ci Z X:=λX _ h=>by
  funext j;simp only[ci,cellAt,aH,axy,awK];exact congrArg (λo:Option (List RV)=>ba ((o.getD [])[j]?.getD default).val) h
 simp only[awQ,axJ,axW] at V;by_cases h:g<(Z.rows.take k).length;have U:=h;simp only[axJ] at U;exact⟨g,by omega,key g (by omega) (by rw[awI h,axc];simp;omega)⟩;have U:=h;simp only[axJ] at U;have R:g-min k Z.rows.length+(k+1)<Z.rows.length:=by omega
 refine⟨g-min k Z.rows.length+(k+1),R,key _ R ?_⟩;rw[awM (by omega),axl,axJ,Nat.add_comm]
set_option maxHeartbeats 8000000 in
def t8 (s:TB.Ev 11 [] (.ret [.b true])) (h:iL c u ps sp H) (ae:Int) (Z U Q R P X bx:RV) (O:Sl Z) (q:Sl U) (p:Sl Q) (o:Sl R) (n:Sl P) (M:Sl X) (m:Sl bx) (G:∀i<X.rows.length,Sl (cr 96 X i)) (a:Int) (l:0<=a/\a<=255):TB.Ev 8 (wk W D A B C I c u ps sp H++[.r Z,.r U,.i ae,.r Q,.r R,.r P,.r X,.r bx,.i a]) (.ret [.b true]):=by
 refine iJ rfl rfl (.inl rfl) ?_;obtain⟨a3,F,a4,rfl,N⟩:=t12 W D A B C I c u ps sp H Z U R X (by rw[M.len];omega);simp only[wk,awV,awX] at F;simp[T8,wk,bo s,bo F];intro j g;have N:=N j;have E:1<=Z.rows.length:=by rw[O.len] at g;omega
 have a5:Z.rows.length<=20:=by have:=N.wg;rw[O.len] at this;omega
 have z:∀w:RV,Sl w->H4 c w U Q R P X bx:=λw f=>⟨f,q,p,o,n,M,m,λi hi=>⟨G i hi,by
  have:=N.fp i (by rw[M.len];omega);rw[(G i hi).len] at this;omega⟩⟩
 obtain⟨a6,y,b,e,rfl,d,q2⟩:=t18 W D A B C I c u ps sp H h ae Z U Q R P X bx (z Z O);simp only[wk,awV,awX] at y;rw[bo y];obtain⟨k,hk,a7⟩:∃k:Nat,bh .rem .i64 (IntKind.i64.wrap a) (Z.rows.length:Int)=(k:Int)/\k<Z.rows.length:=by
  have ht:Int.tmod a Z.rows.length=a%Z.rows.length:=azA l.1;have a8:=Int.emod_nonneg a (show(Z.rows.length:Int)≠0 by omega);have a9:=Int.emod_lt_of_pos a (show 0<(Z.rows.length:Int) by omega);refine⟨(a%Z.rows.length).toNat, ?_,by omega⟩;rw[iK (by omega) (by omega)];simp only[bh,ht];omega
 have v:= @art Z k;generalize t:aH (Z.rows.take k++Z.rows.drop (k+1))=L at v;have ag:Sl L:=by
  rw[<-t];refine⟨⟨_,_,_,rfl⟩, ?_, ?_⟩;simp[aH,lenOf];simp[aH];omega
 obtain⟨bb,J,b',e',rfl,an,a0⟩:=t18 W D A B C I c u ps sp H h ae L U Q R P X bx (z L ag);rw[<-t] at J;simp only[wk,awV,awX] at J;have fT:FU (λx=>x=aV.ret [XV.b true]):=single rfl;have a1:bh .add .i64 (k:Int) 1=((k+1:Nat):Int):=BB (by omega);have a2:((k+1:Nat):Int).toNat=k+1:=axy _;simp[hk,O.len,By,fT,a1,a2,bo J];refine bB (λh0=>bB (λcL=> ?_) (λ_ V=>absurd h0 V)) (λV _=>d V);have f7:b'=true:=a0.2 ((q2.1 cL).less W D A B C I c u ps sp H v);have f6:e'=0:=Classical.byContradiction λV=>by rw[an V] at f7;cases f7
 have f1:¬Z.rows=[]:=λV=>by rw[V] at E;simp at E
 have f2:k<=Z.rows.length:=by omega
 have f3:(0:Int)<=(k:Int)+1/\(k:Int)+1<=(Z.rows.length:Int):=by omega
 have f4:((min k Z.rows.length:Nat):Int)<=536870912:=by omega
 have f5:((Z.rows.length-(k+1):Nat):Int)<=536870912:=by omega
 simp only[f1,f2,f3,f4,f5,f6,f7,not_false_eq_true,and_self]
end
end
end
end Go.Proofs.YtieaiocljdpebaaGreatDoor.Y
