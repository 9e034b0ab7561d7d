/- Part 5 of the proof. -/
import Derived.Test.YtieaiocljdpebaaGreatDoorQ4
set_option linter.all false
open Bool renaming true->J,false->E
open List renaming getElem?_append_left->aIB,mem_cons->aIK,mem_append->aIM,pairwise_cons->aIV,range->aI5,length_eq_zero_iff->aJe,getElem_mem->aJl,length_cons->aJm,nodup_append->aJz,mem_range->aJQ,nodup_cons->aKn,length_erase_of_mem->aK2,mem_erase_of_ne->aLi,pairwise_singleton->aLG,length_pos_of_mem->aLN,length->Y
open Nat renaming zero_le->aKG
open Option renaming some->U
open List.Pairwise renaming nil->aJt
open Go.IntKind renaming i64->I
namespace Go.Proofs.YtieaiocljdpebaaGreatDoor.Y
open Go.RowKit
noncomputable section
variable{W:am}{Q:aH}{X:Nat}{V:ai}{P N:Int}
def C3(v:am):Prop:=∀x∈v,fG (x.getD 3 default).val=E
def C3.nil:C3 []:=λx X=>by simp at X
def C3.kz(h:C3 W)(V:fG (Q.getD 3 default).val=E):C3 (W++[Q]):=λy X=>by
 rcases aIM.1 X with X|X;exact h y X;simp at X;subst X;exact V
def C3.at(h:C3 W)(V:X<Y W):fG (W[X].getD 3 default).val=false:=h _ (aJl V)
def C3.cell(h:C3 W)(V:X<Y W):fG (cellAt W (X:Int) 3).val=false:=by
 have:=h.at V;simpa[cellAt,V] using this
section
variable{R:bD->Prop}{a:aP}{t:T}{O:aa}{L:dN}
variable[Inhabited dJ]
end
section
variable{R:bD->Prop}{d:aP}{t:T}{O:aa}{L:dN}
variable[Inhabited dJ]
def vB(v:RV)(i:Nat):Bool:=aM (ci v i 0) (ci v i 1) (ci v i 2) (ci v i 3)
def QO(u:RV)(i:Nat)(w:RV)(k:Nat):Bool:=vB u i&&vB w k&&yU (ci u i 0) (ci u i 1) (ci u i 2) (ci u i 3) (ci w k 0) (ci w k 1) (ci w k 2) (ci w k 3)
def flB(vA vC:Int)(u:RV)(i:Nat):Bool:=vB u i&&aM 0 (au .mul I 841 vA) 0 (au .mul I 841 vC)&&QG (ci u i 0) (ci u i 1) (ci u i 2) (ci u i 3) 0 (au .mul I 841 vA) 0 (au .mul I 841 vC)
def QP(X:RV):Nat->am
 |0=>[]
 |i+1=>j8 2 [.mk (.int I (ci X i 0)) [],.mk (.int I (ci X i 1)) [],.mk (.bool J) []] (QP X i)
def YE(X:am)(a b:Nat):Bool:=BE.den ⟨[(a:Int),(b:Int)],[],[bT X],[]⟩ (.look (.v 0) 2 (.v 0) (.v 1) (.c 0) 2)
def asU(u:RV)(i:Nat)(X:RV)(ab:Int)(g:Nat):Bool:=vB u i&&aM (sx (ci X g) ab 0) (sx (ci X g) ab 1) (sx (ci X g) ab 2) (sx (ci X g) ab 3)&&yU (ci u i 0) (ci u i 1) (ci u i 2) (ci u i 3) (sx (ci X g) ab 0) (sx (ci X g) ab 1) (sx (ci X g) ab 2) (sx (ci X g) ab 3)
structure ClE(wg:RV)(ab:Int)(mv hd pr:RV):Prop where
 wk:ji=0
 nw:Y wg.rows<=8
 inb:iC ab 0 (eD-1)=J
 lm:Y mv.rows=Y be.rows
 lh:Y hd.rows=Y be.rows
 vm:∀i<Y mv.rows,vB mv i=J
 vh:∀i<Y hd.rows,vB hd i=J
 prs:∀i<Y pr.rows,0<=ci pr i 0/\ci pr i 0<ci pr i 1/\ci pr i 1<Y be.rows
 pth:∀g<Y wg.rows,sx (ci wg g) ab 4=0
structure ClN(vA vC:Int)(be:RV)(wg:RV)(ab:Int)(mv hd pr:RV):Prop where
 n1:∀a<Y be.rows,∀b,a<b->b<Y be.rows->YE (QP pr (Y pr.rows)) a b=J\/QO mv a mv b=J
 n2:∀a<Y be.rows,∀b,a<b->b<Y be.rows->YE (QP pr (Y pr.rows)) a b=J\/QO mv a hd b=J
 n3:∀a<Y be.rows,∀b,a<b->b<Y be.rows->YE (QP pr (Y pr.rows)) a b=J\/QO hd a mv b=J
 n4:∀a<Y be.rows,∀b,a<b->b<Y be.rows->YE (QP pr (Y pr.rows)) a b=J\/QO hd a hd b=J
 wgs:∀a<Y be.rows,∀g<Y wg.rows,asU mv a wg ab g=J/\asU hd a wg ab g=J
 aId:∀a<Y be.rows,flB vA vC mv a=J/\flB vA vC hd a=J
structure aA5(wg:RV)(ab:Int)(mv hd pr:RV):Prop extends ClE wg ab mv hd pr,ClN vA vC be wg ab mv hd pr
end
section
variable{lt:aH->aH->Bool}
def A9(lt:aH->aH->Bool)(l:am):Prop:=l.Pairwise λx y=>lt x y=J
def A9.eq(R:∀x,lt x x=E)(Q:∀x y z,lt x y=J->lt y z=J->lt x z=J):∀{l X:am},A9 lt l->A9 lt X->l.Perm X->l=X
 |[],X,_,_,h=>(List.Perm.nil_eq h)
 |x::l,[],_,_,h=>(by have:=h.length_eq;simp at this)
 |x::l,y::X,N,M,h=>by
  have P:=aIV.1 N;have O:=aIV.1 M;have L:x=y:=by
   have W:x∈y::X:=h.mem_iff.1 (by simp);have V:y∈x::l:=h.mem_iff.2 (by simp);rcases aIK.1 W with W|W;exact W;rcases aIK.1 V with V|V;exact V.symm;have:=Q _ _ _ (P.1 y V) (O.1 x W);rw[R] at this;cases this
  subst L;rw[A9.eq R Q P.2 O.2 (List.perm_cons x|>.1 h)]
def asV(V:∀x y z,lt x y=J->lt y z=J->lt x z=J){x:aH}:∀{l:am},A9 lt l->(∀y∈l,lt x y=J\/lt y x=J)->A9 lt (dj lt x l)
 |[],_,_=>aLG _ _
 |y::r,h,R=>by
  have g:=aIV.1 h;simp only[dj];split;rename_i W;refine aIV.2 ⟨λz X=> ?_,h⟩;rcases aIK.1 X with rfl|X;exact W;exact V _ _ _ W (g.1 z X);rename_i W;have Q:lt y x=true:=(R y (by simp)).resolve_left W;refine aIV.2 ⟨λz X=> ?_,asV V g.2 λz X=>R z (by simp[X])⟩;rcases SQ.1 X with rfl|X;exact Q;exact g.1 z X
def asW(W:∀x y z,lt x y=J->lt y z=J->lt x z=J):∀(l acc:am),A9 lt acc->(∀x∈l,∀y∈acc,lt x y=J\/lt y x=J)->l.Pairwise (λx y=>lt x y=J\/lt y x=J)->A9 lt (l.foldl (λacc x=>dj lt x acc) acc)
 |[],acc,h,_,_=>h
 |x::l,acc,h,V,Q=>by
  have g:=aIV.1 Q;refine asW W l _ (asV W h λy X=>V x (by simp) y X) (λz R y X=> ?_) g.2;rcases SQ.1 X with rfl|X;exact(g.1 z R).symm;exact V z (by simp[R]) y X
def asX(X:∀x y z,lt x y=J->lt y z=J->lt x z=J)(h:W.Pairwise (λx y=>lt x y=J\/lt y x=J)):A9 lt (bE lt W):=asW X W [] aJt (by simp) h
def aA6(Q:∀x,lt x x=E)(V:∀x y z,lt x y=J->lt y z=J->lt x z=J){X:am}(R:X.Perm W)(h:W.Pairwise (λx y=>lt x y=J\/lt y x=J)):bE lt X=bE lt W:=by
 have P:X.Pairwise (λx y=>lt x y=J\/lt y x=J):=(R.symm.pairwise_iff (λ{x y} h=>h.symm)).1 h;exact A9.eq Q V (asX V P) (asX V h) (((A7 X).trans R).trans (A7 W).symm)
end
def asY(d:Bool):∀(X:ai)(x:aH),iO d X x x=E
 |[],_=>rfl
 |c::X,x=>by simp[iO,asY d X x]
def asZ(d:Bool):∀(Q:ai)(x y z:aH),iO d Q x y=J->iO d Q y z=J->iO d Q x z=J
 |[],_,_,_,h,_=>by simp[iO] at h
 |c::Q,x,y,z,V,X=>by
  simp only[iO] at V X⊢;by_cases R:aT c x=aT c y;by_cases W:aT c y=aT c z;rw[if_pos R] at V;rw[if_pos W] at X;rw[if_pos (R.trans W)];exact asZ d Q x y z V X;rw[if_neg W] at X;rw[if_neg (by rw[R];exact W),R];exact X;rw[if_neg R] at V;by_cases W:aT c y=aT c z;rw[if_neg (by rw[<-W];exact R),<-W];exact V;rw[if_neg W] at X;cases d;simp at V X;rw[if_neg (by omega)];simp;omega;simp at V X;rw[if_neg (by omega)];simp;omega
def as1(X:ai)(W:am):Prop:=W.Pairwise λx y=>∃c∈X,aT c x≠aT c y
def ahk{n:Nat}{X y:aH}:∀{m:am},y∈j8 n X m->y=X\/y∈m
 |[],h=>by simp[j8] at h;exact .inl h
 |r::W,h=>by
  simp only[j8] at h;split at h;rcases aIK.1 h with h|h;exact .inl h;exact .inr (by simp[h]);rcases aIK.1 h with h|h;exact .inr (by simp[h]);rcases ahk h with h|h;exact .inl h;exact .inr (by simp[h])
def as2{r:aH}(X:Y Q=4)(W:Y r=4):mU 3 ((Q.take 3).map λc=>bB c.val) r=J<->∀c∈[0,1,2],aT c r=aT c Q:=by
 match Q,X,r,W with
 |[a,b,c,d],_,[V,R,P,O],_=>simp[mU,aT]
structure yZ(m:am):Prop where
 keys:as1 [0,1,2] m
 four:∀x∈m,Y x=4
def yZ.nil:yZ []:=⟨aJt,by simp⟩
def yZ.ins{O:aH}(R:Y O=4):∀{m:am},yZ m->yZ (j8 3 O m)
 |[],_=>⟨by simp[j8,as1],by simp[j8,R]⟩
 |r::M,h=>by
  have g:=aIV.1 h.keys;have L:yZ M:=⟨g.2,λx X=>h.four x (by simp[X])⟩;have H:=yZ.ins R L;have N:=as2 R (h.four r (by simp));refine⟨?_,λx X=> ?_⟩;simp only[j8];split;rename_i W;have W:=N.1 W;refine aIV.2 ⟨λy V=> ?_,g.2⟩;obtain⟨c,Q,P⟩:=g.1 y V;exact⟨c,Q,by rw[<-W c Q];exact P⟩;rename_i W;refine aIV.2 ⟨λy V=> ?_,H.keys⟩;rcases ahk V with rfl|V;have:¬∀c∈[0,1,2],aT c r=aT c y:=λG=>W (N.2 G)
  simp only[Classical.not_forall] at this;obtain⟨c,Q,P⟩:=this;exact⟨c,Q,P⟩;exact g.1 y V;rcases ahk X with rfl|X;exact R;exact h.four x X
section
variable{R:bD->Prop}{a:aP}{t:T}{O:aa}{L:dN}
variable[Inhabited dJ]
@[simp] def aIe (v:RV) (X W V Q P N M H G F D C B A z y:Int):eK TB.Ev R 75 [.r (cz .str v),.i X,.i W,.i V,.i Q,.i P,.i N,.i M,.i H,.i G,.i F,.i D,.i C,.i B,.i A,.i z,.i y] a t O L=eL TB.Ev R (.ret [.i (ud (cz .str v) X W V Q P N M H G F D C B A z y)]) a t O L:=Fj _ (yX v) X W V Q P N M H G F D C B A z y
def xo(X W V Q P N M H G F D C B:Int)(s:RV)(A z y x w v u q p o n m l j h g:Int)(k:Nat):Int:=oi 27 [.i X,.i W,.i V,.i Q,.i P,.i N,.i M,.i H,.i G,.i F,.i D,.i C,.i B,.r s,.i A,.i z,.i y,.i x,.i w,.i v,.i u,.i q,.i p,.i o,.i n,.i m,.i l,.i j,.i h,.i g] k
@[simp] def c27 (X W V Q P N M H G F D C B:Int) (v:RV) (A z y x w u s q p o n m l k j h:Int):eK TB.Ev R 27 [.i X,.i W,.i V,.i Q,.i P,.i N,.i M,.i H,.i G,.i F,.i D,.i C,.i B,.r (cz .str v),.i A,.i z,.i y,.i x,.i w,.i u,.i s,.i q,.i p,.i o,.i n,.i m,.i l,.i k,.i j,.i h] a t O L=eL TB.Ev R (.ret [.i (xo X W V Q P N M H G F D C B (cz .str v) A z y x w u s q p o n m l k j h 0),.i (xo X W V Q P N M H G F D C B (cz .str v) A z y x w u s q p o n m l k j h 1),.i (xo X W V Q P N M H G F D C B (cz .str v) A z y x w u s q p o n m l k j h 2),.i (xo X W V Q P N M H G F D C B (cz .str v) A z y x w u s q p o n m l k j h 3),.i (xo X W V Q P N M H G F D C B (cz .str v) A z y x w u s q p o n m l k j h 4)]) a t O L:=aN (oU (kI 5) (t27 X W V Q P N M H G F D C B _ (yX v) A z y x w u s q p o n m l k j h))
def b75(X:RV)(i:Nat):Int:=ud (cz .str (cellAt X.rows (i:Int) 0)) (ci X i 1) (ci X i 2) (ci X i 3) (ci X i 4) (ci X i 5) (ci X i 6) (ci X i 7) (ci X i 8) (ci X i 9) (ci X i 10) (ci X i 11) (ci X i 12) (ci X i 13) (ci X i 14) (ci X i 15) (ci X i 16)
def YF(v:RV)(i:Nat):Int:=sw (ci v i 0) (ci v i 1) (ci v i 2) (ci v i 3) (ci v i 4) (ci v i 5) (ci v i 6) (ci v i 7) (ci v i 8) (ci v i 9) (ci v i 10) (ci v i 11) (ci v i 12)
def jZ(v X:RV)(i k:Nat):Int:=xo (ci v i 0) (ci v i 1) (ci v i 2) (ci v i 3) (ci v i 4) (ci v i 5) (ci v i 6) (ci v i 7) (ci v i 8) (ci v i 9) (ci v i 10) (ci v i 11) (ci v i 12) (cz .str (cellAt X.rows (i:Int) 0)) (ci X i 1) (ci X i 2) (ci X i 3) (ci X i 4) (ci X i 5) (ci X i 6) (ci X i 7) (ci X i 8) (ci X i 9) (ci X i 10) (ci X i 11) (ci X i 12) (ci X i 13) (ci X i 14) (ci X i 15) (ci X i 16) k
def m85(ab:Int)(X:RV)(i:Nat):Int:=oi 85 (wk++[.i i,.i ab,.r (cr 96 X i)]) 0
def H4(ab:Int)(X W:RV)(i k:Nat):Int:=oi 89 (wk++[.i i,.i ab,.i (ci X i 0),.i (ci X i 1),.i (ci X i 2),.i (ci X i 3),.i (ci X i 4),.i (ci X i 5),.i (ci X i 6),.i (ci X i 7),.i (ci X i 8),.i (ci X i 9),.i (ci X i 10),.i (ci X i 11),.i (ci X i 12),.r (cr 96 W i)]) k
def m90(ab:Int)(W X V:RV)(i k:Nat):Int:=oi 90 (wk++[.i i,.i ab,.i (ci W i 0),.i (ci W i 1),.i (ci W i 2),.i (ci W i 3),.i (ci W i 4),.i (ci W i 5),.i (ci W i 6),.i (ci W i 7),.i (ci W i 8),.i (ci W i 9),.i (ci W i 10),.i (ci W i 11),.i (ci W i 12),.r (cz .str (cellAt X.rows (i:Int) 0)),.i (ci X i 1),.i (ci X i 2),.i (ci X i 3),.i (ci X i 4),.i (ci X i 5),.i (ci X i 6),.i (ci X i 7),.i (ci X i 8),.i (ci X i 9),.i (ci X i 10),.i (ci X i 11),.i (ci X i 12),.i (ci X i 13),.i (ci X i 14),.i (ci X i 15),.i (ci X i 16),.r (cr 96 V i)]) k
def gS(ab:Int)(W X V:RV)(i k:Nat):Int:=if cb W i 0 then H4 ab X V i k else ci X i k
def gB(ab:Int)(V X W Q:RV)(i k:Nat):Int:=if cb V i 0 then m90 ab X W Q i k else jZ X W i k
structure aIg(be wg bd mv bf af re bx:RV):Prop where
 wg:Sl wg
 bd:Sl bd
 mv:Sl mv
 bf:Sl bf
 af:Sl af
 rsl:Sl re
 bx:Sl bx
 im:∀i<Y re.rows,Sl (cr 96 re i)/\(cr 96 re i).rows.length<=100
structure as4(ab:Int)(wg bd mv bf af re bx:RV):Prop where
 wk:ji=0
 nw:Y wg.rows<=8
 br:0<=ab/\ab<eD
 laf:Y af.rows=Y be.rows
 lbx:Y bx.rows=Y be.rows
 QQ:Y bd.rows=Y be.rows
 Mr:Y mv.rows=Y be.rows
 Ms:Y bf.rows=Y be.rows
 Mt:Y re.rows=Y be.rows
 gL:∀i<Y be.rows,b75 bd i=0/\YF bf i=0/\(if cb mv i 0 then m85 ab re i=0 else(cr 96 re i).rows=[])
 box:∀i<Y be.rows,vB bx i=J/\YF af i=0
 pth:∀g<Y wg.rows,sx (ci wg g) ab 4=0
def Bld(ab:Int)(Q X W V:RV)(i:Nat):Prop:=if cb Q i 0 then H4 ab X V i 13=0/\m90 ab X W V i 4=0 else jZ X W i 4=0
def Fst(v:RV)(id:Int)(m:Nat):Prop:=m<Y v.rows/\ci v m 0=id/\∀X<m,ci v X 0≠id
def m78(X:RV)(id:Int)(i:Nat):aV:=out 78 (wk++[.i id,.r (cz .str (cellAt X.rows (i:Int) 0)),.i (ci X i 1),.i (ci X i 2),.i (ci X i 3),.i (ci X i 4),.i (ci X i 5),.i (ci X i 6),.i (ci X i 7),.i (ci X i 8),.i (ci X i 9),.i (ci X i 10),.i (ci X i 11),.i (ci X i 12),.i (ci X i 13),.i (ci X i 14),.i (ci X i 15),.i (ci X i 16)])
def aA7(ab:Int)(X W V Q P:RV)(c:Nat->Int):Bool:=ob 103 (wk++[.i ab,.r X,.r W,.r V,.r Q,.r P]++bv c) 0
def aA8(ab:Int)(W V Q P X N:RV)(i k:Nat):Prop:=∀m,Fst (cr 96 X i) (ba (bL i ab) k 0) m->
 xi (m78 W (ba (bL i ab) k 0) i) 1=0/\
 ob 102 [.r (xr (m78 W (ba (bL i ab) k 0) i) 0),.i (ci (cr 96 X i) m 0),.i (ci (cr 96 X i) m 1),.i (ci (cr 96 X i) m 2),.b (cb (cr 96 X i) m 3)] 0=J/\
 (ba (bL i ab) k 4=7\/ba (bL i ab) k 4=8->cb (cr 96 X i) m 3=J\/aA7 ab V Q P X N (ba (bL i ab) k)=J)
def ahp(ab:Int)(X W V:RV)(i:Nat):aV:=out 104 (wk++[.i i,.i ab,.i (ci X i 0),.i (ci X i 1),.i (ci X i 2),.i (ci X i 3),.i (ci X i 4),.i (ci X i 5),.i (ci X i 6),.i (ci X i 7),.i (ci X i 8),.i (ci X i 9),.i (ci X i 10),.i (ci X i 11),.i (ci X i 12),.r W,.r (cr 96 V i)])
structure aA9(ab:Int)(bd mv bf af re bx:RV)(i:Nat):Prop where
 iD:∀j<13,ci af i j=gS ab mv bf re i j
 inb:aM (gB ab mv bf bd re i 0) (gB ab mv bf bd re i 1) (gB ab mv bf bd re i 2) (gB ab mv bf bd re i 3)=J/\vB bx i=J
 ins:QG (gB ab mv bf bd re i 0) (gB ab mv bf bd re i 1) (gB ab mv bf bd re i 2) (gB ab mv bf bd re i 3) (ci bx i 0) (ci bx i 1) (ci bx i 2) (ci bx i 3)=J
 HY:cb mv i 0=J->(∀k<(bL i ab).length,aA8 ab bd mv bf af re bx i k)/\xi (ahp ab bf bd re i) 1=0/\(xr (ahp ab bf bd re i) 0).rows=[]
def H5(ab:Int):aV:=out 23 (wk++[.i ab])
def exR(v X:RV):Nat->am
 |0=>[]
 |i+1=>exR v X i++[[.mk (.int I (jZ v X i 0)) [],.mk (.int I (jZ v X i 1)) [],.mk (.int I (jZ v X i 2)) [],.mk (.int I (jZ v X i 3)) []]]
def stB(v X:RV)(i k:Nat):Bool:=aM (jZ v X i 0) (jZ v X i 1) (jZ v X i 2) (jZ v X i 3)&&aM (jZ v X k 0) (jZ v X k 1) (jZ v X k 2) (jZ v X k 3)&&yU (jZ v X i 0) (jZ v X i 1) (jZ v X i 2) (jZ v X i 3) (jZ v X k 0) (jZ v X k 1) (jZ v X k 2) (jZ v X k 3)
structure aIk(ab:Int)(wg bd mv bf af re bx:RV):Prop where
 ex:as4 ab wg bd mv bf af re bx
 bld:∀i<Y be.rows,Bld ab mv bf bd re i
 ro:∀i<Y be.rows,aA9 ab bd mv bf af re bx i
 prs:xi (H5 ab) 1=0
 st1:∀i<Y be.rows,jZ bf bd i 4=0
 st2:∀i<Y be.rows,jZ af bd i 4=0
 cl:aA5 wg ab bx (bT (exR bf bd (Y be.rows))) (xr (H5 ab) 0)
 QO:∀p<(xr (H5 ab) 0).rows.length,stB bf bd (ci (xr (H5 ab) 0) p 0).toNat (ci (xr (H5 ab) 0) p 1).toNat=J/\stB af bd (ci (xr (H5 ab) 0) p 0).toNat (ci (xr (H5 ab) 0) p 1).toNat=J
def as8{j:Nat}(h:Y W=X):cellAt (W++[Q]) (X:Int) j=Q.getD j default:=by
 subst h;simp[cellAt]
def as9{w:am}{j:Nat}(h:X<Y W):cellAt (W++w) (X:Int) j=cellAt W (X:Int) j:=by
 simp[cellAt,aIB h]
end
def T.at:ai->T->T
 |[],t=>t
 |0::p,.node _ t _=>t.at p
 |_::p,.node _ _ f=>f.at p
 |_::p,.bj _ t=>t.at p
 |_::p,.call _ _ _ _ _ _ t=>t.at p
 |_::p,.loop _ _ _ t=>t.at p
 |_::p,.new _ _ _ _ t=>t.at p
 |_::p,.rows _ _ _ t=>t.at p
 |0::p,.gp _ _ t _=>t.at p
 |_::p,.gp _ _ _ f=>f.at p
 |0::p,.pick _ _ _ t _=>t.at p
 |_::p,.pick _ _ _ _ f=>f.at p
 |_::p,.dO _ _ _ _ _ _ _ t=>t.at p
 |_,t=>t
section
variable[Inhabited dJ]
section
def ahq{X:Type}[DecidableEq X]:∀{a b:List X},a.Nodup->(∀x∈a,x∈b)->Y a<=Y b
 |[],_,_,_=>aKG _
 |x::a,b,Q,W=>by
  have g:=aKn.1 Q;have V:x∈b:=W x (by simp);have:=ahq (a:=a) (b:=b.erase x) g.2 λy R=>(aLi (λe=>g.1 (by rw[<-e];exact R))).2 (W y (by simp[R]))
  rw[aK2 V] at this;have P:0<Y b:=aLN V;simp only[aJm];omega
def ata{W:Type}[DecidableEq W]:∀{a b:List W},a.Nodup->(∀x∈a,x∈b)->Y b<=Y a->a.Perm b
 |[],b,_,_,X=>by
  have:b=[]:=aJe.1 (Nat.le_zero.1 X);rw[this]
 |x::a,b,P,V,X=>by
  have g:=aKn.1 P;have R:x∈b:=V x (by simp);have:=ata (a:=a) (b:=b.erase x) g.2 (λy Q=>(aLi (λe=>g.1 (by rw[<-e];exact Q))).2 (V y (by simp[Q]))) (by rw[aK2 R];simp only[aJm] at X;omega);exact(this.cons x).trans (List.perm_cons_erase R).symm
structure Pk(n:Nat)(js:ai):Prop where
 nd:js.Nodup
 lt:∀j∈js,j<n
def Pk.nil(n:Nat):Pk n []:=⟨List.nodup_nil,by simp⟩
def Pk.add{j:Nat}(h:Pk X V)(Q:j∉V)(O:j<X):Pk X (V++[j]):=⟨aJz.2 ⟨h.nd,by simp,by intro a P b R e;simp at R;subst R;subst e;exact Q P⟩,by
 intro k W;rcases aIM.1 W with W|W;exact h.lt k W;simp at W;omega⟩
def Pk.len(h:Pk X V):Y V<=X:=by
 have:=ahq (b:=aI5 X) h.nd λj W=>aJQ.2 (h.lt j W)
 simpa using this
def Pk.perm(h:Pk X V)(W:X<=Y V):V.Perm (aI5 X):=ata h.nd (λj R=>aJQ.2 (h.lt j R)) (by simpa using W)
def Pk.more(P:¬X<=Y V):∃j<X,j∉V:=by
 apply Classical.byContradiction;intro W;have:∀x∈aI5 X,x∈V:=λx R=>Classical.byContradiction λQ=>W ⟨x,aJQ.1 R,Q⟩
 have:=ahq List.nodup_range this;simp at this;omega
end
section
variable{L:dN}
end
end
section
variable{R:bD->Prop}{a:aP}{t:T}{O:aa}{L:dN}
variable[Inhabited dJ]
end
section
variable[Inhabited dJ]



section
def HK(M:am)(k:Int)(i:Nat):Prop:=∃x∈M,aT 0 x=k/\aT 1 x=(i:Int)
def H6{c:aH}(W:Y c=4){k:Int}{i:Nat}:∀{M:am},yZ M->(HK (j8 3 c M) k i<->HK M k i\/(aT 0 c=k/\aT 1 c=(i:Int)))
 |[],_=>by simp[HK,j8]
 |r::V,h=>by
  have R:yZ V:=⟨(aIV.1 h.keys).2,λx Q=>h.four x (by simp[Q])⟩;have P:=H6 W (k:=k) (i:=i) R;have O:=as2 W (h.four r (by simp));simp only[j8];split;rename_i X;have X:=O.1 X;have N:=X 0 (by simp);have L:=X 1 (by simp);simp only[HK,aIK,exists_eq_or_imp,N,L]
  grind
  simp only[HK,aIK,exists_eq_or_imp] at P⊢
  grind
structure Tr(a b:Nat->Prop)(M:am):Prop where
 ok:yZ M
 ha:∀i,HK M 4 i<->a i
 hb:∀i,HK M 5 i<->b i
def Tr.nil:Tr (λ_=>False) (λ_=>False) []:=⟨yZ.nil,λi=>by simp[HK],λi=>by simp[HK]⟩
variable{a b:Nat->Prop}{M:am}{c:aH}
def Tr.aI(X:Y c=4)(W:aT 0 c≠4/\aT 0 c≠5)(h:Tr a b M):Tr a b (j8 3 c M):=
 ⟨h.ok.ins X,λi=>by rw[H6 X h.ok,h.ha];simp[W.1],λi=>by rw[H6 X h.ok,h.hb];simp[W.2]⟩
def Tr.iD(W:Y c=4)(V:aT 0 c=4)(R:aT 1 c=(X:Int))(h:Tr a b M):Tr (λi=>a i\/i=X) b (j8 3 c M):=
 ⟨h.ok.ins W,λi=>by rw[H6 W h.ok,h.ha,V,R];simp[show((X:Int)=(i:Int))<->i=X by omega],λi=>by rw[H6 W h.ok,h.hb,V];simp⟩
def Tr.box(W:Y c=4)(V:aT 0 c=5)(R:aT 1 c=(X:Int))(h:Tr a b M):Tr a (λi=>b i\/i=X) (j8 3 c M):=
 ⟨h.ok.ins W,λi=>by rw[H6 W h.ok,h.ha,V];simp,λi=>by rw[H6 W h.ok,h.hb,V,R];simp[show((X:Int)=(i:Int))<->i=X by omega]⟩
def Tr.congr{X W:Nat->Prop}(h:Tr a b M)(V:∀i,a i<->X i)(R:∀i,b i<->W i):Tr X W M:=⟨h.ok,λi=>(h.ha i).trans (V i),λi=>(h.hb i).trans (R i)⟩
end
end
section
variable{R:bD->Prop}{j:aP}{t:T}{O:aa}{L:dN}
variable[Inhabited dJ]
structure Bx(l0 h0 l1 h1:Int)(L H L' H':Int):Prop where
 a:L<=l0
 b:h0<=H
 c:L'<=l1
 d:h1<=H'
 e:-1099511627776<=L
 f:H<=1099511627776
 g:-1099511627776<=L'
 h:H'<=1099511627776
def Bd(p:Int):Prop:=-1099511627776<=p/\p<=1099511627776
def Bd.mn(X:Bd P)(W:Bd N):Bd (min P N):=by simp only[Bd] at*;omega
def Bd.mx(X:Bd P)(W:Bd N):Bd (max P N):=by simp only[Bd] at*;omega
def Bx.tip{X W L H V Q p M q G:Int}(k:Bx P N X W L H V Q)(F:Bd p)(D:Bd M)(C:Bd q)(B:Bd G):Bx P N X W (min L p) (max H M) (min V q) (max Q G):=by
 obtain⟨a,b,c,d,e,f,g,h⟩:=k;simp only[Bd] at*;constructor<;>omega
def YG{v:Int}(W:-1073741824<=P/\P<=1073741824)(V:1<=N/\N<=8)(X:V8 v):Bd (au .add I (au .mul I 29 P) (au .mul I N v)):=by
 unfold Bd;have:=Mq (x:=N) (m:=8) (by omega) X;simp only[au];rw[bJ (n:=29*P) (by omega) (by omega),bJ (n:=N*v) (by omega) (by omega),bJ (by omega) (by omega)];omega
set_option maxHeartbeats 8000000 in
def aBc (x:Nat->Int) (s:RV) (W:lQ s) (a:Nat->Int):∃o,TB.Ev 27 [.i (x 0),.i (x 1),.i (x 2),.i (x 3),.i (x 4),.i (x 5),.i (x 6),.i (x 7),.i (x 8),.i (x 9),.i (x 10),.i (x 11),.i (x 12),.r s,.i (a 1),.i (a 2),.i (a 3),.i (a 4),.i (a 5),.i (a 6),.i (a 7),.i (a 8),.i (a 9),.i (a 10),.i (a 11),.i (a 12),.i (a 13),.i (a 14),.i (a 15),.i (a 16)] o/\∃X,o=.ret X/\((xi X 4=0<->sw (x 0) (x 1) (x 2) (x 3) (x 4) (x 5) (x 6) (x 7) (x 8) (x 9) (x 10) (x 11) (x 12)=0/\ud s (a 1) (a 2) (a 3) (a 4) (a 5) (a 6) (a 7) (a 8) (a 9) (a 10) (a 11) (a 12) (a 13) (a 14) (a 15) (a 16)=0)/\(xi X 4=0->Bx (29*(x 0)-841) (29*(x 0)+841) (29*(x 1)-841) (29*(x 1)+841) (xi X 0) (xi X 1) (xi X 2) (xi X 3))):=by
 refine dm rfl rfl (.inl rfl) ?_;by_cases k:sw (x 0) (x 1) (x 2) (x 3) (x 4) (x 5) (x 6) (x 7) (x 8) (x 9) (x 10) (x 11) (x 12)=0;by_cases m:ud s (a 1) (a 2) (a 3) (a 4) (a 5) (a 6) (a 7) (a 8) (a 9) (a 10) (a 11) (a 12) (a 13) (a 14) (a 15) (a 16)=0
 ·have p:=(mN _ _ _ _ _ _ _ _ _ _ _ _ _).1 k;obtain⟨F,N,M,H⟩:=Yy s W _ _ _ _ _ _ _ _ _ _ _ _ _ _ _ _ m;have G:Bx (29*(x 0)-841) (29*(x 0)+841) (29*(x 1)-841) (29*(x 1)+841) (au .sub I (au .mul I 29 (x 0)) (au .mul I 841 (a 3))) (au .add I (au .mul I 29 (x 0)) (au .mul I 841 (a 3))) (au .sub I (au .mul I 29 (x 1)) (au .mul I 841 (a 3))) (au .add I (au .mul I 29 (x 1)) (au .mul I 841 (a 3))):=by
   have D:=p.x;have C:=p.y;simp only[au];rw[bJ (n:=29*(x 0)) (by omega) (by omega),bJ (n:=29*(x 1)) (by omega) (by omega),bJ (n:=841*(a 3)) (by omega) (by omega),bJ (n:=29*(x 0)-841*(a 3)) (by omega) (by omega),bJ (n:=29*(x 0)+841*(a 3)) (by omega) (by omega),bJ (n:=29*(x 1)-841*(a 3)) (by omega) (by omega),bJ (n:=29*(x 1)+841*(a 3)) (by omega) (by omega)];constructor<;>omega
  have V:∀r a b,1<=r/\r<=8->Bd (au .add I (au .mul I 29 (x 0)) (au .mul I r (oi 139 [.i a,.i b] 0))):=λr a b Q=>YG p.x Q (Mp a b).1
  have P:∀r a b,1<=r/\r<=8->Bd (au .add I (au .mul I 29 (x 1)) (au .mul I r (oi 139 [.i a,.i b] 1))):=λr a b Q=>YG p.y Q (Mp a b).2
  clear p;simp(config:={maxSteps:=10000000}) [CY,Fj s W,k,m,xi]
  repeat'(refine az (λ_=> ?_) (λ_=> ?_))
  all_goals first|with_reducible exact G|with_reducible refine Bx.tip G ?_ ?_ ?_ ?_
  all_goals repeat'(first|with_reducible apply Bd.mn|with_reducible apply Bd.mx)
  all_goals with_reducible first|exact V _ _ _ N|exact V _ _ _ M|exact V _ _ _ H|exact P _ _ _ N|exact P _ _ _ M|exact P _ _ _ H
 simp[CY,Fj s W,k,m,xi];simp[CY,Fj s W,k,xi]
end
section
variable[Inhabited dJ]
end
def QR:jH->jH->Prop
 |[],[]=>True
 |a::l,b::m=>a.aq=b.aq/\a.t=b.t/\jo a.O b.O/\QR l m
 |_,_=>False
def QR.find{aq:Nat}{W V:Lp}{l P:jH}:∀{N M:jH},QR N M->th aq N=U (W,l)->th aq M=U (V,P)->W.aq=V.aq/\W.t=V.t/\jo W.O V.O/\QR l P
 |[],[],_,h,_=>by simp[th] at h
 |a::s,b::D,h,R,X=>by
  simp only[th] at R X;obtain⟨L,G,F,H⟩:=h;rw[<-L] at X;split at R;rename_i Q;rw[if_pos Q] at X;cases R;cases X;exact⟨L,G,F,H⟩;rename_i Q;rw[if_neg Q] at X;exact QR.find H R X
section
variable{bm u:md}
end
section
variable{R:bD->Prop}{a:aP}{t:T}{O:aa}{L:dN}
variable[Inhabited dJ]
def aBd(v X:RV)(i:Nat):jZ v X i 4=0<->YF v i=0/\b75 X i=0:=by
 obtain⟨o,W,V,rfl,Q,P⟩:=aBc (ci v i) _ (yX (cellAt X.rows (i:Int) 0)) (ci X i);have e:∀k,jZ v X i k=xi V k:=λk=>by simp only[jZ,xo,oi,A6 W]
 rw[e];exact Q
end
section
variable[Inhabited dJ]
def SgE(ab:Int)(X V W:RV)(i:Nat):Prop:=(∀k<(bL i ab).length,∀m,Fst (cr 96 W i) (ba (bL i ab) k 0) m->xi (m78 X (ba (bL i ab) k 0) i) 1=0)/\xi (ahp ab V X W i) 1=0

def SgA(ab:Int)(X W V R:RV):Prop:=∀i<Y be.rows,cb W i 0=J->SgE ab X V R i

structure ObE(ab:Int)(wg bd mv bf af re bx:RV):Prop where
 ex:as4 ab wg bd mv bf af re bx
 bld:∀i<Y be.rows,Bld ab mv bf bd re i
 sge:SgA ab bd mv bf re
end
section
variable{R:bD->Prop}{a:aP}{t:T}{O:aa}{L:dN}
variable[Inhabited dJ]
def aBg:TB.Ev 43 [.r (bT []),.r (bT [])] (.ret [.b J]):=by
 refine bW rfl rfl (.inl rfl) ?_;simp[Yj];refine cZ 0 (λ_ X=>X=[]) ⟨0,rfl,by omega,rfl⟩ ?_;rintro i _ W rfl;simp[show i=0 by omega]
def aBh:TB.Ev 44 [.r (bT []),.r (bT [])] (.ret [.b J]):=by
 refine bW rfl rfl (.inl rfl) ?_;simp[Yk];refine cZ 0 (λ_ X=>X=[]) ⟨0,rfl,by omega,rfl⟩ ?_;rintro i _ W rfl;simp[show i=0 by omega]
def aBi:TB.Ev 45 [.r (bT []),.r (bT [])] (.ret [.b J]):=by
 refine bW rfl rfl (.inl rfl) ?_;simp[Yl];refine cZ 0 (λ_ X=>X=[]) ⟨0,rfl,by omega,rfl⟩ ?_;rintro i _ W rfl;simp[show i=0 by omega]
def aBj:TB.Ev 15 [.i 0,.r (bT []),.r (bT []),.r (bT []),.r (bT []),.r (bT []),.i 0,.r (bT []),.r (bT []),.r (bT []),.r (bT []),.r (bT [])] (.ret [.b J]):=by
 refine bW rfl rfl (.inl rfl) ?_;simp[Yi,aN aBg,aN aBh,aN aBi];refine cZ 0 (λ_ X=>X=[]) ⟨0,rfl,by omega,rfl⟩ ?_;rintro i _ W rfl;simp[show i=0 by omega]
def atb(v:am)(k:Nat):Nat:=(v.getD k []).length
structure Md(ab:Int)(bd mv bf re:RV)(vs vr vb:am):Prop where
 wk:ji=0
 br:0<=ab/\ab<eD
 QQ:Y bd.rows=Y be.rows
 Mr:Y mv.rows=Y be.rows
 Ms:Y bf.rows=Y be.rows
 Mt:Y re.rows=Y be.rows
 gL:∀i<Y be.rows,b75 bd i=0/\YF bf i=0/\(if cb mv i 0 then m85 ab re i=0 else(cr 96 re i).rows=[])
 ls:Y vs=Y be.rows
 lr:Y vr=Y be.rows
 lb:Y vb=Y be.rows
 al:∀k<Y be.rows,cellAt vr (k:Int) 0=bT (cr 96 re k).rows/\atb vs k=13/\atb vb k=4/\Bld ab mv bf bd re k/\(∀j<13,bB (cellAt vs (k:Int) j).val=gS ab mv bf re k j)/\∀j<4,bB (cellAt vb (k:Int) j).val=gB ab mv bf bd re k j
end
