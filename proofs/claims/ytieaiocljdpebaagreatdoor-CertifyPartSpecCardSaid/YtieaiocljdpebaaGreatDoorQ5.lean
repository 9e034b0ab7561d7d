/- Part 5 of the proof. -/
import Derived.Test.YtieaiocljdpebaaGreatDoorQ4
set_option linter.all false
set_option maxRecDepth 100000
set_option maxHeartbeats 100000000
open Bool renaming true->J,false->E
open Nat renaming zero_le->FJ
open List renaming mem_cons->dS,getElem?_append_left->dZ,mem_append->fh,range->fj,pairwise_cons->jS,getElem_mem->pl,length_cons->qI,mem_range->wV,nodup_append->zS,nodup_cons->T9,length_erase_of_mem->aKq,pairwise_singleton->aKs,length_pos_of_mem->aKx,mem_erase_of_ne->aKD,length->Y
open List.Pairwise renaming nil->yq
open Go.IntKind renaming i64->I
namespace Go.Proofs.YtieaiocljdpebaaGreatDoor.Y
open Go.RowKit
noncomputable section
variable{W:ar}{X:Nat}{V:aq}{Q P:Int}
def NZ(v:ar):Prop:=∀x∈v,fW (x.getD 3 default).val=E
def NZ.nil:NZ []:=λx X=>by simp at X
def NZ.at(h:NZ W)(V:X<Y W):fW (W[X].getD 3 default).val=false:=h _ (pl V)
def NZ.cell(h:NZ W)(V:X<Y W):fW (aZ W (X:Int) 3).val=false:=by
 have:=h.at V;simpa[aZ,V] using this
section
variable{R:bv->Prop}{a:aY}{t:T}{O:ai}{L:dE}
variable[Inhabited dB]
end
section
variable{R:bv->Prop}{d:aY}{t:T}{O:ai}{L:dE}
variable[Inhabited dB]
def vB(v:RV)(i:Nat):Bool:=bc (ci v i 0) (ci v i 1) (ci v i 2) (ci v i 3)
def S4(u:RV)(i:Nat)(w:RV)(k:Nat):Bool:=vB u i&&vB w k&&Bi (ci u i 0) (ci u i 1) (ci u i 2) (ci u i 3) (ci w k 0) (ci w k 1) (ci w k 2) (ci w k 3)
def flB(tX tY:Int)(u:RV)(i:Nat):Bool:=vB u i&&bc 0 (ay .mul I 841 tX) 0 (ay .mul I 841 tY)&&SP (ci u i 0) (ci u i 1) (ci u i 2) (ci u i 3) 0 (ay .mul I 841 tX) 0 (ay .mul I 841 tY)
def S5(X:RV):Nat->ar
 |0=>[]
 |i+1=>gO 2 [.mk (.int I (ci X i 0)) [],.mk (.int I (ci X i 1)) [],.mk (.bool J) []] (S5 X i)
def ZU(X:ar)(a b:Nat):Bool:=BE.ab ⟨[(a:Int),(b:Int)],[],[aI X],[]⟩ (.look (.v 0) 2 (.v 0) (.v 1) (.c 0) 2)
def atE(u:RV)(i:Nat)(X:RV)(ah:Int)(g:Nat):Bool:=vB u i&&bc (ny (ci X g) ah 0) (ny (ci X g) ah 1) (ny (ci X g) ah 2) (ny (ci X g) ah 3)&&Bi (ci u i 0) (ci u i 1) (ci u i 2) (ci u i 3) (ny (ci X g) ah 0) (ny (ci X g) ah 1) (ny (ci X g) ah 2) (ny (ci X g) ah 3)
structure ClE(wg:RV)(ah:Int)(mv hd pr:RV):Prop where
 wk:iD=0
 nw:Y wg.ae<=8
 inb:jm ah 0 (eu-1)=J
 lm:Y mv.ae=Y az.ae
 lh:Y hd.ae=Y az.ae
 vm:∀i<Y mv.ae,vB mv i=J
 vh:∀i<Y hd.ae,vB hd i=J
 prs:∀i<Y pr.ae,0<=ci pr i 0/\ci pr i 0<ci pr i 1/\ci pr i 1<Y az.ae
 pth:∀g<Y wg.ae,ny (ci wg g) ah 4=0
structure ClN(tX tY:Int)(az:RV)(wg:RV)(ah:Int)(mv hd pr:RV):Prop where
 n1:∀a<Y az.ae,∀b,a<b->b<Y az.ae->ZU (S5 pr (Y pr.ae)) a b=J\/S4 mv a mv b=J
 n2:∀a<Y az.ae,∀b,a<b->b<Y az.ae->ZU (S5 pr (Y pr.ae)) a b=J\/S4 mv a hd b=J
 n3:∀a<Y az.ae,∀b,a<b->b<Y az.ae->ZU (S5 pr (Y pr.ae)) a b=J\/S4 hd a mv b=J
 n4:∀a<Y az.ae,∀b,a<b->b<Y az.ae->ZU (S5 pr (Y pr.ae)) a b=J\/S4 hd a hd b=J
 wgs:∀a<Y az.ae,∀g<Y wg.ae,atE mv a wg ah g=J/\atE hd a wg ah g=J
 aLt:∀a<Y az.ae,flB tX tY mv a=J/\flB tX tY hd a=J
structure aCF(wg:RV)(ah:Int)(mv hd pr:RV):Prop extends ClE wg ah mv hd pr,ClN tX tY az wg ah mv hd pr
def atF{P:Nat->Prop}(h:∀k<X,P k)(W:P X):∀k<X+1,P k:=λk Q=>by
 by_cases V:k=X;subst V;exact W;exact h k aa
end
section
variable{lt:aM->aM->Bool}
def Dh(lt:aM->aM->Bool)(l:ar):Prop:=l.Pairwise λx y=>lt x y=J
def Dh.eq(R:∀x,lt x x=E)(Q:∀x y z,lt x y=J->lt y z=J->lt x z=J):∀{l X:ar},Dh lt l->Dh lt X->l.Perm X->l=X
 |[],X,_,_,h=>(List.Perm.nil_eq h)
 |x::l,[],_,_,h=>(by have:=h.length_eq;simp at this)
 |x::l,y::X,N,M,h=>by
  have P:=jS.1 N;have O:=jS.1 M;have L:x=y:=by
   have W:x∈y::X:=h.mem_iff.1 aw;have V:y∈x::l:=h.mem_iff.2 aw;rcases dS.1 W with W|W;exact W;rcases dS.1 V with V|V;exact V.symm;have:=Q _ _ _ (P.1 y V) (O.1 x W);rw[R] at this;cases this
  subst L;rw[Dh.eq R Q P.2 O.2 (List.perm_cons x|>.1 h)]
def atG(V:∀x y z,lt x y=J->lt y z=J->lt x z=J){x:aM}:∀{l:ar},Dh lt l->(∀y∈l,lt x y=J\/lt y x=J)->Dh lt (eB lt x l)
 |[],_,_=>aKs _ _
 |y::r,h,R=>by
  have g:=jS.1 h;simp only[eB];split;rename_i W;refine jS.2 ⟨λz X=> ?_,h⟩;rcases dS.1 X with rfl|X;exact W;exact V _ _ _ W (g.1 z X);rename_i W;have Q:lt y x=true:=(R y aw).resolve_left W;refine jS.2 ⟨λz X=> ?_,atG V g.2 λz X=>R z (by simp[X])⟩;rcases Vg.1 X with rfl|X;exact Q;exact g.1 z X
def atH(W:∀x y z,lt x y=J->lt y z=J->lt x z=J):∀(l acc:ar),Dh lt acc->(∀x∈l,∀y∈acc,lt x y=J\/lt y x=J)->l.Pairwise (λx y=>lt x y=J\/lt y x=J)->Dh lt (l.foldl (λacc x=>eB lt x acc) acc)
 |[],acc,h,_,_=>h
 |x::l,acc,h,V,Q=>by
  have g:=jS.1 Q;refine atH W l _ (atG W h λy X=>V x aw y X) (λz R y X=> ?_) g.2;rcases Vg.1 X with rfl|X;exact(g.1 z R).symm;exact V z (by simp[R]) y X
def atI(X:∀x y z,lt x y=J->lt y z=J->lt x z=J)(h:W.Pairwise (λx y=>lt x y=J\/lt y x=J)):Dh lt (bX lt W):=atH X W [] yq aw h
def aCG(Q:∀x,lt x x=E)(V:∀x y z,lt x y=J->lt y z=J->lt x z=J){X:ar}(R:X.Perm W)(h:W.Pairwise (λx y=>lt x y=J\/lt y x=J)):bX lt X=bX lt W:=by
 have P:X.Pairwise (λx y=>lt x y=J\/lt y x=J):=(R.symm.pairwise_iff (λ{x y} h=>h.symm)).1 h;exact Dh.eq Q V (atI V P) (atI V h) (((Df X).trans R).trans (Df W).symm)
end
def atJ(d:Bool):∀(X:aq)(x:aM),kg d X x x=E
 |[],_=>rfl
 |c::X,x=>by simp[kg,atJ d X x]
def atK(d:Bool):∀(Q:aq)(x y z:aM),kg d Q x y=J->kg d Q y z=J->kg d Q x z=J
 |[],_,_,_,h,_=>by simp[kg] at h
 |c::Q,x,y,z,V,X=>by
  simp only[kg] at V X⊢;by_cases R:aN c x=aN c y;by_cases W:aN c y=aN c z;rw[aL R] at V;rw[aL W] at X;rw[aL (R.trans W)];exact atK d Q x y z V X;rw[aP W] at X;rw[aP (by rw[R];exact W),R];exact X;rw[aP R] at V;by_cases W:aN c y=aN c z;rw[aP (by rw[<-W];exact R),<-W];exact V;rw[aP W] at X;cases d;simp at V X;rw[aP aa];simp;omega;simp at V X;rw[aP aa];simp;omega
def atL(X:aq)(W:ar):Prop:=W.Pairwise λx y=>∃c∈X,aN c x≠aN c y
def ahY{n:Nat}{X y:aM}:∀{m:ar},y∈gO n X m->y=X\/y∈m
 |[],h=>by simp[gO] at h;exact .inl h
 |r::W,h=>by
  simp only[gO] at h;split at h;rcases dS.1 h with h|h;exact .inl h;exact .inr (by simp[h]);rcases dS.1 h with h|h;exact .inr (by simp[h]);rcases ahY h with h|h;exact .inl h;exact .inr (by simp[h])
def atM{X r:aM}(W:Y X=4)(V:Y r=4):lD 3 ((X.take 3).map λc=>bp c.val) r=J<->∀c∈[0,1,2],aN c r=aN c X:=by
 match X,W,r,V with
 |[a,b,c,d],_,[R,Q,P,O],_=>simp[lD,aN]
structure Bp(m:ar):Prop where
 keys:atL [0,1,2] m
 four:∀x∈m,Y x=4
def Bp.nil:Bp []:=⟨yq,aw⟩
def Bp.ins{O:aM}(R:Y O=4):∀{m:ar},Bp m->Bp (gO 3 O m)
 |[],_=>⟨by simp[gO,atL],by simp[gO,R]⟩
 |r::M,h=>by
  have g:=jS.1 h.keys;have cG:Bp M:=⟨g.2,λx X=>h.four x (by simp[X])⟩;have L:=Bp.ins R cG;have N:=atM R (h.four r aw);refine⟨?_,λx X=> ?_⟩;simp only[gO];split;rename_i W;have W:=N.1 W;refine jS.2 ⟨λy V=> ?_,g.2⟩;obtain⟨c,Q,P⟩:=g.1 y V;exact⟨c,Q,by rw[<-W c Q];exact P⟩;rename_i W;refine jS.2 ⟨λy V=> ?_,L.keys⟩;rcases ahY V with rfl|V;have:¬∀c∈[0,1,2],aN c r=aN c y:=λH=>W (N.2 H)
  simp only[Classical.not_forall] at this;obtain⟨c,Q,P⟩:=this;exact⟨c,Q,P⟩;exact g.1 y V;rcases ahY X with rfl|X;exact R;exact h.four x X
section
variable{R:bv->Prop}{a:aY}{t:T}{O:ai}{L:dE}
variable[Inhabited dB]
@[simp] def aLu (v:RV) (X W V Q P N M H G F D B A z y x:Int):fZ TB.Ev R 75 [.r (db .str v),.i X,.i W,.i V,.i Q,.i P,.i N,.i M,.i H,.i G,.i F,.i D,.i B,.i A,.i z,.i y,.i x] a t O L=f8 TB.Ev R (.ret [.i (wH (db .str v) X W V Q P N M H G F D B A z y x)]) a t O L:=HG _ (yg v) X W V Q P N M H G F D B A z y x
def zE(X W V Q P N M H G F D B A:Int)(s:RV)(z y x w v u q p o n m l j h g f:Int)(k:Nat):Int:=oi 27 [.i X,.i W,.i V,.i Q,.i P,.i N,.i M,.i H,.i G,.i F,.i D,.i B,.i A,.r s,.i z,.i y,.i x,.i w,.i v,.i u,.i q,.i p,.i o,.i n,.i m,.i l,.i j,.i h,.i g,.i f] k
@[simp] def c27 (X W V Q P N M H G F D B A:Int) (v:RV) (z y x w u s q p o n m l k j h g:Int):fZ TB.Ev R 27 [.i X,.i W,.i V,.i Q,.i P,.i N,.i M,.i H,.i G,.i F,.i D,.i B,.i A,.r (db .str v),.i z,.i y,.i x,.i w,.i u,.i s,.i q,.i p,.i o,.i n,.i m,.i l,.i k,.i j,.i h,.i g] a t O L=f8 TB.Ev R (.ret [.i (zE X W V Q P N M H G F D B A (db .str v) z y x w u s q p o n m l k j h g 0),.i (zE X W V Q P N M H G F D B A (db .str v) z y x w u s q p o n m l k j h g 1),.i (zE X W V Q P N M H G F D B A (db .str v) z y x w u s q p o n m l k j h g 2),.i (zE X W V Q P N M H G F D B A (db .str v) z y x w u s q p o n m l k j h g 3),.i (zE X W V Q P N M H G F D B A (db .str v) z y x w u s q p o n m l k j h g 4)]) a t O L:=aT (nx (kI 5) (t27 X W V Q P N M H G F D B A _ (yg v) z y x w u s q p o n m l k j h g))
def b75(X:RV)(i:Nat):Int:=wH (db .str (aZ X.ae (i:Int) 0)) (ci X i 1) (ci X i 2) (ci X i 3) (ci X i 4) (ci X i 5) (ci X i 6) (ci X i 7) (ci X i 8) (ci X i 9) (ci X i 10) (ci X i 11) (ci X i 12) (ci X i 13) (ci X i 14) (ci X i 15) (ci X i 16)
def Kh(v:RV)(i:Nat):Int:=vc (ci v i 0) (ci v i 1) (ci v i 2) (ci v i 3) (ci v i 4) (ci v i 5) (ci v i 6) (ci v i 7) (ci v i 8) (ci v i 9) (ci v i 10) (ci v i 11) (ci v i 12)
def lS(v X:RV)(i k:Nat):Int:=zE (ci v i 0) (ci v i 1) (ci v i 2) (ci v i 3) (ci v i 4) (ci v i 5) (ci v i 6) (ci v i 7) (ci v i 8) (ci v i 9) (ci v i 10) (ci v i 11) (ci v i 12) (db .str (aZ X.ae (i:Int) 0)) (ci X i 1) (ci X i 2) (ci X i 3) (ci X i 4) (ci X i 5) (ci X i 6) (ci X i 7) (ci X i 8) (ci X i 9) (ci X i 10) (ci X i 11) (ci X i 12) (ci X i 13) (ci X i 14) (ci X i 15) (ci X i 16) k
def m85(ah:Int)(X:RV)(i:Nat):Int:=oi 85 (wk++[.i i,.i ah,.r (cr 96 X i)]) 0
def Di(ah:Int)(X W:RV)(i k:Nat):Int:=oi 89 (wk++[.i i,.i ah,.i (ci X i 0),.i (ci X i 1),.i (ci X i 2),.i (ci X i 3),.i (ci X i 4),.i (ci X i 5),.i (ci X i 6),.i (ci X i 7),.i (ci X i 8),.i (ci X i 9),.i (ci X i 10),.i (ci X i 11),.i (ci X i 12),.r (cr 96 W i)]) k
def ZV(ah:Int)(W X V:RV)(i k:Nat):Int:=oi 90 (wk++[.i i,.i ah,.i (ci W i 0),.i (ci W i 1),.i (ci W i 2),.i (ci W i 3),.i (ci W i 4),.i (ci W i 5),.i (ci W i 6),.i (ci W i 7),.i (ci W i 8),.i (ci W i 9),.i (ci W i 10),.i (ci W i 11),.i (ci W i 12),.r (db .str (aZ X.ae (i:Int) 0)),.i (ci X i 1),.i (ci X i 2),.i (ci X i 3),.i (ci X i 4),.i (ci X i 5),.i (ci X i 6),.i (ci X i 7),.i (ci X i 8),.i (ci X i 9),.i (ci X i 10),.i (ci X i 11),.i (ci X i 12),.i (ci X i 13),.i (ci X i 14),.i (ci X i 15),.i (ci X i 16),.r (cr 96 V i)]) k
def gS(ah:Int)(W X V:RV)(i k:Nat):Int:=if cb W i 0 then Di ah X V i k else ci X i k
def gB(ah:Int)(V X W Q:RV)(i k:Nat):Int:=if cb V i 0 then ZV ah X W Q i k else lS X W i k
structure ZW(az wg bd mv bf af re bx:RV):Prop where
 wg:Sl wg
 bd:Sl bd
 mv:Sl mv
 bf:Sl bf
 af:Sl af
 S7:Sl re
 bx:Sl bx
 jf:∀i<Y re.ae,Sl (cr 96 re i)/\(cr 96 re i).ae.length<=100
structure atO(ah:Int)(wg bd mv bf af re bx:RV):Prop where
 wk:iD=0
 nw:Y wg.ae<=8
 br:0<=ah/\ah<eu
 N0:Y af.ae=Y az.ae
 N1:Y bx.ae=Y az.ae
 Fh:Y bd.ae=Y az.ae
 rA:Y mv.ae=Y az.ae
 Bq:Y bf.ae=Y az.ae
 rB:Y re.ae=Y az.ae
 jw:∀i<Y az.ae,b75 bd i=0/\Kh bf i=0/\(if cb mv i 0 then m85 ah re i=0 else(cr 96 re i).ae=[])
 box:∀i<Y az.ae,vB bx i=J/\Kh af i=0
 pth:∀g<Y wg.ae,ny (ci wg g) ah 4=0
def Bld(ah:Int)(Q X W V:RV)(i:Nat):Prop:=if cb Q i 0 then Di ah X V i 13=0/\ZV ah X W V i 4=0 else lS X W i 4=0
def Fst(v:RV)(id:Int)(m:Nat):Prop:=m<Y v.ae/\ci v m 0=id/\∀X<m,ci v X 0≠id
def m78(X:RV)(id:Int)(i:Nat):bn:=out 78 (wk++[.i id,.r (db .str (aZ X.ae (i:Int) 0)),.i (ci X i 1),.i (ci X i 2),.i (ci X i 3),.i (ci X i 4),.i (ci X i 5),.i (ci X i 6),.i (ci X i 7),.i (ci X i 8),.i (ci X i 9),.i (ci X i 10),.i (ci X i 11),.i (ci X i 12),.i (ci X i 13),.i (ci X i 14),.i (ci X i 15),.i (ci X i 16)])
def aCH(ah:Int)(X W V Q P:RV)(c:Nat->Int):Bool:=ob 103 (wk++[.i ah,.r X,.r W,.r V,.r Q,.r P]++bG c) 0
def aCI(ah:Int)(W V Q P X N:RV)(i k:Nat):Prop:=∀m,Fst (cr 96 X i) (bu (ck i ah) k 0) m->
 xi (m78 W (bu (ck i ah) k 0) i) 1=0/\
 ob 102 [.r (xr (m78 W (bu (ck i ah) k 0) i) 0),.i (ci (cr 96 X i) m 0),.i (ci (cr 96 X i) m 1),.i (ci (cr 96 X i) m 2),.b (cb (cr 96 X i) m 3)] 0=J/\
 (bu (ck i ah) k 4=7\/bu (ck i ah) k 4=8->cb (cr 96 X i) m 3=J\/aCH ah V Q P X N (bu (ck i ah) k)=J)
def ah2(ah:Int)(X W V:RV)(i:Nat):bn:=out 104 (wk++[.i i,.i ah,.i (ci X i 0),.i (ci X i 1),.i (ci X i 2),.i (ci X i 3),.i (ci X i 4),.i (ci X i 5),.i (ci X i 6),.i (ci X i 7),.i (ci X i 8),.i (ci X i 9),.i (ci X i 10),.i (ci X i 11),.i (ci X i 12),.r W,.r (cr 96 V i)])
structure aCJ(ah:Int)(bd mv bf af re bx:RV)(i:Nat):Prop where
 j9:∀j<13,ci af i j=gS ah mv bf re i j
 inb:bc (gB ah mv bf bd re i 0) (gB ah mv bf bd re i 1) (gB ah mv bf bd re i 2) (gB ah mv bf bd re i 3)=J/\vB bx i=J
 ins:SP (gB ah mv bf bd re i 0) (gB ah mv bf bd re i 1) (gB ah mv bf bd re i 2) (gB ah mv bf bd re i 3) (ci bx i 0) (ci bx i 1) (ci bx i 2) (ci bx i 3)=J
 HE:cb mv i 0=J->(∀k<(ck i ah).length,aCI ah bd mv bf af re bx i k)/\xi (ah2 ah bf bd re i) 1=0/\(xr (ah2 ah bf bd re i) 0).ae=[]
def Ki(ah:Int):bn:=out 23 (wk++[.i ah])
def exR(v X:RV):Nat->ar
 |0=>[]
 |i+1=>exR v X i++[[.mk (.int I (lS v X i 0)) [],.mk (.int I (lS v X i 1)) [],.mk (.int I (lS v X i 2)) [],.mk (.int I (lS v X i 3)) []]]
def stB(v X:RV)(i k:Nat):Bool:=bc (lS v X i 0) (lS v X i 1) (lS v X i 2) (lS v X i 3)&&bc (lS v X k 0) (lS v X k 1) (lS v X k 2) (lS v X k 3)&&Bi (lS v X i 0) (lS v X i 1) (lS v X i 2) (lS v X i 3) (lS v X k 0) (lS v X k 1) (lS v X k 2) (lS v X k 3)
structure aLw(ah:Int)(wg bd mv bf af re bx:RV):Prop where
 ex:atO ah wg bd mv bf af re bx
 bld:∀i<Y az.ae,Bld ah mv bf bd re i
 ro:∀i<Y az.ae,aCJ ah bd mv bf af re bx i
 prs:xi (Ki ah) 1=0
 st1:∀i<Y az.ae,lS bf bd i 4=0
 st2:∀i<Y az.ae,lS af bd i 4=0
 cl:aCF wg ah bx (aI (exR bf bd (Y az.ae))) (xr (Ki ah) 0)
 S4:∀p<(xr (Ki ah) 0).ae.length,stB bf bd (ci (xr (Ki ah) 0) p 0).toNat (ci (xr (Ki ah) 0) p 1).toNat=J/\stB af bd (ci (xr (Ki ah) 0) p 0).toNat (ci (xr (Ki ah) 0) p 1).toNat=J
def ah3{V:aM}{j:Nat}(h:Y W=X):aZ (W++[V]) (X:Int) j=V.getD j default:=by
 subst h;simp[aZ]
def ah4{w:ar}{j:Nat}(h:X<Y W):aZ (W++w) (X:Int) j=aZ W (X:Int) j:=by
 simp[aZ,dZ h]
end
def T.at:aq->T->T
 |[],t=>t
 |0::p,.bi _ t _=>t.at p
 |_::p,.bi _ _ f=>f.at p
 |_::p,.bA _ t=>t.at p
 |_::p,.call _ _ _ _ _ _ t=>t.at p
 |_::p,.loop _ _ _ t=>t.at p
 |_::p,.new _ _ _ _ t=>t.at p
 |_::p,.ae _ _ _ t=>t.at p
 |0::p,.gA _ _ t _=>t.at p
 |_::p,.gA _ _ _ f=>f.at p
 |0::p,.pick _ _ _ t _=>t.at p
 |_::p,.pick _ _ _ _ f=>f.at p
 |_::p,.ez _ _ _ _ _ _ _ t=>t.at p
 |_,t=>t
section
variable[Inhabited dB]
section
def ZX(X:aq):ar:=X.map λ(j:Nat)=>[iV (j:Int)]
def atT{X:Type}[DecidableEq X]:∀{a b:List X},a.Nodup->(∀x∈a,x∈b)->Y a<=Y b
 |[],_,_,_=>FJ _
 |x::a,b,Q,W=>by
  have g:=T9.1 Q;have V:x∈b:=W x aw;have:=atT (a:=a) (b:=b.erase x) g.2 λy R=>(aKD (λe=>g.1 (by rw[<-e];exact R))).2 (W y (by simp[R]))
  rw[aKq V] at this;have P:0<Y b:=aKx V;simp only[qI];omega
structure Pk(n:Nat)(js:aq):Prop where
 nd:js.Nodup
 lt:∀j∈js,j<n
def Pk.nil(n:Nat):Pk n []:=⟨List.nodup_nil,aw⟩
def Pk.add{j:Nat}(h:Pk X V)(Q:j∉V)(O:j<X):Pk X (V++[j]):=⟨zS.2 ⟨h.nd,aw,by intro a P b R e;simp at R;subst R;subst e;exact Q P⟩,by
 intro k W;rcases fh.1 W with W|W;exact h.lt k W;simp at W;omega⟩
def Pk.len(h:Pk X V):Y V<=X:=by
 have:=atT (b:=fj X) h.nd λj W=>wV.2 (h.lt j W)
 simpa using this
end
section
variable{L:dE}
end
end
section
variable{R:bv->Prop}{a:aY}{t:T}{O:ai}{L:dE}
variable[Inhabited dB]
end
section
variable[Inhabited dB]



section
def HK(M:ar)(k:Int)(i:Nat):Prop:=∃x∈M,aN 0 x=k/\aN 1 x=(i:Int)
def S8{c:aM}(W:Y c=4){k:Int}{i:Nat}:∀{M:ar},Bp M->(HK (gO 3 c M) k i<->HK M k i\/(aN 0 c=k/\aN 1 c=(i:Int)))
 |[],_=>by simp[HK,gO]
 |r::V,h=>by
  have cG:Bp V:=⟨(jS.1 h.keys).2,λx R=>h.four x (by simp[R])⟩;have Q:=S8 W (k:=k) (i:=i) cG;have P:=atM W (h.four r aw);simp only[gO];split;rename_i X;have X:=P.1 X;have O:=X 0 aw;have N:=X 1 aw;simp only[HK,dS,exists_eq_or_imp,O,N]
  grind
  simp only[HK,dS,exists_eq_or_imp] at Q⊢
  grind
structure Tr(a b:Nat->Prop)(M:ar):Prop where
 ok:Bp M
 ha:∀i,HK M 4 i<->a i
 hb:∀i,HK M 5 i<->b i
def Tr.nil:Tr (λ_=>False) (λ_=>False) []:=⟨Bp.nil,λi=>by simp[HK],λi=>by simp[HK]⟩
variable{a b:Nat->Prop}{M:ar}{c:aM}
def Tr.aS(X:Y c=4)(W:aN 0 c≠4/\aN 0 c≠5)(h:Tr a b M):Tr a b (gO 3 c M):=
 ⟨h.ok.ins X,λi=>by rw[S8 X h.ok,h.ha];simp[W.1],λi=>by rw[S8 X h.ok,h.hb];simp[W.2]⟩
def Tr.box(W:Y c=4)(V:aN 0 c=5)(R:aN 1 c=(X:Int))(h:Tr a b M):Tr a (λi=>b i\/i=X) (gO 3 c M):=
 ⟨h.ok.ins W,λi=>by rw[S8 W h.ok,h.ha,V];simp,λi=>by rw[S8 W h.ok,h.hb,V,R];simp[show((X:Int)=(i:Int))<->i=X from aa]⟩
def Tr.congr{X W:Nat->Prop}(h:Tr a b M)(V:∀i,a i<->X i)(R:∀i,b i<->W i):Tr X W M:=⟨h.ok,λi=>(h.ha i).trans (V i),λi=>(h.hb i).trans (R i)⟩
end
end
section
variable{R:bv->Prop}{j:aY}{t:T}{O:ai}{L:dE}
variable[Inhabited dB]
structure Bx(l0 h0 l1 h1:Int)(L H L' H':Int):Prop where
 a:L<=l0
 b:h0<=H
 c:L'<=l1
 d:h1<=H'
 e:-1099511627776<=L
 f:H<=1099511627776
 g:-1099511627776<=L'
 h:H'<=1099511627776
def Bd(p:Int):Prop:=-1099511627776<=p/\p<=1099511627776
def Bd.mn(X:Bd Q)(W:Bd P):Bd (min Q P):=by simp only[Bd] at*;omega
def Bd.mx(X:Bd Q)(W:Bd P):Bd (max Q P):=by simp only[Bd] at*;omega
def Bx.tip{X W L H V N p M q G:Int}(k:Bx Q P X W L H V N)(F:Bd p)(D:Bd M)(B:Bd q)(A:Bd G):Bx Q P X W (min L p) (max H M) (min V q) (max N G):=by
 obtain⟨a,b,c,d,e,f,g,h⟩:=k;simp only[Bd] at*;constructor<;>omega
def ZY{v:Int}(W:-1073741824<=Q/\Q<=1073741824)(V:1<=P/\P<=8)(X:V8 v):Bd (ay .add I (ay .mul I 29 Q) (ay .mul I P v)):=by
 unfold Bd;have:=NY (x:=P) (m:=8) aa X;simp only[ay];rw[bO (n:=29*Q) aa aa,bO (n:=P*v) aa aa,bO aa aa];omega
def aCM(x:Nat->Int)(s:RV)(W:nT s)(a:Nat->Int):∃o,TB.Ev 27 [.i (x 0),.i (x 1),.i (x 2),.i (x 3),.i (x 4),.i (x 5),.i (x 6),.i (x 7),.i (x 8),.i (x 9),.i (x 10),.i (x 11),.i (x 12),.r s,.i (a 1),.i (a 2),.i (a 3),.i (a 4),.i (a 5),.i (a 6),.i (a 7),.i (a 8),.i (a 9),.i (a 10),.i (a 11),.i (a 12),.i (a 13),.i (a 14),.i (a 15),.i (a 16)] o/\∃X,o=.ret X/\((xi X 4=0<->vc (x 0) (x 1) (x 2) (x 3) (x 4) (x 5) (x 6) (x 7) (x 8) (x 9) (x 10) (x 11) (x 12)=0/\wH s (a 1) (a 2) (a 3) (a 4) (a 5) (a 6) (a 7) (a 8) (a 9) (a 10) (a 11) (a 12) (a 13) (a 14) (a 15) (a 16)=0)/\(xi X 4=0->Bx (29*(x 0)-841) (29*(x 0)+841) (29*(x 1)-841) (29*(x 1)+841) (xi X 0) (xi X 1) (xi X 2) (xi X 3))):=by
 refine dR ?_;by_cases k:vc (x 0) (x 1) (x 2) (x 3) (x 4) (x 5) (x 6) (x 7) (x 8) (x 9) (x 10) (x 11) (x 12)=0;by_cases m:wH s (a 1) (a 2) (a 3) (a 4) (a 5) (a 6) (a 7) (a 8) (a 9) (a 10) (a 11) (a 12) (a 13) (a 14) (a 15) (a 16)=0
 ·have p:=(o7 _ _ _ _ _ _ _ _ _ _ _ _ _).1 k;obtain⟨F,N,M,H⟩:=ZO s W _ _ _ _ _ _ _ _ _ _ _ _ _ _ _ _ m;have G:Bx (29*(x 0)-841) (29*(x 0)+841) (29*(x 1)-841) (29*(x 1)+841) (ay .sub I (ay .mul I 29 (x 0)) (ay .mul I 841 (a 3))) (ay .add I (ay .mul I 29 (x 0)) (ay .mul I 841 (a 3))) (ay .sub I (ay .mul I 29 (x 1)) (ay .mul I 841 (a 3))) (ay .add I (ay .mul I 29 (x 1)) (ay .mul I 841 (a 3))):=by
   have D:=p.x;have B:=p.y;simp only[ay];rw[bO (n:=29*(x 0)) aa aa,bO (n:=29*(x 1)) aa aa,bO (n:=841*(a 3)) aa aa,bO (n:=29*(x 0)-841*(a 3)) aa aa,bO (n:=29*(x 0)+841*(a 3)) aa aa,bO (n:=29*(x 1)-841*(a 3)) aa aa,bO (n:=29*(x 1)+841*(a 3)) aa aa];constructor<;>omega
  have V:∀r a b,1<=r/\r<=8->Bd (ay .add I (ay .mul I 29 (x 0)) (ay .mul I r (oi 139 [.i a,.i b] 0))):=λr a b Q=>ZY p.x Q (NX a b).1
  have P:∀r a b,1<=r/\r<=8->Bd (ay .add I (ay .mul I 29 (x 1)) (ay .mul I r (oi 139 [.i a,.i b] 1))):=λr a b Q=>ZY p.y Q (NX a b).2
  clear p;simp(maxSteps:=9999999) [Fb,HG s W,k,m,xi]
  repeat'(refine ax (λ_=> ?_) (λ_=> ?_))
  all_goals first|with_reducible exact G|with_reducible refine Bx.tip G ?_ ?_ ?_ ?_
  all_goals repeat'(first|with_reducible apply Bd.mn|with_reducible apply Bd.mx)
  all_goals with_reducible first|exact V _ _ _ N|exact V _ _ _ M|exact V _ _ _ H|exact P _ _ _ N|exact P _ _ _ M|exact P _ _ _ H
 simp[Fb,HG s W,k,m,xi];simp[Fb,HG s W,k,xi]
end
section
variable[Inhabited dB]
end
section
variable{bC u:og}
end
section
variable{R:bv->Prop}{a:aY}{t:T}{O:ai}{L:dE}
variable[Inhabited dB]
def ah5(v X:RV)(i:Nat):lS v X i 4=0<->Kh v i=0/\b75 X i=0:=by
 obtain⟨o,W,V,rfl,Q,P⟩:=aCM (ci v i) _ (yg (aZ X.ae (i:Int) 0)) (ci X i);have e:∀k,lS v X i k=xi V k:=λk=>by simp only[lS,zE,oi,De W]
 rw[e];exact Q
end
section
variable[Inhabited dB]
def SgE(ah:Int)(X V W:RV)(i:Nat):Prop:=(∀k<(ck i ah).length,∀m,Fst (cr 96 W i) (bu (ck i ah) k 0) m->xi (m78 X (bu (ck i ah) k 0) i) 1=0)/\xi (ah2 ah V X W i) 1=0

def SgA(ah:Int)(X W V R:RV):Prop:=∀i<Y az.ae,cb W i 0=J->SgE ah X V R i

structure ObE(ah:Int)(wg bd mv bf af re bx:RV):Prop where
 ex:atO ah wg bd mv bf af re bx
 bld:∀i<Y az.ae,Bld ah mv bf bd re i
 sge:SgA ah bd mv bf re
end
section
variable{R:bv->Prop}{a:aY}{t:T}{O:ai}{L:dE}
variable[Inhabited dB]
def aCP:TB.Ev 43 [.r (aI []),.r (aI [])] (.ret [.b J]):=by
 refine ce ?_;simp[ZB];refine cP 0 (λ_ X=>X=[]) ⟨0,rfl,aa,rfl⟩ ?_;rintro i _ W rfl;simp[show i=0 from aa]
def aCQ:TB.Ev 44 [.r (aI []),.r (aI [])] (.ret [.b J]):=by
 refine ce ?_;simp[ZC];refine cP 0 (λ_ X=>X=[]) ⟨0,rfl,aa,rfl⟩ ?_;rintro i _ W rfl;simp[show i=0 from aa]
def aCR:TB.Ev 45 [.r (aI []),.r (aI [])] (.ret [.b J]):=by
 refine ce ?_;simp[ZD];refine cP 0 (λ_ X=>X=[]) ⟨0,rfl,aa,rfl⟩ ?_;rintro i _ W rfl;simp[show i=0 from aa]
def aCS:TB.Ev 15 [.i 0,.r (aI []),.r (aI []),.r (aI []),.r (aI []),.r (aI []),.i 0,.r (aI []),.r (aI []),.r (aI []),.r (aI []),.r (aI [])] (.ret [.b J]):=by
 refine ce ?_;simp[ZA,aT aCP,aT aCQ,aT aCR];refine cP 0 (λ_ X=>X=[]) ⟨0,rfl,aa,rfl⟩ ?_;rintro i _ W rfl;simp[show i=0 from aa]
def atU(v:ar)(k:Nat):Nat:=(v.getD k []).length
structure Md(ah:Int)(bd mv bf re:RV)(vs vr vb:ar):Prop where
 wk:iD=0
 br:0<=ah/\ah<eu
 Fh:Y bd.ae=Y az.ae
 rA:Y mv.ae=Y az.ae
 Bq:Y bf.ae=Y az.ae
 rB:Y re.ae=Y az.ae
 jw:∀i<Y az.ae,b75 bd i=0/\Kh bf i=0/\(if cb mv i 0 then m85 ah re i=0 else(cr 96 re i).ae=[])
 ls:Y vs=Y az.ae
 lr:Y vr=Y az.ae
 lb:Y vb=Y az.ae
 al:∀k<Y az.ae,aZ vr (k:Int) 0=aI (cr 96 re k).ae/\atU vs k=13/\atU vb k=4/\Bld ah mv bf bd re k/\(∀j<13,bp (aZ vs (k:Int) j).val=gS ah mv bf re k j)/\∀j<4,bp (aZ vb (k:Int) j).val=gB ah mv bf bd re k j
end
section
variable[Inhabited dB]
variable{ah:Int}{c d e a:RV}{f b g:ar}
def Md.cr(k:Md ah c d e a f b g){i:Nat}(X:i<Y az.ae):cr 96 (aI b) i=aI (cr 96 a i).ae:=by
 have:=(k.al i X).1;simp only[Y.cr,ahN,this];rfl
end
