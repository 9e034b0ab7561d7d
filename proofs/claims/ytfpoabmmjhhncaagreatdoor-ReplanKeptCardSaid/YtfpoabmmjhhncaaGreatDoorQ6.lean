/- Part 6 of the proof. -/
import Derived.Test.YtfpoabmmjhhncaaGreatDoorQ5
set_option linter.all false
set_option maxRecDepth 100000
set_option maxHeartbeats 100000000
open Bool renaming true->J,false->E
open List renaming getElem?_append_left->dF,mem_append->eC,mem_cons->dJ,pairwise_cons->iv,range->e8,length_cons->pO,nodup_append->uE,mem_range->vZ,nodup_cons->NO,length_erase_of_mem->aw2,length_pos_of_mem->axa,mem_erase_of_ne->axg,length->Y
open Nat renaming zero_le->NT
open List.Pairwise renaming nil->uD
open Go.IntKind renaming i64->I
namespace Go.Proofs.YtfpoabmmjhhncaaGreatDoor.Y
open Go.RowKit
noncomputable section
variable{V:Nat}{X W:Nat→Int}{Q:Int}{P:ap}
section
variable{R:aU->Prop}{G:aI}{t:T}{O:ai}{L:cG}
variable[Inhabited cm]

def M5(v:RV)(q:Nat):Int:=St (ci v q 0) (ci v q 1) (ci v q 2) (ci v q 3) (ci v q 4) (ci v q 5) (ci v q 6) (ci v q 7) (ci v q 8) (ci v q 9) (ci v q 10) (ci v q 11) (ci v q 12)
structure Kno(ca kn op:RV)(i:Nat):Prop where
 one:1<=(cr 93 kn i).ae.length
 two:(cr 93 kn i).ae.length<=2
 opn:(cr 93 kn i).ae.length=2<->ci op i 0≠0
 ne:(cr 93 kn i).ae.length=2->∃j<13,ci (cr 93 kn i) 0 j≠ci (cr 93 kn i) 1 j
 gF:∀q<(cr 93 kn i).ae.length,M5 (cr 93 kn i) q=0
 ar:ci op i 0≠0->0<=bH .sub I (ci op i 0) 1/\bH .sub I (ci op i 0) 1<Y ca.ae/\bF (bz ca.ae (bH .sub I (ci op i 0) 1) 0).val≠0

variable{a c d g b ca kn op:RV}{dO:Int}{e:Bool}
structure ayc(ca kn op:RV):Prop where
 ca:Sl ca
 kn:Sl kn
 op:Sl op
structure Dl(d g ca kn op:RV)(dO:Int):Prop where
 calls:Y ca.ae<=Y g.ae
 cast:0<=dO/\dO<Y d.ae
 knl:Y kn.ae=Y aM.ae
 opl:Y op.ae=Y aM.ae
 call:∀i<Y ca.ae,0<=ci ca i 0/\ci ca i 0<=(cr 62 g i).ae.length
 kno:∀i<Y kn.ae,Kno ca kn op i
end
section
variable[Inhabited cm]
end
section
variable{R:aU->Prop}{G:aI}{t:T}{O:ai}{L:cG}
variable[Inhabited cm]
def SA(x:Nat->Int)(v:aq)(n:Nat):Prop:=∀i<n,M0 x v (i+1) 13=0

def SB(e:Int):aX:=[.i 0,.i 0,.i 0,.i 0,.i 0,.i 0,.i 0,.i 0,.i 0,.i 0,.i 0,.i 0,.i 0,.i e]
def stE(s:Nat->Int):aX:=[.i (s 0),.i (s 1),.i (s 2),.i (s 3),.i (s 4),.i (s 5),.i (s 6),.i (s 7),.i (s 8),.i (s 9),.i (s 10),.i (s 11),.i (s 12),.i 0]
structure EnE(bG ar:Int)(x:Nat->Int)(r:RV)(ys:aX):Prop where
 c:jf bG ar≠0->ys=SB (jf bG ar)
 p:jf bG ar=0->¬rS x->ys=SB 260
 m:jf bG ar=0->rS x->¬Di (fY bG ar) r->ys=SB 270
 w:jf bG ar=0->rS x->Di (fY bG ar) r->∀v,MY (fY bG ar) r (fY bG ar).length v->(¬SA x v (fY bG ar).length->ys=SB 2)/\(SA x v (fY bG ar).length->ys=stE (M0 x v (fY bG ar).length))
end
section
variable{R:aU->Prop}{G:aI}{t:T}{O:ai}{L:cG}
def ajq(n:Int):Prop:=(97<=n/\n<=122)\/(65<=n/\n<=90)
def arJ(n:Int):Prop:=ajq n\/(48<=n/\n<=57)\/n=95
structure NmP(s:RV):Prop where
 l:1<=lenOf s.val/\lenOf s.val<=32
 f:ajq (yw s.val 0)
 c:∀i:Nat,(i:Int)<lenOf s.val->arJ (yw s.val i)
structure BdP(s:RV)(a0 a1 a2 a3 a4 a5 a6 a7 a8 a9 a10 ki kj ng a14 a15:Int):Prop where
 n:NmP s
 w:1<=a0/\a0<=500
 l:0<=a1/\a1<=500
 g:1<=a2/\a2<=4
 s:1<=a3/\a3<=16
 j:0<=a4/\a4<=16
 r:(1<=a5/\a5<=8)/\(1<=a6/\a6<=8)/\1<=a7/\a7<=8
 p:(1<=a8/\a8<=1048576)/\(1<=a9/\a9<=1048576)/\1<=a10/\a10<=1048576
 t:(1<=ki/\ki<=3)/\(1<=kj/\kj<=3)/\1<=ng/\ng<=3
 e:0<=a14/\a14<=1048576
 v:0<=a15/\a15<=1048576


def Zs{n:Nat}{X y:aC}:∀{m:aq},y∈eL n X m->y=X\/y∈m
 |[],h=>by simp[eL] at h;exact .inl h
 |r::W,h=>by
  simp only[eL] at h;split at h;rcases dJ.1 h with h|h;exact .inl h;exact .inr (by simp[h]);rcases dJ.1 h with h|h;exact .inr (by simp[h]);rcases Zs h with h|h;exact .inl h;exact .inr (by simp[h])
def ajr{X r:aC}(W:Y X=4)(V:Y r=4):jJ 3 ((X.take 3).map λc=>bF c.val) r=J<->∀c∈[0,1,2],aK c r=aK c X:=by
 match X,W,r,V with
 |[a,b,c,d],_,[R,Q,P,O],_=>simp[jJ,aK]
structure xI(m:aq):Prop where
 keys:ajf [0,1,2] m
 four:∀x∈m,Y x=4
def xI.nil:xI []:=⟨uD,au⟩
def xI.ins{O:aC}(R:Y O=4):∀{m:aq},xI m->xI (eL 3 O m)
 |[],_=>⟨by simp[eL,ajf],by simp[eL,R]⟩
 |r::M,h=>by
  have g:=iv.1 h.keys;have L:xI M:=⟨g.2,λx X=>h.four x (by simp[X])⟩;have H:=xI.ins R L;have N:=ajr R (h.four r au);refine⟨?_,λx X=> ?_⟩;simp only[eL];split;rename_i W;have W:=N.1 W;refine iv.2 ⟨λy V=> ?_,g.2⟩;obtain⟨c,Q,P⟩:=g.1 y V;exact⟨c,Q,by rw[<-W c Q];exact P⟩;rename_i W;refine iv.2 ⟨λy V=> ?_,H.keys⟩;rcases Zs V with rfl|V;have:¬∀c∈[0,1,2],aK c r=aK c y:=λG=>W (N.2 G)
  simp only[Classical.not_forall] at this;obtain⟨c,Q,P⟩:=this;exact⟨c,Q,P⟩;exact g.1 y V;rcases Zs X with rfl|X;exact R;exact h.four x X
variable[Inhabited cm]
@[simp] def ayf (v:RV) (X W V Q P N M H F D B A z y x w:Int):kE TB.Ev R 36 [.r (dl .str v),.i X,.i W,.i V,.i Q,.i P,.i N,.i M,.i H,.i F,.i D,.i B,.i A,.i z,.i y,.i x,.i w] G t O L=kF TB.Ev R (.ret [.i (FR (dl .str v) X W V Q P N M H F D B A z y x w)]) G t O L:=c75 _ (aqX v) X W V Q P N M H F D B A z y x w
def o27(X W V Q P N M H G F D B A:Int)(s:RV)(z y x w v u q p o n m l j h g f:Int)(k:Nat):Int:=oi 138 [.i X,.i W,.i V,.i Q,.i P,.i N,.i M,.i H,.i G,.i F,.i D,.i B,.i A,.r s,.i z,.i y,.i x,.i w,.i v,.i u,.i q,.i p,.i o,.i n,.i m,.i l,.i j,.i h,.i g,.i f] k
def M6(X:RV)(i:Nat):Int:=FR (dl .str (bz X.ae (i:Int) 0)) (ci X i 1) (ci X i 2) (ci X i 3) (ci X i 4) (ci X i 5) (ci X i 6) (ci X i 7) (ci X i 8) (ci X i 9) (ci X i 10) (ci X i 11) (ci X i 12) (ci X i 13) (ci X i 14) (ci X i 15) (ci X i 16)
def Zt(v:RV)(i:Nat):Int:=St (ci v i 0) (ci v i 1) (ci v i 2) (ci v i 3) (ci v i 4) (ci v i 5) (ci v i 6) (ci v i 7) (ci v i 8) (ci v i 9) (ci v i 10) (ci v i 11) (ci v i 12)
def lS(v X:RV)(i k:Nat):Int:=o27 (ci v i 0) (ci v i 1) (ci v i 2) (ci v i 3) (ci v i 4) (ci v i 5) (ci v i 6) (ci v i 7) (ci v i 8) (ci v i 9) (ci v i 10) (ci v i 11) (ci v i 12) (dl .str (bz X.ae (i:Int) 0)) (ci X i 1) (ci X i 2) (ci X i 3) (ci X i 4) (ci X i 5) (ci X i 6) (ci X i 7) (ci X i 8) (ci X i 9) (ci X i 10) (ci X i 11) (ci X i 12) (ci X i 13) (ci X i 14) (ci X i 15) (ci X i 16) k
def m85(ar:Int)(X:RV)(i:Nat):Int:=oi 39 (wk++[.i i,.i ar,.r (cr 64 X i)]) 0
def Zu(ar:Int)(X W:RV)(i k:Nat):Int:=oi 136 (wk++[.i i,.i ar,.i (ci X i 0),.i (ci X i 1),.i (ci X i 2),.i (ci X i 3),.i (ci X i 4),.i (ci X i 5),.i (ci X i 6),.i (ci X i 7),.i (ci X i 8),.i (ci X i 9),.i (ci X i 10),.i (ci X i 11),.i (ci X i 12),.r (cr 64 W i)]) k
def m90(ar:Int)(W X V:RV)(i k:Nat):Int:=oi 137 (wk++[.i i,.i ar,.i (ci W i 0),.i (ci W i 1),.i (ci W i 2),.i (ci W i 3),.i (ci W i 4),.i (ci W i 5),.i (ci W i 6),.i (ci W i 7),.i (ci W i 8),.i (ci W i 9),.i (ci W i 10),.i (ci W i 11),.i (ci W i 12),.r (dl .str (bz X.ae (i:Int) 0)),.i (ci X i 1),.i (ci X i 2),.i (ci X i 3),.i (ci X i 4),.i (ci X i 5),.i (ci X i 6),.i (ci X i 7),.i (ci X i 8),.i (ci X i 9),.i (ci X i 10),.i (ci X i 11),.i (ci X i 12),.i (ci X i 13),.i (ci X i 14),.i (ci X i 15),.i (ci X i 16),.r (cr 64 V i)]) k
def gS(ar:Int)(W X V:RV)(i k:Nat):Int:=if cb W i 0 then Zu ar X V i k else ci X i k
def gB(ar:Int)(V X W Q:RV)(i k:Nat):Int:=if cb V i 0 then m90 ar X W Q i k else lS X W i k
structure ayg(aM wg bd mv bf af re bx:RV):Prop where
 wg:Sl wg
 bd:Sl bd
 mv:Sl mv
 bf:Sl bf
 af:Sl af
 rsl:Sl re
 bx:Sl bx
 iE:∀i<Y re.ae,Sl (cr 64 re i)/\(cr 64 re i).ae.length<=100
structure aju(ar:Int)(wg bd mv bf af re bx:RV):Prop where
 wk:lR=0
 nw:Y wg.ae<=8
 br:0<=ar/\ar<hJ
 laf:Y af.ae=Y aM.ae
 lbx:Y bx.ae=Y aM.ae
 lbd:Y bd.ae=Y aM.ae
 lmv:Y mv.ae=Y aM.ae
 lbf:Y bf.ae=Y aM.ae
 lre:Y re.ae=Y aM.ae
 gF:∀i<Y aM.ae,M6 bd i=0/\Zt bf i=0/\(if cb mv i 0 then m85 ar re i=0 else(cr 64 re i).ae=[])
 box:∀i<Y aM.ae,vB bx i=J/\Zt af i=0
 pth:∀g<Y wg.ae,mS (ci wg g) ar 4=0
def SC(ar:Int)(Q X W V:RV)(i:Nat):Prop:=if cb Q i 0 then Zu ar X V i 13=0/\m90 ar X W V i 4=0 else lS X W i 4=0
def Fst(v:RV)(id:Int)(m:Nat):Prop:=m<Y v.ae/\ci v m 0=id/\∀X<m,ci v X 0≠id
def Zv(X:RV)(id:Int)(i:Nat):aX:=out 165 (wk++[.i id,.r (dl .str (bz X.ae (i:Int) 0)),.i (ci X i 1),.i (ci X i 2),.i (ci X i 3),.i (ci X i 4),.i (ci X i 5),.i (ci X i 6),.i (ci X i 7),.i (ci X i 8),.i (ci X i 9),.i (ci X i 10),.i (ci X i 11),.i (ci X i 12),.i (ci X i 13),.i (ci X i 14),.i (ci X i 15),.i (ci X i 16)])
def arQ(ar:Int)(X W V Q P:RV)(c:Nat->Int):Bool:=ob 167 (wk++[.i ar,.r X,.r W,.r V,.r Q,.r P]++xE c) 0
def arR(ar:Int)(W V Q P X N:RV)(i k:Nat):Prop:=∀m,Fst (cr 64 X i) (gt (fY i ar) k 0) m->
 xi (Zv W (gt (fY i ar) k 0) i) 1=0/\
 ob 166 [.r (xr (Zv W (gt (fY i ar) k 0) i) 0),.i (ci (cr 64 X i) m 0),.i (ci (cr 64 X i) m 1),.i (ci (cr 64 X i) m 2),.b (cb (cr 64 X i) m 3)] 0=J/\
 (gt (fY i ar) k 4=7\/gt (fY i ar) k 4=8->cb (cr 64 X i) m 3=J\/arQ ar V Q P X N (gt (fY i ar) k)=J)
def Zw(ar:Int)(X W V:RV)(i:Nat):aX:=out 168 (wk++[.i i,.i ar,.i (ci X i 0),.i (ci X i 1),.i (ci X i 2),.i (ci X i 3),.i (ci X i 4),.i (ci X i 5),.i (ci X i 6),.i (ci X i 7),.i (ci X i 8),.i (ci X i 9),.i (ci X i 10),.i (ci X i 11),.i (ci X i 12),.r W,.r (cr 64 V i)])
structure arS(ar:Int)(bd mv bf af re bx:RV)(i:Nat):Prop where
 aft:∀j<13,ci af i j=gS ar mv bf re i j
 inb:dB (gB ar mv bf bd re i 0) (gB ar mv bf bd re i 1) (gB ar mv bf bd re i 2) (gB ar mv bf bd re i 3)=J/\vB bx i=J
 ins:aiV (gB ar mv bf bd re i 0) (gB ar mv bf bd re i 1) (gB ar mv bf bd re i 2) (gB ar mv bf bd re i 3) (ci bx i 0) (ci bx i 1) (ci bx i 2) (ci bx i 3)=J
 Sn:cb mv i 0=J->(∀k<(fY i ar).length,arR ar bd mv bf af re bx i k)/\xi (Zw ar bf bd re i) 1=0/\(xr (Zw ar bf bd re i) 0).ae=[]
def FT(ar:Int):aX:=out 48 (wk++[.i ar])
def exR(v X:RV):Nat->aq
 |0=>[]
 |i+1=>exR v X i++[[.mk (.int I (lS v X i 0)) [],.mk (.int I (lS v X i 1)) [],.mk (.int I (lS v X i 2)) [],.mk (.int I (lS v X i 3)) []]]
def stB(v X:RV)(i k:Nat):Bool:=dB (lS v X i 0) (lS v X i 1) (lS v X i 2) (lS v X i 3)&&dB (lS v X k 0) (lS v X k 1) (lS v X k 2) (lS v X k 3)&&FO (lS v X i 0) (lS v X i 1) (lS v X i 2) (lS v X i 3) (lS v X k 0) (lS v X k 1) (lS v X k 2) (lS v X k 3)
structure ayk(ar:Int)(wg bd mv bf af re bx:RV):Prop where
 ex:aju ar wg bd mv bf af re bx
 bld:∀i<Y aM.ae,SC ar mv bf bd re i
 ro:∀i<Y aM.ae,arS ar bd mv bf af re bx i
 prs:xi (FT ar) 1=0
 st1:∀i<Y aM.ae,lS bf bd i 4=0
 st2:∀i<Y aM.ae,lS af bd i 4=0
 cl:arf wg ar bx (eo (exR bf bd (Y aM.ae))) (xr (FT ar) 0)
 M2:∀p<(xr (FT ar) 0).ae.length,stB bf bd (ci (xr (FT ar) 0) p 0).toNat (ci (xr (FT ar) 0) p 1).toNat=J/\stB af bd (ci (xr (FT ar) 0) p 0).toNat (ci (xr (FT ar) 0) p 1).toNat=J
def arU{v:aq}{X:aC}{j:Nat}(h:Y v=V):bz (v++[X]) (V:Int) j=X.getD j default:=by
 subst h;simp[bz]
def arV{v w:aq}{j:Nat}(h:V<Y v):bz (v++w) (V:Int) j=bz v (V:Int) j:=by
 simp[bz,dF h]
end
def T.at:ap->T->T
 |[],t=>t
 |0::p,.aS _ t _=>t.at p
 |_::p,.aS _ _ f=>f.at p
 |_::p,.aN _ t=>t.at p
 |_::p,.call _ _ _ _ _ _ t=>t.at p
 |_::p,.loop _ _ _ t=>t.at p
 |_::p,.new _ _ _ _ t=>t.at p
 |_::p,.ae _ _ _ t=>t.at p
 |0::p,.fU _ _ t _=>t.at p
 |_::p,.fU _ _ _ f=>f.at p
 |0::p,.pick _ _ _ t _=>t.at p
 |_::p,.pick _ _ _ _ f=>f.at p
 |_::p,.dK _ _ _ _ _ _ _ t=>t.at p
 |_,t=>t
section
variable{R:aU->Prop}{G:aI}{t:T}{O:ai}{L:cG}
variable[Inhabited cm]
structure Bx(l0 h0 l1 h1:Int)(L H L' H':Int):Prop where
 a:L<=l0
 b:h0<=H
 c:L'<=l1
 d:h1<=H'
 e:-1099511627776<=L
 f:H<=1099511627776
 g:-1099511627776<=L'
 h:H'<=1099511627776
end
section
variable{R:aU->Prop}{G:aI}{t:T}{O:ai}{L:cG}
end
section
variable[Inhabited cm]
end
section
variable{R:aU->Prop}{G:aI}{t:T}{O:ai}{L:cG}
variable[Inhabited cm]
def aQ(X:RV)(k:Nat):Int:=FR (dl .str (bz X.ae (k:Int) 0)) (ci X k 1) (ci X k 2) (ci X k 3) (ci X k 4) (ci X k 5) (ci X k 6) (ci X k 7) (ci X k 8) (ci X k 9) (ci X k 10) (ci X k 11) (ci X k 12) (ci X k 13) (ci X k 14) (ci X k 15) (ci X k 16)
structure Zx(ar:Int)(bd mv bf re:RV):Prop where
 b:Y bd.ae=Y aM.ae/\∀k<Y bd.ae,aQ bd k=0
 m:Y mv.ae=Y aM.ae
 f:Y bf.ae=Y aM.ae
 r:Y re.ae=Y aM.ae
 k:∀k<Y aM.ae,rS (ci bf k)/\(cb mv k 0=E->(cr 64 re k).ae.length=0)/\(cb mv k 0=J->M4 k ar (cr 64 re k)=0)
end
section
variable[Inhabited cm]
def mvB(c:Nat->Int)(j:Int):Bool:=decide ((c 4=1/\j=c 5-1)\/(c 4=2/\(j=0\/j=1))\/(c 4=3/\j=c 5-1)\/(c 4=4/\j=c 5+1)\/(c 4=5/\j=4)\/(c 4=7/\(j=2\/j=3))\/(c 4=8/\(j=0\/j=1))\/(c 4=9/\j=c 5+1))

def ptV(n d f l:Int)(j:Nat):Int:=bH .mul I n (oi 159 [.i (oi 158 [.i d,.i f] 0),.i l] j)

end
section
variable{R:aU->Prop}{G:aI}{t:T}{O:ai}{L:cG}
variable[Inhabited cm]
def Zy(v:aq):Nat->Nat->Bool
 |0,_=>E
 |i+1,0=>Zy v i 0||(!iF (bz v i 17).val&&decide (gt v i 4=6))
 |i+1,j+1=>Zy v i (j+1)||(!iF (bz v i 17).val&&mvB (gt v i) j)
def uw(F:Nat->Bool)(X:Nat->Int)(g:Int)(x:Nat->Int):Nat->Nat->Int
 |0,j=>if j%2=0 then bH .sub I 0 (bH .mul I 841 g) else bH .mul I 841 g
 |n+1,j=>if F (1+n)=E/\x (4+2*n)=0 then uw F X g x n j
  else if F (1+n)=J\/F 0=J then(if j%2=0 then min (uw F X g x n j) (bH .sub I 0 (bH .mul I 841 (X n))) else max (uw F X g x n j) (bH .mul I 841 (X n)))
  else if j%2=0 then min (uw F X g x n j) (ptV (X n) (x (3+2*n)) (x 2) (x (4+2*n)) (j/2)) else max (uw F X g x n j) (ptV (X n) (x (3+2*n)) (x 2) (x (4+2*n)) (j/2))
def arX{F V:Nat->Bool}(h:∀k<6,F k=V k):∀n≤5,∀j,uw F X Q W n j=uw V X Q W n j:=by
 intro n;induction n with
 |zero=>intro _ j;rfl
 |succ n P=>
  intro N j;simp only[uw,P aa,h (1+n) aa,h 0 aa]
structure M7(f0 f1 f2 f3 g:Int)(rc:Nat->Int)(F:Nat->Bool)(x:Nat->Int)(n:Nat):Prop where
 fg:Fg f0 f1 f2 f3
 e0:f0=uw F rc g x n 0
 e1:f1=uw F rc g x n 1
 e2:f2=uw F rc g x n 2
 e3:f3=uw F rc g x n 3
def M7.zero(W:1<=Q/\Q<=8)(X:Nat->Int)(F:Nat->Bool)(x:Nat->Int):M7 (bH .sub I 0 (bH .mul I 841 Q)) (bH .mul I 841 Q) (bH .sub I 0 (bH .mul I 841 Q)) (bH .mul I 841 Q) Q X F x 0:=by
 refine⟨?_,rfl,rfl,rfl,rfl⟩;simp only[bH,Fg];rw[nK (n:=841*Q) aa aa,nK aa aa];omega
def M7.Jn{V P N g:Int}{F M:Nat->Bool}(h:M7 Q V P N g X F W 5)(e:∀k<6,F k=M k):M7 Q V P N g X M W 5:=by
 refine⟨h.fg, ?_, ?_, ?_, ?_⟩<;>rw[<-arX e 5 aa];exact h.e0;exact h.e1;exact h.e2;exact h.e3


def SD(X:RV)(y:Nat->Int):Int:=FR X (y 1) (y 2) (y 3) (y 4) (y 5) (y 6) (y 7) (y 8) (y 9) (y 10) (y 11) (y 12) (y 13) (y 14) (y 15) (y 16)
def Jo(f:Nat->Int)(x:Nat->Int)(v:aq):Nat->Nat->Int
 |0,j=>f j+29*x (j/2)
 |n+1,j=>if j%2=0 then min (Jo f x v n j) (f j+29*M0 x v (n+1) (j/2)) else max (Jo f x v n j) (f j+29*M0 x v (n+1) (j/2))
def M8(e:Int):aX:=[.i 0,.i 0,.i 0,.i 0,.i e]
def SE(y:Nat->Int)(x:Nat->Int)(v:aq):Nat->Int:=uw (Zy v (Y v)) (rch (y 6) (y 7) (y 8)) (y 3) x 5
structure SwE(bG ar:Int)(x:Nat->Int)(nm:RV)(y:Nat->Int)(r:RV)(ys:aX):Prop where
 c:jf bG ar≠0->ys=M8 (jf bG ar)
 p:jf bG ar=0->¬rS x->ys=M8 260
 b:jf bG ar=0->rS x->SD nm y≠0->ys=M8 (SD nm y)
 m:jf bG ar=0->rS x->SD nm y=0->¬Di (fY bG ar) r->ys=M8 270
 w:jf bG ar=0->rS x->SD nm y=0->Di (fY bG ar) r->∀v,MY (fY bG ar) r (fY bG ar).length v->(¬SA x v (fY bG ar).length->ys=M8 2)/\(SA x v (fY bG ar).length->ys=[.i (Jo (SE y x v) x v (Y v) 0),.i (Jo (SE y x v) x v (Y v) 1),.i (Jo (SE y x v) x v (Y v) 2),.i (Jo (SE y x v) x v (Y v) 3),.i 0])

end
section
variable[Inhabited cm]
section
def ajz{X:Type}[DecidableEq X]:∀{a b:List X},a.Nodup->(∀x∈a,x∈b)->Y a<=Y b
 |[],_,_,_=>NT _
 |x::a,b,Q,W=>by
  have g:=NO.1 Q;have V:x∈b:=W x au;have:=ajz (a:=a) (b:=b.erase x) g.2 λy R=>(axg (λe=>g.1 (by rw[<-e];exact R))).2 (W y (by simp[R]))
  rw[aw2 V] at this;have P:0<Y b:=axa V;simp only[pO];omega
structure Pk(n:Nat)(js:ap):Prop where
 nd:js.Nodup
 lt:∀j∈js,j<n
def Pk.nil(n:Nat):Pk n []:=⟨List.nodup_nil,au⟩
def Pk.add{j:Nat}(h:Pk V P)(R:j∉P)(O:j<V):Pk V (P++[j]):=⟨uE.2 ⟨h.nd,au,by intro a Q b W e;simp at W;subst W;subst e;exact R Q⟩,by
 intro k X;rcases eC.1 X with X|X;exact h.lt k X;simp at X;omega⟩
def Pk.len(h:Pk V P):Y P<=V:=by
 have:=ajz (b:=e8 V) h.nd λj X=>vZ.2 (h.lt j X)
 simpa using this
end
section
variable{L:cG}
end

section
def HK(M:aq)(k:Int)(i:Nat):Prop:=∃x∈M,aK 0 x=k/\aK 1 x=(i:Int)
def Zz{c:aC}(W:Y c=4){k:Int}{i:Nat}:∀{M:aq},xI M->(HK (eL 3 c M) k i<->HK M k i\/(aK 0 c=k/\aK 1 c=(i:Int)))
 |[],_=>by simp[HK,eL]
 |r::V,h=>by
  have R:xI V:=⟨(iv.1 h.keys).2,λx Q=>h.four x (by simp[Q])⟩;have P:=Zz W (k:=k) (i:=i) R;have O:=ajr W (h.four r au);simp only[eL];split;rename_i X;have X:=O.1 X;have N:=X 0 au;have L:=X 1 au;simp only[HK,dJ,exists_eq_or_imp,N,L]
  grind
  simp only[HK,dJ,exists_eq_or_imp] at P⊢
  grind
structure Tr(a b:Nat->Prop)(M:aq):Prop where
 ok:xI M
 ha:∀i,HK M 4 i<->a i
 hb:∀i,HK M 5 i<->b i
def Tr.nil:Tr (λ_=>False) (λ_=>False) []:=⟨xI.nil,λi=>by simp[HK],λi=>by simp[HK]⟩
variable{a b:Nat->Prop}{M:aq}{c:aC}
def Tr.ac(X:Y c=4)(W:aK 0 c≠4/\aK 0 c≠5)(h:Tr a b M):Tr a b (eL 3 c M):=
 ⟨h.ok.ins X,λi=>by rw[Zz X h.ok,h.ha];simp[W.1],λi=>by rw[Zz X h.ok,h.hb];simp[W.2]⟩
def Tr.congr{X W:Nat->Prop}(h:Tr a b M)(V:∀i,a i<->X i)(R:∀i,b i<->W i):Tr X W M:=⟨h.ok,λi=>(h.ha i).trans (V i),λi=>(h.hb i).trans (R i)⟩
end
end
section
variable{R:aU->Prop}{G:aI}{t:T}{O:ai}{L:cG}
variable[Inhabited cm]

end
