/- Part 7 of the proof. -/
import Derived.Test.YtejplpmpldcmlaaGreatDoorV6
set_option linter.all false
set_option maxRecDepth 100000
set_option maxHeartbeats 100000000
open Bool renaming and_eq_true->aw,or_eq_true->jL,eq_iff_iff->sx,true->J,false->E
open List renaming getD_eq_getElem?_getD->cw,getElem?_eq_some_iff->cu,getElem?_append_left->dN,cons_append->ef,nil_append->eK,mem_append->eW,mem_cons->dV,all_eq_true->fZ,getElem?_eq_none->km,pairwise_cons->jC,getElem?_set_ne->ss,getElem?_of_mem->tO,mem_range->uO,getElem?_set_self->Hk,mem_singleton->Hm,mem_append_right->Of,find?_cons->Ka,map->Bp,length->Y
open Nat renaming le_refl->bY,le_trans->pO,strongRecOn->SX,lt_of_le_of_ne->avy,not_lt_zero->avJ
open Option renaming some->U
open Int renaming mul_le_mul_of_nonneg_left->ai6
open Go.IntKind renaming i64->I
namespace Go.Proofs.YtejplpmpldcmlaaGreatDoor.Y
open Go.RowKit
noncomputable section
variable{X H:ar}{N:aF}{W Q:Nat}{P:Int}{V:Nat→Nat}
section
variable[Inhabited dh]
section
def HK(M:ar)(k:Int)(i:Nat):Prop:=∃x∈M,aM 0 x=k/\aM 1 x=(i:Int)
def ah1{c:aF}(W:Y c=4){k:Int}{i:Nat}:∀{M:ar},A8 M->(HK (gq 3 c M) k i<->HK M k i\/(aM 0 c=k/\aM 1 c=(i:Int)))
 |[],_=>by simp[HK,gq]
 |r::V,h=>by
  have R:A8 V:=⟨(jC.1 h.keys).2,λx Q=>h.four x (by simp[Q])⟩;have P:=ah1 W (k:=k) (i:=i) R;have O:=as8 W (h.four r av);simp only[gq];split;rename_i X;have X:=O.1 X;have N:=X 0 av;have L:=X 1 av;simp only[HK,dV,exists_eq_or_imp,N,L]
  grind
  simp only[HK,dV,exists_eq_or_imp] at P⊢
  grind
structure Tr(a b:Nat->Prop)(M:ar):Prop where
 ok:A8 M
 ha:∀i,HK M 4 i<->a i
 hb:∀i,HK M 5 i<->b i
def Tr.nil:Tr (λ_=>False) (λ_=>False) []:=⟨A8.nil,λi=>by simp[HK],λi=>by simp[HK]⟩
variable{a b:Nat->Prop}{M:ar}{c:aF}
def Tr.ae(X:Y c=4)(W:aM 0 c≠4/\aM 0 c≠5)(h:Tr a b M):Tr a b (gq 3 c M):=
 ⟨h.ok.ins X,λi=>by rw[ah1 X h.ok,h.ha];simp[W.1],λi=>by rw[ah1 X h.ok,h.hb];simp[W.2]⟩
def Tr.congr{X W:Nat->Prop}(h:Tr a b M)(V:∀i,a i<->X i)(R:∀i,b i<->W i):Tr X W M:=⟨h.ok,λi=>(h.ha i).trans (V i),λi=>(h.hb i).trans (R i)⟩
end
end
section
variable{R:bq->Prop}{G:aU}{t:T}{O:ai}{L:db}
variable[Inhabited dh]

end
section
variable[Inhabited dh]

def SgE(ak:Int)(X V W:RV)(i:Nat):Prop:=(∀k<(dW i ak).length,∀m,Fst (cr 134 W i) (dm (dW i ak) k 0) m->xi (m78 X (dm (dW i ak) k 0) i) 1=0)/\xi (ahX ak V X W i) 1=0


def SgA(ak:Int)(X W V R:RV):Prop:=∀i<Y aK.ac,cb W i 0=J->SgE ak X V R i



structure ObE(ak:Int)(wg bd mv bf af re bx:RV):Prop where
 ex:ata ak wg bd mv bf af re bx
 bld:∀i<Y aK.ac,JO ak mv bf bd re i
 sge:SgA ak bd mv bf re
end
section
variable{R:bq->Prop}{G:aU}{t:T}{O:ai}{L:db}
variable[Inhabited dh]
def Ba(v:ar)(k:Nat):Nat:=(v.getD k []).length
def Y1(h:Y X=W)(V:Y N=Q):Ba (X++[N]) W=Q:=by
 subst h;simpa[Ba] using V
def Y2(h:W<Y X):Ba (X++H) W=Ba X W:=by simp[Ba,dN h]
structure Md(ak:Int)(bd mv bf re:RV)(vs vr vb:ar):Prop where
 wk:lB=0
 br:0<=ak/\ak<fy
 lbd:Y bd.ac=Y aK.ac
 YX:Y mv.ac=Y aK.ac
 YY:Y bf.ac=Y aK.ac
 lre:Y re.ac=Y aK.ac
 iF:∀i<Y aK.ac,NW bd i=0/\YW bf i=0/\(if cb mv i 0 then m85 ak re i=0 else(cr 134 re i).ac=[])
 ls:Y vs=Y aK.ac
 lr:Y vr=Y aK.ac
 lb:Y vb=Y aK.ac
 al:∀k<Y aK.ac,aQ vr (k:Int) 0=aI (cr 134 re k).ac/\Ba vs k=13/\Ba vb k=4/\JO ak mv bf bd re k/\(∀j<13,bn (aQ vs (k:Int) j).val=gS ak mv bf re k j)/\∀j<4,bn (aQ vb (k:Int) j).val=gB ak mv bf bd re k j
def Y3(ak:Int)(N X W M:RV)(o:bq):Prop:=(∃e,e≠0/\o=.ret [.i 0,.r (aI []),.r (aI []),.r (aI []),.r (aI []),.r (aI []),.i e])\/∃V Q P,o=.ret [.i ak,.r (aI X.ac),.r (aI W.ac),.r (aI V),.r (aI Q),.r (aI P),.i 0]/\Md ak N X W M V Q P
def t13(h:fD)(ak:Int)(wg G V H X:RV)(af:Sl G)(q:Sl V)(p:Sl H)(ag:Sl X)(bg:∀i<Y X.ac,Sl (cr 134 X i)/\(cr 134 X i).ac.length<=100):∃o,TB.Ev 17 (wk++[.r wg,.r G,.i ak,.r V,.r H,.r X]) o/\Y3 ak G V H X o:=by
 obtain⟨P,s⟩:∃P:bq->Prop,∀o,P o<->Y3 ak G V H X o:=⟨_,λ_=>Iff.rfl⟩
 suffices bk:∃o,TB.Ev 17 (wk++[.r wg,.r G,.i ak,.r V,.r H,.r X]) o/\P o by
  obtain⟨o,g1,g2⟩:=bk;exact⟨o,g1,(s o).1 g2⟩
 refine YA rfl rfl (.inr λv hv=>by rcases(s _).1 hv with⟨_,_,h⟩|⟨_,_,_,h,_⟩<;>cases h) ?_;obtain⟨h1,h2⟩:=xI tD h;simp only[wk] at h1;have M:∀{e:Int},e≠0->P (.ret [.i 0,.r (aI []),.r (aI []),.r (aI []),.r (aI []),.r (aI []),.i e]):=λ{e} he=>(s _).2 (.inl ⟨e,he,rfl⟩)
 simp[T13,wk,bh h1];simp only[h.rl.len,af.len,q.len,p.len,ag.len];refine ay (λh0=> ?_) (λW=>M W);have hw:=h2 h0;have hn:=hw.nr;refine ay (λW=>M aa) (λbt=> ?_);refine ay (λW=>M aa) (λbx=> ?_);refine ay (λbl=> ?_) (λW=>M aa);refine ay (λYX=> ?_) (λW=>M aa);refine ay (λYY=> ?_) (λW=>M aa);refine ay (λbr=> ?_) (λW=>M aa);have al:lenOf G.val=(Y aK.ac:Int):=by rw[af.len];exact bl
 have an:lenOf V.val=(Y aK.ac:Int):=by rw[q.len];exact YX
 have aA:lenOf H.val=(Y aK.ac:Int):=by rw[p.len];exact YY
 have aC:lenOf X.val=(Y aK.ac:Int):=by rw[ag.len];exact br
 have n:Y aK.ac<=140737488355328:=aa;have A:∀i<Y aK.ac,Sl (cr 134 X i)/\(cr 134 X i).ac.length<=100:=λi Q=>bg i aa
 refine bW (Y aK.ac) (λi m=>m=[]/\∀k<i,NW G k=0/\YW H k=0/\(if cb V k 0 then m85 ak X k=0 else(cr 134 X k).ac=[])) ⟨0,rfl,aa,rfl,aa⟩ ?_;rintro i _ Q ⟨rfl,l⟩;simp[al,an,aA,aC];refine ay (λQ=> ?_) (λbs=> ?_);have a0:=(uC (t85 tD h i ak (cr 134 X i) (A i Q).1)).1;simp only[wk,cr,ef,eK] at a0;have a9:=(A i Q).1.len;simp only[cr] at a9;simp[bK Q n,Q,bh a0,a9];refine ay (λa1=> ?_) (λW=>M aa);refine ay (λa2=> ?_) (λW=>M aa);refine ay (λD=> ?_) (λD=> ?_);have F:cb V i 0=true:=D;refine ay (λB=> ?_) (λW=>M aa);exact asI l ⟨a1,a2,by rw[aL F];exact B⟩;have F:¬cb V i 0=true:=D;refine ay (λB=> ?_) (λW=>M aa);exact asI l ⟨a1,a2,by rw[aT F];exact B⟩;have g:i=Y aK.ac:=aa;subst g;rw[bh (e86 V q aa)];simp;rw[bh (e87 H p aa)];simp;refine bW (Y aK.ac) (λi m=>∃z x y,m=[.r (aI z),.r (aI x),.r (aI y)]/\Y z=i/\Y x=i/\Y y=i/\∀k<i,aQ x (k:Int) 0=aI (cr 134 X k).ac/\Ba z k=13/\Ba y k=4/\JO ak V H G X k/\(∀j<13,bn (aQ z (k:Int) j).val=gS ak V H X k j)/\∀j<4,bn (aQ y (k:Int) j).val=gB ak V H G X k j) ⟨0,rfl,aa,[],[],[],rfl,rfl,rfl,rfl,aa⟩ ?_;rintro i _ Q ⟨z,x,y,rfl,w,f,u,d⟩;simp[al,an,aA,aC];refine ay (λQ=> ?_) (λbs=> ?_);have ba:=e88 (cr 134 X i) (A i Q).1 (by have:=(A i Q).2;omega);simp only[cr] at ba;simp[bK Q n,Q,bh ba];refine⟨aa,ay (λD=> ?_) (λD=> ?_)⟩;have F:cb V i 0=true:=D;have bb:=zt _ (t89 h i ak (ci H i) (cr 134 X i) (A i Q).1);simp only[wk,ci,cr,ef,eK,kIs,kI0,A4] at bb;rw[bh bb];simp;refine ay (λB=> ?_) (λW=>M W);have bc:=zt _ (t90 h i ak (ci H i) _ (YF (aQ G.ac (i:Int) 0)) (ci G i) (cr 134 X i) (A i Q).1);simp only[wk,ci,cr,ef,eK,kIs,kI0,A4] at bc;rw[bh bc];simp[bK Q n];refine ay (λa5=> ?_) (λW=>M W);refine⟨aa,aa,_,_,_,⟨rfl,rfl,rfl⟩,dl,dl,dl,λk hk=> ?_⟩;by_cases c:k=i;subst c;refine⟨by rw[JQ f];rfl,Y1 w rfl,Y1 u rfl,by rw[JO,aL F];exact⟨B,a5⟩,λj N=> ?_,λj N=> ?_⟩;rw[JQ w,gS,aL F]
 match j,N with
 |0,_|1,_|2,_|3,_|4,_|5,_|6,_|7,_|8,_|9,_|10,_|11,_|12,_=>rfl
 rw[JQ u,gB,aL F]
 match j,N with
 |0,_|1,_|2,_|3,_=>rfl
 obtain⟨b,a,q5,q1,q2,q3⟩:=d k aa;exact⟨by rw[JR aa];exact b,by rw[Y2 aa];exact a,by rw[Y2 aa];exact q5,q1,λj N=>by rw[JR aa];exact q2 j N,λj N=>by rw[JR aa];exact q3 j N⟩;have F:¬cb V i 0=true:=D;refine ay (λB=> ?_) (λW=>M W);refine⟨aa,aa,_,_,_,⟨rfl,rfl,rfl⟩,dl,dl,dl,λk hk=> ?_⟩;by_cases c:k=i;subst c;refine⟨by rw[JQ f];rfl,Y1 w rfl,Y1 u rfl,by rw[JO,aT F];exact B,λj N=> ?_,λj N=> ?_⟩;rw[JQ w,gS,aT F]
 match j,N with
 |0,_|1,_|2,_|3,_|4,_|5,_|6,_|7,_|8,_|9,_|10,_|11,_|12,_=>rfl
 rw[JQ u,gB,aT F]
 match j,N with
 |0,_|1,_|2,_|3,_=>rfl
 obtain⟨b,a,q5,q1,q2,q3⟩:=d k aa;exact⟨by rw[JR aa];exact b,by rw[Y2 aa];exact a,by rw[Y2 aa];exact q5,q1,λj N=>by rw[JR aa];exact q2 j N,λj N=>by rw[JR aa];exact q3 j N⟩;have g:i=Y aK.ac:=aa;subst g;exact(s _).2 (.inr ⟨z,x,y,rfl,⟨h0,aa,aa,aa,aa,aa,l,w,f,u,d⟩⟩)

def Sb(f:Nat->Int):Nat->Int
 |0=>0
 |n+1=>if Sb f n=0 then f n else Sb f n
def roE(ak:Int)(d g l:RV)(k:Nat):Int:=if cb d k 0=J then m89 ak g l k 13 else 0
def Y4(e:Int):bq:=.ret [.i 0,.r (aI []),.r (aI []),.r (aI []),.r (aI []),.r (aI []),.i e]
structure AcE(ak:Int)(p d g l M F S V B:RV):Prop where
 m:Sl M/\Y M.ac=Y aK.ac/\∀i<Y aK.ac,cb M i 0=cb d i 0
 f:Sl F/\Y F.ac=Y aK.ac/\∀i<Y aK.ac,∀j<13,ci F i j=ci g i j
 s:Sl S/\Y S.ac=Y aK.ac/\∀i<Y aK.ac,∀j<13,ci S i j=gS ak d g l i j
 v:Sl V/\Y V.ac=Y aK.ac/\∀i<Y aK.ac,Sl (cr 134 V i)/\(cr 134 V i).ac=(cr 134 l i).ac
 b:Sl B/\Y B.ac=Y aK.ac/\∀i<Y aK.ac,∀j<4,ci B i j=gB ak d g p l i j
structure MkE(ak:Int)(p d g l:RV)(o:bq):Prop where
 c:lB≠0->o=Y4 lB
 a:lB=0->(ak<0\/fy<=ak)->o=Y4 1
 r:lB=0->(0<=ak/\ak<fy)->¬RgP ak p d g l->o=Y4 310
 e:lB=0->(0<=ak/\ak<fy)->RgP ak p d g l->Sb (roE ak d g l) (Y aK.ac)≠0->o=Y4 (Sb (roE ak d g l) (Y aK.ac))
 k:lB=0->(0<=ak/\ak<fy)->RgP ak p d g l->Sb (roE ak d g l) (Y aK.ac)=0->∃M F S V B,o=.ret [.i ak,.r M,.r F,.r S,.r V,.r B,.i 0]/\AcE ak p d g l M F S V B
section
variable{ak:Int}{p d g l:RV}
end
def atg(h:Y X=W):ci (aI (X++[N])) W Q=bn (N.getD Q default).val:=by
 show bn (aQ (X++[N]) W Q).val=_;rw[JQ h]
def ath(h:W<Y X):ci (aI (X++H)) W Q=ci (aI X) W Q:=by
 show bn (aQ (X++H) W Q).val=bn (aQ X W Q).val;rw[JR h]
structure AcN(ak:Int)(p d g l:RV)(n:Nat)(vs vb:ar):Prop where
 s:Y vs=n/\∀i<n,∀j<13,ci (aI vs) i j=gS ak d g l i j
 b:Y vb=n/\∀i<n,∀j<4,ci (aI vb) i j=gB ak d g p l i j
def AcN.add{p d g l:RV}(h:AcN P p d g l W X H){Q:aF}(M:∀j<13,bn (N.getD j default).val=gS P d g l W j)(G:∀j<4,bn (Q.getD j default).val=gB P d g p l W j):AcN P p d g l (W+1) (X++[N]) (H++[Q]):=by
 refine⟨⟨by simp[h.s.1],λi F j V=> ?_⟩,by simp[h.b.1],λi F j V=> ?_⟩;by_cases e:i=W;subst e;rw[atg h.s.1];exact M j V;rw[ath (by rw[h.s.1];omega)];exact h.s.2 i aa j V;by_cases e:i=W;subst e;rw[atg h.b.1];exact G j V;rw[ath (by rw[h.b.1];omega)];exact h.b.2 i aa j V


section
variable{a b:RV}{n:Nat}
end
end
section
variable{R:bq->Prop}{G:aU}{t:T}{O:ai}{L:db}
def ah4(a b c:Int):TB.Ev 151 [.i a,.i b,.i c] (.ret [.b (decide (b<=a)&&decide (a<=c))]):=by
 refine fC ?_;simp[agG]
 grind
def ati(a b:Int):TB.Ev 223 [.i a,.i b] (.ret [.b (decide (-1099511627776<=a/\a<=b/\b<=1099511627776))]):=by
 refine fC ?_;simp[agE]
 grind
def aCK(a b c d:Int):TB.Ev 185 [.i a,.i b,.i c,.i d] (.ret [.b (bQ a b c d)]):=by
 refine fC ?_;have e:bQ a b c d=(decide (-1099511627776<=a/\a<=b/\b<=1099511627776)&&decide (-1099511627776<=c/\c<=d/\d<=1099511627776)):=by
  rw[sx,aCD];simp
 rw[e];simp[agD,bh (ati a b),bh (ati c d)]
 grind
def NY(c:Nat->Int):Prop:=bQ (c 0) (c 1) (c 2) (c 3)=J/\0<=c 4/\c 4<=c 5/\c 5<=4095/\(-1048576<=c 6/\c 6<=1048576)∧-1048576<=c 7/\c 7<=1048576
open Classical in
def aCL(c:Nat->Int):TB.Ev 150 (pK c) (.ret [.b (decide (NY c))]):=by
 refine fC ?_;simp[agH,pK,bh (aCK (c 0) (c 1) (c 2) (c 3)),bh (ah4 (c 6) _ _),bh (ah4 (c 7) _ _),NY]
 grind
def lC(c:Nat->Int)(k:Int):Int:=max 0 (min k (c 5+1)-c 4)
def ah5{c:Nat->Int}{k:Int}(Q:NY c):(aH .mul I (lC c k) (c 6)=lC c k*c 6)/\aH .mul I (lC c k) (c 7)=lC c k*c 7:=by
 obtain⟨-,P,N,M,W,V⟩:=Q;have X:0<=lC c k:=by simp only[lC];omega
 have H:lC c k<=4096:=by simp only[lC];omega
 generalize lC c k=s at*;have G:=ai6 W.1 X;have a2:=ai6 W.2 X;have F:=ai6 V.1 X;have D:=ai6 V.2 X;simp only[aH];exact⟨cG aa aa,cG aa aa⟩
def plW(c:Nat->Int)(k:Int):bv:=[.i (jn (gN (c 0) (c 1) (c 2) (c 3) (lC c k*c 6) (lC c k*c 7)==0) (IntKind.i64.wrap (c 0+lC c k*c 6))),.i (jn (gN (c 0) (c 1) (c 2) (c 3) (lC c k*c 6) (lC c k*c 7)==0) (IntKind.i64.wrap (c 1+lC c k*c 6))),.i (jn (gN (c 0) (c 1) (c 2) (c 3) (lC c k*c 6) (lC c k*c 7)==0) (IntKind.i64.wrap (c 2+lC c k*c 7))),.i (jn (gN (c 0) (c 1) (c 2) (c 3) (lC c k*c 6) (lC c k*c 7)==0) (IntKind.i64.wrap (c 3+lC c k*c 7))),.i (gN (c 0) (c 1) (c 2) (c 3) (lC c k*c 6) (lC c k*c 7))]
def atj(c:Nat->Int)(k:Int)(X:NY c)(H:0<=k/\k<=4096):TB.Ev 152 (pK c++[.i k]) (.ret (plW c k)):=by
 refine fC ?_;obtain⟨W,V⟩:=ah5 (k:=k) X;obtain⟨-,G,F,D,-,-⟩:=X;have Q:aH .sub I k (c 4)=k-c 4:=by simp only[aH];exact cG aa aa
 have P:aH .sub I (c 5) (c 4)=c 5-c 4:=by simp only[aH];exact cG aa aa
 have N:aH .add I (c 5-c 4) 1=c 5-c 4+1:=by simp only[aH];exact cG aa aa
 have M:min (max (k-c 4) 0) (c 5-c 4+1)=lC c k:=by simp only[lC];omega
 simp[agI,pK,Q,P,N,M,W,V,plW]
def aCM(c:Nat->Int)(ak:Int):∃o,TB.Ev 51 (pK c++[.i ak]) o/\∃G,o=.ret G/\TB.Ev 104 (pK c++[.i ak]) (.ret G):=by
 have W:=aCL c;have F:=ah4 ak 0 4095;simp only[pK,ef,eK] at W;by_cases X:NY c;by_cases D:0<=ak/\ak<=4095
 ·have x:=X;obtain⟨V,Q,P,w,N,M⟩:=x;obtain⟨v,u⟩:=ah5 (k:=ak) X;obtain⟨s,r⟩:=ah5 (k:=ak+1) X;have B:=atj c ak X aa;have A:=atj c (ak+1) X aa;simp only[pK,plW,ef,eK] at B A;have p:aH .add I (c 5) 1=c 5+1:=by simp only[aH];exact cG aa aa
  have z:aH .add I ak 1=ak+1:=by simp only[aH];exact cG aa aa
  have m:aH .sub I (min ak (c 5+1)) (c 4)=min ak (c 5+1)-c 4:=by simp only[aH];exact cG aa aa
  have l:aH .sub I (min ak (c 5)+1) (c 4)=min ak (c 5)+1-c 4:=by simp only[aH];exact cG aa aa
  have j:max 0 (min ak (c 5+1)-c 4)=lC c ak:=rfl;have h:max 0 (min ak (c 5)+1-c 4)=lC c (ak+1):=by simp only[lC];omega
  refine dZ ?_;simp[NE,pK,V,Q,P,D,N,M,p,z,m,l,j,h,v,u,s,r];refine ay (λq=>aa) (λ_=>ay (λy=>ay (λH=> ?_) (λH=> ?_)) (λy=> ?_))
  all_goals
   refine fC ?_;simp[Rz,pK,bh W,bh F,X,D,z,bh B,bh A,y]
  exact ay (λ_=>⟨rfl,rfl,rfl,rfl,rfl⟩) (λn=>aZ H n);exact λq=>aZ q H
 refine⟨.ret [.i 0,.i 0,.i 0,.i 0,.i 1],fC ?_,_,rfl,fC ?_⟩;obtain⟨V,Q,P,w,N,M⟩:=X;simp[NE,pK,V,Q,P,N,M]
 grind
 simp[Rz,pK,bh W,bh F,X]
 grind
 refine⟨.ret [.i 0,.i 0,.i 0,.i 0,.i 290],fC ?_,_,rfl,fC ?_⟩;simp only[NY] at X;simp[NE,pK]
 grind
 simp[Rz,pK,bh W,X]
end
section
variable{bB u:nQ}
end
section
variable[Inhabited dh]
variable{ak:Int}{c d g l:RV}{b a e:ar}
def Md.cr(k:Md ak c d g l b a e){i:Nat}(X:i<Y aK.ac):cr 134 (aI a) i=aI (cr 134 l i).ac:=by
 have:=(k.al i X).1;simp only[Y.cr,zq,this];rfl
end
def uH(X:ar)(a b:Int):Bool:=match jb 2 [a,b,0] X with
 |U W=>gA (W.getD 2 default).val
 |none=>E
def NZ(a b:Int)(X:aF):kZ 2 [a,b,0] X=decide ((X.take 2).map (λc=>bn c.val)=[a,b]):=rfl
def atk(x y a b:Int):∀P:ar,uH (gq 2 [RV.mk (.int I x) [],RV.mk (.int I y) [],RV.mk (.bool J) []] P) a b=(decide (([x,y]:bA)=[a,b])||uH P a b)
 |[]=>by
  by_cases h:([x,y]:bA)=[a,b];have X:x=a/\y=b:=by simpa using h
  obtain⟨rfl,rfl⟩:=X;simp[uH,gq,jb,NZ,bn,gA];have M:kZ 2 [a,b,0] [RV.mk (.int I x) [],RV.mk (.int I y) [],RV.mk (.bool J) []]=false:=by
   rw[NZ];exact decide_eq_false h
  rw[decide_eq_false h];simp[uH,gq,jb,M]
 |r::W=>by
  have N:=atk x y a b W;have V:(Bp (λc:RV=>bn c.val) (List.take 2 [RV.mk (.int I x) [],RV.mk (.int I y) [],RV.mk (.bool J) []]))=[x,y]:=rfl;by_cases X:(r.take 2).map (λc=>bn c.val)=[x,y];have Q:gq 2 [RV.mk (.int I x) [],RV.mk (.int I y) [],RV.mk (.bool J) []] (r::W)=[RV.mk (.int I x) [],RV.mk (.int I y) [],RV.mk (.bool J) []]::W:=by
   simp only[gq,V,kZ];rw[aL (by simpa using X)]
  rw[Q];by_cases h:([x,y]:bA)=[a,b];have H:x=a/\y=b:=by simpa using h
  obtain⟨rfl,rfl⟩:=H;simp[uH,jb,NZ,bn,gA];simp only[uH,jb,Ka,NZ,X,V,h];simp;have Q:gq 2 [RV.mk (.int I x) [],RV.mk (.int I y) [],RV.mk (.bool J) []] (r::W)=r::gq 2 [RV.mk (.int I x) [],RV.mk (.int I y) [],RV.mk (.bool J) []] W:=by
   simp only[gq,V,kZ];rw[aT (by simpa using X)]
  rw[Q];by_cases h:(r.take 2).map (λc=>bn c.val)=[a,b];have G:¬([x,y]:bA)=[a,b]:=λe=>X (by rw[h,e])
  simp only[uH,jb,Ka,NZ,h,G];simp;simp only[uH,jb,Ka,NZ,h] at N⊢;simpa using N
def aCN(x y a b:Int)(V:ar):uH (gq 2 [RV.mk (.int I x) [],RV.mk (.int I y) [],RV.mk (.bool J) []] V) a b=((decide (a=x)&&decide (b=y))||uH V a b):=by
 rw[atk];congr 1;by_cases X:a=x;subst X;by_cases W:b=y;subst W;simp;have:¬y=b:=λe=>W e.symm
 simp[W,this];have:¬x=a:=λe=>X e.symm
 simp[X,this]
section
variable{R:bq->Prop}{G:aU}{t:T}{O:ai}{L:db}
variable[Inhabited dh]

def LfK(ak a b:Int)(k:Nat):Prop:=ci bw k 2=ak/\ci bw k 4=7/\ci bw k 1=a/\ci bw k 9=b+1
def C5(ak a b:Int):Prop:=∃k<Y bw.ac,LfK ak a b k
def Y5(ak a b:Int)(i:Nat):Prop:=∀k<i,¬LfK ak a b k
def Y5.succ{a b:Int}(h:Y5 P a b W)(k:¬LfK P a b W):Y5 P a b (W+1):=λj X=>by
 by_cases e:j=W;subst e;exact k;exact h j aa
def tF(ak:Int)(a b:Nat):Prop:=a<b/\b<Y aK.ac/\(C5 ak a b\/C5 ak b a)
structure rn(v:ar)(P:Nat->Nat->Prop):Prop where
 ok:∀x∈v,0<=aM 0 x/\aM 0 x<aM 1 x/\aM 1 x<Y aK.ac
 iff:∀a b:Nat,(∃x∈v,aM 0 x=a/\aM 1 x=b)<->P a b
def rn.A9{P W:Nat->Nat->Prop}(h:rn X P)(e:∀a b,P a b<->W a b):rn X W:=⟨h.ok,λa b=>(h.iff a b).trans (e a b)⟩
def rn.add{P:Nat->Nat->Prop}(h:rn X P)(H:W<Q)(G:Q<Y aK.ac):rn (X++[[RV.mk (.int I (W:Int)) [],RV.mk (.int I (Q:Int)) []]]) (λa b=>P a b\/(a=W/\b=Q)):=by
 refine⟨λx V=> ?_,λa b=> ?_⟩;rcases eW.1 V with V|V;exact h.ok x V;simp at V;subst V;show 0<=(W:Int)/\(W:Int)<(Q:Int)/\(Q:Int)<_;omega;rw[<-h.iff];constructor;rintro⟨x,V,N,M⟩;rcases eW.1 V with V|V;exact .inl ⟨x,V,N,M⟩;simp at V;subst V;exact .inr ⟨(Int.ofNat_inj.1 N).symm,(Int.ofNat_inj.1 M).symm⟩;rintro(⟨x,V,N,M⟩|⟨rfl,rfl⟩);exact⟨x,eW.2 (.inl V),N,M⟩;exact⟨_,Of _ (Hm.2 rfl),rfl,rfl⟩
open Classical in
def atl(h:fD)(ak a b:Int)(B:-1<=b/\b<=4096):TB.Ev 225 (wk++[.i ak,.i a,.i b]) (.ret [.b (decide (C5 ak a b))]):=by
 refine fC ?_;have Q:aH .add I b 1=b+1:=by simp only[aH];exact cG aa aa
 obtain⟨D,V⟩:∃D,D=decide (C5 ak a b):=⟨_,rfl⟩;rw[<-V];simp[agF,wk];refine bW (Y bw.ac) (λi P=>P=[]/\Y5 ak a b i) ⟨0,rfl,aa,rfl,λk N=>aa⟩ ?_;rintro i _ W ⟨rfl,X⟩;simp[h.sg.len,Q];refine ay (λW=> ?_) (λA=> ?_);simp[bK W h.sg.sm,W];refine ay (λM=>ay (λH=>ay (λG=>ay (λF=> ?_) (λn=>X.succ λw=>n w.2.2.2)) (λn=>X.succ λw=>n w.2.2.1)) (λn=>X.succ λw=>n w.2.1)) (λn=>X.succ λw=>n w.1);rw[V];exact decide_eq_true (p:=C5 ak a b) ⟨i,W,M,H,G,F⟩;rw[V];exact decide_eq_false (p:=C5 ak a b) λ⟨k,N,w⟩=>X k aa w
open Classical in
def r56(h:fD)(ak:Int)(x:Y aK.ac<=64):∃o,TB.Ev 189 (wk++[.i ak]) o/\∃v,o=.ret [.r (aI v)]/\Y v<=4096/\rn v (tF ak):=by
 refine dZ ?_;simp[T56,wk];refine bW (Y aK.ac) (λi V=>∃v,V=[.r (aI v)]/\Y v<=i*64/\rn v λa b=>tF ak a b/\a<i) ⟨0,rfl,aa,[],rfl,av,⟨av,λa b=>av⟩⟩ ?_;rintro i _ N ⟨v,rfl,D,X⟩;simp[h.rl.len];refine ay (λN=> ?_) (λw=> ?_);refine bW (Y aK.ac) (λj V=>i<j/\∃v,V=[.r (aI v)]/\Y v<=i*64+j/\rn v λa b=>tF ak a b/\(a<i\/a=i/\b<j)) ⟨i+1,JI aa,aa,aa,v,rfl,aa,X.A9 λa b=> ?_⟩ ?_;constructor;exact λ⟨p,q⟩=>⟨p,.inl q⟩
 exact λ⟨p,q⟩=>⟨p,by have:=p.1;omega⟩
 rintro j _ W ⟨M,v,rfl,D,X⟩;simp[h.rl.len];refine ay (λW=> ?_) (λu=> ?_);have H:=atl h ak i j aa;have G:=atl h ak j i aa;simp only[wk,ef,eK] at H G;have F:(C5 ak i j\/C5 ak j i)->rn (v++[[RV.mk (.int I (i:Int)) [],RV.mk (.int I (j:Int)) []]]) λa b=>tF ak a b/\(a<i\/a=i/\b<j+1):=λq=>(X.add M W).A9 λa b=>by
  constructor;rintro(⟨p,q⟩|⟨rfl,rfl⟩);exact⟨p,aa⟩;exact⟨⟨M,W,q⟩,aa⟩;rintro⟨p,q⟩;by_cases e:a=i/\b=j;exact .inr e;exact .inl ⟨p,aa⟩
 have B:¬C5 ak i j->¬C5 ak j i->rn v λa b=>tF ak a b/\(a<i\/a=i/\b<j+1):=λQ P=>X.A9 λa b=>by
  constructor;exact λ⟨p,q⟩=>⟨p,aa⟩
  rintro⟨p,q⟩;refine⟨p, ?_⟩;by_cases e:a=i/\b=j;obtain⟨rfl,rfl⟩:=e;exact aZ p.2.2 (λz=>z.elim Q P);omega
 rw[bh H];simp;rw[bh G];simp[bK W h.rl.sm];refine ay (λq=>⟨aa,aa,_,rfl,dl,F (.inl q)⟩) (λQ=>ay (λq=>⟨aa,aa,_,rfl,dl,F (.inr q)⟩) (λP=>⟨aa,v,rfl,aa,B Q P⟩));have A:j=Y aK.ac:=aa;subst A;simp[bK N h.rl.sm];refine⟨v,rfl,aa,X.A9 λa b=> ?_⟩;constructor;exact λ⟨p,q⟩=>⟨p,aa⟩
 exact λ⟨p,q⟩=>⟨p,by have:=p.2.1;omega⟩
 have y:i=Y aK.ac:=aa;subst y;exact⟨v,rfl,aa,X.A9 λa b=>⟨λp=>p.1,λp=>⟨p,by have:=p.1;have:=p.2.1;omega⟩⟩⟩
def PrK(ak a b:Int)(k:Nat):Prop:=ci bw k 2=ak/\ci bw k 4=7/\ci bw k 9-1≠ci bw k 1/\a=min (ci bw k 1) (ci bw k 9-1)/\b=max (ci bw k 1) (ci bw k 9-1)
def JS(ak:Int)(m:ar)(i:Nat):Prop:=∀a b:Int,uH m a b=J<->∃k<i,PrK ak a b k
def JS.skip(h:JS P X W)(n:¬(ci bw W 2=P/\ci bw W 4=7/\ci bw W 9-1≠ci bw W 1)):JS P X (W+1):=λa b=>by
 rw[h a b];constructor;rintro⟨k,V,w⟩;exact⟨k,aa,w⟩;rintro⟨k,V,w⟩;by_cases e:k=W;subst e;exact aZ ⟨w.1,w.2.1,w.2.2.1⟩ n;exact⟨k,aa,w⟩
def JS.ins(h:JS P X W)(V:ci bw W 2=P)(Q:ci bw W 4=7)(N:ci bw W 9-1≠ci bw W 1):JS P (gq 2 [RV.mk (.int I (min (ci bw W 1) (ci bw W 9-1))) [],RV.mk (.int I (max (ci bw W 1) (ci bw W 9-1))) [],RV.mk (.bool J) []] X) (W+1):=λa b=>by
 rw[aCN,jL,h a b,aw,ce,ce];constructor;rintro(⟨M,H⟩|⟨k,G,w⟩);exact⟨W,aa,V,Q,N,M,H⟩;exact⟨k,aa,w⟩;rintro⟨k,G,w⟩;by_cases e:k=W;subst e;exact .inl ⟨w.2.2.2.1,w.2.2.2.2⟩;exact .inr ⟨k,aa,w⟩
def atm(ak:Int)(o:bq):Prop:=∃v,o=.ret [.r (aI v),.i 0]/\Y v<=4096/\rn v (tF ak)
def aCQ(h:fD)(ak:Int)(B:lB=0)(l:jm ak 0 (fy-1)=J):∃o,TB.Ev 90 (wk++[.i ak]) o/\atm ak o:=by
 obtain⟨P,A⟩:∃P:bq->Prop,∀o,P o<->atm ak o:=⟨_,λ_=>Iff.rfl⟩
 suffices g:∃o,TB.Ev 90 (wk++[.i ak]) o/\P o by
  obtain⟨o,f,d⟩:=g;exact⟨o,f,(A o).1 d⟩
 refine dZ ?_;have F:=e65 tD h ak;obtain⟨-,c⟩:=xI tD h;simp only[wk,ef,eK] at F;simp[B,l] at F;have D:=c B;have hn:=D.nr;have aC:=D.ns;simp[T23,wk,bh F];refine bW (Y bw.ac) (λi M=>∃m,M=[.r (aI m)]/\JS ak m i) ⟨0,rfl,aa,[],rfl,λa b=>by simp[uH,jb]⟩ ?_;rintro i _ X ⟨m,rfl,H⟩;simp[h.sg.len];split;rename_i X;simp[bK X h.sg.sm,X];have af:=D.GX i X;refine ay (λq2=>ay (λy=> ?_) (λn=>⟨m,rfl,H.skip λw=>n w.2.1⟩)) (λn=>⟨m,rfl,H.skip λw=>n w.1⟩);have w9:=af.wth;rw[aL (show ci bw i 4=7\/ci bw i 4=8 from .inl y)] at w9;have e1:aH .sub I (bn (aQ bw.ac (i:Int) 9).val) 1=ci bw i 9-1:=by
  show aH .sub I (ci bw i 9) 1=_;simp only[aH];exact cG aa aa
 rw[e1];exact ay (λn=>⟨m,rfl,H.skip λw=>w.2.2 n⟩) (λn=>⟨_,rfl,H.ins q2 y n⟩);rename_i ag;have al:i=Y bw.ac:=aa;subst al;have x:∀a b:Nat,a<Y aK.ac->b<Y aK.ac->(uH m a b=J<->tF ak a b):=λa b ha hb=>by
  rw[H a b];constructor;rintro⟨k,W,V,Q,u,s,w5⟩;refine⟨aa,hb, ?_⟩;by_cases z:ci bw k 1<=ci bw k 9-1;exact .inl ⟨k,W,V,Q,aa,aa⟩;exact .inr ⟨k,W,V,Q,aa,aa⟩;rintro⟨z,-,(⟨k,W,V,Q,u,s⟩|⟨k,W,V,Q,u,s⟩)⟩;exact⟨k,W,V,Q,aa,aa,aa⟩;exact⟨k,W,V,Q,aa,aa,aa⟩
 refine bW (Y aK.ac) (λi M=>∃v,M=[.r (aI v)]/\Y v<=i*64/\rn v λa b=>tF ak a b/\a<i) ⟨0,rfl,aa,[],rfl,av,⟨av,λa b=>av⟩⟩ ?_;rintro i _ X ⟨v,rfl,k1,N⟩;simp[h.rl.len];split;rename_i X;refine bW (Y aK.ac) (λj M=>∃v,M=[.r (aI v)]/\Y v<=i*64+j/\rn v λa b=>tF ak a b/\(a<i\/a=i/\b<j)) ⟨0,rfl,aa,v,rfl,aa,N.A9 λa b=>⟨λw=>⟨w.1,.inl w.2⟩,λw=>⟨w.1,by have:=w.2;omega⟩⟩⟩ ?_;rintro j _ G ⟨v,rfl,k1,N⟩;simp[h.rl.len];split;rename_i G;simp[bK G h.rl.sm];refine ay (λq=> ?_) (λq=> ?_);have q:uH m i j=true:=q;have q:=(x i j X G).1 q;refine⟨aa,_,rfl,dl,(N.add q.1 q.2.1).A9 λa b=> ?_⟩;constructor;rintro(⟨p,z⟩|⟨rfl,rfl⟩);exact⟨p,aa⟩;exact⟨q,aa⟩;rintro⟨p,z⟩;by_cases e:a=i/\b=j;exact .inr e;exact .inl ⟨p,aa⟩;have q:¬uH m i j=true:=q;have q:=λz=>q ((x i j X G).2 z)
 refine⟨v,rfl,aa,N.A9 λa b=> ?_⟩;constructor;exact λ⟨p,z⟩=>⟨p,aa⟩
 rintro⟨p,z⟩;refine⟨p, ?_⟩;by_cases e:a=i/\b=j;obtain⟨rfl,rfl⟩:=e;exact aZ p q;omega;rename_i a0;have an:j=Y aK.ac:=aa;subst an;simp[bK X h.rl.sm];refine⟨v,rfl,aa,N.A9 λa b=> ?_⟩;constructor;exact λ⟨p,z⟩=>⟨p,aa⟩
 exact λ⟨p,z⟩=>⟨p,by have:=p.2.1;omega⟩
 rename_i ag;have aA:i=Y aK.ac:=aa;subst aA;exact(A _).2 ⟨v,rfl,aa,N.A9 λa b=>⟨λw=>w.1,λw=>⟨w,by have:=w.1;have:=w.2.1;omega⟩⟩⟩
def atn(h:fD)(ak:Int)(X:lB=0)(W:jm ak 0 (fy-1)=J):∃v,TB.Ev 90 (wk++[.i ak]) (.ret [.r (aI v),.i 0])/\Y v<=4096/\rn v (tF ak):=by
 obtain⟨o,V,w,rfl,Q,P⟩:=aCQ h ak X W;exact⟨w,V,Q,P⟩
end
inductive Rt(g:Nat->Nat):Nat->Nat->Prop where
 |here {k:Nat} (h:g k=k):Rt g k k
 |up {k r:Nat} (h:g k≠k) (h2:Rt g (g k) r):Rt g k r
def Rt.RW(h:Rt V W Q):∀{X:Nat},Rt V W X->Q=X:=by
 induction h with
 |here h=>
  intro X P;cases P with
  |here=>rfl
  |up R O=>exact(R h).elim
 |up h O N=>
  intro X P;cases P with
  |here R=>exact(h R).elim
  |up R M=>exact N M
def Rt.fix(h:Rt V W Q):V Q=Q:=by
 induction h with
 |here h=>exact h
 |up h R X=>exact X
def Rt.le(X:∀q,V q<=q)(h:Rt V W Q):Q<=W:=by
 induction h with
 |here h=>exact bY _
 |up h P R=>exact pO R (X _)
def tG(g:Nat->Nat)(k v:Nat):Nat->Nat:=λq=>if q=k then v else g q
def G5:Nat->Nat->(Nat->Nat)->Nat->Nat
 |0,_,g=>g
 |n+1,k,g=>if g k=k then g else tG (G5 n (g k) g) k (G5 n (g k) g (g k))
def ato{g:Nat->Nat}(W:∀q,g q<=q):∀n k,k<n->Rt g k (G5 n k g k)/\∀q,G5 n k g q=g q\/Rt g q (G5 n k g q)
 |0,k,h=>aZ h (avJ _)
 |n+1,k,h=>by
  simp only[G5];by_cases X:g k=k;rw[aL X];exact⟨by rw[X];exact .here X,λq=>.inl rfl⟩;rw[aT X];have P:=avy (W k) X;obtain⟨V,Q⟩:=ato W n (g k) aa;refine⟨by simp only[tG,cS];exact .up X V,λq=> ?_⟩;simp only[tG];by_cases R:q=k;subst R;rw[aL rfl];exact .inr (.up X V);rw[aT R];exact Q q
def Rt.short{W:Nat->Nat}(Q:∀q,V q<=q)(h:∀q,W q=V q\/Rt V q (W q))(x:Nat):∀{r:Nat},Rt V x r->Rt W x r:=by
 induction x using SX with
 |_ x P=>
  intro r O;cases O with
  |here X=>
   rcases h x with e|e;exact .here (e.trans X);exact .here (e.RW (.here X))
  |up X R=>
   have N:=avy (Q x) X;rcases h x with e|e;refine .up (by rw[e];exact X) ?_;rw[e];exact P _ N R;have M:W x=r:=e.RW (.up X R);have L:=R.le Q;refine .up aa ?_;rw[M];exact P r aa (.here R.fix)
def aCR{X:Nat->Nat}(W:∀q,V q<=q)(h:∀q,X q=V q\/Rt V q (X q))(q:Nat):X q<=q:=by
 rcases h q with e|e;rw[e];exact W q;exact e.le W
def Rt.join{x r:Nat}(O:V W=W)(N:V Q=Q)(h:Rt V x r):Rt (tG V W Q) x (if r=W then Q else r):=by
 induction h with
 |here R=>
  rename_i k;by_cases X:k=W;subst X;rw[aL rfl];by_cases P:Q=k;subst P;exact .here (by simp[tG]);have e:tG V k Q k=Q:=by simp[tG]
  refine .up (by rw[e];exact P) ?_;rw[e];exact .here (by simp[tG,P,N]);rw[aT X];exact .here (by simp[tG,X,R])
 |up R L M=>
  rename_i k r;have X:k≠W:=λe=>R (by rw[e];exact O)
  have e:tG V W Q k=V k:=by simp[tG,X]
  refine .up (by rw[e];exact R) ?_;rw[e];exact M
def G6(g:Nat->Nat)(a b:Nat):Prop:=∃r,Rt g a r/\Rt g b r
def G6.short{g X:Nat->Nat}{a b:Nat}(W:∀q,g q<=q)(h:∀q,X q=g q\/Rt g q (X q))(k:G6 g a b):G6 X a b:=by
 obtain⟨r,V,R⟩:=k;exact⟨r,V.short W h,R.short W h⟩
def G6.join{g:Nat->Nat}{X W a b:Nat}(V:g X=X)(R:g W=W)(k:G6 g a b):G6 (tG g X W) a b:=by
 obtain⟨r,Q,P⟩:=k;exact⟨_,Q.join V R,P.join V R⟩
def gY(m:ar)(q:Nat):Nat:=(aM 0 (m.getD q [])).toNat
def atp(R:W<Y X):gY (X.set W N)=tG (gY X) W (aM 0 N).toNat:=by
 funext q;simp only[gY,tG,cw];by_cases V:q=W;subst V;rw[aL rfl,Hk R];rfl;rw[aT V,ss (Ne.symm V)]
def JT(h:mB X=J)(q:Nat):gY X q<=q:=by
 unfold gY;by_cases W:q<Y X;have:=FD h W;omega;rw[cw,km aa];show(0:Int).toNat<=q;simp
def atq{m:ar}(h:mB m=J):∀(n:Nat)(i:Int),0<=i->i<Y m->gY (rH n i m)=G5 n i.toNat (gY m)
 |0,_,_,_=>rfl
 |n+1,i,W,V=>by
  obtain⟨R,O,Q⟩:=abg h W V;have P:=atq h n _ R Q;have e:gY m i.toNat=(aM 0 (m.getD i.toNat [])).toNat:=rfl;simp only[rH,G5];by_cases X:aM 0 (m.getD i.toNat [])=i;rw[aL X,aL (by rw[e,X])];rw[aT X,aT (by rw[e];omega),atp (by rw[T9];omega),e,<-P];rfl
def ah8(h:∀k<Y X,0<=aM 0 (X.getD k [])/\aM 0 (X.getD k [])<=k):mB X=true:=by
 refine fZ.2 λk W=> ?_
 simp only[aw,ce];exact h k (uO.1 W)
def Sc(h:mB X=J)(k:Nat)(W:k<Y X):aM 0 (X.getD k [])=(gY X k:Int):=by
 have:=FD h W;unfold gY;omega
def aCS(h:mB X=J)(R:∀x∈H,x∈X)(Q:∀q,gY H q<=q):mB H=true:=by
 refine ah8 λk P=> ?_
 have O:H.getD k []∈H:=ak8 P _;obtain⟨p,V⟩:=tO (R _ O);have N:p<Y X:=(cu.1 V).1;have W:=(FD h N).1;rw[cw,V] at W;have W:0<=aM 0 (H.getD k []):=W;have:=Q k;unfold gY at this;omega
def aCT(h:mB X=J)(L:Y X<=1099511627776)(Q:0<=P)(O:P<Y X):∃W,wv P X=U W/\Y W=Y X/\mB W=J/\(∀q,gY W q=gY X q\/Rt (gY X) q (gY W q))/\Rt (gY X) P.toNat (gY W P.toNat):=by
 obtain⟨W,V⟩:∃W,wv P X=U W:=⟨rH (Y X) P X,by unfold wv;rw[aL (by simp[L,Q,O,h])]⟩;obtain⟨-,-,-,-,e⟩:=Ps V;have N:=atq h (Y X) P Q O;rw[<-e] at N;obtain⟨M,R⟩:=ato (JT h) (Y X) P.toNat aa;rw[<-N] at M R;exact⟨W,V,abh V,aCS h (Ua V) (aCR (JT h) R),R,M⟩
