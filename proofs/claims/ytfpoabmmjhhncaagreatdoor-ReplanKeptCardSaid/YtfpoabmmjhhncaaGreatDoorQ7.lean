/- Part 7 of the proof. -/
import Derived.Test.YtfpoabmmjhhncaaGreatDoorQ6
set_option linter.all false
set_option maxRecDepth 100000
set_option maxHeartbeats 100000000
open Bool renaming and_eq_true->aw,or_eq_true->iD,true->J,false->E
open List renaming getElem?_eq_some_iff->bJ,getD_eq_getElem?_getD->cw,getElem?_eq_getElem->ce,getElem?_append_left->dF,getElem?_append_right->gK,mem_append->eC,all_eq_true->eO,length_append->fQ,cons_append->gA,getElem?_eq_none->jx,nil_append->gU,ext_getElem?->jV,getElem?_set_ne->pM,getElem?_of_mem->qI,getElem_mem->pN,getElem?_set->td,mem_or_eq_of_mem_set->Bw,getElem?_set_self->Dy,mem_range->vZ,mem_append_right->JC,length_singleton->NE,find?_cons->Ga,mem_singleton->NI,map->xV,getElem?_modify->alo,length_set->alx,take_add_one->axx,length->Y
open Nat renaming le_refl->bU,zero_add->gV,le_trans->pP,min_eq_left->Gb,lt_of_le_of_ne->NJ,strongRecOn->JH,min_eq_right->aaE,le_total->alL
open Option renaming some->U
open Go.IntKind renaming i64->I
namespace Go.Proofs.YtfpoabmmjhhncaaGreatDoor.Y
open Go.RowKit
noncomputable section
variable{X:aq}{N:aC}{W P:Nat}{Q:Int}{V:Nat→Nat}
section
variable[Inhabited cm]

def SgE(ar:Int)(X V W:RV)(i:Nat):Prop:=(∀k<(fY i ar).length,∀m,Fst (cr 64 W i) (gt (fY i ar) k 0) m->xi (Zv X (gt (fY i ar) k 0) i) 1=0)/\xi (Zw ar V X W i) 1=0


def SgA(ar:Int)(X W V R:RV):Prop:=∀i<Y aM.ae,cb W i 0=J->SgE ar X V R i



structure ObE(ar:Int)(wg bd mv bf af re bx:RV):Prop where
 ex:aju ar wg bd mv bf af re bx
 bld:∀i<Y aM.ae,SC ar mv bf bd re i
 sge:SgA ar bd mv bf re
end
section
variable{R:aU->Prop}{G:aI}{t:T}{O:ai}{L:cG}
variable[Inhabited cm]
def SF(v:aq)(k:Nat):Nat:=(v.getD k []).length
structure Md(ar:Int)(bd mv bf re:RV)(vs vr vb:aq):Prop where
 wk:lR=0
 br:0<=ar/\ar<hJ
 lbd:Y bd.ae=Y aM.ae
 lmv:Y mv.ae=Y aM.ae
 lbf:Y bf.ae=Y aM.ae
 lre:Y re.ae=Y aM.ae
 gF:∀i<Y aM.ae,M6 bd i=0/\Zt bf i=0/\(if cb mv i 0 then m85 ar re i=0 else(cr 64 re i).ae=[])
 ls:Y vs=Y aM.ae
 lr:Y vr=Y aM.ae
 lb:Y vb=Y aM.ae
 al:∀k<Y aM.ae,bz vr (k:Int) 0=eo (cr 64 re k).ae/\SF vs k=13/\SF vb k=4/\SC ar mv bf bd re k/\(∀j<13,bF (bz vs (k:Int) j).val=gS ar mv bf re k j)/\∀j<4,bF (bz vb (k:Int) j).val=gB ar mv bf bd re k j

def M9(f:Nat->Int):Nat->Int
 |0=>0
 |n+1=>if M9 f n=0 then f n else M9 f n
def ZA(ar:Int)(d g l:RV)(k:Nat):Int:=if cb d k 0=J then Zu ar g l k 13 else 0
def SH(e:Int):aU:=.ret [.i 0,.r (eo []),.r (eo []),.r (eo []),.r (eo []),.r (eo []),.i e]
structure AcE(ar:Int)(p d g l M F S V B:RV):Prop where
 m:Sl M/\Y M.ae=Y aM.ae/\∀i<Y aM.ae,cb M i 0=cb d i 0
 f:Sl F/\Y F.ae=Y aM.ae/\∀i<Y aM.ae,∀j<13,ci F i j=ci g i j
 s:Sl S/\Y S.ae=Y aM.ae/\∀i<Y aM.ae,∀j<13,ci S i j=gS ar d g l i j
 v:Sl V/\Y V.ae=Y aM.ae/\∀i<Y aM.ae,Sl (cr 64 V i)/\(cr 64 V i).ae=(cr 64 l i).ae
 b:Sl B/\Y B.ae=Y aM.ae/\∀i<Y aM.ae,∀j<4,ci B i j=gB ar d g p l i j
structure MkE(ar:Int)(p d g l:RV)(o:aU):Prop where
 c:lR≠0->o=SH lR
 a:lR=0->(ar<0\/hJ<=ar)->o=SH 1
 r:lR=0->(0<=ar/\ar<hJ)->¬Zx ar p d g l->o=SH 310
 e:lR=0->(0<=ar/\ar<hJ)->Zx ar p d g l->M9 (ZA ar d g l) (Y aM.ae)≠0->o=SH (M9 (ZA ar d g l) (Y aM.ae))
 k:lR=0->(0<=ar/\ar<hJ)->Zx ar p d g l->M9 (ZA ar d g l) (Y aM.ae)=0->∃M F S V B,o=.ret [.i ar,.r M,.r F,.r S,.r V,.r B,.i 0]/\AcE ar p d g l M F S V B
section
variable{ar:Int}{p d g l:RV}
end
def ajA(h:Y X=W):ci (eo (X++[N])) W P=bF (N.getD P default).val:=by
 show bF (bz (X++[N]) W P).val=_;rw[arU h]
def ajB{w:aq}(h:W<Y X):ci (eo (X++w)) W P=ci (eo X) W P:=by
 show bF (bz (X++w) W P).val=bF (bz X W P).val;rw[arV h]
structure ZB(ar:Int)(p d g l:RV)(n:Nat)(vs vb:aq):Prop where
 s:Y vs=n/\∀i<n,∀j<13,ci (eo vs) i j=gS ar d g l i j
 b:Y vb=n/\∀i<n,∀j<4,ci (eo vb) i j=gB ar d g p l i j
def ZB.add{p d g l:RV}{P:aq}(h:ZB Q p d g l W X P){M:aC}(H:∀j<13,bF (N.getD j default).val=gS Q d g l W j)(G:∀j<4,bF (M.getD j default).val=gB Q d g p l W j):ZB Q p d g l (W+1) (X++[N]) (P++[M]):=by
 refine⟨⟨by simp[h.s.1],λi F j V=> ?_⟩,by simp[h.b.1],λi F j V=> ?_⟩;by_cases e:i=W;subst e;rw[ajA h.s.1];exact H j V;rw[ajB (by rw[h.s.1];omega)];exact h.s.2 i aa j V;by_cases e:i=W;subst e;rw[ajA h.b.1];exact G j V;rw[ajB (by rw[h.b.1];omega)];exact h.b.2 i aa j V


section
variable{a b:RV}{n:Nat}
end
end
section
variable{R:aU->Prop}{G:aI}{t:T}{O:ai}{L:cG}
open Classical in
end
section
variable{be u:md}
end
section
variable[Inhabited cm]
variable{ar:Int}{c d g l:RV}{b a e:aq}
def Md.cr(k:Md ar c d g l b a e){i:Nat}(X:i<Y aM.ae):cr 64 (eo a) i=eo (cr 64 l i).ae:=by
 have:=(k.al i X).1;simp only[Y.cr,aqK,this];rfl
end
def rD(X:aq)(a b:Int):Bool:=match gD 2 [a,b,0] X with
 |U W=>iF (W.getD 2 default).val
 |none=>E
def Jp(a b:Int)(X:aC):jJ 2 [a,b,0] X=decide ((X.take 2).map (λc=>bF c.val)=[a,b]):=rfl
def ajC(x y a b:Int):∀P:aq,rD (eL 2 [RV.mk (.int I x) [],RV.mk (.int I y) [],RV.mk (.bool J) []] P) a b=(decide (([x,y]:aZ)=[a,b])||rD P a b)
 |[]=>by
  by_cases h:([x,y]:aZ)=[a,b];have X:x=a/\y=b:=by simpa using h
  obtain⟨rfl,rfl⟩:=X;simp[rD,eL,gD,Jp,bF,iF];have M:jJ 2 [a,b,0] [RV.mk (.int I x) [],RV.mk (.int I y) [],RV.mk (.bool J) []]=false:=by
   rw[Jp];exact decide_eq_false h
  rw[decide_eq_false h];simp[rD,eL,gD,M]
 |r::W=>by
  have N:=ajC x y a b W;have V:(xV (λc:RV=>bF c.val) (List.take 2 [RV.mk (.int I x) [],RV.mk (.int I y) [],RV.mk (.bool J) []]))=[x,y]:=rfl;by_cases X:(r.take 2).map (λc=>bF c.val)=[x,y];have Q:eL 2 [RV.mk (.int I x) [],RV.mk (.int I y) [],RV.mk (.bool J) []] (r::W)=[RV.mk (.int I x) [],RV.mk (.int I y) [],RV.mk (.bool J) []]::W:=by
   simp only[eL,V,jJ];rw[aE (by simpa using X)]
  rw[Q];by_cases h:([x,y]:aZ)=[a,b];have H:x=a/\y=b:=by simpa using h
  obtain⟨rfl,rfl⟩:=H;simp[rD,gD,Jp,bF,iF];simp only[rD,gD,Ga,Jp,X,V,h];simp;have Q:eL 2 [RV.mk (.int I x) [],RV.mk (.int I y) [],RV.mk (.bool J) []] (r::W)=r::eL 2 [RV.mk (.int I x) [],RV.mk (.int I y) [],RV.mk (.bool J) []] W:=by
   simp only[eL,V,jJ];rw[aJ (by simpa using X)]
  rw[Q];by_cases h:(r.take 2).map (λc=>bF c.val)=[a,b];have G:¬([x,y]:aZ)=[a,b]:=λe=>X (by rw[h,e])
  simp only[rD,gD,Ga,Jp,h,G];simp;simp only[rD,gD,Ga,Jp,h] at N⊢;simpa using N
def ar1(x y a b:Int)(V:aq):rD (eL 2 [RV.mk (.int I x) [],RV.mk (.int I y) [],RV.mk (.bool J) []] V) a b=((decide (a=x)&&decide (b=y))||rD V a b):=by
 rw[ajC];congr 1;by_cases X:a=x;subst X;by_cases W:b=y;subst W;simp;have:¬y=b:=λe=>W e.symm
 simp[W,this];have:¬x=a:=λe=>X e.symm
 simp[X,this]
section
variable{R:aU->Prop}{G:aI}{t:T}{O:ai}{L:cG}
variable[Inhabited cm]

def ZC(ar a b:Int)(k:Nat):Prop:=ci bo k 2=ar/\ci bo k 4=7/\ci bo k 1=a/\ci bo k 9=b+1
def LfR(ar a b:Int):Prop:=∃k<Y bo.ae,ZC ar a b k
def ZD(ar a b:Int)(i:Nat):Prop:=∀k<i,¬ZC ar a b k
def ZD.succ{a b:Int}(h:ZD Q a b W)(k:¬ZC Q a b W):ZD Q a b (W+1):=λj X=>by
 by_cases e:j=W;subst e;exact k;exact h j aa
def xJ(ar:Int)(a b:Nat):Prop:=a<b/\b<Y aM.ae/\(LfR ar a b\/LfR ar b a)
structure xK(v:aq)(P:Nat->Nat->Prop):Prop where
 ok:∀x∈v,0<=aK 0 x/\aK 0 x<aK 1 x/\aK 1 x<Y aM.ae
 iff:∀a b:Nat,(∃x∈v,aK 0 x=a/\aK 1 x=b)<->P a b
def xK.Jn{P W:Nat->Nat->Prop}(h:xK X P)(e:∀a b,P a b<->W a b):xK X W:=⟨h.ok,λa b=>(h.iff a b).trans (e a b)⟩
def xK.add{V:Nat->Nat->Prop}(h:xK X V)(H:W<P)(G:P<Y aM.ae):xK (X++[[RV.mk (.int I (W:Int)) [],RV.mk (.int I (P:Int)) []]]) (λa b=>V a b\/(a=W/\b=P)):=by
 refine⟨λx Q=> ?_,λa b=> ?_⟩;rcases eC.1 Q with Q|Q;exact h.ok x Q;simp at Q;subst Q;show 0<=(W:Int)/\(W:Int)<(P:Int)/\(P:Int)<_;omega;rw[<-h.iff];constructor;rintro⟨x,Q,N,M⟩;rcases eC.1 Q with Q|Q;exact .inl ⟨x,Q,N,M⟩;simp at Q;subst Q;exact .inr ⟨(Int.ofNat_inj.1 N).symm,(Int.ofNat_inj.1 M).symm⟩;rintro(⟨x,Q,N,M⟩|⟨rfl,rfl⟩);exact⟨x,eC.2 (.inl Q),N,M⟩;exact⟨_,JC _ (NI.2 rfl),rfl,rfl⟩
open Classical in
open Classical in
def PrK(ar a b:Int)(k:Nat):Prop:=ci bo k 2=ar/\ci bo k 4=7/\ci bo k 9-1≠ci bo k 1/\a=min (ci bo k 1) (ci bo k 9-1)/\b=max (ci bo k 1) (ci bo k 9-1)
def FU(ar:Int)(m:aq)(i:Nat):Prop:=∀a b:Int,rD m a b=J<->∃k<i,PrK ar a b k
def FU.skip(h:FU Q X W)(n:¬(ci bo W 2=Q/\ci bo W 4=7/\ci bo W 9-1≠ci bo W 1)):FU Q X (W+1):=λa b=>by
 rw[h a b];constructor;rintro⟨k,V,w⟩;exact⟨k,aa,w⟩;rintro⟨k,V,w⟩;by_cases e:k=W;subst e;exact bp ⟨w.1,w.2.1,w.2.2.1⟩ n;exact⟨k,aa,w⟩
def FU.ins(h:FU Q X W)(V:ci bo W 2=Q)(P:ci bo W 4=7)(N:ci bo W 9-1≠ci bo W 1):FU Q (eL 2 [RV.mk (.int I (min (ci bo W 1) (ci bo W 9-1))) [],RV.mk (.int I (max (ci bo W 1) (ci bo W 9-1))) [],RV.mk (.bool J) []] X) (W+1):=λa b=>by
 rw[ar1,iD,h a b,aw,bZ,bZ];constructor;rintro(⟨M,H⟩|⟨k,G,w⟩);exact⟨W,aa,V,P,N,M,H⟩;exact⟨k,aa,w⟩;rintro⟨k,G,w⟩;by_cases e:k=W;subst e;exact .inl ⟨w.2.2.2.1,w.2.2.2.2⟩;exact .inr ⟨k,aa,w⟩
def ajE(ar:Int)(o:aU):Prop:=∃v,o=.ret [.r (eo v),.i 0]/\Y v<=4096/\xK v (xJ ar)
def ar3(h:jT)(ar:Int)(B:lR=0)(l:k9 ar 0 (hJ-1)=J):∃o,TB.Ev 48 (wk++[.i ar]) o/\ajE ar o:=by
 obtain⟨P,A⟩:∃P:aU->Prop,∀o,P o<->ajE ar o:=⟨_,λ_=>Iff.rfl⟩
 suffices g:∃o,TB.Ev 48 (wk++[.i ar]) o/\P o by
  obtain⟨o,f,d⟩:=g;exact⟨o,f,(A o).1 d⟩
 refine jS ?_;have F:=e65 xF h ar;obtain⟨-,c⟩:=zK xF h;simp only[wk,gA,gU] at F;simp[B,l] at F;have D:=c B;have hn:=D.nr;have a1:=D.ns;simp[Y6,wk,dC F];refine em (Y bo.ae) (λi M=>∃m,M=[.r (eo m)]/\FU ar m i) ⟨0,rfl,aa,[],rfl,λa b=>by simp[rD,gD]⟩ ?_;rintro i _ X ⟨m,rfl,H⟩;simp[h.sg.len];split;rename_i X;simp[du X h.sg.sm,X];have af:=D.Sn i X;refine cY (λq2=>cY (λy=> ?_) (λn=>⟨m,rfl,H.skip λw=>n w.2.1⟩)) (λn=>⟨m,rfl,H.skip λw=>n w.1⟩);have w9:=af.wth;rw[aE (show ci bo i 4=7\/ci bo i 4=8 from .inl y)] at w9;have e1:bH .sub I (bF (bz bo.ae (i:Int) 9).val) 1=ci bo i 9-1:=by
  show bH .sub I (ci bo i 9) 1=_;simp only[bH];exact nK aa aa
 rw[e1];exact cY (λn=>⟨m,rfl,H.skip λw=>w.2.2 n⟩) (λn=>⟨_,rfl,H.ins q2 y n⟩);rename_i ag;have al:i=Y bo.ae:=aa;subst al;have x:∀a b:Nat,a<Y aM.ae->b<Y aM.ae->(rD m a b=J<->xJ ar a b):=λa b ha hb=>by
  rw[H a b];constructor;rintro⟨k,W,V,Q,u,s,w5⟩;refine⟨aa,hb, ?_⟩;by_cases z:ci bo k 1<=ci bo k 9-1;exact .inl ⟨k,W,V,Q,aa,aa⟩;exact .inr ⟨k,W,V,Q,aa,aa⟩;rintro⟨z,-,(⟨k,W,V,Q,u,s⟩|⟨k,W,V,Q,u,s⟩)⟩;exact⟨k,W,V,Q,aa,aa,aa⟩;exact⟨k,W,V,Q,aa,aa,aa⟩
 refine em (Y aM.ae) (λi M=>∃v,M=[.r (eo v)]/\Y v<=i*64/\xK v λa b=>xJ ar a b/\a<i) ⟨0,rfl,aa,[],rfl,au,⟨au,λa b=>au⟩⟩ ?_;rintro i _ X ⟨v,rfl,k1,N⟩;simp[h.rl.len];split;rename_i X;refine em (Y aM.ae) (λj M=>∃v,M=[.r (eo v)]/\Y v<=i*64+j/\xK v λa b=>xJ ar a b/\(a<i\/a=i/\b<j)) ⟨0,rfl,aa,v,rfl,aa,N.Jn λa b=>⟨λw=>⟨w.1,.inl w.2⟩,λw=>⟨w.1,by have:=w.2;omega⟩⟩⟩ ?_;rintro j _ G ⟨v,rfl,k1,N⟩;simp[h.rl.len];split;rename_i G;simp[du G h.rl.sm];refine cY (λq=> ?_) (λq=> ?_);have q:rD m i j=true:=q;have q:=(x i j X G).1 q;refine⟨aa,_,rfl,dG,(N.add q.1 q.2.1).Jn λa b=> ?_⟩;constructor;rintro(⟨p,z⟩|⟨rfl,rfl⟩);exact⟨p,aa⟩;exact⟨q,aa⟩;rintro⟨p,z⟩;by_cases e:a=i/\b=j;exact .inr e;exact .inl ⟨p,aa⟩;have q:¬rD m i j=true:=q;have q:=λz=>q ((x i j X G).2 z)
 refine⟨v,rfl,aa,N.Jn λa b=> ?_⟩;constructor;exact λ⟨p,z⟩=>⟨p,aa⟩
 rintro⟨p,z⟩;refine⟨p, ?_⟩;by_cases e:a=i/\b=j;obtain⟨rfl,rfl⟩:=e;exact bp p q;omega;rename_i a3;have an:j=Y aM.ae:=aa;subst an;simp[du X h.rl.sm];refine⟨v,rfl,aa,N.Jn λa b=> ?_⟩;constructor;exact λ⟨p,z⟩=>⟨p,aa⟩
 exact λ⟨p,z⟩=>⟨p,by have:=p.2.1;omega⟩
 rename_i ag;have a0:i=Y aM.ae:=aa;subst a0;exact(A _).2 ⟨v,rfl,aa,N.Jn λa b=>⟨λw=>w.1,λw=>⟨w,by have:=w.1;have:=w.2.1;omega⟩⟩⟩
def ZE(h:jT)(ar:Int)(X:lR=0)(W:k9 ar 0 (hJ-1)=J):∃v,TB.Ev 48 (wk++[.i ar]) (.ret [.r (eo v),.i 0])/\Y v<=4096/\xK v (xJ ar):=by
 obtain⟨o,V,w,rfl,Q,P⟩:=ar3 h ar X W;exact⟨w,V,Q,P⟩
end
inductive Rt(g:Nat->Nat):Nat->Nat->Prop where
 |here {k:Nat} (h:g k=k):Rt g k k
 |up {k r:Nat} (h:g k≠k) (h2:Rt g (g k) r):Rt g k r
def Rt.M1(h:Rt V W P):∀{X:Nat},Rt V W X->P=X:=by
 induction h with
 |here h=>
  intro X Q;cases Q with
  |here=>rfl
  |up R O=>exact(R h).elim
 |up h O N=>
  intro X Q;cases Q with
  |here R=>exact(h R).elim
  |up R M=>exact N M
def Rt.fix(h:Rt V W P):V P=P:=by
 induction h with
 |here h=>exact h
 |up h R X=>exact X
def Rt.le(X:∀q,V q<=q)(h:Rt V W P):P<=W:=by
 induction h with
 |here h=>exact bU _
 |up h Q R=>exact pP R (X _)
def qB(g:Nat->Nat)(k v:Nat):Nat->Nat:=λq=>if q=k then v else g q
def Dm:Nat->Nat->(Nat->Nat)->Nat->Nat
 |0,_,g=>g
 |n+1,k,g=>if g k=k then g else qB (Dm n (g k) g) k (Dm n (g k) g (g k))
def ajF{g:Nat->Nat}(W:∀q,g q<=q):∀n k,k<n->Rt g k (Dm n k g k)/\∀q,Dm n k g q=g q\/Rt g q (Dm n k g q)
 |0,k,h=>bp h (Nat.not_lt_zero _)
 |n+1,k,h=>by
  simp only[Dm];by_cases X:g k=k;rw[aE X];exact⟨by rw[X];exact .here X,λq=>.inl rfl⟩;rw[aJ X];have P:=NJ (W k) X;obtain⟨V,Q⟩:=ajF W n (g k) aa;refine⟨by simp only[qB,cH];exact .up X V,λq=> ?_⟩;simp only[qB];by_cases R:q=k;subst R;rw[aE rfl];exact .inr (.up X V);rw[aJ R];exact Q q
def Rt.short{W:Nat->Nat}(Q:∀q,V q<=q)(h:∀q,W q=V q\/Rt V q (W q))(x:Nat):∀{r:Nat},Rt V x r->Rt W x r:=by
 induction x using JH with
 |_ x P=>
  intro r O;cases O with
  |here X=>
   rcases h x with e|e;exact .here (e.trans X);exact .here (e.M1 (.here X))
  |up X R=>
   have N:=NJ (Q x) X;rcases h x with e|e;refine .up (by rw[e];exact X) ?_;rw[e];exact P _ N R;have M:W x=r:=e.M1 (.up X R);have L:=R.le Q;refine .up aa ?_;rw[M];exact P r aa (.here R.fix)
def ar4{X:Nat->Nat}(W:∀q,V q<=q)(h:∀q,X q=V q\/Rt V q (X q))(q:Nat):X q<=q:=by
 rcases h q with e|e;rw[e];exact W q;exact e.le W
def Rt.join{x r:Nat}(O:V W=W)(N:V P=P)(h:Rt V x r):Rt (qB V W P) x (if r=W then P else r):=by
 induction h with
 |here R=>
  rename_i k;by_cases X:k=W;subst X;rw[aE rfl];by_cases Q:P=k;subst Q;exact .here (by simp[qB]);have e:qB V k P k=P:=by simp[qB]
  refine .up (by rw[e];exact Q) ?_;rw[e];exact .here (by simp[qB,Q,N]);rw[aJ X];exact .here (by simp[qB,X,R])
 |up R L M=>
  rename_i k r;have X:k≠W:=λe=>R (by rw[e];exact O)
  have e:qB V W P k=V k:=by simp[qB,X]
  refine .up (by rw[e];exact R) ?_;rw[e];exact M
def Dn(g:Nat->Nat)(a b:Nat):Prop:=∃r,Rt g a r/\Rt g b r
def Dn.short{g X:Nat->Nat}{a b:Nat}(W:∀q,g q<=q)(h:∀q,X q=g q\/Rt g q (X q))(k:Dn g a b):Dn X a b:=by
 obtain⟨r,V,R⟩:=k;exact⟨r,V.short W h,R.short W h⟩
def Dn.join{g:Nat->Nat}{X W a b:Nat}(V:g X=X)(R:g W=W)(k:Dn g a b):Dn (qB g X W) a b:=by
 obtain⟨r,Q,P⟩:=k;exact⟨_,Q.join V R,P.join V R⟩
def eN(m:aq)(q:Nat):Nat:=(aK 0 (m.getD q [])).toNat
def ajG(R:W<Y X):eN (X.set W N)=qB (eN X) W (aK 0 N).toNat:=by
 funext q;simp only[eN,qB,cw];by_cases V:q=W;subst V;rw[aE rfl,Dy R];rfl;rw[aJ V,pM (Ne.symm V)]
def Do(h:kN X=J)(q:Nat):eN X q<=q:=by
 unfold eN;by_cases W:q<Y X;have:=Cd h W;omega;rw[cw,jx aa];show(0:Int).toNat<=q;simp
def ajH{m:aq}(h:kN m=J):∀(n:Nat)(i:Int),0<=i->i<Y m->eN (pn n i m)=Dm n i.toNat (eN m)
 |0,_,_,_=>rfl
 |n+1,i,W,V=>by
  obtain⟨R,O,Q⟩:=U7 h W V;have P:=ajH h n _ R Q;have e:eN m i.toNat=(aK 0 (m.getD i.toNat [])).toNat:=rfl;simp only[pn,Dm];by_cases X:aK 0 (m.getD i.toNat [])=i;rw[aE X,aE (by rw[e,X])];rw[aJ X,aJ (by rw[e];omega),ajG (by rw[OV];omega),e,<-P];rfl
def ZF(h:∀k<Y X,0<=aK 0 (X.getD k [])/\aK 0 (X.getD k [])<=k):kN X=true:=by
 refine eO.2 λk W=> ?_
 simp only[aw,bZ];exact h k (vZ.1 W)
def Dp(h:kN X=J)(k:Nat)(W:k<Y X):aK 0 (X.getD k [])=(eN X k:Int):=by
 have:=Cd h W;unfold eN;omega
def ar5{W:aq}(h:kN X=J)(Q:∀x∈W,x∈X)(P:∀q,eN W q<=q):kN W=true:=by
 refine ZF λk O=> ?_
 have N:W.getD k []∈W:=acw O _;obtain⟨p,R⟩:=qI (Q _ N);have M:p<Y X:=(bJ.1 R).1;have V:=(Cd h M).1;rw[cw,R] at V;have V:0<=aK 0 (W.getD k []):=V;have:=P k;unfold eN at this;omega
def ar6(h:kN X=J)(L:Y X<=1099511627776)(P:0<=Q)(O:Q<Y X):∃W,tH Q X=U W/\Y W=Y X/\kN W=J/\(∀q,eN W q=eN X q\/Rt (eN X) q (eN W q))/\Rt (eN X) Q.toNat (eN W Q.toNat):=by
 obtain⟨W,V⟩:∃W,tH Q X=U W:=⟨pn (Y X) Q X,by unfold tH;rw[aE (by simp[L,P,O,h])]⟩;obtain⟨-,-,-,-,e⟩:=KM V;have N:=ajH h (Y X) Q P O;rw[<-e] at N;obtain⟨M,R⟩:=ajF (Do h) (Y X) Q.toNat aa;rw[<-N] at M R;exact⟨W,V,U8 V,ar5 h (OW V) (ar4 (Do h) R),R,M⟩
def pJ(G:Nat->Nat->Prop):Nat->Nat->Nat->Prop
 |0,i,j=>i=j
 |r+1,i,j=>i=j\/∃k,(G i k\/G k i)/\pJ G r k j
def Cn(G:Nat->Nat->Prop)(i j:Nat):Prop:=∃r,pJ G r i j
section
variable{G:Nat->Nat->Prop}
def pJ.refl(r i:Nat):pJ G r i i:=by
 cases r with
 |zero=>rfl
 |succ r=>exact .inl rfl
def pJ.succ{r:Nat}:∀{i j:Nat},pJ G r i j->pJ G (r+1) i j:=by
 induction r with
 |zero=>intro i j h;exact .inl h
 |succ r X=>
  intro i j h;rcases h with h|⟨k,e,h⟩;exact .inl h;exact .inr ⟨k,e,X h⟩
def pJ.mono(h:W<=P){i j:Nat}(k:pJ G W i j):pJ G P i j:=by
 induction h with
 |refl=>exact k
 |step _ X=>exact X.succ
def pJ.trans:∀{i j k s:Nat},pJ G W i j->pJ G s j k->pJ G (W+s) i k:=by
 induction W with
 |zero=>intro i j k s X V;cases X;rw[gV];exact V
 |succ W R=>
  intro i j k s X V;rcases X with X|⟨q,e,X⟩;subst X;exact V.mono aa;rw[Nat.add_right_comm];exact .inr ⟨q,e,R X V⟩
def Cn.refl(i:Nat):Cn G i i:=⟨0,rfl⟩
def Cn.trans{i j k:Nat}(X:Cn G i j)(W:Cn G j k):Cn G i k:=by
 obtain⟨r,X⟩:=X;obtain⟨s,W⟩:=W;exact⟨_,X.trans W⟩
def Cn.one(h:G W P\/G P W):Cn G W P:=⟨1,.inr ⟨P,h,rfl⟩⟩
def pJ.symm{r:Nat}:∀{i j:Nat},pJ G r i j->Cn G j i:=by
 induction r with
 |zero=>intro i j h;cases h;exact Cn.refl _
 |succ r X=>
  intro i j h;rcases h with h|⟨k,e,h⟩;subst h;exact Cn.refl _;exact(X h).trans (Cn.one e.symm)
def Cn.symm{i j:Nat}(h:Cn G i j):Cn G j i:=by
 obtain⟨r,h⟩:=h;exact h.symm
open Classical in
open Classical in
end
section
variable[Inhabited cm]
def Jq(v:aq)(a b:Nat):Prop:=∃x∈v,(aK 0 x).toNat=a/\(aK 1 x).toNat=b
def ZG{X:Nat->Nat->Prop}(R:∀q,V q<=q)(h:∀q<W,Cn X q (V q)){r:Nat}(Q:Rt V P r):P<W->Cn X P r:=by
 induction Q with
 |here _=>exact λ_=>Cn.refl _
 |up _ _ O=>
  rename_i P r _ _;exact λN=>(h P N).trans (O (by have:=R P;omega))
def ZH{X:Nat->Nat->Prop}{R:Nat->Nat}(P:∀q,V q<=q)(h:∀q<W,Cn X q (V q))(s:∀q,R q=V q\/Rt V q (R q)):∀q<W,Cn X q (R q):=λq Q=>by
 rcases s q with e|e;rw[e];exact h q Q;exact ZG P h e Q
structure ar7(n:Nat)(v m:aq):Prop where
 len:Y m=n
 ok:kN m=J
 pr:∀x∈v,aK 0 (m.getD (aK 0 x).toNat [])=aK 0 (m.getD (aK 1 x).toNat [])
 cn:∀q<n,Cn (Jq v) q (eN m q)
def R63(n:Nat)(v:aq)(e:Int)(o:aU):Prop:=(e≠0/\o=.ret [.r (eo []),.i e])\/(e=0/\∃m,o=.ret [.r (eo m),.i 0]/\ar7 n v m)
def ar9(m:aq)(k:Nat)(x:Int)(W:k<Y m)(R:∀X∈m,Y X=1):(m.modify k λX=>gE X 0 [iV x])=m.set k [iV x]:=by
 apply jV;intro q;rw[alo,td];by_cases V:k=q;subst V;rw[aE rfl,aE W,ce W];have:=R _ (pN W);generalize m[k]=X at this
 match X,this with
 |[c],_=>simp[gE]
 rw[aJ V];simp[V]
def asa(h:kN X=J)(R:Y X=W):kN (X++[[iV W]])=true:=by
 refine ZF λk Q=> ?_
 simp only[fQ,NE] at Q;rw[cw];by_cases V:k<Y X;rw[dF V,<-cw];exact Cd h V;have:k=Y X:=aa;subst this;rw[gK (bU _)];simp[aK,bF,iV,R]
def asb(V:Y X=W)(h:∀q<W,eN X q=q):∀q<W+1,eN (X++[[iV W]]) q=q:=λq R=>by
 simp only[eN,cw];by_cases e:q=W;subst e;rw[gK aa];simp[V,aK,bF,iV];rw[dF aa,<-cw];exact h q aa
def asd{x:RV}(h:∀V∈X,Y V=1):∀V∈X++[[x]],Y V=1:=λV W=>by
 rcases eC.1 W with W|W;exact h V W;simp at W;subst W;rfl
def ZI{R:aU->Prop}{O:ai}{L:cG}{t:T}{m:aq}{r:RE}{e:TypeId}{N:aY}{i:K}(M:r.rv O=eo m)(H:i.ab O=Q)(G:∀W∈m,Y W=1)(h:kN m=J)(x:Y m<=1000)(F:0<=Q)(D:Q<Y m)
  (k:∀X,Y X=Y m->(∀W∈X,Y W=1)->kN X=J->(∀q,eN X q=eN m q\/Rt (eN m) q (eN X q))->Rt (eN m) Q.toNat (eN X Q.toNat)->t.wp TB.Ev R (O.add (.r (eo X))) L):
  T.wp TB.Ev R (.dK 49 49 e (.da 0 (.lex [] E) [i]) J r N t) O L:=by
 obtain⟨X,V,P,B,A,z⟩:=ar6 h aa F D;rw[aqm,M];refine⟨X, ?_, ?_⟩;show tH (i.ab O) m=U X;rw[H];exact V;have:=k X P (λW y=>G W (OW V W y)) B A z;have e:(RV.mk (eo m).val X)=eo X:=by
  simp only[eo,RV.l9,P]
 rw[e];exact this
def ZJ(h:jT)(ar:Int)(a3:TB.Ev 48 (wk++[.i ar]) (.ret [.r (eo X),.i Q]))(hv:∀x∈X,0<=aK 0 x/\aK 0 x<aK 1 x/\aK 1 x<Y aM.ae)(bx:Y X<=4096)(hn:Y aM.ae<=1000):
  ∃o,TB.Ev 31 (wk++[.i ar]) o/\R63 (Y aM.ae) X Q o:=by
 refine jS ?_;simp only[wk,gA,gU] at a3;simp[Y8,wk,dC a3];refine cY (λb=> ?_) (λb=>.inl ⟨b,rfl⟩);subst b;have a4:Y aM.ae<=140737488355328:=aa;have bd:Y X<=140737488355328:=aa;refine em (Y aM.ae) (λi A=>∃m,A=[.r (eo m)]/\Y m=i/\(∀G∈m,Y G=1)/\kN m=J/\∀q<i,eN m q=q) ⟨0,rfl,aa,[],rfl,rfl,au,rfl,aa⟩ ?_;rintro i _ hi ⟨m0,rfl,F,y,D,a9⟩;simp[h.rl.len];refine cY (λhi=> ?_) (λb0=> ?_);simp[du hi a4];exact⟨aa,_,rfl,dG,asd y,asa D F,asb F a9⟩;have bf:i=Y aM.ae:=aa;subst bf;refine em (Y X) (λj A=>∃m,A=[.r (eo m)]/\Y m=Y aM.ae/\(∀G∈m,Y G=1)/\kN m=J/\(∀x∈X.take j,Dn (eN m) (aK 0 x).toNat (aK 1 x).toNat)/\∀q<Y aM.ae,Cn (Jq X) q (eN m q)) ⟨0,rfl,aa,m0,rfl,F,y,D,au,λq l=>by rw[a9 q l];exact Cn.refl _⟩ ?_;rintro j _ H ⟨m,rfl,F,y,D,a,hc⟩;simp;refine cY (λH=> ?_) (λb1=> ?_);simp[H];obtain⟨va,bg,vb⟩:=hv _ (pN H);have ea:bF (bz X (j:Int) 0).val=aK 0 X[j]:=by simp[bz,aK,H]
 have eb:bF (bz X (j:Int) 1).val=aK 1 X[j]:=by simp[bz,aK,H]
 refine ZI (m:=m) rfl ea y D aa aa aa ?_;intro B l1 r1 w P g;refine ZI (m:=B) rfl eb r1 w aa aa aa ?_;intro O l2 r2 o2 f a2;simp[du H bd];have na:bF (bz B (bF (bz X (j:Int) 0).val) 0).val=((eN B (aK 0 X[j]).toNat:Nat):Int):=by rw[ea];exact Dp w _ aa
 have nb:bF (bz O (bF (bz X (j:Int) 1).val) 0).val=((eN O (aK 1 X[j]).toNat:Nat):Int):=by rw[eb];exact Dp o2 _ aa
 simp only[na,nb];have L:=Do D;have d:=Do w;have c:=Do o2;have af:=ZH d (ZH L hc P) f;have bk:Cn (Jq X) (aK 0 X[j]).toNat (aK 1 X[j]).toNat:=Cn.one (.inl ⟨_,pN H,rfl,rfl⟩);have u:=(g.short L P).short d f;have t:=a2.short d f;have fa:=u.fix;have fb:=t.fix;have la:=u.le c;have lb:=t.le c;have cA:=ZG c af u aa;have cB:=ZG c af t aa;generalize eN B (aK 0 X[j]).toNat=N at u fa la cA⊢;generalize eN O (aK 1 X[j]).toNat=M at t fb lb cB⊢;obtain⟨W,ag⟩:∃W:Nat,W=max N M:=⟨_,rfl⟩;obtain⟨V,al⟩:∃V:Nat,V=min N M:=⟨_,rfl⟩;have e1:max (N:Int) (M:Int)=(W:Int):=aa;have e2:min (N:Int) (M:Int)=(V:Int):=aa;rw[e1,e2];have an:W<Y O:=aa;have fx:eN O W=W:=by rcases alL N M with q|q<;>simp only[ag,Nat.max_eq_left,Nat.max_eq_right,q]<;>assumption
 have fn:eN O V=V:=by rcases alL N M with q|q<;>simp only[al,Gb,aaE,q]<;>assumption
 have ek:eN (O.set W [iV (V:Int)])=qB (eN O) W V:=by rw[ajG an];rfl
 refine⟨aa,O.set W [iV (V:Int)], ?_,dG,λG s=> ?_, ?_,λx R=> ?_,λq l=> ?_⟩;rw[<-ar9 O W V an r2];rfl;rcases Bw s with s|s;exact r2 G s;subst s;rfl;refine ZF λk p=> ?_
 rw[alx] at p;rw[cw];by_cases ba:k=W;subst ba;rw[Dy an];show(0:Int)<=(V:Int)/\(V:Int)<=(k:Int);omega;rw[pM (Ne.symm ba),<-cw];exact Cd o2 p;rw[ek];rw[axx,ce H] at R;rcases eC.1 R with R|R;exact(((a x R).short L P).short d f).join fx fn;simp at R;subst R;refine⟨V, ?_, ?_⟩;have:=u.join fx fn;by_cases q:N=W
 rwa [aE q] at this
 rw[aJ q] at this;have:N=V:=aa;subst this;assumption;have:=t.join fx fn;by_cases q:M=W
 rwa [aE q] at this
 rw[aJ q] at this;have:M=V:=aa;subst this;assumption;rw[ek];simp only[qB];have cR:Cn (Jq X) N M:=(cA.symm.trans bk).trans cB;by_cases Q:q=W;rw[aE Q,Q];rcases alL N M with z|z;rw[ag,al,Nat.max_eq_right z,Gb z];exact cR.symm;rw[ag,al,Nat.max_eq_left z,aaE z];exact cR;rw[aJ Q];exact af q l;have bl:j=Y X:=aa;subst bl;rw[List.take_length] at a;refine em (Y aM.ae) (λk A=>∃m,A=[.r (eo m)]/\Y m=Y aM.ae/\(∀G∈m,Y G=1)/\kN m=J/\(∀x∈X,Dn (eN m) (aK 0 x).toNat (aK 1 x).toNat)/\(∀q<Y aM.ae,Cn (Jq X) q (eN m q))/\∀q<k,Rt (eN m) q (eN m q)) ⟨0,rfl,aa,m,rfl,F,y,D,a,hc,au⟩ ?_;rintro k _ p ⟨m',rfl,br,bs,n,bb,bc,a0⟩;simp[F];refine cY (λp=> ?_) (λb2=> ?_);refine ZI (m:=m') rfl rfl bs n aa au dG ?_;intro B l1 r1 w P g;have L:=Do n;simp[du p a4] at g⊢;refine⟨B,rfl,aa,r1,w,λx R=>(bb x R).short L P,ZH L bc P,λq l=> ?_⟩;by_cases bt:q=k;subst bt;exact g.short L P;have:=a0 q aa;rcases P q with Q|Q;rw[Q];exact this.short L P;exact Q.short L P;refine .inr ⟨rfl,m',rfl,br,n,λx R=> ?_,bc⟩;obtain⟨va,bg,vb⟩:=hv x R;obtain⟨r,q1,q2⟩:=bb x R;rw[Dp n _ aa,Dp n _ aa,(a0 _ aa).M1 q1,(a0 _ aa).M1 q2]
end
