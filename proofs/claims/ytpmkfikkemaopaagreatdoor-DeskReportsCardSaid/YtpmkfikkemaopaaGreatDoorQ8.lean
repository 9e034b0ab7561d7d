/- Part 8 of the proof. -/
import Derived.Test.YtpmkfikkemaopaaGreatDoorQ7
set_option linter.all false
set_option maxRecDepth 100000
set_option maxHeartbeats 100000000
open Bool renaming and_eq_true->az,not_eq_true'->gO,or_eq_true->jd,eq_iff_iff->tG,true->J,false->E
open List renaming getElem?_eq_some_iff->bZ,getElem?_eq_getElem->cK,getD_eq_getElem?_getD->dB,getElem?_append_left->dU,getElem?_map->dN,getElem?_append_right->iC,mem_cons->dP,mem_append->eP,all_eq_true->fp,length_append->gD,cons_append->fG,nil_append->gr,mem_of_getElem?->jm,getElem?_eq_none->jK,ext_getElem?->ke,mem_map->hJ,range->fU,getElem?_of_mem->qW,getElem?_set_ne->qX,length_cons->oK,getElem_mem->pA,mem_filter->pB,getElem?_set->uL,mem_or_eq_of_mem_set->C9,take_of_length_le->Fb,getElem?_set_self->Fc,getElem?_range->Dd,mem_range->zv,mem_append_right->LP,find?_cons->H8,getElem?_modify->P7,mem_singleton->P9,length_singleton->Wc,map->zx,map_append->Qd,take_add_one->aqx,filter_cons->aqz,length_set->aqA,modify_modify_ne->aDp,length_range->aDE,length->Y
open Nat renaming le_refl->cd,zero_add->iJ,le_trans->oL,min_eq_left->Fj,strongRecOn->Qe,min_eq_right->Wo,lt_of_le_of_ne->aqt,le_total->ae3
open Option renaming map_some->dV,some->U
open Int renaming toNat_natCast->zu,eq_ofNat_of_zero_le->P2,mul_le_mul_of_nonneg_left->aeO
open Prod.mk renaming injEq->Bh
open Go.IntKind renaming i64->I
namespace Go.Proofs.YtpmkfikkemaopaaGreatDoor.Y
open Go.RowKit
noncomputable section
variable{Q:Int}{X P F:Nat}{W:ax}{V N:Nat→Nat}{H:RV}
section
variable{R:bo->Prop}{G:aQ}{t:T}{O:ak}{L:dj}
def adK(a b c:Int):TB.Ev 137 [.i a,.i b,.i c] (.ret [.b (decide (b<=a)&&decide (a<=c))]):=by
 refine gA ?_;simp[acL]
 grind
def aov(a b:Int):TB.Ev 214 [.i a,.i b] (.ret [.b (decide (-1099511627776<=a/\a<=b/\b<=1099511627776))]):=by
 refine gA ?_;simp[acJ]
 grind
def axt(a b c d:Int):TB.Ev 174 [.i a,.i b,.i c,.i d] (.ret [.b (dL a b c d)]):=by
 refine gA ?_;have e:dL a b c d=(decide (-1099511627776<=a/\a<=b/\b<=1099511627776)&&decide (-1099511627776<=c/\c<=d/\d<=1099511627776)):=by
  rw[tG,axo];simp
 rw[e];simp[acI,bu (aov a b),bu (aov c d)]
 grind
def Lz(c:Nat->Int):Prop:=dL (c 0) (c 1) (c 2) (c 3)=J/\0<=c 4/\c 4<=c 5/\c 5<=4095/\(-1048576<=c 6/\c 6<=1048576)∧-1048576<=c 7/\c 7<=1048576
open Classical in
def axu(c:Nat->Int):TB.Ev 136 (oH c) (.ret [.b (decide (Lz c))]):=by
 refine gA ?_;simp[acM,oH,bu (axt (c 0) (c 1) (c 2) (c 3)),bu (adK (c 6) _ _),bu (adK (c 7) _ _),Lz]
 grind
def kB(c:Nat->Int)(k:Int):Int:=max 0 (min k (c 5+1)-c 4)
def adL{c:Nat->Int}{k:Int}(Q:Lz c):(aU .mul I (kB c k) (c 6)=kB c k*c 6)/\aU .mul I (kB c k) (c 7)=kB c k*c 7:=by
 obtain⟨-,P,N,M,W,V⟩:=Q;have X:0<=kB c k:=by simp only[kB];omega
 have H:kB c k<=4096:=by simp only[kB];omega
 generalize kB c k=s at*;have G:=aeO W.1 X;have a2:=aeO W.2 X;have F:=aeO V.1 X;have D:=aeO V.2 X;simp only[aU];exact⟨ew ae ae,ew ae ae⟩
def plW(c:Nat->Int)(k:Int):bn:=[.i (jn (jc (c 0) (c 1) (c 2) (c 3) (kB c k*c 6) (kB c k*c 7)==0) (IntKind.i64.wrap (c 0+kB c k*c 6))),.i (jn (jc (c 0) (c 1) (c 2) (c 3) (kB c k*c 6) (kB c k*c 7)==0) (IntKind.i64.wrap (c 1+kB c k*c 6))),.i (jn (jc (c 0) (c 1) (c 2) (c 3) (kB c k*c 6) (kB c k*c 7)==0) (IntKind.i64.wrap (c 2+kB c k*c 7))),.i (jn (jc (c 0) (c 1) (c 2) (c 3) (kB c k*c 6) (kB c k*c 7)==0) (IntKind.i64.wrap (c 3+kB c k*c 7))),.i (jc (c 0) (c 1) (c 2) (c 3) (kB c k*c 6) (kB c k*c 7))]
def aow(c:Nat->Int)(k:Int)(X:Lz c)(H:0<=k/\k<=4096):TB.Ev 138 (oH c++[.i k]) (.ret (plW c k)):=by
 refine gA ?_;obtain⟨W,V⟩:=adL (k:=k) X;obtain⟨-,G,F,D,-,-⟩:=X;have Q:aU .sub I k (c 4)=k-c 4:=by simp only[aU];exact ew ae ae
 have P:aU .sub I (c 5) (c 4)=c 5-c 4:=by simp only[aU];exact ew ae ae
 have N:aU .add I (c 5-c 4) 1=c 5-c 4+1:=by simp only[aU];exact ew ae ae
 have M:min (max (k-c 4) 0) (c 5-c 4+1)=kB c k:=by simp only[kB];omega
 simp[acN,oH,Q,P,N,M,W,V,plW]
def axv(c:Nat->Int)(ar:Int):∃o,TB.Ev 40 (oH c++[.i ar]) o/\∃G,o=.ret G/\TB.Ev 89 (oH c++[.i ar]) (.ret G):=by
 have W:=axu c;have F:=adK ar 0 4095;simp only[oH,fG,gr] at W;by_cases X:Lz c;by_cases D:0<=ar/\ar<=4095
 ·have x:=X;obtain⟨V,Q,P,w,N,M⟩:=x;obtain⟨v,u⟩:=adL (k:=ar) X;obtain⟨s,r⟩:=adL (k:=ar+1) X;have B:=aow c ar X ae;have A:=aow c (ar+1) X ae;simp only[oH,plW,fG,gr] at B A;have p:aU .add I (c 5) 1=c 5+1:=by simp only[aU];exact ew ae ae
  have z:aU .add I ar 1=ar+1:=by simp only[aU];exact ew ae ae
  have m:aU .sub I (min ar (c 5+1)) (c 4)=min ar (c 5+1)-c 4:=by simp only[aU];exact ew ae ae
  have l:aU .sub I (min ar (c 5)+1) (c 4)=min ar (c 5)+1-c 4:=by simp only[aU];exact ew ae ae
  have j:max 0 (min ar (c 5+1)-c 4)=kB c ar:=rfl;have h:max 0 (min ar (c 5)+1-c 4)=kB c (ar+1):=by simp only[kB];omega
  refine fj ?_;simp[Lh,oH,V,Q,P,D,N,M,p,z,m,l,j,h,v,u,s,r];refine aG (λq=>ae) (λ_=>aG (λy=>aG (λH=> ?_) (λH=> ?_)) (λy=> ?_))
  all_goals
   refine gA ?_;simp[Pa,oH,bu W,bu F,X,D,z,bu B,bu A,y]
  exact aG (λ_=>⟨rfl,rfl,rfl,rfl,rfl⟩) (λn=>aY H n);exact λq=>aY q H
 refine⟨.ret [.i 0,.i 0,.i 0,.i 0,.i 1],gA ?_,_,rfl,gA ?_⟩;obtain⟨V,Q,P,w,N,M⟩:=X;simp[Lh,oH,V,Q,P,N,M]
 grind
 simp[Pa,oH,bu W,bu F,X]
 grind
 refine⟨.ret [.i 0,.i 0,.i 0,.i 0,.i 290],gA ?_,_,rfl,gA ?_⟩;simp only[Lz] at X;simp[Lh,oH]
 grind
 simp[Pa,oH,bu W,X]
end
section
variable{bA u:mK}
end
section
variable[Inhabited cX]
variable{ar:Int}{c d g l:RV}{b a e:ax}
def Md.cr(k:Md ar c d g l b a e){i:Nat}(X:i<Y aX.aj):cr 104 (bK a) i=bK (cr 104 l i).aj:=by
 have:=(k.al i X).1;simp only[Y.cr,aD4,this];rfl
end
def tA(X:ax)(a b:Int):Bool:=match iE 2 [a,b,0] X with
 |U W=>jp (W.getD 2 default).val
 |none=>E
def LA(a b:Int)(X:aH):kY 2 [a,b,0] X=decide ((X.take 2).map (λc=>bS c.val)=[a,b]):=rfl
def aox(x y a b:Int):∀P:ax,tA (iF 2 [RV.mk (.int I x) [],RV.mk (.int I y) [],RV.mk (.bool J) []] P) a b=(decide (([x,y]:bq)=[a,b])||tA P a b)
 |[]=>by
  by_cases h:([x,y]:bq)=[a,b];have X:x=a/\y=b:=by simpa using h
  obtain⟨rfl,rfl⟩:=X;simp[tA,iF,iE,LA,bS,jp];have M:kY 2 [a,b,0] [RV.mk (.int I x) [],RV.mk (.int I y) [],RV.mk (.bool J) []]=false:=by
   rw[LA];exact decide_eq_false h
  rw[decide_eq_false h];simp[tA,iF,iE,M]
 |r::W=>by
  have N:=aox x y a b W;have V:(zx (λc:RV=>bS c.val) (List.take 2 [RV.mk (.int I x) [],RV.mk (.int I y) [],RV.mk (.bool J) []]))=[x,y]:=rfl;by_cases X:(r.take 2).map (λc=>bS c.val)=[x,y];have Q:iF 2 [RV.mk (.int I x) [],RV.mk (.int I y) [],RV.mk (.bool J) []] (r::W)=[RV.mk (.int I x) [],RV.mk (.int I y) [],RV.mk (.bool J) []]::W:=by
   simp only[iF,V,kY];rw[aI (by simpa using X)]
  rw[Q];by_cases h:([x,y]:bq)=[a,b];have H:x=a/\y=b:=by simpa using h
  obtain⟨rfl,rfl⟩:=H;simp[tA,iE,LA,bS,jp];simp only[tA,iE,H8,LA,X,V,h];simp;have Q:iF 2 [RV.mk (.int I x) [],RV.mk (.int I y) [],RV.mk (.bool J) []] (r::W)=r::iF 2 [RV.mk (.int I x) [],RV.mk (.int I y) [],RV.mk (.bool J) []] W:=by
   simp only[iF,V,kY];rw[aK (by simpa using X)]
  rw[Q];by_cases h:(r.take 2).map (λc=>bS c.val)=[a,b];have G:¬([x,y]:bq)=[a,b]:=λe=>X (by rw[h,e])
  simp only[tA,iE,H8,LA,h,G];simp;simp only[tA,iE,H8,LA,h] at N⊢;simpa using N
def axw(x y a b:Int)(V:ax):tA (iF 2 [RV.mk (.int I x) [],RV.mk (.int I y) [],RV.mk (.bool J) []] V) a b=((decide (a=x)&&decide (b=y))||tA V a b):=by
 rw[aox];congr 1;by_cases X:a=x;subst X;by_cases W:b=y;subst W;simp;have:¬y=b:=λe=>W e.symm
 simp[W,this];have:¬x=a:=λe=>X e.symm
 simp[X,this]
section
variable{R:bo->Prop}{G:aQ}{t:T}{O:ak}{L:dj}
variable[Inhabited cX]

def LfK(ar a b:Int)(k:Nat):Prop:=ci bB k 2=ar/\ci bB k 4=7/\ci bB k 1=a/\ci bB k 9=b+1
def A5(ar a b:Int):Prop:=∃k<Y bB.aj,LfK ar a b k
def Vz(ar a b:Int)(i:Nat):Prop:=∀k<i,¬LfK ar a b k
def Vz.succ{a b:Int}(h:Vz Q a b X)(k:¬LfK Q a b X):Vz Q a b (X+1):=λj W=>by
 by_cases e:j=X;subst e;exact k;exact h j ae
def rR(ar:Int)(a b:Nat):Prop:=a<b/\b<Y aX.aj/\(A5 ar a b\/A5 ar b a)
structure qa(v:ax)(P:Nat->Nat->Prop):Prop where
 ok:∀x∈v,0<=aN 0 x/\aN 0 x<aN 1 x/\aN 1 x<Y aX.aj
 iff:∀a b:Nat,(∃x∈v,aN 0 x=a/\aN 1 x=b)<->P a b
def qa.A6{P X:Nat->Nat->Prop}(h:qa W P)(e:∀a b,P a b<->X a b):qa W X:=⟨h.ok,λa b=>(h.iff a b).trans (e a b)⟩
def qa.add{V:Nat->Nat->Prop}(h:qa W V)(H:X<P)(G:P<Y aX.aj):qa (W++[[RV.mk (.int I (X:Int)) [],RV.mk (.int I (P:Int)) []]]) (λa b=>V a b\/(a=X/\b=P)):=by
 refine⟨λx Q=> ?_,λa b=> ?_⟩;rcases eP.1 Q with Q|Q;exact h.ok x Q;simp at Q;subst Q;show 0<=(X:Int)/\(X:Int)<(P:Int)/\(P:Int)<_;omega;rw[<-h.iff];constructor;rintro⟨x,Q,N,M⟩;rcases eP.1 Q with Q|Q;exact .inl ⟨x,Q,N,M⟩;simp at Q;subst Q;exact .inr ⟨(Int.ofNat_inj.1 N).symm,(Int.ofNat_inj.1 M).symm⟩;rintro(⟨x,Q,N,M⟩|⟨rfl,rfl⟩);exact⟨x,eP.2 (.inl Q),N,M⟩;exact⟨_,LP _ (P9.2 rfl),rfl,rfl⟩
open Classical in
def aoy(h:gU)(ar a b:Int)(B:-1<=b/\b<=4096):TB.Ev 216 (wk++[.i ar,.i a,.i b]) (.ret [.b (decide (A5 ar a b))]):=by
 refine gA ?_;have Q:aU .add I b 1=b+1:=by simp only[aU];exact ew ae ae
 obtain⟨D,V⟩:∃D,D=decide (A5 ar a b):=⟨_,rfl⟩;rw[<-V];simp[acK,wk];refine cT (Y bB.aj) (λi P=>P=[]/\Vz ar a b i) ⟨0,rfl,ae,rfl,λk N=>ae⟩ ?_;rintro i _ W ⟨rfl,X⟩;simp[h.sg.len,Q];refine aG (λW=> ?_) (λA=> ?_);simp[cJ W h.sg.sm,W];refine aG (λM=>aG (λH=>aG (λG=>aG (λF=> ?_) (λn=>X.succ λw=>n w.2.2.2)) (λn=>X.succ λw=>n w.2.2.1)) (λn=>X.succ λw=>n w.2.1)) (λn=>X.succ λw=>n w.1);rw[V];exact decide_eq_true (p:=A5 ar a b) ⟨i,W,M,H,G,F⟩;rw[V];exact decide_eq_false (p:=A5 ar a b) λ⟨k,N,w⟩=>X k ae w
open Classical in
def r56(h:gU)(ar:Int)(x:Y aX.aj<=64):∃o,TB.Ev 178 (wk++[.i ar]) o/\∃v,o=.ret [.r (bK v)]/\Y v<=4096/\qa v (rR ar):=by
 refine fj ?_;simp[T56,wk];refine cT (Y aX.aj) (λi V=>∃v,V=[.r (bK v)]/\Y v<=i*64/\qa v λa b=>rR ar a b/\a<i) ⟨0,rfl,ae,[],rfl,ay,⟨ay,λa b=>ay⟩⟩ ?_;rintro i _ N ⟨v,rfl,D,X⟩;simp[h.rl.len];refine aG (λN=> ?_) (λw=> ?_);refine cT (Y aX.aj) (λj V=>i<j/\∃v,V=[.r (bK v)]/\Y v<=i*64+j/\qa v λa b=>rR ar a b/\(a<i\/a=i/\b<j)) ⟨i+1,HH ae,ae,ae,v,rfl,ae,X.A6 λa b=> ?_⟩ ?_;constructor;exact λ⟨p,q⟩=>⟨p,.inl q⟩
 exact λ⟨p,q⟩=>⟨p,by have:=p.1;omega⟩
 rintro j _ W ⟨M,v,rfl,D,X⟩;simp[h.rl.len];refine aG (λW=> ?_) (λu=> ?_);have H:=aoy h ar i j ae;have G:=aoy h ar j i ae;simp only[wk,fG,gr] at H G;have F:(A5 ar i j\/A5 ar j i)->qa (v++[[RV.mk (.int I (i:Int)) [],RV.mk (.int I (j:Int)) []]]) λa b=>rR ar a b/\(a<i\/a=i/\b<j+1):=λq=>(X.add M W).A6 λa b=>by
  constructor;rintro(⟨p,q⟩|⟨rfl,rfl⟩);exact⟨p,ae⟩;exact⟨⟨M,W,q⟩,ae⟩;rintro⟨p,q⟩;by_cases e:a=i/\b=j;exact .inr e;exact .inl ⟨p,ae⟩
 have B:¬A5 ar i j->¬A5 ar j i->qa v λa b=>rR ar a b/\(a<i\/a=i/\b<j+1):=λQ P=>X.A6 λa b=>by
  constructor;exact λ⟨p,q⟩=>⟨p,ae⟩
  rintro⟨p,q⟩;refine⟨p, ?_⟩;by_cases e:a=i/\b=j;obtain⟨rfl,rfl⟩:=e;exact aY p.2.2 (λz=>z.elim Q P);omega
 rw[bu H];simp;rw[bu G];simp[cJ W h.rl.sm];refine aG (λq=>⟨ae,ae,_,rfl,dF,F (.inl q)⟩) (λQ=>aG (λq=>⟨ae,ae,_,rfl,dF,F (.inr q)⟩) (λP=>⟨ae,v,rfl,ae,B Q P⟩));have A:j=Y aX.aj:=ae;subst A;simp[cJ N h.rl.sm];refine⟨v,rfl,ae,X.A6 λa b=> ?_⟩;constructor;exact λ⟨p,q⟩=>⟨p,ae⟩
 exact λ⟨p,q⟩=>⟨p,by have:=p.2.1;omega⟩
 have y:i=Y aX.aj:=ae;subst y;exact⟨v,rfl,ae,X.A6 λa b=>⟨λp=>p.1,λp=>⟨p,by have:=p.1;have:=p.2.1;omega⟩⟩⟩
def PrK(ar a b:Int)(k:Nat):Prop:=ci bB k 2=ar/\ci bB k 4=7/\ci bB k 9-1≠ci bB k 1/\a=min (ci bB k 1) (ci bB k 9-1)/\b=max (ci bB k 1) (ci bB k 9-1)
def HQ(ar:Int)(m:ax)(i:Nat):Prop:=∀a b:Int,tA m a b=J<->∃k<i,PrK ar a b k
def HQ.skip(h:HQ Q W X)(n:¬(ci bB X 2=Q/\ci bB X 4=7/\ci bB X 9-1≠ci bB X 1)):HQ Q W (X+1):=λa b=>by
 rw[h a b];constructor;rintro⟨k,V,w⟩;exact⟨k,ae,w⟩;rintro⟨k,V,w⟩;by_cases e:k=X;subst e;exact aY ⟨w.1,w.2.1,w.2.2.1⟩ n;exact⟨k,ae,w⟩
def HQ.ins(h:HQ Q W X)(V:ci bB X 2=Q)(P:ci bB X 4=7)(N:ci bB X 9-1≠ci bB X 1):HQ Q (iF 2 [RV.mk (.int I (min (ci bB X 1) (ci bB X 9-1))) [],RV.mk (.int I (max (ci bB X 1) (ci bB X 9-1))) [],RV.mk (.bool J) []] W) (X+1):=λa b=>by
 rw[axw,jd,h a b,az,cF,cF];constructor;rintro(⟨M,H⟩|⟨k,G,w⟩);exact⟨X,ae,V,P,N,M,H⟩;exact⟨k,ae,w⟩;rintro⟨k,G,w⟩;by_cases e:k=X;subst e;exact .inl ⟨w.2.2.2.1,w.2.2.2.2⟩;exact .inr ⟨k,ae,w⟩
def aoz(ar:Int)(o:bo):Prop:=∃v,o=.ret [.r (bK v),.i 0]/\Y v<=4096/\qa v (rR ar)
def axz(h:gU)(ar:Int)(B:kQ=0)(l:jb ar 0 (eW-1)=J):∃o,TB.Ev 75 (wk++[.i ar]) o/\aoz ar o:=by
 obtain⟨P,A⟩:∃P:bo->Prop,∀o,P o<->aoz ar o:=⟨_,λ_=>Iff.rfl⟩
 suffices g:∃o,TB.Ev 75 (wk++[.i ar]) o/\P o by
  obtain⟨o,f,d⟩:=g;exact⟨o,f,(A o).1 d⟩
 refine fj ?_;have F:=e65 AU h ar;obtain⟨-,c⟩:=CZ AU h;simp only[wk,fG,gr] at F;simp[B,l] at F;have D:=c B;have hn:=D.nr;have al:=D.ns;simp[T23,wk,bu F];refine cT (Y bB.aj) (λi M=>∃m,M=[.r (bK m)]/\HQ ar m i) ⟨0,rfl,ae,[],rfl,λa b=>by simp[tA,iE]⟩ ?_;rintro i _ X ⟨m,rfl,H⟩;simp[h.sg.len];split;rename_i X;simp[cJ X h.sg.sm,X];have aa:=D.ES i X;refine aG (λq2=>aG (λy=> ?_) (λn=>⟨m,rfl,H.skip λw=>n w.2.1⟩)) (λn=>⟨m,rfl,H.skip λw=>n w.1⟩);have w9:=aa.wth;rw[aI (show ci bB i 4=7\/ci bB i 4=8 from .inl y)] at w9;have e1:aU .sub I (bS (bQ bB.aj (i:Int) 9).val) 1=ci bB i 9-1:=by
  show aU .sub I (ci bB i 9) 1=_;simp only[aU];exact ew ae ae
 rw[e1];exact aG (λn=>⟨m,rfl,H.skip λw=>w.2.2 n⟩) (λn=>⟨_,rfl,H.ins q2 y n⟩);rename_i ab;have ac:i=Y bB.aj:=ae;subst ac;have x:∀a b:Nat,a<Y aX.aj->b<Y aX.aj->(tA m a b=J<->rR ar a b):=λa b ha hb=>by
  rw[H a b];constructor;rintro⟨k,W,V,Q,u,s,w5⟩;refine⟨ae,hb, ?_⟩;by_cases z:ci bB k 1<=ci bB k 9-1;exact .inl ⟨k,W,V,Q,ae,ae⟩;exact .inr ⟨k,W,V,Q,ae,ae⟩;rintro⟨z,-,(⟨k,W,V,Q,u,s⟩|⟨k,W,V,Q,u,s⟩)⟩;exact⟨k,W,V,Q,ae,ae,ae⟩;exact⟨k,W,V,Q,ae,ae,ae⟩
 refine cT (Y aX.aj) (λi M=>∃v,M=[.r (bK v)]/\Y v<=i*64/\qa v λa b=>rR ar a b/\a<i) ⟨0,rfl,ae,[],rfl,ay,⟨ay,λa b=>ay⟩⟩ ?_;rintro i _ X ⟨v,rfl,k1,N⟩;simp[h.rl.len];split;rename_i X;refine cT (Y aX.aj) (λj M=>∃v,M=[.r (bK v)]/\Y v<=i*64+j/\qa v λa b=>rR ar a b/\(a<i\/a=i/\b<j)) ⟨0,rfl,ae,v,rfl,ae,N.A6 λa b=>⟨λw=>⟨w.1,.inl w.2⟩,λw=>⟨w.1,by have:=w.2;omega⟩⟩⟩ ?_;rintro j _ G ⟨v,rfl,k1,N⟩;simp[h.rl.len];split;rename_i G;simp[cJ G h.rl.sm];refine aG (λq=> ?_) (λq=> ?_);have q:tA m i j=true:=q;have q:=(x i j X G).1 q;refine⟨ae,_,rfl,dF,(N.add q.1 q.2.1).A6 λa b=> ?_⟩;constructor;rintro(⟨p,z⟩|⟨rfl,rfl⟩);exact⟨p,ae⟩;exact⟨q,ae⟩;rintro⟨p,z⟩;by_cases e:a=i/\b=j;exact .inr e;exact .inl ⟨p,ae⟩;have q:¬tA m i j=true:=q;have q:=λz=>q ((x i j X G).2 z)
 refine⟨v,rfl,ae,N.A6 λa b=> ?_⟩;constructor;exact λ⟨p,z⟩=>⟨p,ae⟩
 rintro⟨p,z⟩;refine⟨p, ?_⟩;by_cases e:a=i/\b=j;obtain⟨rfl,rfl⟩:=e;exact aY p q;omega;rename_i an;have af:j=Y aX.aj:=ae;subst af;simp[cJ X h.rl.sm];refine⟨v,rfl,ae,N.A6 λa b=> ?_⟩;constructor;exact λ⟨p,z⟩=>⟨p,ae⟩
 exact λ⟨p,z⟩=>⟨p,by have:=p.2.1;omega⟩
 rename_i ab;have ag:i=Y aX.aj:=ae;subst ag;exact(A _).2 ⟨v,rfl,ae,N.A6 λa b=>⟨λw=>w.1,λw=>⟨w,by have:=w.1;have:=w.2.1;omega⟩⟩⟩
def axA(h:gU)(ar:Int)(X:kQ=0)(W:jb ar 0 (eW-1)=J):∃v,TB.Ev 75 (wk++[.i ar]) (.ret [.r (bK v),.i 0])/\Y v<=4096/\qa v (rR ar):=by
 obtain⟨o,V,w,rfl,Q,P⟩:=axz h ar X W;exact⟨w,V,Q,P⟩
end
inductive Rt(g:Nat->Nat):Nat->Nat->Prop where
 |here {k:Nat} (h:g k=k):Rt g k k
 |up {k r:Nat} (h:g k≠k) (h2:Rt g (g k) r):Rt g k r
def Rt.VA(h:Rt V X P):∀{W:Nat},Rt V X W->P=W:=by
 induction h with
 |here h=>
  intro W Q;cases Q with
  |here=>rfl
  |up R O=>exact(R h).elim
 |up h O N=>
  intro W Q;cases Q with
  |here R=>exact(h R).elim
  |up R M=>exact N M
def Rt.fix(h:Rt V X P):V P=P:=by
 induction h with
 |here h=>exact h
 |up h R W=>exact W
def Rt.le(W:∀q,V q<=q)(h:Rt V X P):P<=X:=by
 induction h with
 |here h=>exact cd _
 |up h Q R=>exact oL R (W _)
def rT(g:Nat->Nat)(k v:Nat):Nat->Nat:=λq=>if q=k then v else g q
def EY:Nat->Nat->(Nat->Nat)->Nat->Nat
 |0,_,g=>g
 |n+1,k,g=>if g k=k then g else rT (EY n (g k) g) k (EY n (g k) g (g k))
def aoA{g:Nat->Nat}(W:∀q,g q<=q):∀n k,k<n->Rt g k (EY n k g k)/\∀q,EY n k g q=g q\/Rt g q (EY n k g q)
 |0,k,h=>aY h (Nat.not_lt_zero _)
 |n+1,k,h=>by
  simp only[EY];by_cases X:g k=k;rw[aI X];exact⟨by rw[X];exact .here X,λq=>.inl rfl⟩;rw[aK X];have P:=aqt (W k) X;obtain⟨V,Q⟩:=aoA W n (g k) ae;refine⟨by simp only[rT,cS];exact .up X V,λq=> ?_⟩;simp only[rT];by_cases R:q=k;subst R;rw[aI rfl];exact .inr (.up X V);rw[aK R];exact Q q
def Rt.short(R:∀q,V q<=q)(h:∀q,N q=V q\/Rt V q (N q))(x:Nat):∀{r:Nat},Rt V x r->Rt N x r:=by
 induction x using Qe with
 |_ x Q=>
  intro r P;cases P with
  |here X=>
   rcases h x with e|e;exact .here (e.trans X);exact .here (e.VA (.here X))
  |up X W=>
   have O:=aqt (R x) X;rcases h x with e|e;refine .up (by rw[e];exact X) ?_;rw[e];exact Q _ O W;have M:N x=r:=e.VA (.up X W);have L:=W.le R;refine .up ae ?_;rw[M];exact Q r ae (.here W.fix)
def axB(X:∀q,V q<=q)(h:∀q,N q=V q\/Rt V q (N q))(q:Nat):N q<=q:=by
 rcases h q with e|e;rw[e];exact X q;exact e.le X
def Rt.join{r:Nat}(O:V X=X)(N:V P=P)(h:Rt V F r):Rt (rT V X P) F (if r=X then P else r):=by
 induction h with
 |here R=>
  rename_i k;by_cases W:k=X;subst W;rw[aI rfl];by_cases Q:P=k;subst Q;exact .here (by simp[rT]);have e:rT V k P k=P:=by simp[rT]
  refine .up (by rw[e];exact Q) ?_;rw[e];exact .here (by simp[rT,Q,N]);rw[aK W];exact .here (by simp[rT,W,R])
 |up R L M=>
  rename_i k r;have W:k≠X:=λe=>R (by rw[e];exact O)
  have e:rT V X P k=V k:=by simp[rT,W]
  refine .up (by rw[e];exact R) ?_;rw[e];exact M
def EZ(g:Nat->Nat)(a b:Nat):Prop:=∃r,Rt g a r/\Rt g b r
def EZ.short{g X:Nat->Nat}{a b:Nat}(W:∀q,g q<=q)(h:∀q,X q=g q\/Rt g q (X q))(k:EZ g a b):EZ X a b:=by
 obtain⟨r,V,R⟩:=k;exact⟨r,V.short W h,R.short W h⟩
def EZ.join{g:Nat->Nat}{X W a b:Nat}(V:g X=X)(R:g W=W)(k:EZ g a b):EZ (rT g X W) a b:=by
 obtain⟨r,Q,P⟩:=k;exact⟨_,Q.join V R,P.join V R⟩
def gC(m:ax)(q:Nat):Nat:=(aN 0 (m.getD q [])).toNat
def aoB{x:aH}(R:X<Y W):gC (W.set X x)=rT (gC W) X (aN 0 x).toNat:=by
 funext q;simp only[gC,rT,dB];by_cases V:q=X;subst V;rw[aI rfl,Fc R];rfl;rw[aK V,qX (Ne.symm V)]
def HR(h:lD W=J)(q:Nat):gC W q<=q:=by
 unfold gC;by_cases X:q<Y W;have:=DH h X;omega;rw[dB,jK ae];show(0:Int).toNat<=q;simp
def aoC{m:ax}(h:lD m=J):∀(n:Nat)(i:Int),0<=i->i<Y m->gC (qo n i m)=EY n i.toNat (gC m)
 |0,_,_,_=>rfl
 |n+1,i,W,V=>by
  obtain⟨R,O,Q⟩:=XY h W V;have P:=aoC h n _ R Q;have e:gC m i.toNat=(aN 0 (m.getD i.toNat [])).toNat:=rfl;simp only[qo,EY];by_cases X:aN 0 (m.getD i.toNat [])=i;rw[aI X,aI (by rw[e,X])];rw[aK X,aK (by rw[e];omega),aoB (by rw[Rj];omega),e,<-P];rfl
def adO(h:∀k<Y W,0<=aN 0 (W.getD k [])/\aN 0 (W.getD k [])<=k):lD W=true:=by
 refine fp.2 λk X=> ?_
 simp only[az,cF];exact h k (zv.1 X)
def Px(h:lD W=J)(k:Nat)(X:k<Y W):aN 0 (W.getD k [])=(gC W k:Int):=by
 have:=DH h X;unfold gC;omega
def axC{X:ax}(h:lD W=J)(Q:∀x∈X,x∈W)(P:∀q,gC X q<=q):lD X=true:=by
 refine adO λk O=> ?_
 have N:X.getD k []∈X:=agO O _;obtain⟨p,R⟩:=qW (Q _ N);have M:p<Y W:=(bZ.1 R).1;have V:=(DH h M).1;rw[dB,R] at V;have V:0<=aN 0 (X.getD k []):=V;have:=P k;unfold gC at this;omega
def axD(h:lD W=J)(L:Y W<=1099511627776)(P:0<=Q)(O:Q<Y W):∃X,uW Q W=U X/\Y X=Y W/\lD X=J/\(∀q,gC X q=gC W q\/Rt (gC W) q (gC X q))/\Rt (gC W) Q.toNat (gC X Q.toNat):=by
 obtain⟨X,V⟩:∃X,uW Q W=U X:=⟨qo (Y W) Q W,by unfold uW;rw[aI (by simp[L,P,O,h])]⟩;obtain⟨-,-,-,-,e⟩:=MY V;have N:=aoC h (Y W) Q P O;rw[<-e] at N;obtain⟨M,R⟩:=aoA (HR h) (Y W) Q.toNat ae;rw[<-N] at M R;exact⟨X,V,XZ V,axC h (Rk V) (axB (HR h) R),R,M⟩
def gW(M:Nat->Nat->Prop):Nat->Nat->Nat->Prop
 |0,i,j=>i=j
 |r+1,i,j=>i=j\/∃k,(M i k\/M k i)/\gW M r k j
def Cn(M:Nat->Nat->Prop)(i j:Nat):Prop:=∃r,gW M r i j
section
variable{M:Nat->Nat->Prop}
def gW.refl(r i:Nat):gW M r i i:=by
 cases r with
 |zero=>rfl
 |succ r=>exact .inl rfl
def gW.succ{r:Nat}:∀{i j:Nat},gW M r i j->gW M (r+1) i j:=by
 induction r with
 |zero=>intro i j h;exact .inl h
 |succ r X=>
  intro i j h;rcases h with h|⟨k,e,h⟩;exact .inl h;exact .inr ⟨k,e,X h⟩
def gW.mono(h:X<=P){j:Nat}(k:gW M X F j):gW M P F j:=by
 induction h with
 |refl=>exact k
 |step _ W=>exact W.succ
def gW.trans:∀{i j k s:Nat},gW M X i j->gW M s j k->gW M (X+s) i k:=by
 induction X with
 |zero=>intro i j k s W V;cases W;rw[iJ];exact V
 |succ X R=>
  intro i j k s W V;rcases W with W|⟨q,e,W⟩;subst W;exact V.mono ae;rw[Nat.add_right_comm];exact .inr ⟨q,e,R W V⟩
def Cn.refl(i:Nat):Cn M i i:=⟨0,rfl⟩
def Cn.trans{i j k:Nat}(X:Cn M i j)(W:Cn M j k):Cn M i k:=by
 obtain⟨r,X⟩:=X;obtain⟨s,W⟩:=W;exact⟨_,X.trans W⟩
def Cn.one(h:M X P\/M P X):Cn M X P:=⟨1,.inr ⟨P,h,rfl⟩⟩
def gW.symm{r:Nat}:∀{i j:Nat},gW M r i j->Cn M j i:=by
 induction r with
 |zero=>intro i j h;cases h;exact Cn.refl _
 |succ r X=>
  intro i j h;rcases h with h|⟨k,e,h⟩;subst h;exact Cn.refl _;exact(X h).trans (Cn.one e.symm)
def Cn.symm{i j:Nat}(h:Cn M i j):Cn M j i:=by
 obtain⟨r,h⟩:=h;exact h.symm
def gW.back:∀{i j:Nat},gW M (X+1) i j->gW M X i j\/∃k,gW M X i k/\(M k j\/M j k):=by
 induction X with
 |zero=>
  intro i j h;rcases h with h|⟨k,e,h⟩;exact .inl h;cases h;exact .inr ⟨i,rfl,e⟩
 |succ X W=>
  intro i j h;rcases h with h|⟨k,e,h⟩;exact .inl (.inl h);rcases W h with h|⟨q,h,V⟩;exact .inl (.inr ⟨k,e,h⟩);exact .inr ⟨q,.inr ⟨k,e,h⟩,V⟩
def axE(h:∀j,gW M (P+1) X j->gW M P X j):∀r j,gW M r X j->gW M P X j:=by
 intro r;induction r with
 |zero=>intro j k;cases k;exact gW.refl _ _
 |succ r W=>
  intro j k;rcases k.back with k|⟨p,k,e⟩;exact W j k;have:=W p k;exact h j (this.trans (show gW M 1 p j from .inr ⟨j,e,rfl⟩))
open Classical in
def E0(M:Nat->Nat->Prop)(n i r:Nat):Nat:=((fU n).filter λj=>decide (gW M r i j)).length
def aoD{W:Type}{p q:W->Bool}:∀{l:List W},(∀x∈l,p x=J->q x=J)->(l.filter p).length<=(l.filter q).length
 |[],_=>ay
 |a::l,h=>by
  have Q:=aoD (l:=l) λx V=>h x (by simp[V])
  have R:=h a ay;simp only[aqz];by_cases X:p a=J;rw[aI X,aI (R X)];simp only[oK];omega
  ·rw[aK X];split<;>(try simp only[oK])<;>omega
def adP{Q:Type}{p q:Q->Bool}:∀{l:List Q},(∀x∈l,p x=J->q x=J)->(∃x∈l,q x=J/\p x=E)->(l.filter p).length<(l.filter q).length
 |[],_,h=>by obtain⟨x,X,_⟩:=h;cases X
 |a::l,h,X=>by
  have N:=aoD (l:=l) λx X=>h x (by simp[X])
  have O:=h a ay;simp only[aqz];by_cases R:p a=J;rw[aI R,aI (O R)];obtain⟨x,X,W,V⟩:=X;rcases dP.1 X with rfl|X;rw[R] at V;cases V;have:=adP (l:=l) (λx X=>h x (by simp[X])) ⟨x,X,W,V⟩;simp only[oK];omega;rw[aK R];by_cases W:q a=J;rw[aI W];simp only[oK];omega;rw[aK W];obtain⟨x,X,P,V⟩:=X;rcases dP.1 X with rfl|X;exact(W P).elim;exact adP (l:=l) (λx X=>h x (by simp[X])) ⟨x,X,P,V⟩
open Classical in
def aoE(R:∀a b,M a b->a<X/\b<X)(Q:P<X)(h:Cn M P F):gW M X P F:=by
 have L:∀r F,gW M r P F->F<X:=by
  intro r;induction r with
  |zero=>intro F k;cases k;exact Q
  |succ r V=>
   intro F k;rcases k.back with k|⟨p,k,e⟩;exact V F k;rcases e with e|e;exact(R _ _ e).2;exact(R _ _ e).1
 have H:∀r,(∃q≤r,∀F,gW M (q+1) P F->gW M q P F)\/r+1<E0 M X P (r+1)+1:=by
  intro r;induction r with
  |zero=>
   by_cases W:∀F,gW M 1 P F->gW M 0 P F;exact .inl ⟨0,cd _,W⟩;refine .inr ?_;have:0<E0 M X P 1:=by
    unfold E0;rw[List.length_pos_iff_exists_mem];exact⟨P,pB.2 ⟨zv.2 Q,decide_eq_true (gW.refl _ _)⟩⟩
   show 0+1<E0 M X P 1+1;omega
  |succ r V=>
   rcases V with⟨q,O,W⟩|V;exact .inl ⟨q,ae,W⟩;by_cases W:∀F,gW M (r+2) P F->gW M (r+1) P F;exact .inl ⟨r+1,cd _,W⟩;refine .inr ?_;have:∃F,gW M (r+2) P F/\¬gW M (r+1) P F:=Classical.byContradiction λc=>W λF k=>Classical.byContradiction λG=>c ⟨F,k,G⟩
   obtain⟨F,N,D⟩:=this;have:E0 M X P (r+1)<E0 M X P (r+2):=adP (λx _ B=>decide_eq_true (gW.succ (tH B))) ⟨F,zv.2 (L _ F N),decide_eq_true N,decide_eq_false D⟩;show r+1+1<E0 M X P (r+2)+1;omega
 obtain⟨r,h⟩:=h;rcases H X with⟨q,O,W⟩|A;exact(axE W r F h).mono O;have:E0 M X P (X+1)<=X:=by
  have:=List.length_filter_le (λF=>(@decide (gW M (X+1) P F) (Classical.propDecidable _))) (fU X);rw[aDE] at this;exact this
 omega
end
def uF(g:Nat->Nat)(a b:Nat):Nat->Nat:=λq=>if q=a\/q=b then min (g a) (g b) else g q
def adQ(g:Nat->Nat)(a b q:Nat):uF g a b q<=g q:=by
 simp only[uF];split;rename_i h;rcases h with h|h<;>subst h<;>omega;exact cd _
def xD:List (Nat×Nat)->(Nat->Nat)->Nat->Nat
 |[],g=>g
 |p::l,g=>xD l (uF g p.1 p.2)
def VB:∀(l:List (Nat×Nat))(g:Nat->Nat)(q:Nat),xD l g q<=g q
 |[],g,q=>cd _
 |p::l,g,q=>oL (VB l _ q) (adQ g _ _ q)
def adR:∀(l:List (Nat×Nat))(g:Nat->Nat)(p:Nat×Nat),p∈l->xD l g p.1<=g p.2/\xD l g p.2<=g p.1
 |[],_,_,h=>by cases h
 |a::l,g,p,h=>by
  rcases dP.1 h with rfl|h;have X:=VB l (uF g p.1 p.2) p.1;have W:=VB l (uF g p.1 p.2) p.2;have V:uF g p.1 p.2 p.1=min (g p.1) (g p.2):=by simp[uF]
  have R:uF g p.1 p.2 p.2=min (g p.1) (g p.2):=by simp[uF]
  simp only[xD];omega;have Q:=adR l (uF g a.1 a.2) p h;have X:=adQ g a.1 a.2 p.1;have W:=adQ g a.1 a.2 p.2;simp only[xD];omega
def E1(l:List (Nat×Nat))(a b:Nat):Prop:=(a,b)∈l
def axF{M:Nat->Nat->Prop}(h:∀q,Cn M q (V q))(e:M X P)(q:Nat):Cn M q (uF V X P q):=by
 simp only[uF];split;rename_i k;have W:Cn M X P:=Cn.one (.inl e);rcases ae3 (V X) (V P) with z|z;rw[Fj z];rcases k with rfl|rfl;exact h q;exact W.symm.trans (h X);rw[Wo z];rcases k with rfl|rfl;exact W.trans (h P);exact h q;exact h q
def aoF{M:Nat->Nat->Prop}:∀(l:List (Nat×Nat)){g:Nat->Nat},(∀p∈l,M p.1 p.2)->(∀q,Cn M q (g q))->∀q,Cn M q (xD l g q)
 |[],_,_,h,q=>h q
 |p::l,_,X,h,q=>aoF l (λx W=>X x (by simp[W])) (axF h (X p ay)) q
def rU(l:List (Nat×Nat)):Nat->Nat->Nat
 |0=>λq=>q
 |r+1=>xD l (rU l r)
def LB(l:List (Nat×Nat)):∀r q,Cn (E1 l) q (rU l r q)
 |0,q=>Cn.refl q
 |r+1,q=>aoF l (λ_ h=>h) (LB l r) q
def VC{l:List (Nat×Nat)}:∀{r i j:Nat},gW (E1 l) r i j->rU l r i<=j
 |0,i,j,h=>by cases h;exact cd _
 |r+1,i,j,h=>by
  rcases h with h|⟨k,e,h⟩;subst h;exact oL (VB l _ _) (VC (gW.refl r i));have:=VC h;simp only[rU];rcases e with e|e;have:=(adR l (rU l r) _ e).1;exact oL this uM;have:=(adR l (rU l r) _ e).2;exact oL this uM
def axG{l:List (Nat×Nat)}(Q:∀p∈l,p.1<X/\p.2<X){i k:Nat}(W:i<X)(P:k<X):rU l X i=rU l X k<->Cn (E1 l) i k:=by
 have O:∀a b,E1 l a b->a<X/\b<X:=λa b h=>Q (a,b) h
 have least:∀{i j},i<X->Cn (E1 l) i j->rU l X i<=j:=λW h=>VC (aoE O W h)
 constructor;intro e;have V:=LB l X i;have R:=LB l X k;rw[e] at V;exact V.trans R.symm;intro h;have V:=least W (h.trans (LB l X k));have R:=least P (h.symm.trans (LB l X i));omega
section
variable[Inhabited cX]
def LD(v:ax)(a b:Nat):Prop:=∃x∈v,(aN 0 x).toNat=a/\(aN 1 x).toNat=b
def adS{W:Nat->Nat->Prop}(R:∀q,V q<=q)(h:∀q<X,Cn W q (V q))(Q:Rt V P F):P<X->Cn W P F:=by
 induction Q with
 |here _=>exact λ_=>Cn.refl _
 |up _ _ O=>
  rename_i P F _ _;exact λN=>(h P N).trans (O (by have:=R P;omega))
def adT{W:Nat->Nat->Prop}(Q:∀q,V q<=q)(h:∀q<X,Cn W q (V q))(s:∀q,N q=V q\/Rt V q (N q)):∀q<X,Cn W q (N q):=λq R=>by
 rcases s q with e|e;rw[e];exact h q R;exact adS Q h e R
structure axH(n:Nat)(v m:ax):Prop where
 len:Y m=n
 ok:lD m=J
 pr:∀x∈v,aN 0 (m.getD (aN 0 x).toNat [])=aN 0 (m.getD (aN 1 x).toNat [])
 cn:∀q<n,Cn (LD v) q (gC m q)
def R63(n:Nat)(v:ax)(e:Int)(o:bo):Prop:=(e≠0/\o=.ret [.r (bK []),.i e])\/(e=0/\∃m,o=.ret [.r (bK m),.i 0]/\axH n v m)
def axJ(m:ax)(k:Nat)(x:Int)(W:k<Y m)(R:∀X∈m,Y X=1):(m.modify k λX=>fJ X 0 [iV x])=m.set k [iV x]:=by
 apply ke;intro q;rw[P7,uL];by_cases V:k=q;subst V;rw[aI rfl,aI W,cK W];have:=R _ (pA W);generalize m[k]=X at this
 match X,this with
 |[c],_=>simp[fJ]
 rw[aK V];simp[V]
def axK(h:lD W=J)(R:Y W=X):lD (W++[[iV X]])=true:=by
 refine adO λk Q=> ?_
 simp only[gD,Wc] at Q;rw[dB];by_cases V:k<Y W;rw[dU V,<-dB];exact DH h V;have:k=Y W:=ae;subst this;rw[iC (cd _)];simp[aN,bS,iV,R]
def axL(V:Y W=X)(h:∀q<X,gC W q=q):∀q<X+1,gC (W++[[iV X]]) q=q:=λq R=>by
 simp only[gC,dB];by_cases e:q=X;subst e;rw[iC ae];simp[V,aN,bS,iV];rw[dU ae,<-dB];exact h q ae
def axM(h:∀V∈W,Y V=1):∀V∈W++[[H]],Y V=1:=λV X=>by
 rcases eP.1 X with X|X;exact h V X;simp at X;subst X;rfl
def adU{R:bo->Prop}{O:ak}{L:dj}{t:T}{m:ax}{r:RE}{e:TypeId}{N:bp}{i:K}(M:r.rv O=bK m)(H:i.ah O=Q)(G:∀W∈m,Y W=1)(h:lD m=J)(x:Y m<=1000)(F:0<=Q)(D:Q<Y m)
  (k:∀X,Y X=Y m->(∀W∈X,Y W=1)->lD X=J->(∀q,gC X q=gC m q\/Rt (gC m) q (gC X q))->Rt (gC m) Q.toNat (gC X Q.toNat)->t.wp TB.Ev R (O.add (.r (bK X))) L):
  T.wp TB.Ev R (.dO 76 76 e (.dh 0 (.lex [] E) [i]) J r N t) O L:=by
 obtain⟨X,V,P,B,A,z⟩:=axD h ae F D;rw[avc,M];refine⟨X, ?_, ?_⟩;show uW (i.ah O) m=U X;rw[H];exact V;have:=k X P (λW y=>G W (Rk V W y)) B A z;have e:(RV.mk (bK m).val X)=bK X:=by
  simp only[bK,RV.mH,P]
 rw[e];exact this
def t63(h:gU)(ar:Int)(al:TB.Ev 75 (wk++[.i ar]) (.ret [.r (bK W),.i Q]))(hv:∀x∈W,0<=aN 0 x/\aN 0 x<aN 1 x/\aN 1 x<Y aX.aj)(bs:Y W<=4096)(hn:Y aX.aj<=1000):
  ∃o,TB.Ev 41 (wk++[.i ar]) o/\R63 (Y aX.aj) W Q o:=by
 refine fj ?_;simp only[wk,fG,gr] at al;simp[T63,wk,bu al];refine aG (λb=> ?_) (λb=>.inl ⟨b,rfl⟩);subst b;have an:Y aX.aj<=140737488355328:=ae;have ba:Y W<=140737488355328:=ae;refine cT (Y aX.aj) (λi A=>∃m,A=[.r (bK m)]/\Y m=i/\(∀G∈m,Y G=1)/\lD m=J/\∀q<i,gC m q=q) ⟨0,rfl,ae,[],rfl,rfl,ay,rfl,ae⟩ ?_;rintro i _ hi ⟨m0,rfl,F,y,D,a0⟩;simp[h.rl.len];refine aG (λhi=> ?_) (λbt=> ?_);simp[cJ hi an];exact⟨ae,_,rfl,dF,axM y,axK D F,axL F a0⟩;have bb:i=Y aX.aj:=ae;subst bb;refine cT (Y W) (λj A=>∃m,A=[.r (bK m)]/\Y m=Y aX.aj/\(∀G∈m,Y G=1)/\lD m=J/\(∀x∈W.take j,EZ (gC m) (aN 0 x).toNat (aN 1 x).toNat)/\∀q<Y aX.aj,Cn (LD W) q (gC m q)) ⟨0,rfl,ae,m0,rfl,F,y,D,ay,λq l=>by rw[a0 q l];exact Cn.refl _⟩ ?_;rintro j _ H ⟨m,rfl,F,y,D,a,hc⟩;simp;refine aG (λH=> ?_) (λbx=> ?_);simp[H];obtain⟨va,bd,vb⟩:=hv _ (pA H);have ea:bS (bQ W (j:Int) 0).val=aN 0 W[j]:=by simp[bQ,aN,H]
 have eb:bS (bQ W (j:Int) 1).val=aN 1 W[j]:=by simp[bQ,aN,H]
 refine adU (m:=m) rfl ea y D ae ae ae ?_;intro B l1 r1 w P g;refine adU (m:=B) rfl eb r1 w ae ae ae ?_;intro O l2 r2 o2 f a2;simp[cJ H ba];have na:bS (bQ B (bS (bQ W (j:Int) 0).val) 0).val=((gC B (aN 0 W[j]).toNat:Nat):Int):=by rw[ea];exact Px w _ ae
 have nb:bS (bQ O (bS (bQ W (j:Int) 1).val) 0).val=((gC O (aN 1 W[j]).toNat:Nat):Int):=by rw[eb];exact Px o2 _ ae
 simp only[na,nb];have L:=HR D;have d:=HR w;have c:=HR o2;have aa:=adT d (adT L hc P) f;have bf:Cn (LD W) (aN 0 W[j]).toNat (aN 1 W[j]).toNat:=Cn.one (.inl ⟨_,pA H,rfl,rfl⟩);have u:=(g.short L P).short d f;have t:=a2.short d f;have fa:=u.fix;have fb:=t.fix;have la:=u.le c;have lb:=t.le c;have cA:=adS c aa u ae;have cB:=adS c aa t ae;generalize gC B (aN 0 W[j]).toNat=N at u fa la cA⊢;generalize gC O (aN 1 W[j]).toNat=M at t fb lb cB⊢;obtain⟨X,ab⟩:∃X:Nat,X=max N M:=⟨_,rfl⟩;obtain⟨V,ac⟩:∃V:Nat,V=min N M:=⟨_,rfl⟩;have e1:max (N:Int) (M:Int)=(X:Int):=ae;have e2:min (N:Int) (M:Int)=(V:Int):=ae;rw[e1,e2];have af:X<Y O:=ae;have fx:gC O X=X:=by rcases ae3 N M with q|q<;>simp only[ab,Nat.max_eq_left,Nat.max_eq_right,q]<;>assumption
 have fn:gC O V=V:=by rcases ae3 N M with q|q<;>simp only[ac,Fj,Wo,q]<;>assumption
 have ek:gC (O.set X [iV (V:Int)])=rT (gC O) X V:=by rw[aoB af];rfl
 refine⟨ae,O.set X [iV (V:Int)], ?_,dF,λG s=> ?_, ?_,λx R=> ?_,λq l=> ?_⟩;rw[<-axJ O X V af r2];rfl;rcases C9 s with s|s;exact r2 G s;subst s;rfl;refine adO λk p=> ?_
 rw[aqA] at p;rw[dB];by_cases a3:k=X;subst a3;rw[Fc af];show(0:Int)<=(V:Int)/\(V:Int)<=(k:Int);omega;rw[qX (Ne.symm a3),<-dB];exact DH o2 p;rw[ek];rw[aqx,cK H] at R;rcases eP.1 R with R|R;exact(((a x R).short L P).short d f).join fx fn;simp at R;subst R;refine⟨V, ?_, ?_⟩;have:=u.join fx fn;by_cases q:N=X
 rwa [aI q] at this
 rw[aK q] at this;have:N=V:=ae;subst this;assumption;have:=t.join fx fn;by_cases q:M=X
 rwa [aI q] at this
 rw[aK q] at this;have:M=V:=ae;subst this;assumption;rw[ek];simp only[rT];have cR:Cn (LD W) N M:=(cA.symm.trans bf).trans cB;by_cases Q:q=X;rw[aI Q,Q];rcases ae3 N M with z|z;rw[ab,ac,Nat.max_eq_right z,Fj z];exact cR.symm;rw[ab,ac,Nat.max_eq_left z,Wo z];exact cR;rw[aK Q];exact aa q l;have bg:j=Y W:=ae;subst bg;rw[List.take_length] at a;refine cT (Y aX.aj) (λk A=>∃m,A=[.r (bK m)]/\Y m=Y aX.aj/\(∀G∈m,Y G=1)/\lD m=J/\(∀x∈W,EZ (gC m) (aN 0 x).toNat (aN 1 x).toNat)/\(∀q<Y aX.aj,Cn (LD W) q (gC m q))/\∀q<k,Rt (gC m) q (gC m q)) ⟨0,rfl,ae,m,rfl,F,y,D,a,hc,ay⟩ ?_;rintro k _ p ⟨m',rfl,bk,bl,n,a4,a9,ag⟩;simp[F];refine aG (λp=> ?_) (λb0=> ?_);refine adU (m:=m') rfl rfl bl n ae ay dF ?_;intro B l1 r1 w P g;have L:=HR n;simp[cJ p an] at g⊢;refine⟨B,rfl,ae,r1,w,λx R=>(a4 x R).short L P,adT L a9 P,λq l=> ?_⟩;by_cases br:q=k;subst br;exact g.short L P;have:=ag q ae;rcases P q with Q|Q;rw[Q];exact this.short L P;exact Q.short L P;refine .inr ⟨rfl,m',rfl,bk,n,λx R=> ?_,a9⟩;obtain⟨va,bd,vb⟩:=hv x R;obtain⟨r,q1,q2⟩:=a4 x R;rw[Px n _ ae,Px n _ ae,(ag _ ae).VA q1,(ag _ ae).VA q2]
end
section
variable{R:bo->Prop}{G:aQ}{t:T}{O:ak}{L:dj}
variable[Inhabited cX]
structure Ab(n:Nat)(ar:Int)(bd mv bf re:RV)(vs vr vb:ax):Prop where
 ls:Y vs=n
 lr:Y vr=n
 lb:Y vb=n
 al:∀k<n,bQ vr (k:Int) 0=bK (cr 104 re k).aj/\Vx vs k=13/\Vx vb k=4/\Vu ar mv bf bd re k/\(∀j<13,bS (bQ vs (k:Int) j).val=gS ar mv bf re k j)/\∀j<4,bS (bQ vb (k:Int) j).val=gB ar mv bf bd re k j
end
def axO{X:Type}(n i:Nat)(f V:Nat->X)(g:X->X)(h:∀k<n,V k=if k=i then g (f k) else f k):((fU n).map f).modify i g=(fU n).map V:=by
 apply ke;intro q;rw[P7];simp only[dN];by_cases W:q<n;rw[Dd W];simp only[dV,h q W];by_cases e:i=q;subst e;simp;rw[aK (Ne.symm e)];simp[e];rw[jK (by simpa using Nat.le_of_not_lt W)];simp
def A7(X:ax)(g:Int):Bool:=match iE 1 [g,0,0] X with
 |U W=>jp (W.getD 1 default).val
 |none=>E
def LF(g:Int)(X:aH):kY 1 [g,0,0] X=decide ((X.take 1).map (λc=>bS c.val)=[g]):=rfl
section
open Classical in
section
variable{m:ax}{a d l:RV}{n:Nat}
def axP{f:Nat->aH}(W:X<n):bQ ((fU n).map f) (X:Int) P=(f X).getD P default:=by
 simp[bQ,Dd W]
end
section
variable[Inhabited cX]
end
end
def tB(n:Nat)(g:Nat->Nat):ax:=(fU n).map λk=>[RV.mk (.int I (g k:Int)) []]
def LG(n:Nat)(g:Nat->Nat):(tB n g).length=n:=by simp[tB]
def adV{n:Nat}{g:Nat->Nat}{a:Int}(X:0<=a)(h:a<n):bS (bQ (tB n g) a 0).val=(g a.toNat:Int):=by
 have e:a=(a.toNat:Int):=ae;rw[e];simp only[tB];rw[axP ae];rfl
def axQ{n:Nat}{g:Nat->Nat}{a:Int}{x:Nat}:((tB n g).modify a.toNat λX=>fJ X 0 [RV.mk (.int I (x:Int)) []])=tB n λq=>if q=a.toNat then x else g q:=by
 simp only[tB];refine axO n a.toNat _ _ _ λk _=> ?_
 by_cases e:k=a.toNat;rw[aI e,aI e];rfl;rw[aK e,aK e]
def axR(h:∀q,V q=N q):tB X V=tB X N:=by
 have:V=N:=funext h;rw[this]
def qb(v:ax):List (Nat×Nat):=v.map λx=>((aN 0 x).toNat,(aN 1 x).toNat)
def aoG(p:Nat×Nat):∀(l:List (Nat×Nat))(g:Nat->Nat),xD (l++[p]) g=uF (xD l g) p.1 p.2
 |[],_=>rfl
 |a::l,g=>aoG p l _
def axS(V:X<Y W):(qb W).take (X+1)=(qb W).take X++[((aN 0 W[X]).toNat,(aN 1 W[X]).toNat)]:=by
 rw[aqx];simp[qb,V]
section
variable{R:bo->Prop}{G:aQ}{t:T}{O:ak}{L:dj}
def r64(n:Nat)(m:n<=64)(v:ax)(l:Y v<=4096)(A:∀x∈v,(0<=aN 0 x/\aN 0 x<n)/\0<=aN 1 x/\aN 1 x<n):TB.Ev 177 [.i n,.r (bK v)] (.ret [.r (bK (tB n (rU (qb v) n)))]):=by
 refine gA ?_;simp[T64];have P:n<=140737488355328:=ae;refine cT n (λi W=>W=[.r (bK (tB i λq=>q))]) ⟨0,rfl,ae,rfl⟩ ?_;rintro i _ N rfl;simp[LG];refine aG (λN=> ?_) (λj=> ?_);simp[cJ N P];refine⟨ae, ?_⟩;simp only[tB];rw[List.range_succ,Qd];rfl;have z:i=n:=ae;subst z;refine cT i (λr W=>W=[.r (bK (tB i (rU (qb v) r)))]) ⟨0,rfl,ae,rfl⟩ ?_;rintro r _ M rfl;simp[LG];refine aG (λM=> ?_) (λh=> ?_);refine cT (Y v) (λk W=>W=[.r (bK (tB i (xD ((qb v).take k) (rU (qb v) r))))]) ⟨0,rfl,ae,rfl⟩ ?_;rintro k _ X rfl;simp[LG];refine aG (λX=> ?_) (λf=> ?_);obtain⟨⟨H,G⟩,F,D⟩:=A _ (pA X);have w:bS (bQ v (k:Int) 0).val=aN 0 v[k]:=by simp[bQ,aN,X]
 have u:bS (bQ v (k:Int) 1).val=aN 1 v[k]:=by simp[bQ,aN,X]
 simp only[w,u];rw[adV H G,adV F D];simp[X,H,G,F,D,LG,cJ X (show Y v<=140737488355328 from ae)];rw[axS X,aoG];generalize xD ((qb v).take k) (rU (qb v) r)=g;generalize(aN 0 v[k]).toNat=a;generalize(aN 1 v[k]).toNat=b;have s:∀x y:Nat,min (x:Int) (y:Int)=((min x y:Nat):Int):=λx y=>ae
 rw[s];have Q:=λ(g:Nat->Nat)(a x:Nat)=>axQ (n:=i) (g:=g) (a:=(a:Int)) (x:=x)
 simp only[zu] at Q;rw[Q,Q];rw[axR λq=> ?_];simp only[uF];by_cases B:q=a;subst B;by_cases V:q=b;subst V;simp;simp[V];by_cases V:q=b;subst V;simp;simp[B,V];have p:k=Y v:=ae;subst p;simp[cJ M P];rw[Fb (by simp[qb])];rfl;have o:r=i:=ae;subst o;rfl

variable[Inhabited cX]
variable{wg bd cs br co:RV}
def WgP(wg:RV):Prop:=∀i<Y wg.aj,∀ar:Nat,(ar:Int)<eW->p9 (ci wg i) ar 4=0
def axU(X:Sl wg)(F:eW<=64):∃o,TB.Ev 50 (gI wg bd cs br co) o/\∃b,o=.ret [.b b]/\(b=J->WgP wg):=by
 refine fj ?_;simp[acX,gI,wk];refine cT (Y wg.aj) (λn W=>W=[]/\∀i<n,∀ar:Nat,(ar:Int)<eW->p9 (ci wg i) ar 4=0) ⟨0,rfl,ae,rfl,λi Q=>ae⟩ ?_;rintro i _ Q ⟨rfl,P⟩;simp[X.len];refine aG (λN=> ?_) (λD=> ?_);refine cT eW.toNat (λn W=>W=[]/\∀ar<n,p9 (ci wg i) ar 4=0) ⟨0,rfl,ae,rfl,λi Q=>ae⟩ ?_;rintro j _ B ⟨rfl,V⟩;simp[X.len,N];refine aG (λA=> ?_) (λz=> ?_);obtain⟨o,H,y,rfl,M⟩:=axv (ci wg i) j;have G:=f25 (ci wg i) j;have d:=ZA H G;injection d with d;subst d;simp only[oH,ci,fG,gr] at M;simp[bu M];intro e;rw[cJ (n:=eW.toNat) (show j<eW.toNat from ae) ae];exact⟨rfl,lQ V e⟩;rw[cJ N X.sm];exact⟨rfl,lQ P λar x=>V ar ae⟩;exact λq V=>P q ae
def aoI(V:qa W (rR Q)):E1 (qb W)=rR Q:=by
 funext a b;refine propext ((Iff.trans ?_ (V.iff a b)));simp only[E1,qb,hJ,Bh];constructor;rintro⟨x,X,P,N⟩;have:=V.ok x X;exact⟨x,X,ae,ae⟩;rintro⟨x,X,P,N⟩;exact⟨x,X,ae,ae⟩
def axV(X:qa W (rR Q)):∀p∈qb W,p.1<Y aX.aj/\p.2<Y aX.aj:=λp V=>by
 obtain⟨x,P,rfl⟩:=hJ.1 V;have:=X.ok x P;exact⟨by simp only;omega,by simp only;omega⟩
structure Py(ar:Int)(mv re:RV):Prop where
 lm:Y mv.aj=Y aX.aj
 lr:Y re.aj=Y aX.aj
 grp:∀i<Y aX.aj,∀k<Y aX.aj,Cn (rR ar) i k->cb mv i 0=cb mv k 0
 els:∀i<Y aX.aj,cb mv i 0=E->(cr 104 re i).aj=[]
 gQ:∀i<Y aX.aj,cb mv i 0=J->Lv i ar (cr 104 re i)=0
def axY(h:gU)(B:Y aX.aj<=64)(ar:Int){X:RV}(A:Sl H)(z:Sl X)(e:∀i<Y X.aj,Sl (cr 104 X i)):∃o,TB.Ev 90 (wk++[.i ar,.r H,.r X]) o/\∃b,o=.ret [.b b]/\(b=J->Py ar H X):=by
 obtain⟨o,y,v,rfl,d,P⟩:=r56 h ar B;have aa:=r64 (Y aX.aj) B v d λx hx=>by have:=P.ok x hx;omega
 have N:TB.Ev 140 (wk++[.i ar]) (.ret [.r (bK (tB (Y aX.aj) (rU (qb v) (Y aX.aj))))]):=by
  refine gA ?_;simp only[wk,fG,gr] at y;simp[ac3,wk,bu y,h.rl.len,bu aa]
 have w:=axV P;have M:=λi k V hk=>axG (i:=i) (k:=k) w V hk
 have u:=LB (qb v) (Y aX.aj);rw[aoI P] at u;simp only[aoI P] at M;have s:∀i<Y aX.aj,rU (qb v) (Y aX.aj) i<=i:=λi V=>VC (aoE (λa b (h:E1 (qb v) a b)=>w (a,b) h) V (Cn.refl _))
 generalize rU (qb v) (Y aX.aj)=G at N M u s;have ab:Y aX.aj<=140737488355328:=ae;refine fj ?_;simp only[wk,fG,gr] at N;simp[ac1,wk,A.len,z.len,h.rl.len,bu N,LG];intro lm lr;refine cT (Y aX.aj) (λn ac=>ac=[]/\∀i<n,cb H i 0=cb H (G i) 0/\(cb H i 0=E->(cr 104 X i).aj=[])/\(cb H i 0=J->Lv i ar (cr 104 X i)=0)) ⟨0,rfl,ae,rfl,λi V=>ae⟩ ?_;rintro i _ V ⟨rfl,W⟩;simp[A.len,z.len,h.rl.len];refine aG (λF=> ?_) (λhg=> ?_);have p:=adV (g:=G) (n:=Y aX.aj) (a:=(i:Int)) ae ae;have e2:=s i F;have m:=e i ae;have l:=m.len;have f:=f95 h i ar (cr 104 X i) m;simp only[wk,fG,gr,cr] at f;simp only[cr] at l;simp only[zu] at p;simp[p,l,bu f,cJ F ab];refine⟨ae,by rw[LG];exact F,ae,λj=>⟨ae,aG (λQ=>⟨ae,aG (λ_=>⟨ae,λq3=> ?_⟩) (λq=>aY Q q)⟩) (λQ=> ?_)⟩⟩;exact lQ W ⟨j,λq=>aY (show cb H i 0=J from Q) (by rw[q];simp),λ_=>q3⟩;have af:cb H i 0=false:=by simp only[cb];simpa using Q
 refine⟨ae,λq4=>⟨ae,aG (λq=>aY q Q) (λ_=> ?_)⟩⟩;exact lQ W ⟨j,λ_=>q4,λq=>aY q (by rw[af];simp)⟩;exact⟨ae,ae,λa D b hb c=>by rw[(W a ae).1,(W b ae).1,(M a b D hb).2 c],λa D=>(W a ae).2.1,λa D=>(W a ae).2.2⟩

def pgM(b:RV)(i:Nat):RV:=ee (.sl 4) (bQ b.aj i 0)
def pgR(b:RV)(i:Nat):RV:=ee (.sl 105) (bQ b.aj i 1)
structure aoJ(br:RV):Prop where
 len:(Y br.aj:Int)=eW
 Pr:∀k<Y br.aj,∀i<(cr 108 br k).aj.length,Py k (pgM (cr 108 br k) i) (pgR (cr 108 br k) i)
def axZ(h:gU)(F:Y aX.aj<=64)(s:uE wg bd cs br co):∃o,TB.Ev 52 (gI wg bd cs br co) o/\∃b,o=.ret [.b b]/\(b=J->aoJ br):=by
 refine fj ?_;simp[acZ,gI,wk,s.sr.len];intro D;refine cT (Y br.aj) (λn V=>V=[]/\∀k<n,∀i<(cr 108 br k).aj.length,Py k (pgM (cr 108 br k) i) (pgR (cr 108 br k) i)) ⟨0,rfl,ae,rfl,λi Q=>ae⟩ ?_;rintro k _ u ⟨rfl,M⟩;simp[s.sr.len];refine aG (λX=> ?_) (λA=>⟨D,λq P=>M q ae⟩);have N:=s.HI k X;have e:=N.len;have H:=s.Pr k X;generalize G:cr 108 br k=B at N e H;have z:ee (.sl 108) (bQ br.aj k 0)=B:=G;refine cT (Y B.aj) (λn V=>V=[]/\∀i<n,Py k (pgM B i) (pgR B i)) ⟨0,rfl,ae,rfl,λi Q=>ae⟩ ?_;rintro i _ Q ⟨rfl,P⟩;simp[s.sr.len,X,z,e];refine aG (λW=> ?_) (λA=> ?_);obtain⟨y,x,w⟩:=H i W;obtain⟨o,g,b,rfl,v⟩:=axY h F k y x w;simp only[wk,fG,gr] at g;cases b;simp[bu g,W];simp[bu g,W,cJ W N.sm];exact lQ P (v rfl);rw[cJ X s.sr.sm];refine⟨rfl,lQ M ?_⟩;rw[G];exact λi Q=>P i ae
structure E2(wg bd cs br co:RV):Prop where
 wk:kQ=0
 mny:Mny wg bd cs br
 bds:∀i<Y bd.aj,Pu bd i=0
 wgs:WgP wg
 dX:Cst bd cs
 pgs:aoJ br
 cns:Cns co
def ax1(h:gU)(s:uE wg bd cs br co):∃o,TB.Ev 22 (gI wg bd cs br co) o/\∃e,o=.ret [.i e]/\(e=0->E2 wg bd cs br co):=by
 refine fj ?_;have V:=r40 h;obtain⟨o,Q,b,rfl,F⟩:=av4 (wg:=wg) (bd:=bd) (cs:=cs) (br:=br) (co:=co) h s.sw s.sb s.sc s.sr s.HI;simp only[wk,gI,fG,gr] at V Q;simp[acT,gI,wk,bu V];refine aG (λX=> ?_) (λX q=>aY q X);simp[bu Q];cases b
 rotate_left
 simp;have W:=F rfl;simp;refine cT (Y bd.aj) (λn D=>D=[]/\∀i<n,Pu bd i=0) ⟨0,rfl,ae,rfl,λi B=>ae⟩ ?_;rintro i _ B ⟨rfl,P⟩;simp[s.sb.len];refine aG (λN=> ?_) (λp=> ?_);have f:=axa (ee .str (bQ bd.aj (i:Int) 0)) (anV _) (ci bd i 1) (ci bd i 2) (ci bd i 3) (ci bd i 4) (ci bd i 5) (ci bd i 6) (ci bd i 7) (ci bd i 8) (ci bd i 9) (ci bd i 10) (ci bd i 11) (ci bd i 12) (ci bd i 13) (ci bd i 14) (ci bd i 15) (ci bd i 16);simp only[ci] at f;simp[bu f,N];refine aG (λe=> ?_) (λe q=>aY q e);rw[cJ N s.sb.sm];exact⟨rfl,lQ P e⟩;obtain⟨o,f33,A,rfl,z⟩:=axU (wg:=wg) (bd:=bd) (cs:=cs) (br:=br) (co:=co) s.sw W.bars;obtain⟨o,M,y,rfl,x⟩:=av5 (wg:=wg) (bd:=bd) (cs:=cs) (br:=br) (co:=co) h s.sb s.sc s.ccs;obtain⟨o,H,w,rfl,v⟩:=axZ (wg:=wg) (bd:=bd) (cs:=cs) (br:=br) (co:=co) h (by have:=W.rl;omega) s;obtain⟨o,G,u,rfl,r⟩:=awh (wg:=wg) (bd:=bd) (cs:=cs) (br:=br) (co:=co) h s.so;simp only[wk,gI,fG,gr] at f33 M H G;rw[bu f33];cases A<;>simp;rw[bu M];cases y<;>simp;rw[bu H];cases w<;>simp;rw[bu G];cases u<;>simp;exact⟨X,W,λq m=>P q ae,z rfl,x rfl,v rfl,r rfl⟩
def ax2(h:gU)(s:uE wg bd cs br co){X W:RV}{dX:Int}{cl:Bool}(N:Sl H)(M:Sl X)(G:Sl W)(F:∀i<Y X.aj,Sl (cr 74 X i)):∃o,TB.Ev 7 (gI wg bd cs br co++[.r H,.i dX,.r X,.r W,.b cl]) o/\∃e,o=.ret [.i e]/\(e=0->E2 wg bd cs br co/\AZ cs br H X W dX):=by
 refine fj ?_;obtain⟨o,Q,e,rfl,D⟩:=ax1 h s;obtain⟨o,P,b,rfl,B⟩:=aw2 (dX:=dX) (cl:=cl) h s N M G F;simp only[wk,gI,fG,gr] at Q P;simp[ac4,gI,wk,bu Q];refine aG (λV=> ?_) (λV q=>aY q V);rw[bu P];cases b<;>simp;exact⟨D V,B rfl⟩
end
section
variable{R:bo->Prop}{G:aQ}{t:T}{O:ak}{L:dj}
def aoM(x g:Int)(b:Bool):∀P:ax,A7 (iF 1 [RV.mk (.int I x) [],RV.mk (.bool b) []] P) g=if g=x then b else A7 P g
 |[]=>by
  by_cases h:g=x;subst h;simp[A7,iF,iE,LF,bS,jp];have V:¬x=g:=λe=>h e.symm
  simp[A7,iF,iE,LF,bS,h,V]
 |r::X=>by
  have N:=aoM x g b X;have M:(zx (λc:RV=>bS c.val) (List.take 1 [RV.mk (.int I x) [],RV.mk (.bool b) []]))=[x]:=rfl;by_cases W:(r.take 1).map (λc=>bS c.val)=[x];have Q:iF 1 [RV.mk (.int I x) [],RV.mk (.bool b) []] (r::X)=[RV.mk (.int I x) [],RV.mk (.bool b) []]::X:=by
   simp only[iF,M,kY];rw[aI (by simpa using W)]
  rw[Q];by_cases h:g=x;subst h;simp[A7,iE,LF,bS,jp];have V:¬x=g:=λe=>h e.symm
  simp only[A7,iE,H8,LF,W,h];simp[bS,V];have Q:iF 1 [RV.mk (.int I x) [],RV.mk (.bool b) []] (r::X)=r::iF 1 [RV.mk (.int I x) [],RV.mk (.bool b) []] X:=by
   simp only[iF,M,kY];rw[aK (by simpa using W)]
  rw[Q];by_cases h:(r.take 1).map (λc=>bS c.val)=[g];have H:¬g=x:=λe=>W (by rw[h,e])
  simp only[A7,iE,H8,LF,h,H];simp;simp only[A7,iE,H8,LF,h] at N⊢;simpa using N
def nE{c:Prop}[Decidable c]{a b:Prop}(h:c)(k:a):if c then a else b:=by rw[aI h];exact k
def HS{c:Prop}[Decidable c]{a b:Prop}(h:¬c)(k:b):if c then a else b:=by rw[aK h];exact k
def ad0(e:Int):TB.Ev 28 [.b J,.i e] (.ret []):=by
 refine gA ?_;simp[ac6]
variable[Inhabited cX]
variable{l u w d y:RV}
def ax3(h:qa W (rR Q)):LD W=rR Q:=by
 funext a b;refine propext ((Iff.trans ?_ (h.iff a b)));constructor;rintro⟨x,X,V,P⟩;have:=h.ok x X;exact⟨x,X,ae,ae⟩;rintro⟨x,X,V,P⟩;exact⟨x,X,ae,ae⟩
def ax4(h:gU)(s:uE l u w d y)(p:E2 l u w d y):TB.Ev 18 (gI l u w d y) (.ret [.i 0]):=by
 have hw:=(CZ AU h).2 p.wk;have aa:=(CZ AU h).1;rw[p.wk] at aa;have M:=p.mny;have ms:=M.wg;have m2:=M.rl;have m3:=M.bd;have m4:=M.cs;have m5:=M.bars;refine evo rfl rfl (.inr λv=>nofun) ?_;simp only[wk,gI,fG,gr] at aa;simp[ac9,gI,wk,bu aa,s.sw.len,s.sb.len,s.sc.len,s.sr.len,s.so.len,h.rl.len];refine nE ae (nE ae (nE ae (nE ae (HS ae ?_))));have lO:=p.pgs.len;refine cT (Y d.aj) (λn W=>W=[]) ⟨0,rfl,ae,rfl⟩ ?_;rintro i _ hi rfl;simp[s.sr.len];refine aG (λX=> ?_) (λa1=> ?_);have e:=(s.HI i X).len;have e2:=M.br i X;simp only[cr] at e e2;simp only[e];refine⟨X,HS ae ?_⟩;rw[cJ X s.sr.sm];refine cT (Y u.aj) (λn W=>W=[]) ⟨0,rfl,ae,rfl⟩ ?_;rintro i2 _ a3 rfl;simp[s.sb.len,s.sc.len,s.sr.len];refine aG (λX=> ?_) (λa4=> ?_);have e:=p.bds i2 X;simp only[Pu,ci] at e;simp[X,e,cJ X s.sb.sm];have c0:=p.dX.axl;refine nE ae ?_;refine nE ae ?_;refine cT (Y w.aj) (λn W=>W=[]) ⟨0,rfl,ae,rfl⟩ ?_;rintro c _ a9 rfl;simp[s.sb.len,s.sc.len,s.sr.len,h.rl.len];refine aG (λX=> ?_) (λba=> ?_);have G:=s.ccs c X;have e:=p.dX.len c X;have g:=awd G (Y u.aj) (p.dX.idx c X) (p.dX.apart c X);have e4:=G.len;simp only[cr] at g e4 e;simp[X,e4,e,bu g,cJ X s.sc.sm];refine cT (Y d.aj) (λn W=>W=[]) ⟨0,rfl,ae,rfl⟩ ?_;rintro k _ hk rfl;simp[s.sr.len];refine aG (λH=>⟨H, ?_⟩) (λbb=> ?_);have G:=s.HI k H;have eS:=G.len;have pg:=s.Pr k H;have pp:=p.pgs.Pr k H;generalize hB:cr 108 d k=B at G eS pg pp;have ab:ee (.sl 108) (bQ d.aj k 0)=B:=hB;refine cT (Y l.aj) (λn W=>W=[]) ⟨0,rfl,ae,rfl⟩ ?_;rintro i4 _ bf rfl;simp[s.sw.len];refine aG (λX=> ?_) (λbg=> ?_);have ac:=f25 (ci l i4) k;have e:=p.wgs i4 X k ae;rw[e] at ac;simp only[oH,ci,fG,gr] at ac;simp[X,bu ac,cJ X s.sw.sm];obtain⟨v,ag,hv,hU⟩:=axA h k p.wk (by simp[jb];omega);obtain⟨o,af,hr⟩:=t63 h k ag (λx hx=>by have:=hU.ok x hx;omega) hv ae;rcases hr with⟨b,-⟩|⟨-,m,rfl,a⟩;exact aY rfl b;simp only[wk,fG,gr] at af;simp[bu af];refine cT (Y B.aj) (λn W=>W=[]) ⟨0,rfl,ae,rfl⟩ ?_;rintro i5 _ bk rfl;simp[s.sr.len,H,ab,eS,h.rl.len];refine aG (λN=> ?_) (λbl=>by rw[cJ H s.sr.sm]);obtain⟨mv,D⟩:∃mv,ee (.sl 4) (bQ B.aj i5 0)=mv:=⟨_,rfl⟩;obtain⟨re,eR⟩:∃re,ee (.sl 105) (bQ B.aj i5 1)=re:=⟨_,rfl⟩;have P:Py k mv re:=by rw[<-D,<-eR];exact pp i5 N
 obtain⟨p1,p2,p3⟩:=pg i5 N;rw[D] at p1;rw[eR] at p2 p3;simp only[D,eR];have k1:=p1.len;have k2:=p2.len;have lm:=P.lm;have lr:=P.lr;have ml:Y m=Y aX.aj:=a.len;refine⟨N,nE ae (nE ae ?_)⟩;refine cT (Y aX.aj) (λn W=>W=[]) ⟨0,rfl,ae,rfl⟩ ?_;rintro V _ bs rfl;simp[s.sr.len,H,ab,N,D,eR,k1,k2,eS,lm,lr];refine aG (λQ=> ?_) (λbt=>by rw[cJ N G.sm]);have cn:=a.cn V Q;rw[ax3 hU] at cn;have nn:bS (bQ m (V:Int) 0).val=(gC m V:Int):=Px a.ok V ae;have le:=HR a.ok V;have eq:=P.grp V Q (gC m V) ae cn;have f:=(aon h V k (cr 104 re V) (p3 V ae)).1;have f0:=P.gQ V Q;have A:=P.els V Q;have q3:=(p3 V ae).len;simp only[wk,fG,gr,cr] at f f0;simp only[cr] at q3 A;simp only[cb] at eq f0 A;rw[nn];refine⟨ae,ae,⟨ae,ae⟩, ?_⟩;rw[aI eq];refine aG (λz=>nE z ⟨ae, ?_⟩) (λz=>⟨ae, ?_⟩);rw[f0 z] at f;simp[bu f,bu (ad0 500),cJ Q (show Y aX.aj<=140737488355328 from ae)];have A:=A (by simpa using z);simp[q3,A,bu (ad0 500),cJ Q (show Y aX.aj<=140737488355328 from ae)];intro b;rw[ab,D] at b;exact aY b z;refine cT (Y bB.aj) (λn W=>∃m,W=[.r (bK m)]/\∀j<n,A7 m (ci bB j 0)=decide (ci bB j 3≠1)) ⟨0,rfl,ae,[],rfl,λi hi=>ae⟩ ?_;rintro j _ hj ⟨m,rfl,hm⟩;simp[h.sg.len];refine aG (λQ=>⟨Q, ?_⟩) (λbx=> ?_);rw[cJ Q h.sg.sm];refine⟨_,rfl,λq hq=> ?_⟩;rw[aoM];by_cases al:q=j;subst al;simp only[ci,cS,bne];rfl;have:=hw.ids q j ae Q;rw[aK (by simp only[ci] at this⊢;omega),hm q ae];simp;have an:j=Y bB.aj:=ae;subst an;refine cT (Y y.aj) (λn W=>W=[]) ⟨0,rfl,ae,rfl⟩ ?_;rintro F _ b0 rfl;simp[s.so.len];refine λN=>⟨N, ?_⟩
 obtain⟨j,Q,j1,j2⟩:=p.cns.fnd F N;have hl:=hm j Q;have ho:=p.cns.ord F N;rw[j1,decide_eq_true j2] at hl;simp only[A7,dB,ci] at hl;refine nE hl ?_;refine aG (λ_=>by rw[cJ N s.so.sm]) (λb1=> ?_);have hs:=s.so.sm;have a0:aU .sub I (F:Int) 1=((F-1:Nat):Int):=by
  rw[show aU .sub I (F:Int) 1=(F:Int)-1 by simp only[aU];exact ew ae ae];omega
 have ho:=ho ae;simp only[ci] at ho;rw[a0];refine⟨ae,HS ae ?_⟩;rw[cJ N s.so.sm]
end
section
variable{R:bo->Prop}{G:aQ}{t:T}{O:ak}{L:dj}
variable[Inhabited cX]
variable{l m d g o c a k:RV}{dX:Int}{cl:Bool}
def dem{b:Bool}(h:b=J):iT TB.Ev R 28 [.b b,.i 500] G t O L=iU TB.Ev R (.ret []) G t O L:=by
 subst h;exact bu (ad0 500)
def ad1(h:gU)(s:uE l m d g o)(p:E2 l m d g o)(N:Sl c)(M:Sl a)(H:Sl k)(aa:∀i<Y a.aj,Sl (cr 74 a i))(f:AZ d g c a k dX):TB.Ev 10 (gI l m d g o++[.r c,.i dX,.r a,.r k,.b cl]) (.ret [.i 0]):=by
 have w:=ax4 h s p;have lc:=f.calls;have c0:=f.cast;have lk:=f.HJ;have lo:=f.HL;refine evo rfl rfl (.inr λv=>nofun) ?_;simp only[wk,gI,fG,gr] at w;simp[ac8,gI,wk,bu w,N.len,M.len,H.len,s.sr.len,s.sc.len,h.rl.len];refine nE ae (nE ae (nE ae (nE ae (nE ae ?_))));refine cT (Y c.aj) (λn W=>W=[]) ⟨0,rfl,ae,rfl⟩ ?_;rintro i _ hi rfl;simp[N.len,s.sr.len];refine aG (λD=> ?_) (λu=> ?_);have e:=(s.HI i ae).len;have e2:=f.call i D;simp only[cr,ci] at e e2;simp only[e];refine⟨D,nE ae ⟨ae,HS ae ?_⟩⟩;rw[cJ D N.sm];refine cT (Y a.aj) (λn W=>W=[]) ⟨0,rfl,ae,rfl⟩ ?_;rintro j _ hj rfl;simp[N.len,M.len,H.len];intro Q;have G:=aa j Q;have F:=G.len;have X:=f.kno j Q;obtain⟨V,hV⟩:∃V,cr 74 a j=V:=⟨_,rfl⟩;have B:ee (.sl 74) (bQ a.aj j 0)=V:=hV;obtain⟨k1,k2,A,k4,z,k6⟩:=X;rw[hV] at G F k1 k2 A k4 z;simp only[B,F];refine⟨Q, ?_⟩;by_cases h1:Y V.aj=1;have h0:ci k j 0=0:=Classical.byContradiction λq=>by have:=A.2 q;omega
 simp only[ci] at h0;refine nE ae ⟨ae,nE h0 ?_⟩;refine cT (Y V.aj) (λn W=>W=[]) ⟨0,rfl,ae,rfl⟩ ?_;rintro q _ hq rfl;simp[N.len,M.len,H.len,B,F,Q];refine aG (λP=> ?_) (λu=> ?_);have e:=z q P;simp only[Lw,ci] at e;simp[P,e,cJ P G.sm];refine⟨ae,nE ae ?_⟩;rw[cJ Q M.sm]
 ·have h2:Y V.aj=2:=ae;have o0:=A.1 h2;obtain⟨y,x,b3⟩:=k6 o0;have ne:=k4 h2;simp only[ci] at o0 y x b3 ne;refine HS ae (nE ae ⟨ae,ae, ?_⟩);rw[dem ?hb]
  rotate_left
  ·obtain⟨q,hq,ab⟩:=ne;simp only[jd,gO,beq_eq_false_iff_ne];refine Classical.byContradiction λhn=> ?_
   simp only[not_or,Classical.not_not] at hn;obtain⟨z0,z1,z2,z3,z4,z5,z6,z7,z8,z9,za,zb,zc⟩:=hn;have:q=0\/q=1\/q=2\/q=3\/q=4\/q=5\/q=6\/q=7\/q=8\/q=9\/q=10\/q=11\/q=12:=ae;rcases this with rfl|rfl|rfl|rfl|rfl|rfl|rfl|rfl|rfl|rfl|rfl|rfl|rfl
   all_goals exact ab uM
  simp;refine cT (Y V.aj) (λn W=>W=[]) ⟨0,rfl,ae,rfl⟩ ?_;rintro q _ hq rfl;simp[N.len,M.len,H.len,B,F,Q];refine aG (λP=> ?_) (λu=> ?_);have e:=z q P;simp only[Lw,ci] at e;simp[P,e,cJ P G.sm];refine⟨ae,HS ae ?_⟩;refine nE y (nE x ⟨⟨y,x⟩,HS b3 ?_⟩);rw[cJ Q M.sm]
end
section
variable{R:bo->Prop}{G:aQ}{t:T}{O:ak}{L:dj}
variable[Inhabited cX]
variable{y A v x B d n j:RV}{dX D u m:Int}{cl:Bool}
def A8(d j:RV)(D u m:Int):Prop:=(0<=D/\D<Y j.aj)/\(0<=u/\u<Y d.aj)/\bS (bQ d.aj u 0).val≠0/\0<=m/\m<=8
def n7(d j:RV)(D:Nat)(u m:Int):Prop:=ci j D 0=1+u/\(m=0\/m=bS (bQ d.aj u 0).val)
def ax6(h:gU)(s:uE y A v x B)(p:E2 y A v x B)(W:Sl d)(M:Sl n)(V:Sl j)(H:∀i<Y n.aj,Sl (cr 74 n i))(f:AZ v x d n j dX)(g:¬A8 d j D u m):∃o,TB.Ev 8 (gI y A v x B++[.r d,.i dX,.r n,.r j,.b cl,.i D,.i u,.i m]) o/\∃a c k q l,o=.ret [.r a,.i c,.r k,.r q,.b l,.i 1]:=by
 obtain⟨P,Q⟩:∃P:bo->Prop,∀o,P o<->∃a c k q l,o=.ret [.r a,.i c,.r k,.r q,.b l,.i 1]:=⟨_,λ_=>Iff.rfl⟩
 suffices G:∃o,TB.Ev 8 (gI y A v x B++[.r d,.i dX,.r n,.r j,.b cl,.i D,.i u,.i m]) o/\P o by
  obtain⟨o,F,z⟩:=G;exact⟨o,F,(Q o).1 z⟩
 have N:=ad1 (cl:=cl) h s p W M V H f;refine fj ?_;simp only[wk,gI,fG,gr] at N;simp[Vd,gI,wk,bu N,W.len,V.len];have X:∀a c k q l,P (.ret [.r a,.i c,.r k,.r q,.b l,.i 1]):=λa c k q l=>(Q _).2 ⟨a,c,k,q,l,rfl⟩
 refine aG (λq=>X ..) (λe=>aG (λq=>X ..) (λr1=>aG (λq=>X ..) (λb0=>aG (λq=>X ..) (λb1=>⟨ae, ?_⟩))));refine aG (λq=>X ..) (λw=>aG (λq=>X ..) (λp0=>aG (λq=>X ..) (λp1=> ?_)));exact aY ⟨ae,ae,w,ae⟩ g
def dg(V:RV)(q:Nat):RV:=bK [[.mk (.int I (ci V q 0)) [],.mk (.int I (ci V q 1)) [],.mk (.int I (ci V q 2)) [],.mk (.int I (ci V q 3)) [],.mk (.int I (ci V q 4)) [],.mk (.int I (ci V q 5)) [],.mk (.int I (ci V q 6)) [],.mk (.int I (ci V q 7)) [],.mk (.int I (ci V q 8)) [],.mk (.int I (ci V q 9)) [],.mk (.int I (ci V q 10)) [],.mk (.int I (ci V q 11)) [],.mk (.int I (ci V q 12)) []]]
open Classical in
noncomputable def ly(d n j:RV)(r:Nat)(u m:Int):ax:=if n7 d j r u m then n.aj.modify r λX=>fJ X 0 [dg (cr 74 n r) (if m=0 then 0 else 1)] else n.aj
open Classical in
noncomputable def jJ(d j:RV)(r:Nat)(u m:Int):ax:=if n7 d j r u m then j.aj.modify r λX=>fJ X 0 [.mk (.int I 0) []] else j.aj
def aoN(h:gU)(s:uE y A v x B)(p:E2 y A v x B)(F:Sl d)(D:Sl n)(u:Sl j)(q:∀i<Y n.aj,Sl (cr 74 n i))(f:AZ v x d n j dX)(g:A8 d j X P m):TB.Ev 8 (gI y A v x B++[.r d,.i dX,.r n,.r j,.b cl,.i X,.i P,.i m]) (.ret [.r (bK d.aj),.i dX,.r (bK (ly d n j X P m)),.r (bK (jJ d j X P m)),.b cl,.i 0]):=by
 obtain⟨W,l⟩:∃W:bo->Prop,∀o,W o<->o=.ret [.r (bK d.aj),.i dX,.r (bK (ly d n j X P m)),.r (bK (jJ d j X P m)),.b cl,.i 0]:=⟨_,λ_=>Iff.rfl⟩
 suffices af:∃o,TB.Ev 8 (gI y A v x B++[.r d,.i dX,.r n,.r j,.b cl,.i X,.i P,.i m]) o/\W o by
  obtain⟨o,k,g2⟩:=af;rw[(l o).1 g2] at k;exact k
 have c:=ad1 (cl:=cl) h s p F D u q f;have lc:=f.calls;have c0:=f.cast;have a:=f.HJ;have lo:=f.HL;have m5:=p.mny.bars;have m2:=p.mny.rl;have lO:=p.pgs.len;obtain⟨⟨r0,M⟩,⟨b0,b1⟩,c1,p0,p1⟩:=g;refine fj ?_;simp only[wk,gI,fG,gr] at c;have a1:¬(X:Int)<0:=ae;have a2:¬(Y j.aj:Int)<=X:=ae;have a3:¬(P:Int)<0:=ae;have a4:¬(Y d.aj:Int)<=P:=ae;have a5:¬m<0:=ae;have a6:¬8<m:=ae;have a7:¬d.aj=[]:=λe=>by rw[e] at b1;simp at b1;omega
 have a8:¬j.aj=[]:=λe=>by rw[e] at M;simp at M;omega
 have a9:¬n.aj=[]:=λe=>by rw[e] at a;rw[<-a] at lo;rw[lo] at M;simp at M;omega
 have aa:X<Y j.aj:=ae;have ab:P<Y d.aj:=ae;have G:X<Y n.aj:=ae;have e1:aU .add I 1 (P:Int)=1+P:=by simp only[aU];exact ew ae ae
 have H:∀V O,V=ly d n j X P m->O=jJ d j X P m->W (.ret [.r (bK d.aj),.i dX,.r (bK V),.r (bK O),.b cl,.i 0]):=λV O hK hO=>(l _).2 (by rw[hK,hO])
 have V:=f.kno X G;have eS:=(q X G).len;have two:bS (bQ j.aj (X:Int) 0).val=1+(P:Int)->(cr 74 n X).aj.length=2:=λe=>V.opn.2 (by simp only[ci];omega)
 simp only[cr] at eS two;simp[Vd,gI,wk,bu c,F.len,D.len,u.len,s.sr.len,s.sc.len,h.rl.len,adb,a1,a2,a3,a4,a5,a6,a7,a8,a9,aa,ab,G,c1,e1,eS];refine⟨ae,ae,ae,aG (λz=>aG (λQ=>⟨by have:=two z;omega,H _ _ ?_ ?_⟩) (λQ=>aG (λN=>⟨by have:=two z;omega,H _ _ ?_ ?_⟩) (λN=>H _ _ ?_ ?_))) (λz=>H _ _ ?_ ?_)⟩;rw[ly,aI ⟨z,.inl Q⟩,aI Q];rfl;rw[jJ,aI ⟨z,.inl Q⟩];rw[ly,aI ⟨z,.inr N⟩,aK Q];rfl;rw[jJ,aI ⟨z,.inr N⟩];rw[ly,aK λw=>w.2.elim Q N];rw[jJ,aK λw=>w.2.elim Q N];rw[ly,aK λw=>z w.1];rw[jJ,aK λw=>z w.1]
end
section
variable{R:bo->Prop}{G:aQ}{t:T}{O:ak}{L:dj}
def ax7(X:Sl H):TB.Ev 26 [.r H,.r H] (.ret [.b J]):=by
 refine gA ?_;simp[T44,X.len];refine cT (Y H.aj) (λ_ V=>V=[]) ⟨0,rfl,ae,rfl⟩ ?_;rintro i _ W rfl;simp[X.len];intro W;simp[cJ W X.sm,W]
structure Dk(ca l d:RV):Prop where
 sc:Sl ca
 sk:Sl l
 so:Sl d
 kk:∀i<Y l.aj,Sl (cr 74 l i)
 k1:∀row∈l.aj,Y row=1
 o1:∀row∈d.aj,Y row=1
variable[Inhabited cX]
variable{ca l d:RV}{dX ba pr:Int}{cl:Bool}{r:Nat}
def aoO(D:Dk ca l d):TB.Ev 9 [.r ca,.i dX,.r l,.r d,.b cl,.r ca,.i dX,.r l,.r d,.b cl] (.ret [.b J]):=by
 refine gA ?_;have W:=an9 D.sc D.sc rfl λ_ _=>rfl
 have V:=an9 D.so D.so rfl λ_ _=>rfl
 simp[acR,bu W,bu V,D.sk.len];refine cT (Y l.aj) (λ_ Q=>Q=[]) ⟨0,rfl,ae,rfl⟩ ?_;rintro i _ X rfl;simp[D.sk.len];intro X;have g:=ax7 (D.kk i X);simp only[cr] at g;simp[bu g,cJ X D.sk.sm,X]
def aoP(Q:X<Y W)(N:∀V∈W,Y V=1):bQ (W.modify X λV=>fJ V 0 [H]) (P:Int) 0=if P=X then H else bQ W (P:Int) 0:=by
 simp only[bQ,zu,dB,P7];by_cases e:P=X;subst e;have:=N _ (pA Q);rw[aI rfl,cK Q];generalize W[P]=V at this
 match V,this with
 |[c],_=>simp[fJ]
 have G:¬X=P:=λq=>e q.symm
 rw[aK e];cases W[P]?<;>simp[G]
def aoQ(h:∀Q∈W,Y Q=1):∀Q∈(W.modify X λQ=>fJ Q 0 [H]),Y Q=1:=λQ N=>by
 obtain⟨q,V⟩:=qW N;rw[P7] at V;cases P:W[q]? with
 |none=>rw[P] at V;cases V
 |some r=>
  rw[P] at V;have:=h r (jm P);by_cases e:X=q;simp[e] at V;subst V
  match r,this with
  |[c],_=>rfl
  simp[e] at V;subst V;exact this
def E3(z:n7 ca d r ba pr):ly ca l d r ba pr=l.aj.modify r λX=>fJ X 0 [dg (cr 74 l r) (if pr=0 then 0 else 1)]:=aI z
def C2(z:¬n7 ca d r ba pr):ly ca l d r ba pr=l.aj:=aK z
def E4(z:n7 ca d r ba pr):jJ ca d r ba pr=d.aj.modify r λX=>fJ X 0 [.mk (.int I 0) []]:=aI z
def C3(z:¬n7 ca d r ba pr):jJ ca d r ba pr=d.aj:=aK z
def VD:(ly ca l d r ba pr).length=Y l.aj:=by
 unfold ly;split<;>simp
def ad2:(jJ ca d r ba pr).length=Y d.aj:=by
 unfold jJ;split<;>simp
open Classical in
def ad3(D:Dk ca l d)(X:r<Y d.aj)(k:Nat):ci (bK (jJ ca d r ba pr)) k 0=if n7 ca d r ba pr/\k=r then 0 else ci d k 0:=by
 show bS (bQ (jJ ca d r ba pr) (k:Int) 0).val=_;unfold jJ;by_cases z:n7 ca d r ba pr;rw[aI z,aoP X D.o1];by_cases e:k=r;rw[aI e,aI ⟨z,e⟩];rfl;rw[aK e,aK λw=>e w.2];rfl;rw[aK z,aK λw=>z w.1];rfl
open Classical in
def VE(D:Dk ca l d)(X:r<Y l.aj)(k:Nat):cr 74 (bK (ly ca l d r ba pr)) k=if n7 ca d r ba pr/\k=r then dg (cr 74 l r) (if pr=0 then 0 else 1) else cr 74 l k:=by
 show ee (.sl 74) (bQ (ly ca l d r ba pr) (k:Int) 0)=_;unfold ly;by_cases z:n7 ca d r ba pr;rw[aI z,aoP X D.k1];by_cases e:k=r;rw[aI e,aI (c:=n7 ca d r ba pr/\k=r) ⟨z,e⟩];rfl;rw[aK e,aK (c:=n7 ca d r ba pr/\k=r) λw=>e w.2];rfl;rw[aK z,aK (c:=n7 ca d r ba pr/\k=r) λw=>z w.1];rfl
def vZ(V:RV)(q:Nat):∀j<13,ci (dg V q) 0 j=ci V q j:=λj X=>by
 have:j=0\/j=1\/j=2\/j=3\/j=4\/j=5\/j=6\/j=7\/j=8\/j=9\/j=10\/j=11\/j=12:=ae;rcases this with rfl|rfl|rfl|rfl|rfl|rfl|rfl|rfl|rfl|rfl|rfl|rfl|rfl<;>rfl
def ax8(D:Dk ca l d)(W:r<Y l.aj):Dk (bK ca.aj) (bK (ly ca l d r ba pr)) (bK (jJ ca d r ba pr)):=by
 refine⟨Vg D.sc.sm,Vg (by rw[VD];exact D.sk.sm),Vg (by rw[ad2];exact D.so.sm),λi V=> ?_, ?_, ?_⟩;rw[VE D W];split;exact Vg ay;exact D.kk i (by simpa[bK,VD] using V);show∀X∈ly ca l d r ba pr,Y X=1;unfold ly;split;exact aoQ D.k1;exact D.k1;show∀X∈jJ ca d r ba pr,Y X=1;unfold jJ;split;exact aoQ D.o1;exact D.o1
variable{o p m n s:RV}
def ax9(D:Dk ca l d)(f:AZ m n ca l d dX)(N:r<Y l.aj):AZ m n (bK ca.aj) (bK (ly ca l d r X pr)) (bK (jJ ca d r X pr)) dX:=by
 have H:r<Y d.aj:=by rw[f.HL,<-f.HJ];exact N
 refine⟨f.calls,f.cast,by simp only[bK,RV.jD,VD];exact f.HJ,by simp only[bK,RV.jD,ad2];exact f.HL,f.call,λi P=> ?_⟩;have P:i<Y l.aj:=by simpa only[bK,RV.jD,VD] using P
 have W:=f.kno i P;have V:=VE (ca:=ca) (ba:=X) (pr:=pr) D N i;have Q:=ad3 (ca:=ca) (ba:=X) (pr:=pr) D H i;by_cases z:n7 ca d r X pr/\i=r;rw[aI z] at V Q;obtain⟨G,rfl⟩:=z;have B:(cr 74 l i).aj.length=2:=W.opn.2 (by have:=G.1;omega);refine⟨by rw[V];simp[dg,bK],by rw[V];simp[dg,bK],by rw[V,Q];simp[dg,bK],by rw[V];simp[dg,bK],λq M=> ?_,λh=>aY Q h⟩;rw[V] at M⊢;have F:q=0:=by simp[dg,bK] at M;omega
 subst F;have c:=W.gQ (if pr=0 then 0 else 1) (by split<;>omega);simp only[Lw] at c⊢;simp only[vZ _ _ _ (show 0<13 from ae),vZ _ _ _ (show 1<13 from ae),vZ _ _ _ (show 2<13 from ae),vZ _ _ _ (show 3<13 from ae),vZ _ _ _ (show 4<13 from ae),vZ _ _ _ (show 5<13 from ae),vZ _ _ _ (show 6<13 from ae),vZ _ _ _ (show 7<13 from ae),vZ _ _ _ (show 8<13 from ae),vZ _ _ _ (show 9<13 from ae),vZ _ _ _ (show 10<13 from ae),vZ _ _ _ (show 11<13 from ae),vZ _ _ _ (show 12<13 from ae)];exact c;rw[aK z] at V Q;refine⟨by rw[V];exact W.one,by rw[V];exact W.two,by rw[V,Q];exact W.opn,by rw[V];exact W.ne,by rw[V];exact W.gQ,by rw[Q];exact W.ar⟩
def aya{b:Nat}(D:Dk ca l d)(V:r<Y d.aj):ly (bK ca.aj) (bK (ly ca l d r b pr)) (bK (jJ ca d r b pr)) r b pr=ly ca l d r b pr/\jJ (bK ca.aj) (bK (jJ ca d r b pr)) r b pr=jJ ca d r b pr:=by
 have Q:=ad3 (ca:=ca) (ba:=b) (pr:=pr) D V r;have W:¬n7 (bK ca.aj) (bK (jJ ca d r b pr)) r b pr:=λw=>by
  have X:=w.1;rw[Q] at X;by_cases z:n7 ca d r b pr;rw[aI ⟨z,rfl⟩] at X;omega;rw[aK λq=>z q.1] at X;exact z ⟨X,w.2⟩
 rw[C2 W,C3 W];exact⟨rfl,rfl⟩
def aoR{b b':Nat}{pr':Int}(D:Dk ca l d)(V:r<Y d.aj)(Q:X≠r):n7 (bK ca.aj) (bK (jJ ca d r b pr)) X b' pr'<->n7 ca d X b' pr':=by
 have W:=ad3 (ca:=ca) (ba:=b) (pr:=pr) D V X;rw[aK λq=>Q q.2] at W;unfold n7;rw[W];rfl
def ayb{b b':Nat}{pr':Int}(D:Dk ca l d)(H:r<Y l.aj)(G:X<Y l.aj)(F:r<Y d.aj)(B:X<Y d.aj)(P:r≠X):ly (bK ca.aj) (bK (ly ca l d r b pr)) (bK (jJ ca d r b pr)) X b' pr'=ly (bK ca.aj) (bK (ly ca l d X b' pr')) (bK (jJ ca d X b' pr')) r b pr/\jJ (bK ca.aj) (bK (jJ ca d r b pr)) X b' pr'=jJ (bK ca.aj) (bK (jJ ca d X b' pr')) r b pr:=by
 have V:=aoR (b:=b) (b':=b') (pr:=pr) (pr':=pr') D F (Ne.symm P);have Q:=aoR (b:=b') (b':=b) (pr:=pr') (pr':=pr) D B P;have N:=VE (ca:=ca) (ba:=b) (pr:=pr) D H X;have M:=VE (ca:=ca) (ba:=b') (pr:=pr') D G r;rw[aK λq=>P q.2.symm] at N;rw[aK λq=>P q.2] at M;by_cases z:n7 ca d r b pr<;>by_cases W:n7 ca d X b' pr';rw[E3 (V.2 W),E3 (Q.2 z),E4 (V.2 W),E4 (Q.2 z),N,M];simp only[bK,RV.jD];rw[E3 z,E3 W,E4 z,E4 W];exact⟨aDp _ _ _ P,aDp _ _ _ P⟩;rw[C2 λw=>W (V.1 w),E3 (Q.2 z),C3 λw=>W (V.1 w),E4 (Q.2 z),M];simp only[bK,RV.jD];rw[E3 z,C2 W,E4 z,C3 W];exact⟨rfl,rfl⟩;rw[E3 (V.2 W),C2 λw=>z (Q.1 w),E4 (V.2 W),C3 λw=>z (Q.1 w),N];simp only[bK,RV.jD];rw[C2 z,E3 W,C3 z,E4 W];exact⟨rfl,rfl⟩;rw[C2 λw=>W (V.1 w),C2 λw=>z (Q.1 w),C3 λw=>W (V.1 w),C3 λw=>z (Q.1 w)];simp only[bK,RV.jD];rw[C2 z,C2 W,C3 z,C3 W];exact⟨rfl,rfl⟩
end
section
variable{R:bo->Prop}{G:aQ}{t:T}{O:ak}{L:dj}
variable[Inhabited cX]
variable{z A u v B d m j:RV}{dX:Int}{cl:Bool}
def VF(h:gU)(s:uE z A u v B)(p:E2 z A u v B)(D:Dk d m j)(f:AZ u v d m j dX)(X W V:Int):∃a c k q l e,TB.Ev 8 (gI z A u v B++[.r d,.i dX,.r m,.r j,.b cl,.i X,.i W,.i V]) (.ret [.r a,.i c,.r k,.r q,.b l,.i e])/\(¬A8 d j X W V->e=1):=by
 by_cases g:A8 d j X W V;obtain⟨⟨Q,N⟩,⟨P,M⟩,H⟩:=id g;obtain⟨r,rfl⟩:=P2 Q;obtain⟨b,rfl⟩:=P2 P;exact⟨_,_,_,_,_,_,aoN h s p D.sc D.sk D.so D.kk f g,λn=>aY g n⟩;obtain⟨o,w,a,c,k,q,l,rfl⟩:=ax6 (cl:=cl) h s p D.sc D.sk D.so D.kk f g;exact⟨a,c,k,q,l,1,w,λ_=>rfl⟩
def Pz(h:gU)(s:uE z A u v B)(p:E2 z A u v B)(D:Dk d m j)(f:AZ u v d m j dX)(g:A8 d j X P Q):∃W O,ly d m j X P Q=W/\jJ d j X P Q=O/\Dk (bK d.aj) (bK W) (bK O)/\AZ u v (bK d.aj) (bK W) (bK O) dX/\(bK O).aj.length=Y j.aj/\TB.Ev 8 (gI z A u v B++[.r d,.i dX,.r m,.r j,.b cl,.i X,.i P,.i Q]) (.ret [.r (bK d.aj),.i dX,.r (bK W),.r (bK O),.b cl,.i 0]):=by
 have V:X<Y m.aj:=by have:=g.1.2;have:=f.HJ;have:=f.HL;omega
 exact⟨_,_,rfl,rfl,ax8 D V,ax9 D f V,ad2,aoN h s p D.sc D.sk D.so D.kk f g⟩
def ad4(V:(bK W).aj.length=Y j.aj)(g:A8 d j X P Q):A8 (bK d.aj) (bK W) X P Q:=by
 unfold A8;rw[V];exact g
def ayc(hS:TB.Ev 4 [] (.ret [.b J]))(h:gU)(s:uE z A u v B)(D:Dk d m j)(F w V n g M:Int):TB.Ev 3 (gI z A u v B++[.r d,.i dX,.r m,.r j,.b cl,.i F,.i w,.i V,.i n,.i g,.i M]) (.ret [.b J]):=by
 obtain⟨P,hP⟩:∃P:bo->Prop,∀o,P o<->o=.ret [.b J]:=⟨_,λ_=>Iff.rfl⟩
 suffices al:∃o,TB.Ev 3 (gI z A u v B++[.r d,.i dX,.r m,.r j,.b cl,.i F,.i w,.i V,.i n,.i g,.i M]) o/\P o by
  obtain⟨o,g1,g2⟩:=al;rw[(hP o).1 g2] at g1;exact g1
 have Q:P (.ret [.b J]):=(hP _).2 rfl;obtain⟨o,g2,x,rfl⟩:=awb h s;obtain⟨o,g3,y,rfl⟩:=av7 (dX:=dX) (cl:=cl) D.sc D.sk D.so D.kk;obtain⟨o,g4,e,rfl,h4⟩:=ax2 (dX:=dX) (cl:=cl) h s D.sc D.sk D.so D.kk;refine fj ?_;simp only[wk,gI,fG,gr] at g2 g4;simp[ac7,gI,wk,bu hS,bu g2];cases x;simp[Q];simp[bu g3];cases y;simp[Q];simp[bu g4];refine aG (λe0=> ?_) (λ_=>Q);obtain⟨p,f⟩:=h4 e0;by_cases N:A8 d j F w V
 rotate_left
 obtain⟨a,c,k,q,l,e1,X,i1⟩:=VF (cl:=cl) h s p D f F w V;obtain⟨a',c',k',q',l',e2,W,i2⟩:=VF (cl:=cl) h s p D f n g M;have i1:=i1 N;subst i1;simp only[wk,gI,fG,gr] at X W;simp[bu X,bu W,Q];by_cases H:A8 d j n g M
 rotate_left
 obtain⟨a,c,k,q,l,e1,X,i1⟩:=VF (cl:=cl) h s p D f F w V;obtain⟨a',c',k',q',l',e2,W,i2⟩:=VF (cl:=cl) h s p D f n g M;have i2:=i2 H;subst i2;simp only[wk,gI,fG,gr] at X W;simp[bu X,bu W,Q];obtain⟨r,rfl⟩:=P2 N.1.1;obtain⟨b,rfl⟩:=P2 N.2.1.1;obtain⟨r',rfl⟩:=P2 H.1.1;obtain⟨b',rfl⟩:=P2 H.2.1.1;have ab:r<Y j.aj:=by have:=N.1.2;omega
 have an:r'<Y j.aj:=by have:=H.1.2;omega
 have hr:r<Y m.aj:=by have:=f.HJ;have:=f.HL;omega
 have a0:r'<Y m.aj:=by have:=f.HJ;have:=f.HL;omega
 obtain⟨K1,O1,ac,af,D1,F1,L1,X⟩:=Pz (cl:=cl) h s p D f N;obtain⟨K2,O2,a1,a3,D2,F2,L2,W⟩:=Pz (cl:=cl) h s p D f H;obtain⟨K3,O3,a4,a9,D3,F3,L3,w3⟩:=Pz (cl:=cl) h s p D1 F1 (ad4 L1 N);obtain⟨K4,O4,ba,bb,G,F4,L4,w4⟩:=Pz (cl:=cl) h s p D1 F1 (ad4 L1 H);obtain⟨K5,O5,bf,bg,D5,F5,L5,w5⟩:=Pz (cl:=cl) h s p D2 F2 (ad4 L2 N);have ag:=aya (b:=b) (pr:=V) D ab;rw[ac,af,a4,a9] at ag;obtain⟨rfl,rfl⟩:=ag;have s1:=aoO (dX:=dX) (cl:=cl) D1;have w7:=ad1 (cl:=cl) h s p G.sc G.sk G.so G.kk F4;have cm:=λaa=>ayb (b:=b) (b':=b') (pr:=V) (pr':=M) D hr a0 ab an aa
 rw[ac,af,a1,a3,ba,bb,bf,bg] at cm;simp only[bK,RV.jD] at X W w3 w4 w5 s1 w7 G;simp only[wk,gI,fG,gr] at X W w3 w4 w5 w7;simp[bu X,bu W,bu w3,bu w4,bu w5,bu s1,bu w7];refine aG (λ_=>Q) (λaa=> ?_);obtain⟨rfl,rfl⟩:=cm (λe=>aa (by rw[e]));have s2:=aoO (dX:=dX) (cl:=cl) G;simp[bu s2,Q]
end
