/- Part 7 of the proof. -/
import Derived.Test.YtejplpmpldcmlaaGreatDoorQ6
set_option linter.all false
set_option maxRecDepth 100000
set_option maxHeartbeats 100000000
open Bool renaming and_eq_true->aw,or_eq_true->jy,eq_iff_iff->uD,true->J,false->E
open Nat renaming zero_le->Hh
open List renaming getElem?_append_left->dH,mem_cons->dP,cons_append->ez,mem_append->eV,nil_append->eW,range->fw,pairwise_cons->jq,length_cons->lH,nodup_append->xF,mem_range->xI,map->A8,mem_singleton->J1,find?_cons->J2,mem_append_right->N1,nodup_cons->SQ,length_erase_of_mem->aIg,length_pos_of_mem->aIm,mem_erase_of_ne->aIs,length->Y
open Option renaming some->U
open Int renaming mul_le_mul_of_nonneg_left->aiJ
open Go.IntKind renaming i64->I
namespace Go.Proofs.YtejplpmpldcmlaaGreatDoor.Y
open Go.RowKit
noncomputable section
variable{X Q:Nat}{N:ar}{W:au}{P:aC}{V:Int}
section
variable[Inhabited db]
section
def asT{X:Type}[DecidableEq X]:∀{a b:List X},a.Nodup->(∀x∈a,x∈b)->Y a<=Y b
 |[],_,_,_=>Hh _
 |x::a,b,Q,W=>by
  have g:=SQ.1 Q;have V:x∈b:=W x av;have:=asT (a:=a) (b:=b.erase x) g.2 λy R=>(aIs (λe=>g.1 (by rw[<-e];exact R))).2 (W y (by simp[R]))
  rw[aIg V] at this;have P:0<Y b:=aIm V;simp only[lH];omega
structure Pk(n:Nat)(js:ar):Prop where
 nd:js.Nodup
 lt:∀j∈js,j<n
def Pk.nil(n:Nat):Pk n []:=⟨List.nodup_nil,av⟩
def Pk.add(h:Pk X N)(R:Q∉N)(O:Q<X):Pk X (N++[Q]):=⟨xF.2 ⟨h.nd,av,by intro a P b V e;simp at V;subst V;subst e;exact R P⟩,by
 intro k W;rcases eV.1 W with W|W;exact h.lt k W;simp at W;omega⟩
def Pk.len(h:Pk X N):Y N<=X:=by
 have:=asT (b:=fw X) h.nd λj W=>xI.2 (h.lt j W)
 simpa using this
end
section
variable{L:de}
end

section
def HK(M:au)(k:Int)(i:Nat):Prop:=∃x∈M,aI 0 x=k/\aI 1 x=(i:Int)
def ahG{c:aC}(W:Y c=4){k:Int}{i:Nat}:∀{M:au},AQ M->(HK (fZ 3 c M) k i<->HK M k i\/(aI 0 c=k/\aI 1 c=(i:Int)))
 |[],_=>by simp[HK,fZ]
 |r::V,h=>by
  have R:AQ V:=⟨(jq.1 h.keys).2,λx Q=>h.four x (by simp[Q])⟩;have P:=ahG W (k:=k) (i:=i) R;have O:=asM W (h.four r av);simp only[fZ];split;rename_i X;have X:=O.1 X;have N:=X 0 av;have L:=X 1 av;simp only[HK,dP,exists_eq_or_imp,N,L]
  grind
  simp only[HK,dP,exists_eq_or_imp] at P⊢
  grind
structure Tr(a b:Nat->Prop)(M:au):Prop where
 ok:AQ M
 ha:∀i,HK M 4 i<->a i
 hb:∀i,HK M 5 i<->b i
def Tr.nil:Tr (λ_=>False) (λ_=>False) []:=⟨AQ.nil,λi=>by simp[HK],λi=>by simp[HK]⟩
variable{a b:Nat->Prop}{M:au}{c:aC}
def Tr.ae(X:Y c=4)(W:aI 0 c≠4/\aI 0 c≠5)(h:Tr a b M):Tr a b (fZ 3 c M):=
 ⟨h.ok.ins X,λi=>by rw[ahG X h.ok,h.ha];simp[W.1],λi=>by rw[ahG X h.ok,h.hb];simp[W.2]⟩
def Tr.congr{X W:Nat->Prop}(h:Tr a b M)(V:∀i,a i<->X i)(R:∀i,b i<->W i):Tr X W M:=⟨h.ok,λi=>(h.ha i).trans (V i),λi=>(h.hb i).trans (R i)⟩
end
end
section
variable{R:bo->Prop}{G:aS}{t:T}{O:ai}{L:de}
variable[Inhabited db]

end
section
variable[Inhabited db]

def SgE(ak:Int)(X V W:RV)(i:Nat):Prop:=(∀k<(dR i ak).length,∀m,Fst (cr 134 W i) (dj (dR i ak) k 0) m->xi (m78 X (dj (dR i ak) k 0) i) 1=0)/\xi (ahC ak V X W i) 1=0


def SgA(ak:Int)(X W V R:RV):Prop:=∀i<Y aL.ac,cb W i 0=J->SgE ak X V R i



structure ObE(ak:Int)(wg bd mv bf af re bx:RV):Prop where
 ex:asO ak wg bd mv bf af re bx
 bld:∀i<Y aL.ac,JJ ak mv bf bd re i
 sge:SgA ak bd mv bf re
end
section
variable{R:bo->Prop}{G:aS}{t:T}{O:ai}{L:de}
variable[Inhabited db]
def AS(v:au)(k:Nat):Nat:=(v.getD k []).length
def YL(h:Y W=X)(V:Y P=Q):AS (W++[P]) X=Q:=by
 subst h;simpa[AS] using V
def YM{w:au}(h:X<Y W):AS (W++w) X=AS W X:=by simp[AS,dH h]
structure Md(ak:Int)(bd mv bf re:RV)(vs vr vb:au):Prop where
 wk:lg=0
 br:0<=ak/\ak<fo
 lbd:Y bd.ac=Y aL.ac
 lmv:Y mv.ac=Y aL.ac
 lbf:Y bf.ac=Y aL.ac
 lre:Y re.ac=Y aL.ac
 iw:∀i<Y aL.ac,NK bd i=0/\YI bf i=0/\(if cb mv i 0 then m85 ak re i=0 else(cr 134 re i).ac=[])
 ls:Y vs=Y aL.ac
 lr:Y vr=Y aL.ac
 lb:Y vb=Y aL.ac
 al:∀k<Y aL.ac,aU vr (k:Int) 0=aG (cr 134 re k).ac/\AS vs k=13/\AS vb k=4/\JJ ak mv bf bd re k/\(∀j<13,bn (aU vs (k:Int) j).val=gS ak mv bf re k j)/\∀j<4,bn (aU vb (k:Int) j).val=gB ak mv bf bd re k j
def YN(ak:Int)(N X W M:RV)(o:bo):Prop:=(∃e,e≠0/\o=.ret [.i 0,.r (aG []),.r (aG []),.r (aG []),.r (aG []),.r (aG []),.i e])\/∃V Q P,o=.ret [.i ak,.r (aG X.ac),.r (aG W.ac),.r (aG V),.r (aG Q),.r (aG P),.i 0]/\Md ak N X W M V Q P
def t13(h:fp)(ak:Int)(wg G V H X:RV)(af:Sl G)(q:Sl V)(p:Sl H)(ag:Sl X)(bl:∀i<Y X.ac,Sl (cr 134 X i)/\(cr 134 X i).ac.length<=100):∃o,TB.Ev 17 (wk++[.r wg,.r G,.i ak,.r V,.r H,.r X]) o/\YN ak G V H X o:=by
 obtain⟨P,s⟩:∃P:bo->Prop,∀o,P o<->YN ak G V H X o:=⟨_,λ_=>Iff.rfl⟩
 suffices br:∃o,TB.Ev 17 (wk++[.r wg,.r G,.i ak,.r V,.r H,.r X]) o/\P o by
  obtain⟨o,g1,g2⟩:=br;exact⟨o,g1,(s o).1 g2⟩
 refine Yk rfl rfl (.inr λv hv=>by rcases(s _).1 hv with⟨_,_,h⟩|⟨_,_,_,h,_⟩<;>cases h) ?_;obtain⟨h1,h2⟩:=xt s8 h;simp only[wk] at h1;have M:∀{e:Int},e≠0->P (.ret [.i 0,.r (aG []),.r (aG []),.r (aG []),.r (aG []),.r (aG []),.i e]):=λ{e} he=>(s _).2 (.inl ⟨e,he,rfl⟩)
 simp[T13,wk,bi h1];simp only[h.rl.len,af.len,q.len,p.len,ag.len];refine ay (λh0=> ?_) (λW=>M W);have hw:=h2 h0;have hn:=hw.nr;refine ay (λW=>M aa) (λb2=> ?_);refine ay (λW=>M aa) (λb3=> ?_);refine ay (λbs=> ?_) (λW=>M aa);refine ay (λbt=> ?_) (λW=>M aa);refine ay (λbx=> ?_) (λW=>M aa);refine ay (λb0=> ?_) (λW=>M aa);have al:lenOf G.val=(Y aL.ac:Int):=by rw[af.len];exact bs
 have an:lenOf V.val=(Y aL.ac:Int):=by rw[q.len];exact bt
 have a0:lenOf H.val=(Y aL.ac:Int):=by rw[p.len];exact bx
 have a9:lenOf X.val=(Y aL.ac:Int):=by rw[ag.len];exact b0
 have n:Y aL.ac<=140737488355328:=aa;have A:∀i<Y aL.ac,Sl (cr 134 X i)/\(cr 134 X i).ac.length<=100:=λi Q=>bl i aa
 refine cj (Y aL.ac) (λi m=>m=[]/\∀k<i,NK G k=0/\YI H k=0/\(if cb V k 0 then m85 ak X k=0 else(cr 134 X k).ac=[])) ⟨0,rfl,aa,rfl,aa⟩ ?_;rintro i _ Q ⟨rfl,l⟩;simp[al,an,a0,a9];refine ay (λQ=> ?_) (λb1=> ?_);have ba:=(uq (t85 s8 h i ak (cr 134 X i) (A i Q).1)).1;simp only[wk,cr,ez,eW] at ba;have bb:=(A i Q).1.len;simp only[cr] at bb;simp[bU Q n,Q,bi ba,bb];refine ay (λa1=> ?_) (λW=>M aa);refine ay (λa2=> ?_) (λW=>M aa);refine ay (λD=> ?_) (λD=> ?_);have F:cb V i 0=true:=D;refine ay (λB=> ?_) (λW=>M aa);exact asn l ⟨a1,a2,by rw[aJ F];exact B⟩;have F:¬cb V i 0=true:=D;refine ay (λB=> ?_) (λW=>M aa);exact asn l ⟨a1,a2,by rw[aQ F];exact B⟩;have g:i=Y aL.ac:=aa;subst g;rw[bi (e86 V q aa)];simp;rw[bi (e87 H p aa)];simp;refine cj (Y aL.ac) (λi m=>∃z x y,m=[.r (aG z),.r (aG x),.r (aG y)]/\Y z=i/\Y x=i/\Y y=i/\∀k<i,aU x (k:Int) 0=aG (cr 134 X k).ac/\AS z k=13/\AS y k=4/\JJ ak V H G X k/\(∀j<13,bn (aU z (k:Int) j).val=gS ak V H X k j)/\∀j<4,bn (aU y (k:Int) j).val=gB ak V H G X k j) ⟨0,rfl,aa,[],[],[],rfl,rfl,rfl,rfl,aa⟩ ?_;rintro i _ Q ⟨z,x,y,rfl,w,f,u,d⟩;simp[al,an,a0,a9];refine ay (λQ=> ?_) (λb1=> ?_);have bc:=e88 (cr 134 X i) (A i Q).1 (by have:=(A i Q).2;omega);simp only[cr] at bc;simp[bU Q n,Q,bi bc];refine⟨aa,ay (λD=> ?_) (λD=> ?_)⟩;have F:cb V i 0=true:=D;have bg:=yX _ (t89 h i ak (ci H i) (cr 134 X i) (A i Q).1);simp only[wk,ci,cr,ez,eW,kIs,kI0,AL] at bg;rw[bi bg];simp;refine ay (λB=> ?_) (λW=>M W);have bk:=yX _ (t90 h i ak (ci H i) _ (Yq (aU G.ac (i:Int) 0)) (ci G i) (cr 134 X i) (A i Q).1);simp only[wk,ci,cr,ez,eW,kIs,kI0,AL] at bk;rw[bi bk];simp[bU Q n];refine ay (λa5=> ?_) (λW=>M W);refine⟨aa,aa,_,_,_,⟨rfl,rfl,rfl⟩,dh,dh,dh,λk hk=> ?_⟩;by_cases c:k=i;subst c;refine⟨by rw[JL f];rfl,YL w rfl,YL u rfl,by rw[JJ,aJ F];exact⟨B,a5⟩,λj N=> ?_,λj N=> ?_⟩;rw[JL w,gS,aJ F]
 match j,N with
 |0,_|1,_|2,_|3,_|4,_|5,_|6,_|7,_|8,_|9,_|10,_|11,_|12,_=>rfl
 rw[JL u,gB,aJ F]
 match j,N with
 |0,_|1,_|2,_|3,_=>rfl
 obtain⟨b,a,q5,q1,q2,q3⟩:=d k aa;exact⟨by rw[JM aa];exact b,by rw[YM aa];exact a,by rw[YM aa];exact q5,q1,λj N=>by rw[JM aa];exact q2 j N,λj N=>by rw[JM aa];exact q3 j N⟩;have F:¬cb V i 0=true:=D;refine ay (λB=> ?_) (λW=>M W);refine⟨aa,aa,_,_,_,⟨rfl,rfl,rfl⟩,dh,dh,dh,λk hk=> ?_⟩;by_cases c:k=i;subst c;refine⟨by rw[JL f];rfl,YL w rfl,YL u rfl,by rw[JJ,aQ F];exact B,λj N=> ?_,λj N=> ?_⟩;rw[JL w,gS,aQ F]
 match j,N with
 |0,_|1,_|2,_|3,_|4,_|5,_|6,_|7,_|8,_|9,_|10,_|11,_|12,_=>rfl
 rw[JL u,gB,aQ F]
 match j,N with
 |0,_|1,_|2,_|3,_=>rfl
 obtain⟨b,a,q5,q1,q2,q3⟩:=d k aa;exact⟨by rw[JM aa];exact b,by rw[YM aa];exact a,by rw[YM aa];exact q5,q1,λj N=>by rw[JM aa];exact q2 j N,λj N=>by rw[JM aa];exact q3 j N⟩;have g:i=Y aL.ac:=aa;subst g;exact(s _).2 (.inr ⟨z,x,y,rfl,⟨h0,aa,aa,aa,aa,aa,l,w,f,u,d⟩⟩)

def R9(f:Nat->Int):Nat->Int
 |0=>0
 |n+1=>if R9 f n=0 then f n else R9 f n
def roE(ak:Int)(d g l:RV)(k:Nat):Int:=if cb d k 0=J then m89 ak g l k 13 else 0
def YO(e:Int):bo:=.ret [.i 0,.r (aG []),.r (aG []),.r (aG []),.r (aG []),.r (aG []),.i e]
structure AcE(ak:Int)(p d g l M F S V B:RV):Prop where
 m:Sl M/\Y M.ac=Y aL.ac/\∀i<Y aL.ac,cb M i 0=cb d i 0
 f:Sl F/\Y F.ac=Y aL.ac/\∀i<Y aL.ac,∀j<13,ci F i j=ci g i j
 s:Sl S/\Y S.ac=Y aL.ac/\∀i<Y aL.ac,∀j<13,ci S i j=gS ak d g l i j
 v:Sl V/\Y V.ac=Y aL.ac/\∀i<Y aL.ac,Sl (cr 134 V i)/\(cr 134 V i).ac=(cr 134 l i).ac
 b:Sl B/\Y B.ac=Y aL.ac/\∀i<Y aL.ac,∀j<4,ci B i j=gB ak d g p l i j
structure MkE(ak:Int)(p d g l:RV)(o:bo):Prop where
 c:lg≠0->o=YO lg
 a:lg=0->(ak<0\/fo<=ak)->o=YO 1
 r:lg=0->(0<=ak/\ak<fo)->¬RgP ak p d g l->o=YO 310
 e:lg=0->(0<=ak/\ak<fo)->RgP ak p d g l->R9 (roE ak d g l) (Y aL.ac)≠0->o=YO (R9 (roE ak d g l) (Y aL.ac))
 k:lg=0->(0<=ak/\ak<fo)->RgP ak p d g l->R9 (roE ak d g l) (Y aL.ac)=0->∃M F S V B,o=.ret [.i ak,.r M,.r F,.r S,.r V,.r B,.i 0]/\AcE ak p d g l M F S V B
section
variable{ak:Int}{p d g l:RV}
end
def asU(h:Y W=X):ci (aG (W++[P])) X Q=bn (P.getD Q default).val:=by
 show bn (aU (W++[P]) X Q).val=_;rw[JL h]
def asV{w:au}(h:X<Y W):ci (aG (W++w)) X Q=ci (aG W) X Q:=by
 show bn (aU (W++w) X Q).val=bn (aU W X Q).val;rw[JM h]
structure AcN(ak:Int)(p d g l:RV)(n:Nat)(vs vb:au):Prop where
 s:Y vs=n/\∀i<n,∀j<13,ci (aG vs) i j=gS ak d g l i j
 b:Y vb=n/\∀i<n,∀j<4,ci (aG vb) i j=gB ak d g p l i j
def AcN.add{p d g l:RV}{N:au}(h:AcN V p d g l X W N){M:aC}(H:∀j<13,bn (P.getD j default).val=gS V d g l X j)(G:∀j<4,bn (M.getD j default).val=gB V d g p l X j):AcN V p d g l (X+1) (W++[P]) (N++[M]):=by
 refine⟨⟨by simp[h.s.1],λi F j Q=> ?_⟩,by simp[h.b.1],λi F j Q=> ?_⟩;by_cases e:i=X;subst e;rw[asU h.s.1];exact H j Q;rw[asV (by rw[h.s.1];omega)];exact h.s.2 i aa j Q;by_cases e:i=X;subst e;rw[asU h.b.1];exact G j Q;rw[asV (by rw[h.b.1];omega)];exact h.b.2 i aa j Q


section
variable{a b:RV}{n:Nat}
end
end
section
variable{R:bo->Prop}{G:aS}{t:T}{O:ai}{L:de}
def ahJ(a b c:Int):TB.Ev 151 [.i a,.i b,.i c] (.ret [.b (decide (b<=a)&&decide (a<=c))]):=by
 refine fF ?_;simp[agk]
 grind
def asW(a b:Int):TB.Ev 223 [.i a,.i b] (.ret [.b (decide (-1099511627776<=a/\a<=b/\b<=1099511627776))]):=by
 refine fF ?_;simp[agi]
 grind
def aCh(a b c d:Int):TB.Ev 185 [.i a,.i b,.i c,.i d] (.ret [.b (bT a b c d)]):=by
 refine fF ?_;have e:bT a b c d=(decide (-1099511627776<=a/\a<=b/\b<=1099511627776)&&decide (-1099511627776<=c/\c<=d/\d<=1099511627776)):=by
  rw[uD,aCa];simp
 rw[e];simp[agh,bi (asW a b),bi (asW c d)]
 grind
def NM(c:Nat->Int):Prop:=bT (c 0) (c 1) (c 2) (c 3)=J/\0<=c 4/\c 4<=c 5/\c 5<=4095/\(-1048576<=c 6/\c 6<=1048576)∧-1048576<=c 7/\c 7<=1048576
open Classical in
def aCi(c:Nat->Int):TB.Ev 150 (pn c) (.ret [.b (decide (NM c))]):=by
 refine fF ?_;simp[agl,pn,bi (aCh (c 0) (c 1) (c 2) (c 3)),bi (ahJ (c 6) _ _),bi (ahJ (c 7) _ _),NM]
 grind
def lj(c:Nat->Int)(k:Int):Int:=max 0 (min k (c 5+1)-c 4)
def ahK{c:Nat->Int}{k:Int}(Q:NM c):(aF .mul I (lj c k) (c 6)=lj c k*c 6)/\aF .mul I (lj c k) (c 7)=lj c k*c 7:=by
 obtain⟨-,P,N,M,W,V⟩:=Q;have X:0<=lj c k:=by simp only[lj];omega
 have H:lj c k<=4096:=by simp only[lj];omega
 generalize lj c k=s at*;have G:=aiJ W.1 X;have a2:=aiJ W.2 X;have F:=aiJ V.1 X;have D:=aiJ V.2 X;simp only[aF];exact⟨cJ aa aa,cJ aa aa⟩
def plW(c:Nat->Int)(k:Int):bq:=[.i (jn (gD (c 0) (c 1) (c 2) (c 3) (lj c k*c 6) (lj c k*c 7)==0) (IntKind.i64.wrap (c 0+lj c k*c 6))),.i (jn (gD (c 0) (c 1) (c 2) (c 3) (lj c k*c 6) (lj c k*c 7)==0) (IntKind.i64.wrap (c 1+lj c k*c 6))),.i (jn (gD (c 0) (c 1) (c 2) (c 3) (lj c k*c 6) (lj c k*c 7)==0) (IntKind.i64.wrap (c 2+lj c k*c 7))),.i (jn (gD (c 0) (c 1) (c 2) (c 3) (lj c k*c 6) (lj c k*c 7)==0) (IntKind.i64.wrap (c 3+lj c k*c 7))),.i (gD (c 0) (c 1) (c 2) (c 3) (lj c k*c 6) (lj c k*c 7))]
def asX(c:Nat->Int)(k:Int)(X:NM c)(H:0<=k/\k<=4096):TB.Ev 152 (pn c++[.i k]) (.ret (plW c k)):=by
 refine fF ?_;obtain⟨W,V⟩:=ahK (k:=k) X;obtain⟨-,G,F,D,-,-⟩:=X;have Q:aF .sub I k (c 4)=k-c 4:=by simp only[aF];exact cJ aa aa
 have P:aF .sub I (c 5) (c 4)=c 5-c 4:=by simp only[aF];exact cJ aa aa
 have N:aF .add I (c 5-c 4) 1=c 5-c 4+1:=by simp only[aF];exact cJ aa aa
 have M:min (max (k-c 4) 0) (c 5-c 4+1)=lj c k:=by simp only[lj];omega
 simp[agm,pn,Q,P,N,M,W,V,plW]
def aCj(c:Nat->Int)(ak:Int):∃o,TB.Ev 51 (pn c++[.i ak]) o/\∃G,o=.ret G/\TB.Ev 104 (pn c++[.i ak]) (.ret G):=by
 have W:=aCi c;have F:=ahJ ak 0 4095;simp only[pn,ez,eW] at W;by_cases X:NM c;by_cases D:0<=ak/\ak<=4095
 ·have x:=X;obtain⟨V,Q,P,w,N,M⟩:=x;obtain⟨v,u⟩:=ahK (k:=ak) X;obtain⟨s,r⟩:=ahK (k:=ak+1) X;have B:=asX c ak X aa;have A:=asX c (ak+1) X aa;simp only[pn,plW,ez,eW] at B A;have p:aF .add I (c 5) 1=c 5+1:=by simp only[aF];exact cJ aa aa
  have z:aF .add I ak 1=ak+1:=by simp only[aF];exact cJ aa aa
  have m:aF .sub I (min ak (c 5+1)) (c 4)=min ak (c 5+1)-c 4:=by simp only[aF];exact cJ aa aa
  have l:aF .sub I (min ak (c 5)+1) (c 4)=min ak (c 5)+1-c 4:=by simp only[aF];exact cJ aa aa
  have j:max 0 (min ak (c 5+1)-c 4)=lj c ak:=rfl;have h:max 0 (min ak (c 5)+1-c 4)=lj c (ak+1):=by simp only[lj];omega
  refine dV ?_;simp[Nt,pn,V,Q,P,D,N,M,p,z,m,l,j,h,v,u,s,r];refine ay (λq=>aa) (λ_=>ay (λy=>ay (λH=> ?_) (λH=> ?_)) (λy=> ?_))
  all_goals
   refine fF ?_;simp[Rw,pn,bi W,bi F,X,D,z,bi B,bi A,y]
  exact ay (λ_=>⟨rfl,rfl,rfl,rfl,rfl⟩) (λn=>aZ H n);exact λq=>aZ q H
 refine⟨.ret [.i 0,.i 0,.i 0,.i 0,.i 1],fF ?_,_,rfl,fF ?_⟩;obtain⟨V,Q,P,w,N,M⟩:=X;simp[Nt,pn,V,Q,P,N,M]
 grind
 simp[Rw,pn,bi W,bi F,X]
 grind
 refine⟨.ret [.i 0,.i 0,.i 0,.i 0,.i 290],fF ?_,_,rfl,fF ?_⟩;simp only[NM] at X;simp[Nt,pn]
 grind
 simp[Rw,pn,bi W,X]
end
section
variable{bA u:nG}
end
section
variable[Inhabited db]
variable{ak:Int}{c d g l:RV}{b a e:au}
def Md.cr(k:Md ak c d g l b a e){i:Nat}(X:i<Y aL.ac):cr 134 (aG a) i=aG (cr 134 l i).ac:=by
 have:=(k.al i X).1;simp only[Y.cr,AM,this];rfl
end
def uw(X:au)(a b:Int):Bool:=match iR 2 [a,b,0] X with
 |U W=>gH (W.getD 2 default).val
 |none=>E
def NN(a b:Int)(X:aC):kM 2 [a,b,0] X=decide ((X.take 2).map (λc=>bn c.val)=[a,b]):=rfl
def asY(x y a b:Int):∀P:au,uw (fZ 2 [RV.mk (.int I x) [],RV.mk (.int I y) [],RV.mk (.bool J) []] P) a b=(decide (([x,y]:bz)=[a,b])||uw P a b)
 |[]=>by
  by_cases h:([x,y]:bz)=[a,b];have X:x=a/\y=b:=by simpa using h
  obtain⟨rfl,rfl⟩:=X;simp[uw,fZ,iR,NN,bn,gH];have M:kM 2 [a,b,0] [RV.mk (.int I x) [],RV.mk (.int I y) [],RV.mk (.bool J) []]=false:=by
   rw[NN];exact decide_eq_false h
  rw[decide_eq_false h];simp[uw,fZ,iR,M]
 |r::W=>by
  have N:=asY x y a b W;have V:(A8 (λc:RV=>bn c.val) (List.take 2 [RV.mk (.int I x) [],RV.mk (.int I y) [],RV.mk (.bool J) []]))=[x,y]:=rfl;by_cases X:(r.take 2).map (λc=>bn c.val)=[x,y];have Q:fZ 2 [RV.mk (.int I x) [],RV.mk (.int I y) [],RV.mk (.bool J) []] (r::W)=[RV.mk (.int I x) [],RV.mk (.int I y) [],RV.mk (.bool J) []]::W:=by
   simp only[fZ,V,kM];rw[aJ (by simpa using X)]
  rw[Q];by_cases h:([x,y]:bz)=[a,b];have H:x=a/\y=b:=by simpa using h
  obtain⟨rfl,rfl⟩:=H;simp[uw,iR,NN,bn,gH];simp only[uw,iR,J2,NN,X,V,h];simp;have Q:fZ 2 [RV.mk (.int I x) [],RV.mk (.int I y) [],RV.mk (.bool J) []] (r::W)=r::fZ 2 [RV.mk (.int I x) [],RV.mk (.int I y) [],RV.mk (.bool J) []] W:=by
   simp only[fZ,V,kM];rw[aQ (by simpa using X)]
  rw[Q];by_cases h:(r.take 2).map (λc=>bn c.val)=[a,b];have G:¬([x,y]:bz)=[a,b]:=λe=>X (by rw[h,e])
  simp only[uw,iR,J2,NN,h,G];simp;simp only[uw,iR,J2,NN,h] at N⊢;simpa using N
def aCk(x y a b:Int)(V:au):uw (fZ 2 [RV.mk (.int I x) [],RV.mk (.int I y) [],RV.mk (.bool J) []] V) a b=((decide (a=x)&&decide (b=y))||uw V a b):=by
 rw[asY];congr 1;by_cases X:a=x;subst X;by_cases W:b=y;subst W;simp;have:¬y=b:=λe=>W e.symm
 simp[W,this];have:¬x=a:=λe=>X e.symm
 simp[X,this]
section
variable{R:bo->Prop}{G:aS}{t:T}{O:ai}{L:de}
variable[Inhabited db]

def LfK(ak a b:Int)(k:Nat):Prop:=ci bu k 2=ak/\ci bu k 4=7/\ci bu k 1=a/\ci bu k 9=b+1
def CM(ak a b:Int):Prop:=∃k<Y bu.ac,LfK ak a b k
def YP(ak a b:Int)(i:Nat):Prop:=∀k<i,¬LfK ak a b k
def YP.succ{a b:Int}(h:YP V a b X)(k:¬LfK V a b X):YP V a b (X+1):=λj W=>by
 by_cases e:j=X;subst e;exact k;exact h j aa
def s9(ak:Int)(a b:Nat):Prop:=a<b/\b<Y aL.ac/\(CM ak a b\/CM ak b a)
structure qT(v:au)(P:Nat->Nat->Prop):Prop where
 ok:∀x∈v,0<=aI 0 x/\aI 0 x<aI 1 x/\aI 1 x<Y aL.ac
 iff:∀a b:Nat,(∃x∈v,aI 0 x=a/\aI 1 x=b)<->P a b
def qT.AR{P X:Nat->Nat->Prop}(h:qT W P)(e:∀a b,P a b<->X a b):qT W X:=⟨h.ok,λa b=>(h.iff a b).trans (e a b)⟩
def qT.add{P:Nat->Nat->Prop}(h:qT W P)(H:X<Q)(G:Q<Y aL.ac):qT (W++[[RV.mk (.int I (X:Int)) [],RV.mk (.int I (Q:Int)) []]]) (λa b=>P a b\/(a=X/\b=Q)):=by
 refine⟨λx V=> ?_,λa b=> ?_⟩;rcases eV.1 V with V|V;exact h.ok x V;simp at V;subst V;show 0<=(X:Int)/\(X:Int)<(Q:Int)/\(Q:Int)<_;omega;rw[<-h.iff];constructor;rintro⟨x,V,N,M⟩;rcases eV.1 V with V|V;exact .inl ⟨x,V,N,M⟩;simp at V;subst V;exact .inr ⟨(Int.ofNat_inj.1 N).symm,(Int.ofNat_inj.1 M).symm⟩;rintro(⟨x,V,N,M⟩|⟨rfl,rfl⟩);exact⟨x,eV.2 (.inl V),N,M⟩;exact⟨_,N1 _ (J1.2 rfl),rfl,rfl⟩
open Classical in
def asZ(h:fp)(ak a b:Int)(B:-1<=b/\b<=4096):TB.Ev 225 (wk++[.i ak,.i a,.i b]) (.ret [.b (decide (CM ak a b))]):=by
 refine fF ?_;have Q:aF .add I b 1=b+1:=by simp only[aF];exact cJ aa aa
 obtain⟨D,V⟩:∃D,D=decide (CM ak a b):=⟨_,rfl⟩;rw[<-V];simp[agj,wk];refine cj (Y bu.ac) (λi P=>P=[]/\YP ak a b i) ⟨0,rfl,aa,rfl,λk N=>aa⟩ ?_;rintro i _ W ⟨rfl,X⟩;simp[h.sg.len,Q];refine ay (λW=> ?_) (λA=> ?_);simp[bU W h.sg.sm,W];refine ay (λM=>ay (λH=>ay (λG=>ay (λF=> ?_) (λn=>X.succ λw=>n w.2.2.2)) (λn=>X.succ λw=>n w.2.2.1)) (λn=>X.succ λw=>n w.2.1)) (λn=>X.succ λw=>n w.1);rw[V];exact decide_eq_true (p:=CM ak a b) ⟨i,W,M,H,G,F⟩;rw[V];exact decide_eq_false (p:=CM ak a b) λ⟨k,N,w⟩=>X k aa w
open Classical in
def r56(h:fp)(ak:Int)(x:Y aL.ac<=64):∃o,TB.Ev 189 (wk++[.i ak]) o/\∃v,o=.ret [.r (aG v)]/\Y v<=4096/\qT v (s9 ak):=by
 refine dV ?_;simp[T56,wk];refine cj (Y aL.ac) (λi V=>∃v,V=[.r (aG v)]/\Y v<=i*64/\qT v λa b=>s9 ak a b/\a<i) ⟨0,rfl,aa,[],rfl,av,⟨av,λa b=>av⟩⟩ ?_;rintro i _ N ⟨v,rfl,D,X⟩;simp[h.rl.len];refine ay (λN=> ?_) (λw=> ?_);refine cj (Y aL.ac) (λj V=>i<j/\∃v,V=[.r (aG v)]/\Y v<=i*64+j/\qT v λa b=>s9 ak a b/\(a<i\/a=i/\b<j)) ⟨i+1,JE aa,aa,aa,v,rfl,aa,X.AR λa b=> ?_⟩ ?_;constructor;exact λ⟨p,q⟩=>⟨p,.inl q⟩
 exact λ⟨p,q⟩=>⟨p,by have:=p.1;omega⟩
 rintro j _ W ⟨M,v,rfl,D,X⟩;simp[h.rl.len];refine ay (λW=> ?_) (λu=> ?_);have H:=asZ h ak i j aa;have G:=asZ h ak j i aa;simp only[wk,ez,eW] at H G;have F:(CM ak i j\/CM ak j i)->qT (v++[[RV.mk (.int I (i:Int)) [],RV.mk (.int I (j:Int)) []]]) λa b=>s9 ak a b/\(a<i\/a=i/\b<j+1):=λq=>(X.add M W).AR λa b=>by
  constructor;rintro(⟨p,q⟩|⟨rfl,rfl⟩);exact⟨p,aa⟩;exact⟨⟨M,W,q⟩,aa⟩;rintro⟨p,q⟩;by_cases e:a=i/\b=j;exact .inr e;exact .inl ⟨p,aa⟩
 have B:¬CM ak i j->¬CM ak j i->qT v λa b=>s9 ak a b/\(a<i\/a=i/\b<j+1):=λQ P=>X.AR λa b=>by
  constructor;exact λ⟨p,q⟩=>⟨p,aa⟩
  rintro⟨p,q⟩;refine⟨p, ?_⟩;by_cases e:a=i/\b=j;obtain⟨rfl,rfl⟩:=e;exact aZ p.2.2 (λz=>z.elim Q P);omega
 rw[bi H];simp;rw[bi G];simp[bU W h.rl.sm];refine ay (λq=>⟨aa,aa,_,rfl,dh,F (.inl q)⟩) (λQ=>ay (λq=>⟨aa,aa,_,rfl,dh,F (.inr q)⟩) (λP=>⟨aa,v,rfl,aa,B Q P⟩));have A:j=Y aL.ac:=aa;subst A;simp[bU N h.rl.sm];refine⟨v,rfl,aa,X.AR λa b=> ?_⟩;constructor;exact λ⟨p,q⟩=>⟨p,aa⟩
 exact λ⟨p,q⟩=>⟨p,by have:=p.2.1;omega⟩
 have y:i=Y aL.ac:=aa;subst y;exact⟨v,rfl,aa,X.AR λa b=>⟨λp=>p.1,λp=>⟨p,by have:=p.1;have:=p.2.1;omega⟩⟩⟩
def PrK(ak a b:Int)(k:Nat):Prop:=ci bu k 2=ak/\ci bu k 4=7/\ci bu k 9-1≠ci bu k 1/\a=min (ci bu k 1) (ci bu k 9-1)/\b=max (ci bu k 1) (ci bu k 9-1)
def JN(ak:Int)(m:au)(i:Nat):Prop:=∀a b:Int,uw m a b=J<->∃k<i,PrK ak a b k
def JN.skip(h:JN V W X)(n:¬(ci bu X 2=V/\ci bu X 4=7/\ci bu X 9-1≠ci bu X 1)):JN V W (X+1):=λa b=>by
 rw[h a b];constructor;rintro⟨k,Q,w⟩;exact⟨k,aa,w⟩;rintro⟨k,Q,w⟩;by_cases e:k=X;subst e;exact aZ ⟨w.1,w.2.1,w.2.2.1⟩ n;exact⟨k,aa,w⟩
def JN.ins(h:JN V W X)(Q:ci bu X 2=V)(P:ci bu X 4=7)(N:ci bu X 9-1≠ci bu X 1):JN V (fZ 2 [RV.mk (.int I (min (ci bu X 1) (ci bu X 9-1))) [],RV.mk (.int I (max (ci bu X 1) (ci bu X 9-1))) [],RV.mk (.bool J) []] W) (X+1):=λa b=>by
 rw[aCk,jy,h a b,aw,cm,cm];constructor;rintro(⟨M,H⟩|⟨k,G,w⟩);exact⟨X,aa,Q,P,N,M,H⟩;exact⟨k,aa,w⟩;rintro⟨k,G,w⟩;by_cases e:k=X;subst e;exact .inl ⟨w.2.2.2.1,w.2.2.2.2⟩;exact .inr ⟨k,aa,w⟩
def as1(ak:Int)(o:bo):Prop:=∃v,o=.ret [.r (aG v),.i 0]/\Y v<=4096/\qT v (s9 ak)
def aCn(h:fp)(ak:Int)(B:lg=0)(l:jc ak 0 (fo-1)=J):∃o,TB.Ev 90 (wk++[.i ak]) o/\as1 ak o:=by
 obtain⟨P,A⟩:∃P:bo->Prop,∀o,P o<->as1 ak o:=⟨_,λ_=>Iff.rfl⟩
 suffices g:∃o,TB.Ev 90 (wk++[.i ak]) o/\P o by
  obtain⟨o,f,d⟩:=g;exact⟨o,f,(A o).1 d⟩
 refine dV ?_;have F:=e65 s8 h ak;obtain⟨-,c⟩:=xt s8 h;simp only[wk,ez,eW] at F;simp[B,l] at F;have D:=c B;have hn:=D.nr;have a1:=D.ns;simp[T23,wk,bi F];refine cj (Y bu.ac) (λi M=>∃m,M=[.r (aG m)]/\JN ak m i) ⟨0,rfl,aa,[],rfl,λa b=>by simp[uw,iR]⟩ ?_;rintro i _ X ⟨m,rfl,H⟩;simp[h.sg.len];split;rename_i X;simp[bU X h.sg.sm,X];have af:=D.GJ i X;refine ay (λq2=>ay (λy=> ?_) (λn=>⟨m,rfl,H.skip λw=>n w.2.1⟩)) (λn=>⟨m,rfl,H.skip λw=>n w.1⟩);have w9:=af.wth;rw[aJ (show ci bu i 4=7\/ci bu i 4=8 from .inl y)] at w9;have e1:aF .sub I (bn (aU bu.ac (i:Int) 9).val) 1=ci bu i 9-1:=by
  show aF .sub I (ci bu i 9) 1=_;simp only[aF];exact cJ aa aa
 rw[e1];exact ay (λn=>⟨m,rfl,H.skip λw=>w.2.2 n⟩) (λn=>⟨_,rfl,H.ins q2 y n⟩);rename_i ag;have al:i=Y bu.ac:=aa;subst al;have x:∀a b:Nat,a<Y aL.ac->b<Y aL.ac->(uw m a b=J<->s9 ak a b):=λa b ha hb=>by
  rw[H a b];constructor;rintro⟨k,W,V,Q,u,s,w5⟩;refine⟨aa,hb, ?_⟩;by_cases z:ci bu k 1<=ci bu k 9-1;exact .inl ⟨k,W,V,Q,aa,aa⟩;exact .inr ⟨k,W,V,Q,aa,aa⟩;rintro⟨z,-,(⟨k,W,V,Q,u,s⟩|⟨k,W,V,Q,u,s⟩)⟩;exact⟨k,W,V,Q,aa,aa,aa⟩;exact⟨k,W,V,Q,aa,aa,aa⟩
 refine cj (Y aL.ac) (λi M=>∃v,M=[.r (aG v)]/\Y v<=i*64/\qT v λa b=>s9 ak a b/\a<i) ⟨0,rfl,aa,[],rfl,av,⟨av,λa b=>av⟩⟩ ?_;rintro i _ X ⟨v,rfl,k1,N⟩;simp[h.rl.len];split;rename_i X;refine cj (Y aL.ac) (λj M=>∃v,M=[.r (aG v)]/\Y v<=i*64+j/\qT v λa b=>s9 ak a b/\(a<i\/a=i/\b<j)) ⟨0,rfl,aa,v,rfl,aa,N.AR λa b=>⟨λw=>⟨w.1,.inl w.2⟩,λw=>⟨w.1,by have:=w.2;omega⟩⟩⟩ ?_;rintro j _ G ⟨v,rfl,k1,N⟩;simp[h.rl.len];split;rename_i G;simp[bU G h.rl.sm];refine ay (λq=> ?_) (λq=> ?_);have q:uw m i j=true:=q;have q:=(x i j X G).1 q;refine⟨aa,_,rfl,dh,(N.add q.1 q.2.1).AR λa b=> ?_⟩;constructor;rintro(⟨p,z⟩|⟨rfl,rfl⟩);exact⟨p,aa⟩;exact⟨q,aa⟩;rintro⟨p,z⟩;by_cases e:a=i/\b=j;exact .inr e;exact .inl ⟨p,aa⟩;have q:¬uw m i j=true:=q;have q:=λz=>q ((x i j X G).2 z)
 refine⟨v,rfl,aa,N.AR λa b=> ?_⟩;constructor;exact λ⟨p,z⟩=>⟨p,aa⟩
 rintro⟨p,z⟩;refine⟨p, ?_⟩;by_cases e:a=i/\b=j;obtain⟨rfl,rfl⟩:=e;exact aZ p q;omega;rename_i a3;have an:j=Y aL.ac:=aa;subst an;simp[bU X h.rl.sm];refine⟨v,rfl,aa,N.AR λa b=> ?_⟩;constructor;exact λ⟨p,z⟩=>⟨p,aa⟩
 exact λ⟨p,z⟩=>⟨p,by have:=p.2.1;omega⟩
 rename_i ag;have a0:i=Y aL.ac:=aa;subst a0;exact(A _).2 ⟨v,rfl,aa,N.AR λa b=>⟨λw=>w.1,λw=>⟨w,by have:=w.1;have:=w.2.1;omega⟩⟩⟩
def as2(h:fp)(ak:Int)(X:lg=0)(W:jc ak 0 (fo-1)=J):∃v,TB.Ev 90 (wk++[.i ak]) (.ret [.r (aG v),.i 0])/\Y v<=4096/\qT v (s9 ak):=by
 obtain⟨o,V,w,rfl,Q,P⟩:=aCn h ak X W;exact⟨w,V,Q,P⟩
end
