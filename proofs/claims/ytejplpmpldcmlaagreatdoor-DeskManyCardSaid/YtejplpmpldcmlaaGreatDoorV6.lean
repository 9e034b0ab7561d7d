/- Part 6 of the proof. -/
import Derived.Test.YtejplpmpldcmlaaGreatDoorV5
set_option linter.all false
set_option maxRecDepth 100000
set_option maxHeartbeats 100000000
open Bool renaming and_eq_true->aw,not_eq_true'->iw,false_eq_true->jB,eq_iff_iff->sx,not_true->ZS,not_eq_true->ajg,true->J,false->E
open List renaming getElem?_append_left->dN,cons_append->ef,nil_append->eK,mem_append->eW,mem_cons->dV,pairwise_cons->jC,range->e8,length_cons->kV,getElem_mem->pM,nodup_append->xS,mem_range->uO,pairwise_iff_getElem->Oe,length_take->E4,length_pos_iff->Og,getElem_of_mem->SQ,nodup_cons->SY,take_length->ajj,length_erase_of_mem->aIY,length_pos_of_mem->aI5,mem_erase_of_ne->aJc,length->Y
open Nat renaming le_refl->bY,zero_le->Hx
open List.Pairwise renaming nil->xR
open Go.IntKind renaming i64->I
namespace Go.Proofs.YtejplpmpldcmlaaGreatDoor.Y
open Go.RowKit
noncomputable section
variable{W:Nat}{Q:ar}{X V:Nat→Int}{N:Int}{P:RV}{M:aq}
def C3(c:Nat->Int)(x y z:Int)(b:Bool):Prop:=x=c 0/\(if b=J then y=0/\z=0 else if c 4=3\/c 4=4\/c 4=5 then(0<=y/\y<=8)/\1<=z/\z<=3 else if c 4=9 then y=0/\1<=z/\z<=3 else y=0/\z=0)
def ET(c:Nat->Int)(r:RV)(k:Nat):Prop:=C3 c (ci r k 0) (ci r k 1) (ci r k 2) (cb r k 3)
abbrev lY(l:ar):ar:=bT (bu.lex [0] E).lt l
def vQ(l:ar)(r:RV):Prop:=Y l=Y r.ac/\∀k<Y l,ET (dm (lY l) k) r k
section
variable{R:bq->Prop}{G:aU}{t:T}{O:ai}{L:db}
def aCa(c:Nat->Int)(x y z:Int)(b:Bool):∃o,TB.Ev 134 (i7 c++[.i x,.i y,.i z,.b b]) o/\∃e,o=.ret [.b e]/\(e=J<->C3 c x y z b):=by
 refine dZ ?_;simp[Ym,i7,C3];cases b
 all_goals
  simp
  repeat'(refine ay (λ_=> ?_) (λ_=> ?_))
  all_goals grind [jm]
def aCb(c:Nat->Int)(j:Nat)(h:j<14):aM j (qy c)=c j:=by
 match j,h with
 |0,_|1,_|2,_|3,_|4,_|5,_|6,_|7,_|8,_|9,_|10,_|11,_|12,_|13,_=>rfl
structure vT(l:ar):Prop where
 n:Y l<=4096
 k:zr l
 m:∀x∈l,∃c,x=qy c
def vT.rw{l:ar}(h:vT l){i:Nat}(X:i<Y l):qy (dm l i)=l[i]:=by
 obtain⟨c,W⟩:=h.m l[i] (pM X);have:∀j<14,dm l i j=c j:=λj V=>by
  have:dm l i j=aM j l[i]:=by simp[dm,aQ,aM,X]
  rw[this,W,aCb _ _ V]
 rw[W];simp only[qy];rw[this 0 aa,this 1 aa,this 2 aa,this 3 aa,this 4 aa,this 5 aa,this 6 aa,this 7 aa,this 8 aa,this 9 aa,this 10 aa,this 11 aa,this 12 aa,this 13 aa]
def C4{l:ar}(X:W<Y l)(j:Nat):dm l W j=aM j l[W]:=by simp[dm,aQ,aM,X]
def vT.by{l:ar}(h:vT l):vT (lY l):=⟨by rw[mZ];exact h.n,h.k.perm (CY _),λx X=>h.m x ((CY _).mem_iff.1 X)⟩
def vT.to{l:ar}{i:Nat}(X:i<Y l):∃k<Y l,∀j,dm (lY l) k j=dm l i j:=by
 have V:l[i]∈lY l:=(CY _).mem_iff.2 (pM X);obtain⟨k,W,e⟩:=SQ V;have Q:k<Y l:=by rwa [mZ] at W
 exact⟨k,Q,λj=>by rw[C4 W,C4 X,e]⟩
def vT.from(N:W<Y Q):∃i<Y Q,∀j,dm (lY Q) W j=dm Q i j:=by
 have X:W<(lY Q).length:=by rwa [mZ]
 have P:(lY Q)[W]∈Q:=(CY _).mem_iff.1 (pM X);obtain⟨i,V,e⟩:=SQ P;exact⟨i,V,λj=>by rw[C4 X,C4 V,e]⟩
def vT.inj{l:ar}(h:vT l){a b:Nat}(X:a<Y l)(W:b<Y l)(e:dm l a 0=dm l b 0):a=b:=by
 rcases Nat.lt_trichotomy a b with q|q|q;exact aZ (by rw[<-C4 X,<-C4 W];exact e) (Oe.1 h.k a b X W q);exact q;exact aZ (by rw[<-C4 X,<-C4 W];exact e.symm) (Oe.1 h.k b a W X q)
def C3.congr(e:∀j,X j=V j){y z:Int}{b:Bool}:C3 X N y z b<->C3 V N y z b:=by
 have:X=V:=funext e;rw[this]
variable[Inhabited dh]
def as5(aJ ak:Int)(h:fD):vT (dW aJ ak):=
 ⟨YE (xI tD h).2,YD (xI tD h).2,λx X=>by
  obtain⟨k,-,e,-⟩:=aso (xI tD h).2 X;exact⟨_,e⟩⟩
structure G3(aJ ak:Int)(r:RV)(e:Int):Prop where
 c:gm aJ ak≠0->e=gm aJ ak
 k:gm aJ ak=0->Er (vQ (dW aJ ak) r) 270 e
def G3.eq{aJ ak:Int}{r:RV}{e W:Int}(h:G3 aJ ak r e)(V:G3 aJ ak r W):e=W:=by
 by_cases X:gm aJ ak=0;exact(h.k X).eq (V.k X);rw[h.c X,V.c X]
def x85(h:fD)(aJ ak:Int)(r:RV)(N:Sl r):∃o,TB.Ev 53 (wk++[.i aJ,.i ak,.r r]) o/\∃e,o=.ret [.i e]/\G3 aJ ak r e:=by
 by_cases V:dW aJ ak=[];refine⟨_,asr tD h aJ ak r N V,_,rfl,λX=>by rw[aL X],λX=> ?_⟩;rw[aT aa,V];split;rename_i A;exact Er.ok ⟨dl,λk Q=>aZ Q av⟩;rename_i A;exact Er.no λp=>A (by have:=p.1;simp at this;omega)
 have V:=Og.2 V;refine dZ ?_;have z:=RT tD h aJ ak;have H:=as5 aJ ak h;have y:∀e,G3 aJ ak r e<->(gm aJ ak≠0->e=gm aJ ak)/\(gm aJ ak=0->Er (vQ (dW aJ ak) r) 270 e):=λe=>⟨λq=>⟨q.c,q.k⟩,λq=>⟨q.1,q.2⟩⟩
 simp only[y];clear y;simp only[wk,ef,eK] at z;generalize dW aJ ak=l at*;generalize gm aJ ak=e at*;simp[Rx,wk,bh z,N.len];refine ay (λX=> ?_) (λX q=>aZ q X);have x:¬vQ l r->(¬e=0->270=e)/\(e=0->Er (vQ l r) 270 270):=λp=>⟨λq=>aZ X q,λ_=>Er.no p⟩
 refine ay (λM=> ?_) (λM=>x λp=>M (by have:=p.1;omega));have M:Y l=Y r.ac:=aa;have hn:=H.n;rw[NK];refine⟨.inl rfl,λ_=> ?_,λh=> ?_,λ_ h=> ?_⟩;simp;refine⟨aa, ?_⟩
 first|rw[CV]|rw[CW]
 refine⟨_,ahi dl (by simpa using H.k), ?_⟩;simp;have w:(bT (bu.lex [0] E).lt l).length=Y l:=mZ;refine bW (Y l) (λi G=>∃v,G=[.r (aI v)]/\Y v<=i/\∀k<i,∃q<Y l,dm (lY l) q 0=dm l k 0/\ET (dm l k) r q) ⟨0,rfl,aa,[],rfl,av,aa⟩ ?_;rintro i _ W ⟨v,rfl,ag,u⟩;simp;refine ay (λW=> ?_) (λW=> ?_);refine⟨W, ?_⟩;refine bW (Y l) (λj G=>G=[.r (aI v)]/\∀q<j,¬(dm (lY l) q 0=dm l i 0/\ET (dm l i) r q)) ⟨0,rfl,aa,rfl,aa⟩ ?_;rintro j _ P ⟨rfl,d⟩;have F:∀q<j,dm (lY l) q 0=dm l i 0->¬ET (dm l i) r q:=λq D a b=>d q D ⟨a,b⟩
 simp[N.len];refine ay (λP=>⟨P,ay (λg=>⟨aa, ?_⟩) (λg=> ?_)⟩) (λP=>x λp=> ?_);obtain⟨o,s,b,rfl,m⟩:=aCa (dm l i) (ci r j 0) (ci r j 1) (ci r j 2) (cb r j 3);simp only[i7,dm,ci,cb,ef,eK] at s;rw[bh s];simp[bK P (show Y l<=140737488355328 from aa),bK W (show Y l<=140737488355328 from aa)];refine ay (λB=> ?_) (λB=> ?_);exact⟨by rw[N.len];omega,aa,_,rfl,dl,mM u ⟨j,P,g,m.1 B⟩⟩;exact mM F λ_ q=>B (m.2 q)
 rw[bK P aa];exact⟨rfl,mM F λe=>aZ e g⟩;obtain⟨k,Q,e⟩:=vT.to W;exact F k aa (e 0) ((C3.congr e).1 (p.2 k Q));have af:i=Y l:=aa;subst af;refine⟨λq=>aZ X q,λ_=>Er.ok ⟨M,λk Q=> ?_⟩⟩;obtain⟨i,W,f⟩:=vT.from Q;obtain⟨q,D,e2,e3⟩:=u i W;have:q=k:=H.by.inj (by rw[w];exact D) (by rw[w];exact Q) (by rw[e2,f]);subst this;exact(C3.congr f).2 e3;simp at h;simp[h] at V;simp at h;simp[h] at V
def aCd(x y:aF):(bu.lex [0] E).lt x y=decide (aM 0 x<aM 0 y):=by
 simp only[bu.lt,jR]
 grind
def aCe(l:ar)(B:vT l)(r:RV)(A:Sl r):∃o,TB.Ev 191 [.r (aI l),.r r] o/\∃b,o=.ret [.b b]/\(b=J<->vQ l r):=by
 refine dZ ?_;simp[agA,A.len];have d:=B.n;refine ay (λV=> ?_) (λV p=>V (by have:=p.1;omega));have V:Y l=Y r.ac:=aa;refine bW (Y l) (λi P=>P=[.r (aI (lY (l.take i)))]) ⟨0,rfl,aa,rfl⟩ ?_;rintro i _ X rfl;simp;refine ay (λX=> ?_) (λX=> ?_);have c:(lY (l.take i)).length<=i:=by rw[mZ,E4];omega
 have N:gW (bu.lex [0] E).lt (lY (l.take i)):=D9 (LY [0] E) (l:=l.take i) (λz a=>rfl);have s:lY (l.take (i+1))=eI (bu.lex [0] E).lt l[i] (lY (l.take i)):=by
  rw[<-List.take_append_getElem X,lY,as3]
 have m:=B.rw X;generalize lY (l.take i)=v at*;refine vN (λM=>∃k:Nat,M=[.i k]/\k<=Y v/\∀(j:Nat)(Q:j<Y v),k<=j->(bu.lex [0] E).lt l[i] v[j]=J) (λM=>(xi M 0).toNat) ⟨Y v,rfl,aa,λj Q e=>aa⟩ ?_;rintro _ ⟨k,rfl,W,y⟩;have x:(∀Q:k-1<Y v,0<k->(bu.lex [0] E).lt l[i] v[k-1]=E)->lY (l.take (i+1))=v.take k++l[i]::v.drop k:=λe=>by rw[s];exact as4 (LY [0] E) rfl (λ_ _=>rfl) N W y e
 simp[xi];have w:lY (l.take (i+1))=v.take k++l[i]::v.drop k->aI (v.take k++qy (dm l i)::v.drop k)=aI (lY (l.take (i+1))):=λe=>by rw[e,m]
 refine ay (λH=>⟨X, ?_⟩) (λH=> ?_);rw[NR H aa];have u:(bu.lex [0] E).lt l[i] v[k-1]=decide (bn (aQ l (i:Int) 0).val<bn (aQ v ((k-1:Nat):Int) 0).val):=by
  rw[aCd,<-C4 X,<-C4 (l:=v) aa];rfl
 refine⟨aa,ay (λg=> ?_) (λg=> ?_)⟩;rw[vM];refine⟨⟨k-1,rfl,aa,λj Q e=> ?_⟩,dl⟩;by_cases h:j=k-1;subst h;rw[u];exact decide_eq_true g;exact y j Q aa;have e:=x (λ_ _=>by rw[u];exact decide_eq_false g);refine⟨W,aa,X,aa,W,aa, ?_⟩;rw[bK X aa,<-w e];rfl;have e:=x (λ_ q=>aZ q H);refine⟨W,aa,X,aa,W,aa, ?_⟩;rw[bK X aa,<-w e];rfl;have G:i=Y l:=aa;subst G;rw[ajj];have N:(lY l).length=Y l:=mZ;refine bW (Y l) (λi P=>P=[]/\∀k<i,ET (dm (lY l) k) r k) ⟨0,rfl,aa,rfl,aa⟩ ?_;rintro i _ X ⟨rfl,W⟩;simp[N,A.len];refine ay (λX=>⟨X,aa, ?_⟩) (λX=> ?_)
 ·simp[bK X (show Y l<=140737488355328 from aa)];have f:ET (dm (lY l) i) r i<->C3 (dm (lY l) i) (ci r i 0) (ci r i 1) (ci r i 2) (cb r i 3):=Iff.rfl;have F:¬ET (dm (lY l) i) r i->¬vQ l r:=λq p=>q (p.2 i X)
  have D:ET (dm (lY l) i) r i->∀k<i+1,ET (dm (lY l) k) r k:=mM W;rw[f] at F D;simp only[C3,dm,ci,cb] at F D
  repeat'(refine ay (λ_=> ?_) (λ_=> ?_))
  all_goals first|(apply F;grind)|(apply D;grind)
 have G:i=Y l:=aa;subst G;exact⟨V,W⟩
def r95(h:fD)(aJ ak:Int)(r:RV)(P:Sl r):∃o,TB.Ev 155 (wk++[.i aJ,.i ak,.r r]) o/\∃e,o=.ret [.i e]/\G3 aJ ak r e:=by
 refine dZ ?_;have V:=aB9 h aJ ak;obtain⟨o,N,b,rfl,Q⟩:=aCe _ (as5 aJ ak h) r P;simp only[wk,ef,eK] at V;have M:∀e,G3 aJ ak r e<->(gm aJ ak≠0->e=gm aJ ak)/\(gm aJ ak=0->Er (vQ (dW aJ ak) r) 270 e):=λe=>⟨λq=>⟨q.c,q.k⟩,λq=>⟨q.1,q.2⟩⟩
 simp only[M];simp[T95,wk,bh V];refine ay (λX=> ?_) (λX=> ?_);simp[bh N];refine ay (λW=>⟨λq=>aZ X q,λ_=>Er.ok (Q.1 W)⟩) (λW=>⟨λq=>aZ X q,λ_=>Er.no λp=>W (Q.2 p)⟩);exact λq=>aZ q X
def NS(aJ ak:Int)(r:RV):Int:=oi 53 (wk++[.i aJ,.i ak,.r r]) 0
def ahN(h:fD)(aJ ak:Int)(r:RV)(X:Sl r):TB.Ev 53 (wk++[.i aJ,.i ak,.r r]) (.ret [.i (NS aJ ak r)])/\G3 aJ ak r (NS aJ ak r):=uC (x85 h aJ ak r X)
def f95(h:fD)(aJ ak:Int)(r:RV)(X:Sl r):TB.Ev 155 (wk++[.i aJ,.i ak,.r r]) (.ret [.i (NS aJ ak r)]):=by
 obtain⟨o,W,e,rfl,V⟩:=r95 h aJ ak r X;rw[(ahN h aJ ak r X).2.eq V];exact W
end
section
variable{R:bq->Prop}{G:aU}{t:T}{O:ai}{L:db}
variable[Inhabited dh]
def aCh(x y f X W V Q P N M H G F:Int):Er (G0 x y f X W V Q P N M H G F) 260 (CZ x y f X W V Q P N M H G F):=by
 have D:∃o,TB.Ev 35 [.i x,.i y,.i f,.i X,.i W,.i V,.i Q,.i P,.i N,.i M,.i H,.i G,.i F] o/\∃e,o=.ret [.i e]/\(e=0\/e=260):=by
  refine dZ ?_;simp[Rv]
 have h:=aho x y f X W V Q P N M H G F;refine⟨h.2,λp=> ?_⟩;rcases(uC D).2 with e|e;exact aZ (h.1 e) p;exact e
def r94(x y f X W V Q P N M H G F:Int):TB.Ev 107 [.i x,.i y,.i f,.i X,.i W,.i V,.i Q,.i P,.i N,.i M,.i H,.i G,.i F] (.ret [.i (CZ x y f X W V Q P N M H G F)]):=by
 suffices s:∃o,TB.Ev 107 [.i x,.i y,.i f,.i X,.i W,.i V,.i Q,.i P,.i N,.i M,.i H,.i G,.i F] o/\∃e,o=.ret [.i e]/\Er (G0 x y f X W V Q P N M H G F) 260 e by
  obtain⟨o,h,e,rfl,r⟩:=s;rw[(aCh x y f X W V Q P N M H G F).eq r];exact h
 refine dZ ?_;simp[T94];have D:¬G0 x y f X W V Q P N M H G F->Er (G0 x y f X W V Q P N M H G F) 260 260:=Er.no;refine ay (λq=> ?_) (λq=>D λp=>by have:=p.x;omega);refine ay (λa2=>D λp=>by have:=p.x;omega) (λa2=> ?_);refine ay (λn=> ?_) (λn=>D λp=>by have:=p.y;omega);refine ay (λm=>D λp=>by have:=p.y;omega) (λm=> ?_);refine ay (λa5=> ?_) (λa5=>D λp=>by have:=p.f;omega);refine ay (λa6=>D λp=>by have:=p.f;omega) (λa6=> ?_);refine bW 5 (λi l=>l=[]/\(0<i->Lm X W)/\(1<i->Lm V Q)/\(2<i->Lm P N)/\(3<i->Lm M H)/\(4<i->Lm G F)) ⟨0,rfl,aa,rfl,aa,aa,aa,aa,aa⟩ ?_;rintro i _ j ⟨rfl,B,A,z,w,v⟩;have k:i=0\/i=1\/i=2\/i=3\/i=4\/i=5:=aa;rcases k with rfl|rfl|rfl|rfl|rfl|rfl
 case inr.inr.inr.inr.inr=>simp;exact Er.ok ⟨aa,aa,aa,B aa,A aa,z aa,w aa,v aa⟩
 all_goals
  simp;have u:G0 x y f X W V Q P N M H G F->Lm X W/\Lm V Q/\Lm P N/\Lm M H/\Lm G F:=λp=>⟨p.m0,p.m1,p.m2,p.m3,p.m4⟩
  simp only[Lm] at u B A z w v⊢
  repeat'(refine ay (λ_=> ?_) (λ_=> ?_))
  any_goals(refine D λp=> ?_;have:=u p;omega)
  all_goals
   rw[vM]
   first
    |refine⟨⟨1,rfl,aa,rfl, ?_⟩,o7⟩;omega
    |refine⟨⟨2,rfl,aa,rfl, ?_⟩,o7⟩;omega
    |refine⟨⟨3,rfl,aa,rfl, ?_⟩,o7⟩;omega
    |refine⟨⟨4,rfl,aa,rfl, ?_⟩,o7⟩;omega
    |refine⟨⟨5,rfl,aa,rfl, ?_⟩,o7⟩;omega
@[simp] def c94 (x y f X W V Q P N M H F D:Int):iY TB.Ev R 107 [.i x,.i y,.i f,.i X,.i W,.i V,.i Q,.i P,.i N,.i M,.i H,.i F,.i D] G t O L=iZ TB.Ev R (.ret [.i (CZ x y f X W V Q P N M H F D)]) G t O L:=bh (r94 x y f X W V Q P N M H F D)
end
def nxT:T->T
 |.bi _ t=>t
 |.aV _ _ f=>f
 |t=>t
def YS:Nat->T->T
 |0,t=>t
 |n+1,t=>YS n (nxT t)
section
variable{R:bq->Prop}{G:aU}{t:T}{O:ai}{L:db}
variable[Inhabited dh]
def R8(v:RV)(q:Nat):Int:=CZ (ci v q 0) (ci v q 1) (ci v q 2) (ci v q 3) (ci v q 4) (ci v q 5) (ci v q 6) (ci v q 7) (ci v q 8) (ci v q 9) (ci v q 10) (ci v q 11) (ci v q 12)
structure YT(ca kn op:RV)(i:Nat):Prop where
 one:1<=(cr 76 kn i).ac.length
 two:(cr 76 kn i).ac.length<=2
 opn:(cr 76 kn i).ac.length=2<->ci op i 0≠0
 ne:(cr 76 kn i).ac.length=2->∃j<13,ci (cr 76 kn i) 0 j≠ci (cr 76 kn i) 1 j
 iF:∀q<(cr 76 kn i).ac.length,R8 (cr 76 kn i) q=0
 ak:ci op i 0≠0->0<=aH .sub I (ci op i 0) 1/\aH .sub I (ci op i 0) 1<Y ca.ac/\bn (aQ ca.ac (aH .sub I (ci op i 0) 1) 0).val≠0
def aCj{X V:RV}{dM:Int}{cl:Bool}(u:Sl P)(s:Sl X)(p:Sl V)(N:W<Y X.ac)(m:W<Y V.ac)(M:Sl (cr 76 X W))(H:1<=(cr 76 X W).ac.length)(G:(cr 76 X W).ac.length<=2)(F:(cr 76 X W).ac.length=2<->ci V W 0≠0)(D:(cr 76 X W).ac.length=2->∃j<13,ci (cr 76 X W) 0 j≠ci (cr 76 X W) 1 j):
  T.wp TB.Ev (λo=>o=.ret [.b E]\/o=.ret [.b J]/\YT P X V W) (YS 8 NG) ⟨[dM,W],[cl],[P,X,V],[]⟩ []:=by
 simp only[NG,YS,nxT];have e:=M.len;simp only[cr] at e;refine bW (cr 76 X W).ac.length (λn l=>l=[]/\∀q<n,R8 (cr 76 X W) q=0) ⟨0,rfl,aa,rfl,λW N=>aa⟩ ?_;rintro q _ f ⟨rfl,B⟩;simp[u.len,s.len,p.len,N,m,e];refine ay (λA=>⟨A, ?_⟩) (λd=> ?_);intro k;rw[bK (n:=(cr 76 X W).ac.length) (show q<(cr 76 X W).ac.length from A) M.sm];refine⟨rfl,λr z=> ?_⟩;by_cases g:r=q;subst g;exact k;exact B r aa;have y:∀q<(cr 76 X W).ac.length,R8 (cr 76 X W) q=0:=λr z=>B r (by simp only[cr] at z;omega)
 refine ay (λx=>⟨H,G,F,D,y,λh=>aZ x h⟩) (λx w v=>⟨⟨w,v⟩, ?_⟩);by_cases Q:bn (aQ P.ac (aH .sub I (bn (aQ V.ac (W:Int) 0).val) 1) 0).val=0;exact .inl Q;exact .inr ⟨Q,H,G,F,D,y,λ_=>⟨w,v,Q⟩⟩
def aCk{V Q:RV}{dM:Int}{cl:Bool}(F:Sl P)(D:Sl V)(B:Sl Q)(A:W<Y V.ac)(z:W<Y Q.ac)(y:Sl (cr 76 V W)):∃o,TB.Ev 65 [.r P,.i dM,.r V,.r Q,.b cl,.i W] o/\∃b,o=.ret [.b b]/\(b=J->YT P V Q W):=by
 refine dZ ?_;have e:=y.len;simp only[cr] at e;have l:=λN M H w=>aCj (dM:=dM) (cl:=cl) F D B A z y N M H w
 simp only[NG,YS,nxT] at l;simp[NG,F.len,D.len,B.len,A,z,e];intro s q G;have N:1<=(cr 76 V W).ac.length:=by simp only[cr];omega
 have M:(cr 76 V W).ac.length<=2:=by simp only[cr];omega
 have H:(cr 76 V W).ac.length=2<->ci Q W 0≠0:=by
  rw[sx] at G;simp only[dK,bne_iff_ne] at G;simp only[cr,ci];rw[<-G];omega
 refine ay (λx=>⟨aa,aa,λv=> ?_⟩) (λx=> ?_);refine l N M H λ_=> ?_
 apply Classical.byContradiction;intro X;have X:∀j<13,ci (cr 76 V W) 0 j=ci (cr 76 V W) 1 j:=λj u=>Classical.byContradiction λh=>X ⟨j,u,h⟩
 simp only[ci,cr] at X;exact v (X 0 aa) (X 1 aa) (X 2 aa) (X 3 aa) (X 4 aa) (X 5 aa) (X 6 aa) (X 7 aa) (X 8 aa) (X 9 aa) (X 10 aa) (X 11 aa) (X 12 aa);exact l N M H λh=>aZ (by simp only[cr] at h;omega) x

variable{a c d g k ca kn op:RV}{dM:Int}{cl:Bool}
structure aJ3(ca kn op:RV):Prop where
 ca:Sl ca
 kn:Sl kn
 op:Sl op
structure JL(d g ca kn op:RV)(dM:Int):Prop where
 calls:Y ca.ac<=Y g.ac
 cast:0<=dM/\dM<Y d.ac
 YU:Y kn.ac=Y aK.ac
 opl:Y op.ac=Y aK.ac
 call:∀i<Y ca.ac,0<=ci ca i 0/\ci ca i 0<=(cr 69 g i).ac.length
 NT:∀i<Y kn.ac,YT ca kn op i
def aCl(h:fD)(s:tE a c d g k)(W:Sl ca)(X:Sl kn)(H:Sl op)(A:∀i<Y kn.ac,Sl (cr 76 kn i)):∃o,TB.Ev 28 (ee a c d g k++[.r ca,.i dM,.r kn,.r op,.b cl]) o/\∃b,o=.ret [.b b]/\(b=J->JL d g ca kn op dM):=by
 refine dZ ?_;simp[agO,ee,wk,W.len,X.len,H.len,s.sr.len,s.sc.len,h.rl.len];intro u z y q p;refine bW (Y ca.ac) (λn V=>V=[]/\∀i<n,0<=ci ca i 0/\ci ca i 0<=(cr 69 g i).ac.length) ⟨0,rfl,aa,rfl,λi G=>aa⟩ ?_;rintro i _ G ⟨rfl,F⟩;simp[W.len,X.len,s.sr.len];refine ay (λQ=> ?_) (λm=> ?_);have e:=(s.A6 i aa).len;simp only[cr] at e;simp only[e];refine⟨Q,λx=>⟨Q,aa,λw=> ?_⟩⟩;rw[bK Q W.sm];refine⟨rfl,λr P=> ?_⟩;by_cases N:r=i;subst N;exact⟨x,w⟩;exact F r aa;refine bW (Y kn.ac) (λn V=>V=[]/\∀i<n,YT ca kn op i) ⟨0,rfl,aa,rfl,λi G=>aa⟩ ?_;rintro j _ l ⟨rfl,D⟩;simp[X.len];refine ay (λM=> ?_) (λf=> ?_);obtain⟨o,B,b,rfl,v⟩:=aCk (dM:=dM) (cl:=cl) W X H M aa (A j M);cases b;simp[bh B];simp[bh B];rw[bK M X.sm];refine⟨rfl,λr P=> ?_⟩;by_cases N:r=j;subst N;exact v rfl;exact D r aa;exact⟨aa,⟨z,y⟩,aa,aa,λr P=>F r aa,λr P=>D r aa⟩
end
section
variable[Inhabited dh]
end
section
variable{R:bq->Prop}{G:aU}{t:T}{O:ai}{L:db}
variable[Inhabited dh]
def R9(x:Nat->Int)(v:ar)(n:Nat):Prop:=∀i<n,cL x v (i+1) 13=0
def aCm(X:vQ Q P):∃v,vP Q P (Y Q) v:=by
 suffices h:∀n≤Y Q,∃v,vP Q P n v from h _ (bY _)
 intro n;induction n with
 |zero=>exact λ_=>⟨[],rfl,λi M=>aa⟩
 |succ n W=>
  intro H;obtain⟨v,V⟩:=W aa;obtain⟨k,N,e⟩:=vT.to (l:=Q) (i:=n) aa;have:=(X.2 k N).1;exact⟨_,V.add (k:=k) (by have:=X.1;omega) (by rw[this,e])⟩

def YV(e:Int):bv:=[.i 0,.i 0,.i 0,.i 0,.i 0,.i 0,.i 0,.i 0,.i 0,.i 0,.i 0,.i 0,.i 0,.i e]
def stE(s:Nat->Int):bv:=[.i (s 0),.i (s 1),.i (s 2),.i (s 3),.i (s 4),.i (s 5),.i (s 6),.i (s 7),.i (s 8),.i (s 9),.i (s 10),.i (s 11),.i (s 12),.i 0]
structure EnE(aJ ak:Int)(x:Nat->Int)(r:RV)(ys:bv):Prop where
 c:gm aJ ak≠0->ys=YV (gm aJ ak)
 p:gm aJ ak=0->¬rS x->ys=YV 260
 m:gm aJ ak=0->rS x->¬vQ (dW aJ ak) r->ys=YV 270
 w:gm aJ ak=0->rS x->vQ (dW aJ ak) r->∀v,vP (dW aJ ak) r (dW aJ ak).length v->(¬R9 x v (dW aJ ak).length->ys=YV 2)/\(R9 x v (dW aJ ak).length->ys=stE (cL x v (dW aJ ak).length))
def EnE.eq{ak:Int}{F D:bv}(h:EnE N ak X P F)(M:EnE N ak X P D):F=D:=by
 by_cases W:gm N ak=0;by_cases V:rS X;by_cases Q:vQ (dW N ak) P;obtain⟨v,H⟩:=aCm Q;by_cases G:R9 X v (dW N ak).length;rw[(h.w W V Q v H).2 G,(M.w W V Q v H).2 G];rw[(h.w W V Q v H).1 G,(M.w W V Q v H).1 G];rw[h.m W V Q,M.m W V Q];rw[h.p W V,M.p W V];rw[h.c W,M.c W]
end
section
variable{R:bq->Prop}{G:aU}{t:T}{O:ai}{L:db}
def G4(n:Int):Prop:=(97<=n/\n<=122)\/(65<=n/\n<=90)
def aCo(n:Int):∃o,TB.Ev 118 [.i n] o/\∃e,o=.ret [.i e]/\(e=2<->G4 n)/\(e=3<->48<=n/\n<=57)/\(e=5<->n=95):=by
 refine dZ ?_;simp[Yn,G4]
 repeat'(refine ay (λ_=> ?_) (λ_=> ?_))
 all_goals first|omega|(simp;omega)
def JM(n:Int):Prop:=G4 n\/(48<=n/\n<=57)\/n=95
structure NU(s:RV):Prop where
 l:1<=lenOf s.val/\lenOf s.val<=32
 f:G4 (kY s.val 0)
 c:∀i:Nat,(i:Int)<lenOf s.val->JM (kY s.val i)
def aCp(n:Int):(oi 118 [.i n] 0=2<->G4 n)/\(oi 118 [.i n] 0=3<->48<=n/\n<=57)/\(oi 118 [.i n] 0=5<->n=95):=(uC (aCo n)).2
def as7(V:qA P):∃n:Nat,lenOf P.val=n/\(t7 P.val (.string {data:= #[]})=J<->n=0):=by
 obtain⟨u,X⟩:=V;refine⟨u.size,by rw[X];rfl, ?_⟩;rw[X];simp only[t7];constructor;intro h;have W:u.toList=(ByteArray.mk #[]).toList:=by simpa using h
 rw[ByteArray.toList_eq,ByteArray.toList_eq] at W;have:Y u.data.toList=0:=by rw[W];rfl
 simpa using this;intro h;have Q:u=ByteArray.empty:=by simpa using h
 rw[Q];simp only[dK];rfl
def aCq(s:RV)(M:qA s):∃o,TB.Ev 83 [.r s] o/\∃b,o=.ret [.b b]/\(b=J<->NU s):=by
 obtain⟨n,V,Q⟩:=as7 M;have X:=λi=>aCp (kY s.val i)
 refine dZ ?_;simp[Yl,V];refine ay (λe p=>by have:=p.l;have:=Q.1 e;omega) (λe=>ay (λH p=>by have:=p.l;omega) (λH=> ?_));have B:n≠0:=λq=>e (Q.2 q)
 refine⟨aa,ay (λf=> ?_) (λf p=>f ((X 0).1.2 p.f))⟩;have f:=(X 0).1.1 f;refine bW n (λi G=>G=[]/\∀k<i,JM (kY s.val k)) ⟨0,rfl,aa,rfl,aa⟩ ?_;rintro i _ W ⟨rfl,P⟩;simp[V];refine ay (λW=> ?_) (λW=> ?_)
 ·have N:JM (kY s.val i)<->oi 118 [.i (kY s.val i)] 0=2\/oi 118 [.i (kY s.val i)] 0=3\/oi 118 [.i (kY s.val i)] 0=5:=by
   rw[(X i).1,(X i).2.1,(X i).2.2];rfl
  have F:¬JM (kY s.val i)->¬NU s:=λq p=>q (p.c i aa)
  simp[bK W (show n<=140737488355328 from aa),W]
  repeat'(refine ay (λ_=> ?_) (λ_=> ?_))
  all_goals first|(exact mM P (N.2 (by grind)))|(apply F;rw[N];grind)
 have D:i=n:=aa;subst D;exact⟨aa,f,λk A=>P k aa⟩
def aCr(s:RV)(P:qA s):∃o,TB.Ev 101 [.r s] o/\∃b,o=.ret [.b b]/\(b=J<->NU s):=by
 obtain⟨n,W,F⟩:=as7 P;refine dZ ?_;simp[agv,W];refine ay (λe p=>by have:=p.l;omega) (λe=>ay (λN p=>by have:=p.l;omega) (λN=>⟨aa, ?_⟩));have D:∀t:T,True:=λ_=>trivial
 repeat'(refine ay (λ_=> ?_) (λ_=> ?_))
 any_goals(intro p;have:=p.f;simp only[G4] at this;omega)
 all_goals
  have f:G4 (kY s.val 0):=by simp only[G4];omega
  refine bW n (λi M=>M=[]/\∀k<i,JM (kY s.val k)) ⟨0,rfl,aa,rfl,aa⟩ ?_;rintro i _ X ⟨rfl,V⟩;simp[W];refine ay (λX=> ?_) (λX=> ?_)
  ·have Q:JM (kY s.val i)<->((97<=kY s.val i/\kY s.val i<=122)\/(65<=kY s.val i/\kY s.val i<=90))\/(48<=kY s.val i/\kY s.val i<=57)\/kY s.val i=95:=Iff.rfl;have H:¬JM (kY s.val i)->¬NU s:=λq p=>q (p.c i aa)
   simp[bK X (show n<=140737488355328 from aa),X]
   repeat'(refine ay (λ_=> ?_) (λ_=> ?_))
   all_goals first|(exact mM V (Q.2 aa))|(apply H;rw[Q];omega)
  have G:i=n:=aa;subst G;exact⟨aa,f,λk B=>V k aa⟩
def ahQ(s:RV)(X:qA s):TB.Ev 83 [.r s] (.ret [.b (ob 83 [.r s] 0)])/\(ob 83 [.r s] 0=J<->NU s):=mkb (aCq s X)
def aCs(s:RV)(X:qA s):TB.Ev 101 [.r s] (.ret [.b (ob 83 [.r s] 0)]):=by
 obtain⟨o,h,b,rfl,W⟩:=aCr s X;have:b=ob 83 [.r s] 0:=sx.2 (W.trans (ahQ s X).2.symm);rw[<-this];exact h
structure JN(s:RV)(a0 a1 a2 a3 a4 a5 a6 a7 a8 a9 a10 fW fY gO a14 a15:Int):Prop where
 n:NU s
 w:1<=a0/\a0<=500
 l:0<=a1/\a1<=500
 g:1<=a2/\a2<=4
 s:1<=a3/\a3<=16
 j:0<=a4/\a4<=16
 r:(1<=a5/\a5<=8)/\(1<=a6/\a6<=8)/\1<=a7/\a7<=8
 p:(1<=a8/\a8<=1048576)/\(1<=a9/\a9<=1048576)/\1<=a10/\a10<=1048576
 t:(1<=fW/\fW<=3)/\(1<=fY/\fY<=3)/\1<=gO/\gO<=3
 e:0<=a14/\a14<=1048576
 v:0<=a15/\a15<=1048576
def aCt(s:RV)(G:qA s)(X W a2 V Q a5 a6 a7 a8 P N fW fY gO M H:Int):∃o,TB.Ev 60 [.r s,.i X,.i W,.i a2,.i V,.i Q,.i a5,.i a6,.i a7,.i a8,.i P,.i N,.i fW,.i fY,.i gO,.i M,.i H] o/\∃e,o=.ret [.i e]/\Er (JN s X W a2 V Q a5 a6 a7 a8 P N fW fY gO M H) 250 e:=by
 refine dZ ?_;have B:=aCs s G;have F:=(ahQ s G).2;simp[agw,bh B];have D:¬JN s X W a2 V Q a5 a6 a7 a8 P N fW fY gO M H->Er (JN s X W a2 V Q a5 a6 a7 a8 P N fW fY gO M H) 250 250:=Er.no
 repeat'(refine ay (λ_=> ?_) (λ_=> ?_))
 all_goals first
  |exact D λp=>aZ (F.2 p.n) qF
  |(refine D λp=> ?_;obtain⟨A,z,y,x,w,v,u,q,m,l,k⟩:=p;omega)
  |(refine Er.ok ⟨F.1 qF, ?_, ?_, ?_, ?_, ?_, ?_, ?_, ?_, ?_, ?_⟩<;>omega)
def x75(s:RV)(G:qA s)(X W a2 V Q a5 a6 a7 a8 P N fW fY gO M H:Int):∃o,TB.Ev 49 [.r s,.i X,.i W,.i a2,.i V,.i Q,.i a5,.i a6,.i a7,.i a8,.i P,.i N,.i fW,.i fY,.i gO,.i M,.i H] o/\∃e,o=.ret [.i e]/\Er (JN s X W a2 V Q a5 a6 a7 a8 P N fW fY gO M H) 250 e:=by
 refine dZ ?_;have F:=(ahQ s G).2;simp[Rw,ahm s G];have D:¬JN s X W a2 V Q a5 a6 a7 a8 P N fW fY gO M H->Er (JN s X W a2 V Q a5 a6 a7 a8 P N fW fY gO M H) 250 250:=Er.no
 repeat'(refine ay (λ_=> ?_) (λ_=> ?_))
 all_goals first
  |exact D λp=>aZ (F.2 p.n) qF
  |(refine D λp=> ?_;obtain⟨B,A,z,y,x,w,v,u,q,m,l⟩:=p;omega)
  |(refine Er.ok ⟨F.1 qF, ?_, ?_, ?_, ?_, ?_, ?_, ?_, ?_, ?_, ?_⟩<;>omega)
def aCv(s:RV)(G:qA s)(X W a2 V Q a5 a6 a7 a8 P N fW fY gO M H:Int):Er (JN s X W a2 V Q a5 a6 a7 a8 P N fW fY gO M H) 250 (C0 s X W a2 V Q a5 a6 a7 a8 P N fW fY gO M H):=(uC (x75 s G X W a2 V Q a5 a6 a7 a8 P N fW fY gO M H)).2
def aCw(s:RV)(G:qA s)(X W a2 V Q a5 a6 a7 a8 P N fW fY gO M H:Int):TB.Ev 60 [.r s,.i X,.i W,.i a2,.i V,.i Q,.i a5,.i a6,.i a7,.i a8,.i P,.i N,.i fW,.i fY,.i gO,.i M,.i H] (.ret [.i (C0 s X W a2 V Q a5 a6 a7 a8 P N fW fY gO M H)]):=by
 obtain⟨o,h,e,rfl,F⟩:=aCt s G X W a2 V Q a5 a6 a7 a8 P N fW fY gO M H;rw[(aCv s G X W a2 V Q a5 a6 a7 a8 P N fW fY gO M H).eq F];exact h

def aCx(a b c d X W V Q:Int):TB.Ev 153 [.i a,.i b,.i c,.i d,.i X,.i W,.i V,.i Q] (.ret [.i (jn (bQ a b c d&&bQ X W V Q) (min a X)),.i (jn (bQ a b c d&&bQ X W V Q) (max b W)),.i (jn (bQ a b c d&&bQ X W V Q) (min c V)),.i (jn (bQ a b c d&&bQ X W V Q) (max d Q)),.i (if bQ a b c d&&bQ X W V Q then 0 else 150)]):=by
 refine fC ?_;simp[agC,bQ,jn]
 repeat'(refine ay (λ_=> ?_) (λ_=> ?_))
 all_goals grind
def aCy(a b c d x y:Int):TB.Ev 186 [.i a,.i b,.i c,.i d,.i x,.i y] (.ret [.i (jn (gN a b c d x y==0) (IntKind.i64.wrap (a+x))),.i (jn (gN a b c d x y==0) (IntKind.i64.wrap (b+x))),.i (jn (gN a b c d x y==0) (IntKind.i64.wrap (c+y))),.i (jn (gN a b c d x y==0) (IntKind.i64.wrap (d+y))),.i (gN a b c d x y)]):=by
 have V:∀p q r s:Int,(bQ p q r s=J)=((-1099511627776<=p/\p<=q/\q<=1099511627776)∧-1099511627776<=r/\r<=s/\s<=1099511627776):=λp q r s=>by
  simp only[bQ,aw,ce,eq_iff_iff];omega
 refine fC ?_;by_cases X:bQ a b c d=J;by_cases Q:(-2199023255552<=x/\x<=2199023255552)∧-2199023255552<=y/\y<=2199023255552;by_cases W:bQ (IntKind.i64.wrap (a+x)) (IntKind.i64.wrap (b+x)) (IntKind.i64.wrap (c+y)) (IntKind.i64.wrap (d+y))=J
 ·have e:gN a b c d x y=0:=by simp[gN,X,Q,W]
  rw[V] at X W;rw[e];simp[NF,jn,aH,X,Q,W]
  repeat'(refine ay (λ_=> ?_) (λ_=> ?_))
  all_goals first|omega|rfl|(exfalso;omega)
 ·have e:gN a b c d x y=2:=by simp[gN,X,Q,W]
  rw[V] at X W;rw[e];simp[NF,jn,aH,X,Q]
  repeat'(refine ay (λ_=> ?_) (λ_=> ?_))
  all_goals first|omega|rfl|(exfalso;omega)
 ·have e:gN a b c d x y=2:=by
   have:¬((((-2199023255552<=x/\x<=2199023255552)∧-2199023255552<=y)/\y<=2199023255552)):=aa;simp only[gN,X,ZS,jB,gw];rw[aL];simp only[iw,<-ajg,aw,ce];omega
  rw[V] at X;rw[e];simp[NF,jn,aH,X]
  repeat'(refine ay (λ_=> ?_) (λ_=> ?_))
  all_goals first|omega|rfl|(exfalso;omega)
 ·have e:gN a b c d x y=150:=by simp[gN,X]
  rw[V] at X;rw[e];simp[NF,jn,aH]
  repeat'(refine ay (λ_=> ?_) (λ_=> ?_))
  all_goals first|omega|rfl|(exfalso;omega)
@[simp] def aJ4 (a b c d X W V Q:Int):iY TB.Ev R 153 [.i a,.i b,.i c,.i d,.i X,.i W,.i V,.i Q] G t O L=iZ TB.Ev R (.ret [.i (jn (bQ a b c d&&bQ X W V Q) (min a X)),.i (jn (bQ a b c d&&bQ X W V Q) (max b W)),.i (jn (bQ a b c d&&bQ X W V Q) (min c V)),.i (jn (bQ a b c d&&bQ X W V Q) (max d Q)),.i (if bQ a b c d&&bQ X W V Q then 0 else 150)]) G t O L:=bh (aCx a b c d X W V Q)
@[simp] def aJ5 (a b c d x y:Int):iY TB.Ev R 186 [.i a,.i b,.i c,.i d,.i x,.i y] G t O L=iZ TB.Ev R (.ret [.i (jn (gN a b c d x y==0) (IntKind.i64.wrap (a+x))),.i (jn (gN a b c d x y==0) (IntKind.i64.wrap (b+x))),.i (jn (gN a b c d x y==0) (IntKind.i64.wrap (c+y))),.i (jn (gN a b c d x y==0) (IntKind.i64.wrap (d+y))),.i (gN a b c d x y)]) G t O L:=bh (aCy a b c d x y)

def ahR{n:Nat}{X y:aF}:∀{m:ar},y∈gq n X m->y=X\/y∈m
 |[],h=>by simp[gq] at h;exact .inl h
 |r::W,h=>by
  simp only[gq] at h;split at h;rcases dV.1 h with h|h;exact .inl h;exact .inr (by simp[h]);rcases dV.1 h with h|h;exact .inr (by simp[h]);rcases ahR h with h|h;exact .inl h;exact .inr (by simp[h])
def as8{X r:aF}(W:Y X=4)(V:Y r=4):kZ 3 ((X.take 3).map λc=>bn c.val) r=J<->∀c∈[0,1,2],aM c r=aM c X:=by
 match X,W,r,V with
 |[a,b,c,d],_,[R,Q,P,O],_=>simp[kZ,aM]
structure A8(m:ar):Prop where
 keys:asP [0,1,2] m
 four:∀x∈m,Y x=4
def A8.nil:A8 []:=⟨xR,av⟩
def A8.ins{O:aF}(R:Y O=4):∀{m:ar},A8 m->A8 (gq 3 O m)
 |[],_=>⟨by simp[gq,asP],by simp[gq,R]⟩
 |r::M,h=>by
  have g:=jC.1 h.keys;have L:A8 M:=⟨g.2,λx X=>h.four x (by simp[X])⟩;have H:=A8.ins R L;have N:=as8 R (h.four r av);refine⟨?_,λx X=> ?_⟩;simp only[gq];split;rename_i W;have W:=N.1 W;refine jC.2 ⟨λy V=> ?_,g.2⟩;obtain⟨c,Q,P⟩:=g.1 y V;exact⟨c,Q,by rw[<-W c Q];exact P⟩;rename_i W;refine jC.2 ⟨λy V=> ?_,H.keys⟩;rcases ahR V with rfl|V;have:¬∀c∈[0,1,2],aM c r=aM c y:=λG=>W (N.2 G)
  simp only[Classical.not_forall] at this;obtain⟨c,Q,P⟩:=this;exact⟨c,Q,P⟩;exact g.1 y V;rcases ahR X with rfl|X;exact R;exact h.four x X
variable[Inhabited dh]
@[simp] def aJ6 (v:RV) (X W V Q P N M H F D B A z y x w:Int):iY TB.Ev R 49 [.r (cg .str v),.i X,.i W,.i V,.i Q,.i P,.i N,.i M,.i H,.i F,.i D,.i B,.i A,.i z,.i y,.i x,.i w] G t O L=iZ TB.Ev R (.ret [.i (C0 (cg .str v) X W V Q P N M H F D B A z y x w)]) G t O L:=c75 _ (YF v) X W V Q P N M H F D B A z y x w
def NV(X W V Q P N M H G F D B A:Int)(s:RV)(z y x w v u q p o n m l j h g f:Int)(k:Nat):Int:=oi 81 [.i X,.i W,.i V,.i Q,.i P,.i N,.i M,.i H,.i G,.i F,.i D,.i B,.i A,.r s,.i z,.i y,.i x,.i w,.i v,.i u,.i q,.i p,.i o,.i n,.i m,.i l,.i j,.i h,.i g,.i f] k
@[simp] def c27 (X W V Q P N M H F D B A z:Int) (v:RV) (y x w u s q p o n m l k j h g f:Int):iY TB.Ev R 81 [.i X,.i W,.i V,.i Q,.i P,.i N,.i M,.i H,.i F,.i D,.i B,.i A,.i z,.r (cg .str v),.i y,.i x,.i w,.i u,.i s,.i q,.i p,.i o,.i n,.i m,.i l,.i k,.i j,.i h,.i g,.i f] G t O L=iZ TB.Ev R (.ret [.i (NV X W V Q P N M H F D B A z (cg .str v) y x w u s q p o n m l k j h g f 0),.i (NV X W V Q P N M H F D B A z (cg .str v) y x w u s q p o n m l k j h g f 1),.i (NV X W V Q P N M H F D B A z (cg .str v) y x w u s q p o n m l k j h g f 2),.i (NV X W V Q P N M H F D B A z (cg .str v) y x w u s q p o n m l k j h g f 3),.i (NV X W V Q P N M H F D B A z (cg .str v) y x w u s q p o n m l k j h g f 4)]) G t O L:=bh (zt (kI 5) (t27 X W V Q P N M H F D B A z _ (YF v) y x w u s q p o n m l k j h g f))
def NW(X:RV)(i:Nat):Int:=C0 (cg .str (aQ X.ac (i:Int) 0)) (ci X i 1) (ci X i 2) (ci X i 3) (ci X i 4) (ci X i 5) (ci X i 6) (ci X i 7) (ci X i 8) (ci X i 9) (ci X i 10) (ci X i 11) (ci X i 12) (ci X i 13) (ci X i 14) (ci X i 15) (ci X i 16)
def YW(v:RV)(i:Nat):Int:=CZ (ci v i 0) (ci v i 1) (ci v i 2) (ci v i 3) (ci v i 4) (ci v i 5) (ci v i 6) (ci v i 7) (ci v i 8) (ci v i 9) (ci v i 10) (ci v i 11) (ci v i 12)
def nC(v X:RV)(i k:Nat):Int:=NV (ci v i 0) (ci v i 1) (ci v i 2) (ci v i 3) (ci v i 4) (ci v i 5) (ci v i 6) (ci v i 7) (ci v i 8) (ci v i 9) (ci v i 10) (ci v i 11) (ci v i 12) (cg .str (aQ X.ac (i:Int) 0)) (ci X i 1) (ci X i 2) (ci X i 3) (ci X i 4) (ci X i 5) (ci X i 6) (ci X i 7) (ci X i 8) (ci X i 9) (ci X i 10) (ci X i 11) (ci X i 12) (ci X i 13) (ci X i 14) (ci X i 15) (ci X i 16) k
def m85(ak:Int)(X:RV)(i:Nat):Int:=oi 53 (wk++[.i i,.i ak,.r (cr 134 X i)]) 0
def m89(ak:Int)(X W:RV)(i k:Nat):Int:=oi 79 (wk++[.i i,.i ak,.i (ci X i 0),.i (ci X i 1),.i (ci X i 2),.i (ci X i 3),.i (ci X i 4),.i (ci X i 5),.i (ci X i 6),.i (ci X i 7),.i (ci X i 8),.i (ci X i 9),.i (ci X i 10),.i (ci X i 11),.i (ci X i 12),.r (cr 134 W i)]) k
def m90(ak:Int)(W X V:RV)(i k:Nat):Int:=oi 80 (wk++[.i i,.i ak,.i (ci W i 0),.i (ci W i 1),.i (ci W i 2),.i (ci W i 3),.i (ci W i 4),.i (ci W i 5),.i (ci W i 6),.i (ci W i 7),.i (ci W i 8),.i (ci W i 9),.i (ci W i 10),.i (ci W i 11),.i (ci W i 12),.r (cg .str (aQ X.ac (i:Int) 0)),.i (ci X i 1),.i (ci X i 2),.i (ci X i 3),.i (ci X i 4),.i (ci X i 5),.i (ci X i 6),.i (ci X i 7),.i (ci X i 8),.i (ci X i 9),.i (ci X i 10),.i (ci X i 11),.i (ci X i 12),.i (ci X i 13),.i (ci X i 14),.i (ci X i 15),.i (ci X i 16),.r (cr 134 V i)]) k
def gS(ak:Int)(W X V:RV)(i k:Nat):Int:=if cb W i 0 then m89 ak X V i k else ci X i k
def gB(ak:Int)(V X W Q:RV)(i k:Nat):Int:=if cb V i 0 then m90 ak X W Q i k else nC X W i k
structure aJ8(aK wg bd mv bf af re bx:RV):Prop where
 wg:Sl wg
 bd:Sl bd
 mv:Sl mv
 bf:Sl bf
 af:Sl af
 rsl:Sl re
 bx:Sl bx
 jM:∀i<Y re.ac,Sl (cr 134 re i)/\(cr 134 re i).ac.length<=100
structure ata(ak:Int)(wg bd mv bf af re bx:RV):Prop where
 wk:lB=0
 nw:Y wg.ac<=8
 br:0<=ak/\ak<fy
 laf:Y af.ac=Y aK.ac
 lbx:Y bx.ac=Y aK.ac
 lbd:Y bd.ac=Y aK.ac
 YX:Y mv.ac=Y aK.ac
 YY:Y bf.ac=Y aK.ac
 lre:Y re.ac=Y aK.ac
 iF:∀i<Y aK.ac,NW bd i=0/\YW bf i=0/\(if cb mv i 0 then m85 ak re i=0 else(cr 134 re i).ac=[])
 box:∀i<Y aK.ac,vB bx i=J/\YW af i=0
 pth:∀g<Y wg.ac,rk (ci wg g) ak 4=0
def JO(ak:Int)(Q X W V:RV)(i:Nat):Prop:=if cb Q i 0 then m89 ak X V i 13=0/\m90 ak X W V i 4=0 else nC X W i 4=0
def Fst(v:RV)(id:Int)(m:Nat):Prop:=m<Y v.ac/\ci v m 0=id/\∀X<m,ci v X 0≠id
def m78(X:RV)(id:Int)(i:Nat):bv:=out 196 (wk++[.i id,.r (cg .str (aQ X.ac (i:Int) 0)),.i (ci X i 1),.i (ci X i 2),.i (ci X i 3),.i (ci X i 4),.i (ci X i 5),.i (ci X i 6),.i (ci X i 7),.i (ci X i 8),.i (ci X i 9),.i (ci X i 10),.i (ci X i 11),.i (ci X i 12),.i (ci X i 13),.i (ci X i 14),.i (ci X i 15),.i (ci X i 16)])
def aCz(ak:Int)(X W V Q P:RV)(c:Nat->Int):Bool:=ob 198 (wk++[.i ak,.r X,.r W,.r V,.r Q,.r P]++i7 c) 0
def aCA(ak:Int)(W V Q P X N:RV)(i k:Nat):Prop:=∀m,Fst (cr 134 X i) (dm (dW i ak) k 0) m->
 xi (m78 W (dm (dW i ak) k 0) i) 1=0/\
 ob 197 [.r (xr (m78 W (dm (dW i ak) k 0) i) 0),.i (ci (cr 134 X i) m 0),.i (ci (cr 134 X i) m 1),.i (ci (cr 134 X i) m 2),.b (cb (cr 134 X i) m 3)] 0=J/\
 (dm (dW i ak) k 4=7\/dm (dW i ak) k 4=8->cb (cr 134 X i) m 3=J\/aCz ak V Q P X N (dm (dW i ak) k)=J)
def ahX(ak:Int)(X W V:RV)(i:Nat):bv:=out 199 (wk++[.i i,.i ak,.i (ci X i 0),.i (ci X i 1),.i (ci X i 2),.i (ci X i 3),.i (ci X i 4),.i (ci X i 5),.i (ci X i 6),.i (ci X i 7),.i (ci X i 8),.i (ci X i 9),.i (ci X i 10),.i (ci X i 11),.i (ci X i 12),.r W,.r (cr 134 V i)])
structure aCB(ak:Int)(bd mv bf af re bx:RV)(i:Nat):Prop where
 gX:∀j<13,ci af i j=gS ak mv bf re i j
 inb:bQ (gB ak mv bf bd re i 0) (gB ak mv bf bd re i 1) (gB ak mv bf bd re i 2) (gB ak mv bf bd re i 3)=J/\vB bx i=J
 ins:ase (gB ak mv bf bd re i 0) (gB ak mv bf bd re i 1) (gB ak mv bf bd re i 2) (gB ak mv bf bd re i 3) (ci bx i 0) (ci bx i 1) (ci bx i 2) (ci bx i 3)=J
 GX:cb mv i 0=J->(∀k<(dW i ak).length,aCA ak bd mv bf af re bx i k)/\xi (ahX ak bf bd re i) 1=0/\(xr (ahX ak bf bd re i) 0).ac=[]
def JP(ak:Int):bv:=out 90 (wk++[.i ak])
def exR(v X:RV):Nat->ar
 |0=>[]
 |i+1=>exR v X i++[[.mk (.int I (nC v X i 0)) [],.mk (.int I (nC v X i 1)) [],.mk (.int I (nC v X i 2)) [],.mk (.int I (nC v X i 3)) []]]
def stB(v X:RV)(i k:Nat):Bool:=bQ (nC v X i 0) (nC v X i 1) (nC v X i 2) (nC v X i 3)&&bQ (nC v X k 0) (nC v X k 1) (nC v X k 2) (nC v X k 3)&&JG (nC v X i 0) (nC v X i 1) (nC v X i 2) (nC v X i 3) (nC v X k 0) (nC v X k 1) (nC v X k 2) (nC v X k 3)
structure aKc(ak:Int)(wg bd mv bf af re bx:RV):Prop where
 ex:ata ak wg bd mv bf af re bx
 bld:∀i<Y aK.ac,JO ak mv bf bd re i
 ro:∀i<Y aK.ac,aCB ak bd mv bf af re bx i
 prs:xi (JP ak) 1=0
 st1:∀i<Y aK.ac,nC bf bd i 4=0
 st2:∀i<Y aK.ac,nC af bd i 4=0
 cl:aBk wg ak bx (aI (exR bf bd (Y aK.ac))) (xr (JP ak) 0)
 RX:∀p<(xr (JP ak) 0).ac.length,stB bf bd (ci (xr (JP ak) 0) p 0).toNat (ci (xr (JP ak) 0) p 1).toNat=J/\stB af bd (ci (xr (JP ak) 0) p 0).toNat (ci (xr (JP ak) 0) p 1).toNat=J
def JQ{X:aF}{j:Nat}(h:Y Q=W):aQ (Q++[X]) (W:Int) j=X.getD j default:=by
 subst h;simp[aQ]
def JR{w:ar}{j:Nat}(h:W<Y Q):aQ (Q++w) (W:Int) j=aQ Q (W:Int) j:=by
 simp[aQ,dN h]
end
def T.at:aq->T->T
 |[],t=>t
 |0::p,.aV _ t _=>t.at p
 |_::p,.aV _ _ f=>f.at p
 |_::p,.bi _ t=>t.at p
 |_::p,.call _ _ _ _ _ _ t=>t.at p
 |_::p,.loop _ _ _ t=>t.at p
 |_::p,.new _ _ _ _ t=>t.at p
 |_::p,.ac _ _ _ t=>t.at p
 |0::p,.gQ _ _ t _=>t.at p
 |_::p,.gQ _ _ _ f=>f.at p
 |0::p,.pick _ _ _ t _=>t.at p
 |_::p,.pick _ _ _ _ f=>f.at p
 |_::p,.eL _ _ _ _ _ _ _ t=>t.at p
 |_,t=>t
section
variable{R:bq->Prop}{G:aU}{t:T}{O:ai}{L:db}
variable[Inhabited dh]
structure Bx(l0 h0 l1 h1:Int)(L H L' H':Int):Prop where
 a:L<=l0
 b:h0<=H
 c:L'<=l1
 d:h1<=H'
 e:-1099511627776<=L
 f:H<=1099511627776
 g:-1099511627776<=L'
 h:H'<=1099511627776
end
section
variable{R:bq->Prop}{G:aU}{t:T}{O:ai}{L:db}
def aCD{b c d:Int}:bQ N b c d=J<->(-1099511627776<=N/\N<=b/\b<=1099511627776)∧-1099511627776<=c/\c<=d/\d<=1099511627776:=by
 simp only[bQ,aw,ce];omega
end
section
variable[Inhabited dh]
end
section
variable{R:bq->Prop}{G:aU}{t:T}{O:ai}{L:db}
variable[Inhabited dh]
def bo(X:RV)(k:Nat):Int:=C0 (cg .str (aQ X.ac (k:Int) 0)) (ci X k 1) (ci X k 2) (ci X k 3) (ci X k 4) (ci X k 5) (ci X k 6) (ci X k 7) (ci X k 8) (ci X k 9) (ci X k 10) (ci X k 11) (ci X k 12) (ci X k 13) (ci X k 14) (ci X k 15) (ci X k 16)
structure RgP(ak:Int)(bd mv bf re:RV):Prop where
 b:Y bd.ac=Y aK.ac/\∀k<Y bd.ac,bo bd k=0
 m:Y mv.ac=Y aK.ac
 f:Y bf.ac=Y aK.ac
 r:Y re.ac=Y aK.ac
 k:∀k<Y aK.ac,rS (ci bf k)/\(cb mv k 0=E->(cr 134 re k).ac.length=0)/\(cb mv k 0=J->NS k ak (cr 134 re k)=0)
end
section
variable[Inhabited dh]
def mvB(c:Nat->Int)(j:Int):Bool:=decide ((c 4=1/\j=c 5-1)\/(c 4=2/\(j=0\/j=1))\/(c 4=3/\j=c 5-1)\/(c 4=4/\j=c 5+1)\/(c 4=5/\j=4)\/(c 4=7/\(j=2\/j=3))\/(c 4=8/\(j=0\/j=1))\/(c 4=9/\j=c 5+1))

def ptV(n d f l:Int)(j:Nat):Int:=aH .mul I n (oi 115 [.i (oi 114 [.i d,.i f] 0),.i l] j)

end
section
variable{R:bq->Prop}{G:aU}{t:T}{O:ai}{L:db}
variable[Inhabited dh]
def fgF(v:ar):Nat->Nat->Bool
 |0,_=>E
 |i+1,0=>fgF v i 0||(!gA (aQ v i 17).val&&decide (dm v i 4=6))
 |i+1,j+1=>fgF v i (j+1)||(!gA (aQ v i 17).val&&mvB (dm v i) j)
def xK(F:Nat->Bool)(X:Nat->Int)(g:Int)(x:Nat->Int):Nat->Nat->Int
 |0,j=>if j%2=0 then aH .sub I 0 (aH .mul I 841 g) else aH .mul I 841 g
 |n+1,j=>if F (1+n)=E/\x (4+2*n)=0 then xK F X g x n j
  else if F (1+n)=J\/F 0=J then(if j%2=0 then min (xK F X g x n j) (aH .sub I 0 (aH .mul I 841 (X n))) else max (xK F X g x n j) (aH .mul I 841 (X n)))
  else if j%2=0 then min (xK F X g x n j) (ptV (X n) (x (3+2*n)) (x 2) (x (4+2*n)) (j/2)) else max (xK F X g x n j) (ptV (X n) (x (3+2*n)) (x 2) (x (4+2*n)) (j/2))
def aCF{F W:Nat->Bool}(h:∀k<6,F k=W k):∀n≤5,∀j,xK F X N V n j=xK W X N V n j:=by
 intro n;induction n with
 |zero=>intro _ j;rfl
 |succ n Q=>
  intro P j;simp only[xK,Q aa,h (1+n) aa,h 0 aa]
structure FgQ(f0 f1 f2 f3 g:Int)(rc:Nat->Int)(F:Nat->Bool)(x:Nat->Int)(n:Nat):Prop where
 fg:Fg f0 f1 f2 f3
 e0:f0=xK F rc g x n 0
 e1:f1=xK F rc g x n 1
 e2:f2=xK F rc g x n 2
 e3:f3=xK F rc g x n 3
def FgQ.A9{W Q P g:Int}{F M:Nat->Bool}(h:FgQ N W Q P g X F V 5)(e:∀k<6,F k=M k):FgQ N W Q P g X M V 5:=by
 refine⟨h.fg, ?_, ?_, ?_, ?_⟩<;>rw[<-aCF e 5 aa];exact h.e0;exact h.e1;exact h.e2;exact h.e3


def YZ(X:RV)(y:Nat->Int):Int:=C0 X (y 1) (y 2) (y 3) (y 4) (y 5) (y 6) (y 7) (y 8) (y 9) (y 10) (y 11) (y 12) (y 13) (y 14) (y 15) (y 16)
def NX(f:Nat->Int)(x:Nat->Int)(v:ar):Nat->Nat->Int
 |0,j=>f j+29*x (j/2)
 |n+1,j=>if j%2=0 then min (NX f x v n j) (f j+29*cL x v (n+1) (j/2)) else max (NX f x v n j) (f j+29*cL x v (n+1) (j/2))
def Sa(e:Int):bv:=[.i 0,.i 0,.i 0,.i 0,.i e]
def Y0(y:Nat->Int)(x:Nat->Int)(v:ar):Nat->Int:=xK (fgF v (Y v)) (rch (y 6) (y 7) (y 8)) (y 3) x 5
structure SwE(aJ ak:Int)(x:Nat->Int)(nm:RV)(y:Nat->Int)(r:RV)(ys:bv):Prop where
 c:gm aJ ak≠0->ys=Sa (gm aJ ak)
 p:gm aJ ak=0->¬rS x->ys=Sa 260
 b:gm aJ ak=0->rS x->YZ nm y≠0->ys=Sa (YZ nm y)
 m:gm aJ ak=0->rS x->YZ nm y=0->¬vQ (dW aJ ak) r->ys=Sa 270
 w:gm aJ ak=0->rS x->YZ nm y=0->vQ (dW aJ ak) r->∀v,vP (dW aJ ak) r (dW aJ ak).length v->(¬R9 x v (dW aJ ak).length->ys=Sa 2)/\(R9 x v (dW aJ ak).length->ys=[.i (NX (Y0 y x v) x v (Y v) 0),.i (NX (Y0 y x v) x v (Y v) 1),.i (NX (Y0 y x v) x v (Y v) 2),.i (NX (Y0 y x v) x v (Y v) 3),.i 0])

end
section
variable[Inhabited dh]
section
def atf{X:Type}[DecidableEq X]:∀{a b:List X},a.Nodup->(∀x∈a,x∈b)->Y a<=Y b
 |[],_,_,_=>Hx _
 |x::a,b,Q,W=>by
  have g:=SY.1 Q;have V:x∈b:=W x av;have:=atf (a:=a) (b:=b.erase x) g.2 λy R=>(aJc (λe=>g.1 (by rw[<-e];exact R))).2 (W y (by simp[R]))
  rw[aIY V] at this;have P:0<Y b:=aI5 V;simp only[kV];omega
structure Pk(n:Nat)(js:aq):Prop where
 nd:js.Nodup
 lt:∀j∈js,j<n
def Pk.nil(n:Nat):Pk n []:=⟨List.nodup_nil,av⟩
def Pk.add{j:Nat}(h:Pk W M)(R:j∉M)(P:j<W):Pk W (M++[j]):=⟨xS.2 ⟨h.nd,av,by intro a Q b V e;simp at V;subst V;subst e;exact R Q⟩,by
 intro k X;rcases eW.1 X with X|X;exact h.lt k X;simp at X;omega⟩
def Pk.len(h:Pk W M):Y M<=W:=by
 have:=atf (b:=e8 W) h.nd λj X=>uO.2 (h.lt j X)
 simpa using this
end
section
variable{L:db}
end
end
