/- Part 6 of the proof. -/
import Derived.Test.YtejplpmpldcmlaaGreatDoorQ5
set_option linter.all false
set_option maxRecDepth 100000
set_option maxHeartbeats 100000000
open Bool renaming and_eq_true->aw,not_eq_true'->ik,false_eq_true->jp,eq_iff_iff->uD,and_self->v8,not_true->Zy,not_eq_true->aiV,true->J,false->E
open Nat renaming le_refl->b9
open List renaming getElem?_append_left->dH,mem_cons->dP,cons_append->ez,nil_append->eW,pairwise_cons->jq,getElem_mem->ql,length_drop->C1,length_take->EY,take_append_drop->J0,pairwise_iff_getElem->NZ,length_pos_iff->N2,getElem_of_mem->Zm,length->Y
open List.Pairwise renaming nil->xE
open Go.IntKind renaming i64->I
namespace Go.Proofs.YtejplpmpldcmlaaGreatDoor.Y
open Go.RowKit
noncomputable section
variable{M:aC}{Q:au}{W:Nat}{N H:Int}{X V:Nat→Int}{P:RV}
def asI{lt:aC->aC->Bool}(l:au)(x:aC):bX lt (l++[x])=eC lt x (bX lt l):=by simp[bX]
section
variable{lt:aC->aC->Bool}{p:aC->Prop}
def aBC{A B:au}{x:aC}(X:∀y∈A,lt x y=E)(W:∀y∈B,lt x y=J):eC lt x (A++B)=A++x::B:=by
 induction A with
 |nil=>
  cases B with
  |nil=>rfl
  |cons y r=>simp[eC,W y av]
 |cons y r V=>
  simp only[ez,eC];rw[X y av,V λz Q=>X z (by simp[Q])];rfl
def asJ(h:lM lt p)(H:p M)(P:∀z∈Q,p z)(G:gK lt Q)(v:W<=Y Q)(F:∀(j:Nat)(X:j<Y Q),W<=j->lt M Q[j]=J)(D:∀X:W-1<Y Q,0<W->lt M Q[W-1]=E):eC lt M Q=Q.take W++M::Q.drop W:=by
 have:=aBC (lt:=lt) (x:=M) (A:=Q.take W) (B:=Q.drop W) (λy V=> ?_) (λy V=> ?_)
 rwa [J0] at this
 obtain⟨j,X,rfl⟩:=Zm V;simp only[EY] at X;simp only[List.getElem_take];have N:=D aa aa;by_cases e:j=W-1;subst e;exact N;have w:=NZ.1 G j (W-1) aa aa aa;exact h.nt _ _ _ H (P _ (ql _)) (P _ (ql _)) N w;obtain⟨j,X,rfl⟩:=Zm V;simp only[C1] at X;simp only[List.getElem_drop];exact F _ aa aa
end
section
variable{R:bo->Prop}{G:aS}{t:T}{O:ai}{L:de}
def aBD(a b:Nat->Int):TB.Ev 298 (iN a++iN b) (.ret [.b (decide (ou (a 10) (a 11) (b 10) (b 11)<0)||decide (ou (a 10) (a 11) (b 10) (b 11)=0)&&decide (a 0<b 0))]):=by
 refine fF ?_;simp[af7,iN]
 grind
def aBE{c d:Int}(h:gh N H=J)(X:gh c d=J):(ou N H c d<0<->N*d<c*H)/\(ou N H c d=0<->N*d=c*H):=by
 have g:=Yz h;have W:=Yz X;have V:=Yx (a:=N) (b:=d) (x:=1073741824) (y:=1073741824) aa aa;have Q:=Yx (a:=c) (b:=H) (x:=1073741824) (y:=1073741824) aa aa;simp only[ou,h,X,v8,cN,s7];rw[cJ aa aa,cJ aa aa];generalize N*d=u at*;generalize c*H=v at*;constructor;split;simp;omega;split<;>simp<;>omega;split;simp;omega;split<;>simp<;>omega
variable[Inhabited db]
def aBF(h:fp)(V:JG)(aH ak:Int):TB.Ev 226 (wk++[.i aH,.i ak]) (.ret [.r (aG (bX (bp.ratio 10 11).lt (kF aH ak (Y bu.ac))))]):=by
 refine fF ?_;simp[agb,wk];refine cj (Y bu.ac) (λi o=>o=[.r (aG (bX (bp.ratio 10 11).lt (kF aH ak i)))]) ⟨0,rfl,aa,rfl⟩ ?_;rintro i _ W rfl;have n:=ND (aH:=aH) (ak:=ak) i;have af:=V.ns;simp[h.sg.len];refine ay (λW=>⟨W, ?_⟩) (λW=> ?_)
 case refine_2=>
  have f:i=Y bu.ac:=aa;rw[f]
 refine ay (λM=>⟨W, ?_⟩) (λM=> ?_)
 case refine_2=>
  rw[bU W h.sg.sm];simp[kF,ci,M]
 refine ay (λG=>⟨W, ?_⟩) (λG=> ?_)
 case refine_2=>
  rw[bU W h.sg.sm];simp[kF,ci,M,G]
 have d:(bp.ratio 10 11).ok (qe (ci bu i))=true:=by
  simp only[bp.ok];rw[vK _ _ aa,vK _ _ aa];exact(V.GJ i W).from_
 have A:∀z∈bX (bp.ratio 10 11).lt (kF aH ak i),∃k<i,z=qe (ci bu k):=λz P=>by
  obtain⟨k,y,c,-⟩:=(RO).1 ((CD _).mem_iff.1 P);exact⟨k,y,c⟩
 have x:∀z∈bX (bp.ratio 10 11).lt (kF aH ak i),(bp.ratio 10 11).ok z=true:=λz P=>by
  obtain⟨k,y,rfl⟩:=A z P;simp only[bp.ok];rw[vK _ _ aa,vK _ _ aa];exact(V.GJ k aa).from_
 have b:=DR (P4 10 11) (l:=kF aH ak i) (λz P=>x z ((CD _).mem_iff.2 P));have ag:(bX (bp.ratio 10 11).lt (kF aH ak i)).length<=i:=by rw[mQ];exact n
 have a:bX (bp.ratio 10 11).lt (kF aH ak (i+1))=eC (bp.ratio 10 11).lt (qe (ci bu i)) (bX (bp.ratio 10 11).lt (kF aH ak i)):=by
  have:kF aH ak (i+1)=kF aH ak i++[qe (ci bu i)]:=by simp only[kF];rw[aJ ⟨M,G⟩]
  rw[this,asI]
 generalize bX (bp.ratio 10 11).lt (kF aH ak i)=l at*;refine vJ (λF=>∃k:Nat,F=[.i k]/\k<=Y l/\∀(j:Nat)(Q:j<Y l),k<=j->(bp.ratio 10 11).lt (qe (ci bu i)) l[j]=J) (λF=>(xi F 0).toNat) ⟨Y l,rfl,aa,λj Q e=>aa⟩ ?_;rintro _ ⟨k,rfl,N,w⟩;have v:(∀Q:k-1<Y l,0<k->(bp.ratio 10 11).lt (qe (ci bu i)) l[k-1]=E)->bX (bp.ratio 10 11).lt (kF aH ak (i+1))=l.take k++qe (ci bu i)::l.drop k:=λe=>by rw[a];exact asJ (P4 10 11) d x b N w e
 simp[xi];refine ay (λH=> ?_) (λH=> ?_);rw[NF H aa];refine⟨aa, ?_⟩;obtain⟨m,m1,u⟩:=A l[k-1] (ql aa);have X:∀j<14,bn (aU l ((k-1:Nat):Int) j).val=ci bu m j:=λj Q=>by
  have:bn (aU l ((k-1:Nat):Int) j).val=aI j l[k-1]:=by simp[aU,aI,show k-1<Y l from aa]
  rw[this,u,vK _ _ Q]
 rw[X 0 aa,X 1 aa,X 2 aa,X 3 aa,X 4 aa,X 5 aa,X 6 aa,X 7 aa,X 8 aa,X 9 aa,X 10 aa,X 11 aa,X 12 aa,X 13 aa];have s:=aBD (ci bu i) (ci bu m);simp only[iN,ci,ez,eW] at s;have D:=aBE (V.GJ i W).from_ (V.GJ m aa).from_;have f3:=V.ids m i m1 W;have B:(bp.ratio 10 11).lt (qe (ci bu i)) l[k-1]=decide (ci bu i 10*ci bu m 11<ci bu m 10*ci bu i 11):=by
  simp only[bp.lt,u];rw[vK _ _ aa,vK _ _ aa,vK _ _ aa,vK _ _ aa]
 simp only[ci] at D f3 B⊢;rw[bi s];simp;refine ay (λg=> ?_) (λg=> ?_);rw[NF H aa,vH];refine⟨⟨k-1,rfl,aa,λj Q e=> ?_⟩,dh⟩;by_cases ej:j=k-1;subst ej;rw[B];rcases g with g|g;exact decide_eq_true (D.1.1 (uE g));have:=uE g.2;omega;exact w j Q aa;have e:=v (λ_ _=>by
  rw[B];exact decide_eq_false λq=>g (.inl (decide_eq_true (D.1.2 q))))
 refine⟨N,aa,N,aa, ?_⟩;rw[bU W h.sg.sm,e];rfl;have e:=v (λ_ q=>aZ q H);refine⟨N,aa,N,aa, ?_⟩;rw[bU W h.sg.sm,e];rfl
def aBG(h:fp)(aH ak:Int):TB.Ev 190 (wk++[.i aH,.i ak]) (.ret [.r (aG (dR aH ak)),.i (fW aH ak)]):=by
 refine fF ?_;have P:=r40 h;have M:=(xt s8 h).2;simp only[wk] at P;simp[agc,wk,h.rl.len,bi P];refine ay (λX=> ?_) (λX=> ?_)
 case refine_2=>simp[dR,fW,X]
 have V:=M X;have H:=V.nr;have G:=V.br;rw[show aF .sub I (Y aL.ac:Int) 1=Y aL.ac-1 by simp only[aF];rw[cJ aa aa],show aF .sub I fo 1=fo-1 by simp only[aF];rw[cJ aa aa]];have N:=aBF h V aH ak;simp only[wk,ez,eW] at N;have W:¬(0<=aH/\aH<=Y aL.ac-1/\0<=ak/\ak<=fo-1)->aG []=aG (dR aH ak)/\1=fW aH ak:=λH=>by
  have Q:fW aH ak=1:=by
   simp only[fW,X,cN];rw[aQ];simp only[aw,RG];omega
  exact⟨by rw[dR,aQ aa],Q.symm⟩
 refine ay (λa=>ay (λb=>W aa) (λb=>ay (λc=>ay (λd=>W aa) (λd=> ?_)) (λc=>W aa))) (λa=>W aa);have Q:fW aH ak=0:=by
  simp only[fW,X,cN];rw[aJ];simp only[aw,RG];omega
 rw[bi N];simp[dR,Q]
end
def CJ(c:Nat->Int)(x y z:Int)(b:Bool):Prop:=x=c 0/\(if b=J then y=0/\z=0 else if c 4=3\/c 4=4\/c 4=5 then(0<=y/\y<=8)/\1<=z/\z<=3 else if c 4=9 then y=0/\1<=z/\z<=3 else y=0/\z=0)
def EL(c:Nat->Int)(r:RV)(k:Nat):Prop:=CJ c (ci r k 0) (ci r k 1) (ci r k 2) (cb r k 3)
abbrev lE(l:au):au:=bX (bp.lex [0] E).lt l
def vM(l:au)(r:RV):Prop:=Y l=Y r.ac/\∀k<Y l,EL (dj (lE l) k) r k
section
variable{R:bo->Prop}{G:aS}{t:T}{O:ai}{L:de}
def aBH(c:Nat->Int)(x y z:Int)(b:Bool):∃o,TB.Ev 134 (iN c++[.i x,.i y,.i z,.b b]) o/\∃e,o=.ret [.b e]/\(e=J<->CJ c x y z b):=by
 refine dV ?_;simp[X7,iN,CJ];cases b
 all_goals
  simp
  repeat'(refine ay (λ_=> ?_) (λ_=> ?_))
  all_goals grind [jc]
def aBI(c:Nat->Int)(j:Nat)(h:j<14):aI j (qe c)=c j:=by
 match j,h with
 |0,_|1,_|2,_|3,_|4,_|5,_|6,_|7,_|8,_|9,_|10,_|11,_|12,_|13,_=>rfl
structure vN(l:au):Prop where
 n:Y l<=4096
 k:yW l
 m:∀x∈l,∃c,x=qe c
def vN.rw{l:au}(h:vN l){i:Nat}(X:i<Y l):qe (dj l i)=l[i]:=by
 obtain⟨c,W⟩:=h.m l[i] (ql X);have:∀j<14,dj l i j=c j:=λj V=>by
  have:dj l i j=aI j l[i]:=by simp[dj,aU,aI,X]
  rw[this,W,aBI _ _ V]
 rw[W];simp only[qe];rw[this 0 aa,this 1 aa,this 2 aa,this 3 aa,this 4 aa,this 5 aa,this 6 aa,this 7 aa,this 8 aa,this 9 aa,this 10 aa,this 11 aa,this 12 aa,this 13 aa]
def CL{l:au}(X:W<Y l)(j:Nat):dj l W j=aI j l[W]:=by simp[dj,aU,aI,X]
def vN.by{l:au}(h:vN l):vN (lE l):=⟨by rw[mQ];exact h.n,h.k.perm (CD _),λx X=>h.m x ((CD _).mem_iff.1 X)⟩
def vN.to{l:au}{i:Nat}(X:i<Y l):∃k<Y l,∀j,dj (lE l) k j=dj l i j:=by
 have V:l[i]∈lE l:=(CD _).mem_iff.2 (ql X);obtain⟨k,W,e⟩:=Zm V;have Q:k<Y l:=by rwa [mQ] at W
 exact⟨k,Q,λj=>by rw[CL W,CL X,e]⟩
def vN.from(N:W<Y Q):∃i<Y Q,∀j,dj (lE Q) W j=dj Q i j:=by
 have X:W<(lE Q).length:=by rwa [mQ]
 have P:(lE Q)[W]∈Q:=(CD _).mem_iff.1 (ql X);obtain⟨i,V,e⟩:=Zm P;exact⟨i,V,λj=>by rw[CL X,CL V,e]⟩
def vN.inj{l:au}(h:vN l){a b:Nat}(X:a<Y l)(W:b<Y l)(e:dj l a 0=dj l b 0):a=b:=by
 rcases Nat.lt_trichotomy a b with q|q|q;exact aZ (by rw[<-CL X,<-CL W];exact e) (NZ.1 h.k a b X W q);exact q;exact aZ (by rw[<-CL X,<-CL W];exact e.symm) (NZ.1 h.k b a W X q)
def CJ.congr(e:∀j,X j=V j){z:Int}{b:Bool}:CJ X N H z b<->CJ V N H z b:=by
 have:X=V:=funext e;rw[this]
variable[Inhabited db]
def asK(aH ak:Int)(h:fp):vN (dR aH ak):=
 ⟨Yo (xt s8 h).2,Yn (xt s8 h).2,λx X=>by
  obtain⟨k,-,e,-⟩:=ar3 (xt s8 h).2 X;exact⟨_,e⟩⟩
structure GP(aH ak:Int)(r:RV)(e:Int):Prop where
 c:fW aH ak≠0->e=fW aH ak
 k:fW aH ak=0->Er (vM (dR aH ak) r) 270 e
def GP.eq{aH ak:Int}{r:RV}{e W:Int}(h:GP aH ak r e)(V:GP aH ak r W):e=W:=by
 by_cases X:fW aH ak=0;exact(h.k X).eq (V.k X);rw[h.c X,V.c X]
def x85(h:fp)(aH ak:Int)(r:RV)(N:Sl r):∃o,TB.Ev 53 (wk++[.i aH,.i ak,.r r]) o/\∃e,o=.ret [.i e]/\GP aH ak r e:=by
 by_cases V:dR aH ak=[];refine⟨_,ar6 s8 h aH ak r N V,_,rfl,λX=>by rw[aJ X],λX=> ?_⟩;rw[aQ aa,V];split;rename_i A;exact Er.ok ⟨dh,λk Q=>aZ Q av⟩;rename_i A;exact Er.no λp=>A (by have:=p.1;simp at this;omega)
 have V:=N2.2 V;refine dV ?_;have z:=RP s8 h aH ak;have H:=asK aH ak h;have y:∀e,GP aH ak r e<->(fW aH ak≠0->e=fW aH ak)/\(fW aH ak=0->Er (vM (dR aH ak) r) 270 e):=λe=>⟨λq=>⟨q.c,q.k⟩,λq=>⟨q.1,q.2⟩⟩
 simp only[y];clear y;simp only[wk,ez,eW] at z;generalize dR aH ak=l at*;generalize fW aH ak=e at*;simp[Ru,wk,bi z,N.len];refine ay (λX=> ?_) (λX q=>aZ q X);have x:¬vM l r->(¬e=0->270=e)/\(e=0->Er (vM l r) 270 270):=λp=>⟨λq=>aZ X q,λ_=>Er.no p⟩
 refine ay (λM=> ?_) (λM=>x λp=>M (by have:=p.1;omega));have M:Y l=Y r.ac:=aa;have hn:=H.n;rw[JD];refine⟨.inl rfl,λ_=> ?_,λh=> ?_,λ_ h=> ?_⟩;simp;refine⟨aa, ?_⟩
 first|rw[CA]|rw[CB]
 refine⟨_,agV dh (by simpa using H.k), ?_⟩;simp;have w:(bX (bp.lex [0] E).lt l).length=Y l:=mQ;refine cj (Y l) (λi G=>∃v,G=[.r (aG v)]/\Y v<=i/\∀k<i,∃q<Y l,dj (lE l) q 0=dj l k 0/\EL (dj l k) r q) ⟨0,rfl,aa,[],rfl,av,aa⟩ ?_;rintro i _ W ⟨v,rfl,ag,u⟩;simp;refine ay (λW=> ?_) (λW=> ?_);refine⟨W, ?_⟩;refine cj (Y l) (λj G=>G=[.r (aG v)]/\∀q<j,¬(dj (lE l) q 0=dj l i 0/\EL (dj l i) r q)) ⟨0,rfl,aa,rfl,aa⟩ ?_;rintro j _ P ⟨rfl,d⟩;have F:∀q<j,dj (lE l) q 0=dj l i 0->¬EL (dj l i) r q:=λq D a b=>d q D ⟨a,b⟩
 simp[N.len];refine ay (λP=>⟨P,ay (λg=>⟨aa, ?_⟩) (λg=> ?_)⟩) (λP=>x λp=> ?_);obtain⟨o,s,b,rfl,m⟩:=aBH (dj l i) (ci r j 0) (ci r j 1) (ci r j 2) (cb r j 3);simp only[iN,dj,ci,cb,ez,eW] at s;rw[bi s];simp[bU P (show Y l<=140737488355328 from aa),bU W (show Y l<=140737488355328 from aa)];refine ay (λB=> ?_) (λB=> ?_);exact⟨by rw[N.len];omega,aa,_,rfl,dh,mF u ⟨j,P,g,m.1 B⟩⟩;exact mF F λ_ q=>B (m.2 q)
 rw[bU P aa];exact⟨rfl,mF F λe=>aZ e g⟩;obtain⟨k,Q,e⟩:=vN.to W;exact F k aa (e 0) ((CJ.congr e).1 (p.2 k Q));have af:i=Y l:=aa;subst af;refine⟨λq=>aZ X q,λ_=>Er.ok ⟨M,λk Q=> ?_⟩⟩;obtain⟨i,W,f⟩:=vN.from Q;obtain⟨q,D,e2,e3⟩:=u i W;have:q=k:=H.by.inj (by rw[w];exact D) (by rw[w];exact Q) (by rw[e2,f]);subst this;exact(CJ.congr f).2 e3;simp at h;simp[h] at V;simp at h;simp[h] at V
def aBK(x y:aC):(bp.lex [0] E).lt x y=decide (aI 0 x<aI 0 y):=by
 simp only[bp.lt,jK]
 grind
def aBL(l:au)(B:vN l)(r:RV)(A:Sl r):∃o,TB.Ev 191 [.r (aG l),.r r] o/\∃b,o=.ret [.b b]/\(b=J<->vM l r):=by
 refine dV ?_;simp[agd,A.len];have d:=B.n;refine ay (λV=> ?_) (λV p=>V (by have:=p.1;omega));have V:Y l=Y r.ac:=aa;refine cj (Y l) (λi P=>P=[.r (aG (lE (l.take i)))]) ⟨0,rfl,aa,rfl⟩ ?_;rintro i _ X rfl;simp;refine ay (λX=> ?_) (λX=> ?_);have c:(lE (l.take i)).length<=i:=by rw[mQ,EY];omega
 have N:gK (bp.lex [0] E).lt (lE (l.take i)):=DR (LP [0] E) (l:=l.take i) (λz a=>rfl);have s:lE (l.take (i+1))=eC (bp.lex [0] E).lt l[i] (lE (l.take i)):=by
  rw[<-List.take_append_getElem X,lE,asI]
 have m:=B.rw X;generalize lE (l.take i)=v at*;refine vJ (λM=>∃k:Nat,M=[.i k]/\k<=Y v/\∀(j:Nat)(Q:j<Y v),k<=j->(bp.lex [0] E).lt l[i] v[j]=J) (λM=>(xi M 0).toNat) ⟨Y v,rfl,aa,λj Q e=>aa⟩ ?_;rintro _ ⟨k,rfl,W,y⟩;have x:(∀Q:k-1<Y v,0<k->(bp.lex [0] E).lt l[i] v[k-1]=E)->lE (l.take (i+1))=v.take k++l[i]::v.drop k:=λe=>by rw[s];exact asJ (LP [0] E) rfl (λ_ _=>rfl) N W y e
 simp[xi];have w:lE (l.take (i+1))=v.take k++l[i]::v.drop k->aG (v.take k++qe (dj l i)::v.drop k)=aG (lE (l.take (i+1))):=λe=>by rw[e,m]
 refine ay (λH=>⟨X, ?_⟩) (λH=> ?_);rw[NF H aa];have u:(bp.lex [0] E).lt l[i] v[k-1]=decide (bn (aU l (i:Int) 0).val<bn (aU v ((k-1:Nat):Int) 0).val):=by
  rw[aBK,<-CL X,<-CL (l:=v) aa];rfl
 refine⟨aa,ay (λg=> ?_) (λg=> ?_)⟩;rw[vH];refine⟨⟨k-1,rfl,aa,λj Q e=> ?_⟩,dh⟩;by_cases h:j=k-1;subst h;rw[u];exact decide_eq_true g;exact y j Q aa;have e:=x (λ_ _=>by rw[u];exact decide_eq_false g);refine⟨W,aa,X,aa,W,aa, ?_⟩;rw[bU X aa,<-w e];rfl;have e:=x (λ_ q=>aZ q H);refine⟨W,aa,X,aa,W,aa, ?_⟩;rw[bU X aa,<-w e];rfl;have G:i=Y l:=aa;subst G;rw[List.take_length];have N:(lE l).length=Y l:=mQ;refine cj (Y l) (λi P=>P=[]/\∀k<i,EL (dj (lE l) k) r k) ⟨0,rfl,aa,rfl,aa⟩ ?_;rintro i _ X ⟨rfl,W⟩;simp[N,A.len];refine ay (λX=>⟨X,aa, ?_⟩) (λX=> ?_)
 ·simp[bU X (show Y l<=140737488355328 from aa)];have f:EL (dj (lE l) i) r i<->CJ (dj (lE l) i) (ci r i 0) (ci r i 1) (ci r i 2) (cb r i 3):=Iff.rfl;have F:¬EL (dj (lE l) i) r i->¬vM l r:=λq p=>q (p.2 i X)
  have D:EL (dj (lE l) i) r i->∀k<i+1,EL (dj (lE l) k) r k:=mF W;rw[f] at F D;simp only[CJ,dj,ci,cb] at F D
  repeat'(refine ay (λ_=> ?_) (λ_=> ?_))
  all_goals first|(apply F;grind)|(apply D;grind)
 have G:i=Y l:=aa;subst G;exact⟨V,W⟩
def r95(h:fp)(aH ak:Int)(r:RV)(P:Sl r):∃o,TB.Ev 155 (wk++[.i aH,.i ak,.r r]) o/\∃e,o=.ret [.i e]/\GP aH ak r e:=by
 refine dV ?_;have V:=aBG h aH ak;obtain⟨o,N,b,rfl,Q⟩:=aBL _ (asK aH ak h) r P;simp only[wk,ez,eW] at V;have M:∀e,GP aH ak r e<->(fW aH ak≠0->e=fW aH ak)/\(fW aH ak=0->Er (vM (dR aH ak) r) 270 e):=λe=>⟨λq=>⟨q.c,q.k⟩,λq=>⟨q.1,q.2⟩⟩
 simp only[M];simp[T95,wk,bi V];refine ay (λX=> ?_) (λX=> ?_);simp[bi N];refine ay (λW=>⟨λq=>aZ X q,λ_=>Er.ok (Q.1 W)⟩) (λW=>⟨λq=>aZ X q,λ_=>Er.no λp=>W (Q.2 p)⟩);exact λq=>aZ q X
def NG(aH ak:Int)(r:RV):Int:=oi 53 (wk++[.i aH,.i ak,.r r]) 0
def ahq(h:fp)(aH ak:Int)(r:RV)(X:Sl r):TB.Ev 53 (wk++[.i aH,.i ak,.r r]) (.ret [.i (NG aH ak r)])/\GP aH ak r (NG aH ak r):=uq (x85 h aH ak r X)
def f95(h:fp)(aH ak:Int)(r:RV)(X:Sl r):TB.Ev 155 (wk++[.i aH,.i ak,.r r]) (.ret [.i (NG aH ak r)]):=by
 obtain⟨o,W,e,rfl,V⟩:=r95 h aH ak r X;rw[(ahq h aH ak r X).2.eq V];exact W
end
section
variable{R:bo->Prop}{G:aS}{t:T}{O:ai}{L:de}
variable[Inhabited db]
def aBO(x y f X W V Q P N M H G F:Int):Er (GM x y f X W V Q P N M H G F) 260 (CE x y f X W V Q P N M H G F):=by
 have D:∃o,TB.Ev 35 [.i x,.i y,.i f,.i X,.i W,.i V,.i Q,.i P,.i N,.i M,.i H,.i G,.i F] o/\∃e,o=.ret [.i e]/\(e=0\/e=260):=by
  refine dV ?_;simp[Rp]
 have h:=ag1 x y f X W V Q P N M H G F;refine⟨h.2,λp=> ?_⟩;rcases(uq D).2 with e|e;exact aZ (h.1 e) p;exact e
def r94(x y f X W V Q P N M H G F:Int):TB.Ev 107 [.i x,.i y,.i f,.i X,.i W,.i V,.i Q,.i P,.i N,.i M,.i H,.i G,.i F] (.ret [.i (CE x y f X W V Q P N M H G F)]):=by
 suffices s:∃o,TB.Ev 107 [.i x,.i y,.i f,.i X,.i W,.i V,.i Q,.i P,.i N,.i M,.i H,.i G,.i F] o/\∃e,o=.ret [.i e]/\Er (GM x y f X W V Q P N M H G F) 260 e by
  obtain⟨o,h,e,rfl,r⟩:=s;rw[(aBO x y f X W V Q P N M H G F).eq r];exact h
 refine dV ?_;simp[T94];have D:¬GM x y f X W V Q P N M H G F->Er (GM x y f X W V Q P N M H G F) 260 260:=Er.no;refine ay (λq=> ?_) (λq=>D λp=>by have:=p.x;omega);refine ay (λa2=>D λp=>by have:=p.x;omega) (λa2=> ?_);refine ay (λn=> ?_) (λn=>D λp=>by have:=p.y;omega);refine ay (λm=>D λp=>by have:=p.y;omega) (λm=> ?_);refine ay (λa5=> ?_) (λa5=>D λp=>by have:=p.f;omega);refine ay (λa6=>D λp=>by have:=p.f;omega) (λa6=> ?_);refine cj 5 (λi l=>l=[]/\(0<i->Lm X W)/\(1<i->Lm V Q)/\(2<i->Lm P N)/\(3<i->Lm M H)/\(4<i->Lm G F)) ⟨0,rfl,aa,rfl,aa,aa,aa,aa,aa⟩ ?_;rintro i _ j ⟨rfl,B,A,z,w,v⟩;have k:i=0\/i=1\/i=2\/i=3\/i=4\/i=5:=aa;rcases k with rfl|rfl|rfl|rfl|rfl|rfl
 case inr.inr.inr.inr.inr=>simp;exact Er.ok ⟨aa,aa,aa,B aa,A aa,z aa,w aa,v aa⟩
 all_goals
  simp;have u:GM x y f X W V Q P N M H G F->Lm X W/\Lm V Q/\Lm P N/\Lm M H/\Lm G F:=λp=>⟨p.m0,p.m1,p.m2,p.m3,p.m4⟩
  simp only[Lm] at u B A z w v⊢
  repeat'(refine ay (λ_=> ?_) (λ_=> ?_))
  any_goals(refine D λp=> ?_;have:=u p;omega)
  all_goals
   rw[vH]
   first
    |refine⟨⟨1,rfl,aa,rfl, ?_⟩,oS⟩;omega
    |refine⟨⟨2,rfl,aa,rfl, ?_⟩,oS⟩;omega
    |refine⟨⟨3,rfl,aa,rfl, ?_⟩,oS⟩;omega
    |refine⟨⟨4,rfl,aa,rfl, ?_⟩,oS⟩;omega
    |refine⟨⟨5,rfl,aa,rfl, ?_⟩,oS⟩;omega
@[simp] def c94 (x y f X W V Q P N M H F D:Int):iL TB.Ev R 107 [.i x,.i y,.i f,.i X,.i W,.i V,.i Q,.i P,.i N,.i M,.i H,.i F,.i D] G t O L=iM TB.Ev R (.ret [.i (CE x y f X W V Q P N M H F D)]) G t O L:=bi (r94 x y f X W V Q P N M H F D)
end
def nxT:T->T
 |.be _ t=>t
 |.aT _ _ f=>f
 |t=>t
def YC:Nat->T->T
 |0,t=>t
 |n+1,t=>YC n (nxT t)
section
variable{R:bo->Prop}{G:aS}{t:T}{O:ai}{L:de}
variable[Inhabited db]
def R6(v:RV)(q:Nat):Int:=CE (ci v q 0) (ci v q 1) (ci v q 2) (ci v q 3) (ci v q 4) (ci v q 5) (ci v q 6) (ci v q 7) (ci v q 8) (ci v q 9) (ci v q 10) (ci v q 11) (ci v q 12)
structure YD(ca kn op:RV)(i:Nat):Prop where
 one:1<=(cr 76 kn i).ac.length
 two:(cr 76 kn i).ac.length<=2
 opn:(cr 76 kn i).ac.length=2<->ci op i 0≠0
 ne:(cr 76 kn i).ac.length=2->∃j<13,ci (cr 76 kn i) 0 j≠ci (cr 76 kn i) 1 j
 iw:∀q<(cr 76 kn i).ac.length,R6 (cr 76 kn i) q=0
 ak:ci op i 0≠0->0<=aF .sub I (ci op i 0) 1/\aF .sub I (ci op i 0) 1<Y ca.ac/\bn (aU ca.ac (aF .sub I (ci op i 0) 1) 0).val≠0
def aBQ{X V:RV}{cZ:Int}{cl:Bool}(u:Sl P)(s:Sl X)(p:Sl V)(N:W<Y X.ac)(m:W<Y V.ac)(M:Sl (cr 76 X W))(H:1<=(cr 76 X W).ac.length)(G:(cr 76 X W).ac.length<=2)(F:(cr 76 X W).ac.length=2<->ci V W 0≠0)(D:(cr 76 X W).ac.length=2->∃j<13,ci (cr 76 X W) 0 j≠ci (cr 76 X W) 1 j):
  T.wp TB.Ev (λo=>o=.ret [.b E]\/o=.ret [.b J]/\YD P X V W) (YC 8 Nv) ⟨[cZ,W],[cl],[P,X,V],[]⟩ []:=by
 simp only[Nv,YC,nxT];have e:=M.len;simp only[cr] at e;refine cj (cr 76 X W).ac.length (λn l=>l=[]/\∀q<n,R6 (cr 76 X W) q=0) ⟨0,rfl,aa,rfl,λW N=>aa⟩ ?_;rintro q _ f ⟨rfl,B⟩;simp[u.len,s.len,p.len,N,m,e];refine ay (λA=>⟨A, ?_⟩) (λd=> ?_);intro k;rw[bU (n:=(cr 76 X W).ac.length) (show q<(cr 76 X W).ac.length from A) M.sm];refine⟨rfl,λr z=> ?_⟩;by_cases g:r=q;subst g;exact k;exact B r aa;have y:∀q<(cr 76 X W).ac.length,R6 (cr 76 X W) q=0:=λr z=>B r (by simp only[cr] at z;omega)
 refine ay (λx=>⟨H,G,F,D,y,λh=>aZ x h⟩) (λx w v=>⟨⟨w,v⟩, ?_⟩);by_cases Q:bn (aU P.ac (aF .sub I (bn (aU V.ac (W:Int) 0).val) 1) 0).val=0;exact .inl Q;exact .inr ⟨Q,H,G,F,D,y,λ_=>⟨w,v,Q⟩⟩
def aBR{V Q:RV}{cZ:Int}{cl:Bool}(F:Sl P)(D:Sl V)(B:Sl Q)(A:W<Y V.ac)(z:W<Y Q.ac)(y:Sl (cr 76 V W)):∃o,TB.Ev 65 [.r P,.i cZ,.r V,.r Q,.b cl,.i W] o/\∃b,o=.ret [.b b]/\(b=J->YD P V Q W):=by
 refine dV ?_;have e:=y.len;simp only[cr] at e;have l:=λN M H w=>aBQ (cZ:=cZ) (cl:=cl) F D B A z y N M H w
 simp only[Nv,YC,nxT] at l;simp[Nv,F.len,D.len,B.len,A,z,e];intro s q G;have N:1<=(cr 76 V W).ac.length:=by simp only[cr];omega
 have M:(cr 76 V W).ac.length<=2:=by simp only[cr];omega
 have H:(cr 76 V W).ac.length=2<->ci Q W 0≠0:=by
  rw[uD] at G;simp only[dE,bne_iff_ne] at G;simp only[cr,ci];rw[<-G];omega
 refine ay (λx=>⟨aa,aa,λv=> ?_⟩) (λx=> ?_);refine l N M H λ_=> ?_
 apply Classical.byContradiction;intro X;have X:∀j<13,ci (cr 76 V W) 0 j=ci (cr 76 V W) 1 j:=λj u=>Classical.byContradiction λh=>X ⟨j,u,h⟩
 simp only[ci,cr] at X;exact v (X 0 aa) (X 1 aa) (X 2 aa) (X 3 aa) (X 4 aa) (X 5 aa) (X 6 aa) (X 7 aa) (X 8 aa) (X 9 aa) (X 10 aa) (X 11 aa) (X 12 aa);exact l N M H λh=>aZ (by simp only[cr] at h;omega) x

variable{a c d g k ca kn op:RV}{cZ:Int}{cl:Bool}
structure aJk(ca kn op:RV):Prop where
 ca:Sl ca
 kn:Sl kn
 op:Sl op
structure AP(d g ca kn op:RV)(cZ:Int):Prop where
 calls:Y ca.ac<=Y g.ac
 cast:0<=cZ/\cZ<Y d.ac
 NH:Y kn.ac=Y aL.ac
 YE:Y op.ac=Y aL.ac
 call:∀i<Y ca.ac,0<=ci ca i 0/\ci ca i 0<=(cr 69 g i).ac.length
 YF:∀i<Y kn.ac,YD ca kn op i
def aBS(h:fp)(s:rV a c d g k)(W:Sl ca)(X:Sl kn)(H:Sl op)(A:∀i<Y kn.ac,Sl (cr 76 kn i)):∃o,TB.Ev 28 (dZ a c d g k++[.r ca,.i cZ,.r kn,.r op,.b cl]) o/\∃b,o=.ret [.b b]/\(b=J->AP d g ca kn op cZ):=by
 refine dV ?_;simp[agt,dZ,wk,W.len,X.len,H.len,s.sr.len,s.sc.len,h.rl.len];intro u z y q p;refine cj (Y ca.ac) (λn V=>V=[]/\∀i<n,0<=ci ca i 0/\ci ca i 0<=(cr 69 g i).ac.length) ⟨0,rfl,aa,rfl,λi G=>aa⟩ ?_;rintro i _ G ⟨rfl,F⟩;simp[W.len,X.len,s.sr.len];refine ay (λQ=> ?_) (λm=> ?_);have e:=(s.CH i aa).len;simp only[cr] at e;simp only[e];refine⟨Q,λx=>⟨Q,aa,λw=> ?_⟩⟩;rw[bU Q W.sm];refine⟨rfl,λr P=> ?_⟩;by_cases N:r=i;subst N;exact⟨x,w⟩;exact F r aa;refine cj (Y kn.ac) (λn V=>V=[]/\∀i<n,YD ca kn op i) ⟨0,rfl,aa,rfl,λi G=>aa⟩ ?_;rintro j _ l ⟨rfl,D⟩;simp[X.len];refine ay (λM=> ?_) (λf=> ?_);obtain⟨o,B,b,rfl,v⟩:=aBR (cZ:=cZ) (cl:=cl) W X H M aa (A j M);cases b;simp[bi B];simp[bi B];rw[bU M X.sm];refine⟨rfl,λr P=> ?_⟩;by_cases N:r=j;subst N;exact v rfl;exact D r aa;exact⟨aa,⟨z,y⟩,aa,aa,λr P=>F r aa,λr P=>D r aa⟩
end
section
variable[Inhabited db]
end
section
variable{R:bo->Prop}{G:aS}{t:T}{O:ai}{L:de}
variable[Inhabited db]
def R7(x:Nat->Int)(v:au)(n:Nat):Prop:=∀i<n,cF x v (i+1) 13=0
def aBT(X:vM Q P):∃v,vL Q P (Y Q) v:=by
 suffices h:∀n≤Y Q,∃v,vL Q P n v from h _ (b9 _)
 intro n;induction n with
 |zero=>exact λ_=>⟨[],rfl,λi M=>aa⟩
 |succ n W=>
  intro H;obtain⟨v,V⟩:=W aa;obtain⟨k,N,e⟩:=vN.to (l:=Q) (i:=n) aa;have:=(X.2 k N).1;exact⟨_,V.add (k:=k) (by have:=X.1;omega) (by rw[this,e])⟩

def YG(e:Int):bq:=[.i 0,.i 0,.i 0,.i 0,.i 0,.i 0,.i 0,.i 0,.i 0,.i 0,.i 0,.i 0,.i 0,.i e]
def stE(s:Nat->Int):bq:=[.i (s 0),.i (s 1),.i (s 2),.i (s 3),.i (s 4),.i (s 5),.i (s 6),.i (s 7),.i (s 8),.i (s 9),.i (s 10),.i (s 11),.i (s 12),.i 0]
structure EnE(aH ak:Int)(x:Nat->Int)(r:RV)(ys:bq):Prop where
 c:fW aH ak≠0->ys=YG (fW aH ak)
 p:fW aH ak=0->¬rS x->ys=YG 260
 m:fW aH ak=0->rS x->¬vM (dR aH ak) r->ys=YG 270
 w:fW aH ak=0->rS x->vM (dR aH ak) r->∀v,vL (dR aH ak) r (dR aH ak).length v->(¬R7 x v (dR aH ak).length->ys=YG 2)/\(R7 x v (dR aH ak).length->ys=stE (cF x v (dR aH ak).length))
def EnE.eq{D B:bq}(h:EnE N H X P D)(M:EnE N H X P B):D=B:=by
 by_cases W:fW N H=0;by_cases V:rS X;by_cases Q:vM (dR N H) P;obtain⟨v,G⟩:=aBT Q;by_cases F:R7 X v (dR N H).length;rw[(h.w W V Q v G).2 F,(M.w W V Q v G).2 F];rw[(h.w W V Q v G).1 F,(M.w W V Q v G).1 F];rw[h.m W V Q,M.m W V Q];rw[h.p W V,M.p W V];rw[h.c W,M.c W]
end
section
variable{R:bo->Prop}{G:aS}{t:T}{O:ai}{L:de}
def GQ(n:Int):Prop:=(97<=n/\n<=122)\/(65<=n/\n<=90)
def aBV(n:Int):∃o,TB.Ev 118 [.i n] o/\∃e,o=.ret [.i e]/\(e=2<->GQ n)/\(e=3<->48<=n/\n<=57)/\(e=5<->n=95):=by
 refine dV ?_;simp[X8,GQ]
 repeat'(refine ay (λ_=> ?_) (λ_=> ?_))
 all_goals first|omega|(simp;omega)
def JH(n:Int):Prop:=GQ n\/(48<=n/\n<=57)\/n=95
structure NI(s:RV):Prop where
 l:1<=lenOf s.val/\lenOf s.val<=32
 f:GQ (kL s.val 0)
 c:∀i:Nat,(i:Int)<lenOf s.val->JH (kL s.val i)
def aBW(n:Int):(oi 118 [.i n] 0=2<->GQ n)/\(oi 118 [.i n] 0=3<->48<=n/\n<=57)/\(oi 118 [.i n] 0=5<->n=95):=(uq (aBV n)).2
def asL(V:qg P):∃n:Nat,lenOf P.val=n/\(tM P.val (.string {data:= #[]})=J<->n=0):=by
 obtain⟨u,X⟩:=V;refine⟨u.size,by rw[X];rfl, ?_⟩;rw[X];simp only[tM];constructor;intro h;have W:u.toList=(ByteArray.mk #[]).toList:=by simpa using h
 rw[ByteArray.toList_eq,ByteArray.toList_eq] at W;have:Y u.data.toList=0:=by rw[W];rfl
 simpa using this;intro h;have Q:u=ByteArray.empty:=by simpa using h
 rw[Q];simp only[dE];rfl
def aBX(s:RV)(M:qg s):∃o,TB.Ev 83 [.r s] o/\∃b,o=.ret [.b b]/\(b=J<->NI s):=by
 obtain⟨n,V,Q⟩:=asL M;have X:=λi=>aBW (kL s.val i)
 refine dV ?_;simp[X6,V];refine ay (λe p=>by have:=p.l;have:=Q.1 e;omega) (λe=>ay (λH p=>by have:=p.l;omega) (λH=> ?_));have B:n≠0:=λq=>e (Q.2 q)
 refine⟨aa,ay (λf=> ?_) (λf p=>f ((X 0).1.2 p.f))⟩;have f:=(X 0).1.1 f;refine cj n (λi G=>G=[]/\∀k<i,JH (kL s.val k)) ⟨0,rfl,aa,rfl,aa⟩ ?_;rintro i _ W ⟨rfl,P⟩;simp[V];refine ay (λW=> ?_) (λW=> ?_)
 ·have N:JH (kL s.val i)<->oi 118 [.i (kL s.val i)] 0=2\/oi 118 [.i (kL s.val i)] 0=3\/oi 118 [.i (kL s.val i)] 0=5:=by
   rw[(X i).1,(X i).2.1,(X i).2.2];rfl
  have F:¬JH (kL s.val i)->¬NI s:=λq p=>q (p.c i aa)
  simp[bU W (show n<=140737488355328 from aa),W]
  repeat'(refine ay (λ_=> ?_) (λ_=> ?_))
  all_goals first|(exact mF P (N.2 (by grind)))|(apply F;rw[N];grind)
 have D:i=n:=aa;subst D;exact⟨aa,f,λk A=>P k aa⟩
def aBY(s:RV)(P:qg s):∃o,TB.Ev 101 [.r s] o/\∃b,o=.ret [.b b]/\(b=J<->NI s):=by
 obtain⟨n,W,F⟩:=asL P;refine dV ?_;simp[af8,W];refine ay (λe p=>by have:=p.l;omega) (λe=>ay (λN p=>by have:=p.l;omega) (λN=>⟨aa, ?_⟩));have D:∀t:T,True:=λ_=>trivial
 repeat'(refine ay (λ_=> ?_) (λ_=> ?_))
 any_goals(intro p;have:=p.f;simp only[GQ] at this;omega)
 all_goals
  have f:GQ (kL s.val 0):=by simp only[GQ];omega
  refine cj n (λi M=>M=[]/\∀k<i,JH (kL s.val k)) ⟨0,rfl,aa,rfl,aa⟩ ?_;rintro i _ X ⟨rfl,V⟩;simp[W];refine ay (λX=> ?_) (λX=> ?_)
  ·have Q:JH (kL s.val i)<->((97<=kL s.val i/\kL s.val i<=122)\/(65<=kL s.val i/\kL s.val i<=90))\/(48<=kL s.val i/\kL s.val i<=57)\/kL s.val i=95:=Iff.rfl;have H:¬JH (kL s.val i)->¬NI s:=λq p=>q (p.c i aa)
   simp[bU X (show n<=140737488355328 from aa),X]
   repeat'(refine ay (λ_=> ?_) (λ_=> ?_))
   all_goals first|(exact mF V (Q.2 aa))|(apply H;rw[Q];omega)
  have G:i=n:=aa;subst G;exact⟨aa,f,λk B=>V k aa⟩
def aht(s:RV)(X:qg s):TB.Ev 83 [.r s] (.ret [.b (ob 83 [.r s] 0)])/\(ob 83 [.r s] 0=J<->NI s):=mkb (aBX s X)
def aBZ(s:RV)(X:qg s):TB.Ev 101 [.r s] (.ret [.b (ob 83 [.r s] 0)]):=by
 obtain⟨o,h,b,rfl,W⟩:=aBY s X;have:b=ob 83 [.r s] 0:=uD.2 (W.trans (aht s X).2.symm);rw[<-this];exact h
structure JI(s:RV)(a0 a1 a2 a3 a4 a5 a6 a7 a8 a9 a10 fK fM gE a14 a15:Int):Prop where
 n:NI s
 w:1<=a0/\a0<=500
 l:0<=a1/\a1<=500
 g:1<=a2/\a2<=4
 s:1<=a3/\a3<=16
 j:0<=a4/\a4<=16
 r:(1<=a5/\a5<=8)/\(1<=a6/\a6<=8)/\1<=a7/\a7<=8
 p:(1<=a8/\a8<=1048576)/\(1<=a9/\a9<=1048576)/\1<=a10/\a10<=1048576
 t:(1<=fK/\fK<=3)/\(1<=fM/\fM<=3)/\1<=gE/\gE<=3
 e:0<=a14/\a14<=1048576
 v:0<=a15/\a15<=1048576
def aB0(s:RV)(G:qg s)(X W a2 V Q a5 a6 a7 a8 P N fK fM gE M H:Int):∃o,TB.Ev 60 [.r s,.i X,.i W,.i a2,.i V,.i Q,.i a5,.i a6,.i a7,.i a8,.i P,.i N,.i fK,.i fM,.i gE,.i M,.i H] o/\∃e,o=.ret [.i e]/\Er (JI s X W a2 V Q a5 a6 a7 a8 P N fK fM gE M H) 250 e:=by
 refine dV ?_;have B:=aBZ s G;have F:=(aht s G).2;simp[af9,bi B];have D:¬JI s X W a2 V Q a5 a6 a7 a8 P N fK fM gE M H->Er (JI s X W a2 V Q a5 a6 a7 a8 P N fK fM gE M H) 250 250:=Er.no
 repeat'(refine ay (λ_=> ?_) (λ_=> ?_))
 all_goals first
  |exact D λp=>aZ (F.2 p.n) pA
  |(refine D λp=> ?_;obtain⟨A,z,y,x,w,v,u,q,m,l,k⟩:=p;omega)
  |(refine Er.ok ⟨F.1 pA, ?_, ?_, ?_, ?_, ?_, ?_, ?_, ?_, ?_, ?_⟩<;>omega)
def x75(s:RV)(G:qg s)(X W a2 V Q a5 a6 a7 a8 P N fK fM gE M H:Int):∃o,TB.Ev 49 [.r s,.i X,.i W,.i a2,.i V,.i Q,.i a5,.i a6,.i a7,.i a8,.i P,.i N,.i fK,.i fM,.i gE,.i M,.i H] o/\∃e,o=.ret [.i e]/\Er (JI s X W a2 V Q a5 a6 a7 a8 P N fK fM gE M H) 250 e:=by
 refine dV ?_;have F:=(aht s G).2;simp[Rq,agZ s G];have D:¬JI s X W a2 V Q a5 a6 a7 a8 P N fK fM gE M H->Er (JI s X W a2 V Q a5 a6 a7 a8 P N fK fM gE M H) 250 250:=Er.no
 repeat'(refine ay (λ_=> ?_) (λ_=> ?_))
 all_goals first
  |exact D λp=>aZ (F.2 p.n) pA
  |(refine D λp=> ?_;obtain⟨B,A,z,y,x,w,v,u,q,m,l⟩:=p;omega)
  |(refine Er.ok ⟨F.1 pA, ?_, ?_, ?_, ?_, ?_, ?_, ?_, ?_, ?_, ?_⟩<;>omega)
def aB2(s:RV)(G:qg s)(X W a2 V Q a5 a6 a7 a8 P N fK fM gE M H:Int):Er (JI s X W a2 V Q a5 a6 a7 a8 P N fK fM gE M H) 250 (CF s X W a2 V Q a5 a6 a7 a8 P N fK fM gE M H):=(uq (x75 s G X W a2 V Q a5 a6 a7 a8 P N fK fM gE M H)).2
def aB3(s:RV)(G:qg s)(X W a2 V Q a5 a6 a7 a8 P N fK fM gE M H:Int):TB.Ev 60 [.r s,.i X,.i W,.i a2,.i V,.i Q,.i a5,.i a6,.i a7,.i a8,.i P,.i N,.i fK,.i fM,.i gE,.i M,.i H] (.ret [.i (CF s X W a2 V Q a5 a6 a7 a8 P N fK fM gE M H)]):=by
 obtain⟨o,h,e,rfl,F⟩:=aB0 s G X W a2 V Q a5 a6 a7 a8 P N fK fM gE M H;rw[(aB2 s G X W a2 V Q a5 a6 a7 a8 P N fK fM gE M H).eq F];exact h

def aB4(a b c d X W V Q:Int):TB.Ev 153 [.i a,.i b,.i c,.i d,.i X,.i W,.i V,.i Q] (.ret [.i (jn (bT a b c d&&bT X W V Q) (min a X)),.i (jn (bT a b c d&&bT X W V Q) (max b W)),.i (jn (bT a b c d&&bT X W V Q) (min c V)),.i (jn (bT a b c d&&bT X W V Q) (max d Q)),.i (if bT a b c d&&bT X W V Q then 0 else 150)]):=by
 refine fF ?_;simp[agf,bT,jn]
 repeat'(refine ay (λ_=> ?_) (λ_=> ?_))
 all_goals grind
def aB5(a b c d x y:Int):TB.Ev 186 [.i a,.i b,.i c,.i d,.i x,.i y] (.ret [.i (jn (gD a b c d x y==0) (IntKind.i64.wrap (a+x))),.i (jn (gD a b c d x y==0) (IntKind.i64.wrap (b+x))),.i (jn (gD a b c d x y==0) (IntKind.i64.wrap (c+y))),.i (jn (gD a b c d x y==0) (IntKind.i64.wrap (d+y))),.i (gD a b c d x y)]):=by
 have V:∀p q r s:Int,(bT p q r s=J)=((-1099511627776<=p/\p<=q/\q<=1099511627776)∧-1099511627776<=r/\r<=s/\s<=1099511627776):=λp q r s=>by
  simp only[bT,aw,cm,eq_iff_iff];omega
 refine fF ?_;by_cases X:bT a b c d=J;by_cases Q:(-2199023255552<=x/\x<=2199023255552)∧-2199023255552<=y/\y<=2199023255552;by_cases W:bT (IntKind.i64.wrap (a+x)) (IntKind.i64.wrap (b+x)) (IntKind.i64.wrap (c+y)) (IntKind.i64.wrap (d+y))=J
 ·have e:gD a b c d x y=0:=by simp[gD,X,Q,W]
  rw[V] at X W;rw[e];simp[Nu,jn,aF,X,Q,W]
  repeat'(refine ay (λ_=> ?_) (λ_=> ?_))
  all_goals first|omega|rfl|(exfalso;omega)
 ·have e:gD a b c d x y=2:=by simp[gD,X,Q,W]
  rw[V] at X W;rw[e];simp[Nu,jn,aF,X,Q]
  repeat'(refine ay (λ_=> ?_) (λ_=> ?_))
  all_goals first|omega|rfl|(exfalso;omega)
 ·have e:gD a b c d x y=2:=by
   have:¬((((-2199023255552<=x/\x<=2199023255552)∧-2199023255552<=y)/\y<=2199023255552)):=aa;simp only[gD,X,Zy,jp,gf];rw[aJ];simp only[ik,<-aiV,aw,cm];omega
  rw[V] at X;rw[e];simp[Nu,jn,aF,X]
  repeat'(refine ay (λ_=> ?_) (λ_=> ?_))
  all_goals first|omega|rfl|(exfalso;omega)
 ·have e:gD a b c d x y=150:=by simp[gD,X]
  rw[V] at X;rw[e];simp[Nu,jn,aF]
  repeat'(refine ay (λ_=> ?_) (λ_=> ?_))
  all_goals first|omega|rfl|(exfalso;omega)
@[simp] def aJl (a b c d X W V Q:Int):iL TB.Ev R 153 [.i a,.i b,.i c,.i d,.i X,.i W,.i V,.i Q] G t O L=iM TB.Ev R (.ret [.i (jn (bT a b c d&&bT X W V Q) (min a X)),.i (jn (bT a b c d&&bT X W V Q) (max b W)),.i (jn (bT a b c d&&bT X W V Q) (min c V)),.i (jn (bT a b c d&&bT X W V Q) (max d Q)),.i (if bT a b c d&&bT X W V Q then 0 else 150)]) G t O L:=bi (aB4 a b c d X W V Q)
@[simp] def aJm (a b c d x y:Int):iL TB.Ev R 186 [.i a,.i b,.i c,.i d,.i x,.i y] G t O L=iM TB.Ev R (.ret [.i (jn (gD a b c d x y==0) (IntKind.i64.wrap (a+x))),.i (jn (gD a b c d x y==0) (IntKind.i64.wrap (b+x))),.i (jn (gD a b c d x y==0) (IntKind.i64.wrap (c+y))),.i (jn (gD a b c d x y==0) (IntKind.i64.wrap (d+y))),.i (gD a b c d x y)]) G t O L:=bi (aB5 a b c d x y)

def ahu{n:Nat}{X y:aC}:∀{m:au},y∈fZ n X m->y=X\/y∈m
 |[],h=>by simp[fZ] at h;exact .inl h
 |r::W,h=>by
  simp only[fZ] at h;split at h;rcases dP.1 h with h|h;exact .inl h;exact .inr (by simp[h]);rcases dP.1 h with h|h;exact .inr (by simp[h]);rcases ahu h with h|h;exact .inl h;exact .inr (by simp[h])
def asM{r:aC}(X:Y M=4)(W:Y r=4):kM 3 ((M.take 3).map λc=>bn c.val) r=J<->∀c∈[0,1,2],aI c r=aI c M:=by
 match M,X,r,W with
 |[a,b,c,d],_,[V,R,Q,P],_=>simp[kM,aI]
structure AQ(m:au):Prop where
 keys:asu [0,1,2] m
 four:∀x∈m,Y x=4
def AQ.nil:AQ []:=⟨xE,av⟩
def AQ.ins{O:aC}(R:Y O=4):∀{m:au},AQ m->AQ (fZ 3 O m)
 |[],_=>⟨by simp[fZ,asu],by simp[fZ,R]⟩
 |r::M,h=>by
  have g:=jq.1 h.keys;have L:AQ M:=⟨g.2,λx X=>h.four x (by simp[X])⟩;have H:=AQ.ins R L;have N:=asM R (h.four r av);refine⟨?_,λx X=> ?_⟩;simp only[fZ];split;rename_i W;have W:=N.1 W;refine jq.2 ⟨λy V=> ?_,g.2⟩;obtain⟨c,Q,P⟩:=g.1 y V;exact⟨c,Q,by rw[<-W c Q];exact P⟩;rename_i W;refine jq.2 ⟨λy V=> ?_,H.keys⟩;rcases ahu V with rfl|V;have:¬∀c∈[0,1,2],aI c r=aI c y:=λG=>W (N.2 G)
  simp only[Classical.not_forall] at this;obtain⟨c,Q,P⟩:=this;exact⟨c,Q,P⟩;exact g.1 y V;rcases ahu X with rfl|X;exact R;exact h.four x X
variable[Inhabited db]
@[simp] def aJn (v:RV) (X W V Q P N M H F D B A z y x w:Int):iL TB.Ev R 49 [.r (cG .str v),.i X,.i W,.i V,.i Q,.i P,.i N,.i M,.i H,.i F,.i D,.i B,.i A,.i z,.i y,.i x,.i w] G t O L=iM TB.Ev R (.ret [.i (CF (cG .str v) X W V Q P N M H F D B A z y x w)]) G t O L:=c75 _ (Yq v) X W V Q P N M H F D B A z y x w
def NJ(X W V Q P N M H G F D B A:Int)(s:RV)(z y x w v u q p o n m l j h g f:Int)(k:Nat):Int:=oi 81 [.i X,.i W,.i V,.i Q,.i P,.i N,.i M,.i H,.i G,.i F,.i D,.i B,.i A,.r s,.i z,.i y,.i x,.i w,.i v,.i u,.i q,.i p,.i o,.i n,.i m,.i l,.i j,.i h,.i g,.i f] k
@[simp] def c27 (X W V Q P N M H F D B A z:Int) (v:RV) (y x w u s q p o n m l k j h g f:Int):iL TB.Ev R 81 [.i X,.i W,.i V,.i Q,.i P,.i N,.i M,.i H,.i F,.i D,.i B,.i A,.i z,.r (cG .str v),.i y,.i x,.i w,.i u,.i s,.i q,.i p,.i o,.i n,.i m,.i l,.i k,.i j,.i h,.i g,.i f] G t O L=iM TB.Ev R (.ret [.i (NJ X W V Q P N M H F D B A z (cG .str v) y x w u s q p o n m l k j h g f 0),.i (NJ X W V Q P N M H F D B A z (cG .str v) y x w u s q p o n m l k j h g f 1),.i (NJ X W V Q P N M H F D B A z (cG .str v) y x w u s q p o n m l k j h g f 2),.i (NJ X W V Q P N M H F D B A z (cG .str v) y x w u s q p o n m l k j h g f 3),.i (NJ X W V Q P N M H F D B A z (cG .str v) y x w u s q p o n m l k j h g f 4)]) G t O L:=bi (yX (kI 5) (t27 X W V Q P N M H F D B A z _ (Yq v) y x w u s q p o n m l k j h g f))
def NK(X:RV)(i:Nat):Int:=CF (cG .str (aU X.ac (i:Int) 0)) (ci X i 1) (ci X i 2) (ci X i 3) (ci X i 4) (ci X i 5) (ci X i 6) (ci X i 7) (ci X i 8) (ci X i 9) (ci X i 10) (ci X i 11) (ci X i 12) (ci X i 13) (ci X i 14) (ci X i 15) (ci X i 16)
def YI(v:RV)(i:Nat):Int:=CE (ci v i 0) (ci v i 1) (ci v i 2) (ci v i 3) (ci v i 4) (ci v i 5) (ci v i 6) (ci v i 7) (ci v i 8) (ci v i 9) (ci v i 10) (ci v i 11) (ci v i 12)
def ng(v X:RV)(i k:Nat):Int:=NJ (ci v i 0) (ci v i 1) (ci v i 2) (ci v i 3) (ci v i 4) (ci v i 5) (ci v i 6) (ci v i 7) (ci v i 8) (ci v i 9) (ci v i 10) (ci v i 11) (ci v i 12) (cG .str (aU X.ac (i:Int) 0)) (ci X i 1) (ci X i 2) (ci X i 3) (ci X i 4) (ci X i 5) (ci X i 6) (ci X i 7) (ci X i 8) (ci X i 9) (ci X i 10) (ci X i 11) (ci X i 12) (ci X i 13) (ci X i 14) (ci X i 15) (ci X i 16) k
def m85(ak:Int)(X:RV)(i:Nat):Int:=oi 53 (wk++[.i i,.i ak,.r (cr 134 X i)]) 0
def m89(ak:Int)(X W:RV)(i k:Nat):Int:=oi 79 (wk++[.i i,.i ak,.i (ci X i 0),.i (ci X i 1),.i (ci X i 2),.i (ci X i 3),.i (ci X i 4),.i (ci X i 5),.i (ci X i 6),.i (ci X i 7),.i (ci X i 8),.i (ci X i 9),.i (ci X i 10),.i (ci X i 11),.i (ci X i 12),.r (cr 134 W i)]) k
def m90(ak:Int)(W X V:RV)(i k:Nat):Int:=oi 80 (wk++[.i i,.i ak,.i (ci W i 0),.i (ci W i 1),.i (ci W i 2),.i (ci W i 3),.i (ci W i 4),.i (ci W i 5),.i (ci W i 6),.i (ci W i 7),.i (ci W i 8),.i (ci W i 9),.i (ci W i 10),.i (ci W i 11),.i (ci W i 12),.r (cG .str (aU X.ac (i:Int) 0)),.i (ci X i 1),.i (ci X i 2),.i (ci X i 3),.i (ci X i 4),.i (ci X i 5),.i (ci X i 6),.i (ci X i 7),.i (ci X i 8),.i (ci X i 9),.i (ci X i 10),.i (ci X i 11),.i (ci X i 12),.i (ci X i 13),.i (ci X i 14),.i (ci X i 15),.i (ci X i 16),.r (cr 134 V i)]) k
def gS(ak:Int)(W X V:RV)(i k:Nat):Int:=if cb W i 0 then m89 ak X V i k else ci X i k
def gB(ak:Int)(V X W Q:RV)(i k:Nat):Int:=if cb V i 0 then m90 ak X W Q i k else ng X W i k
structure aJp(aL wg bd mv bf af re bx:RV):Prop where
 wg:Sl wg
 bd:Sl bd
 mv:Sl mv
 bf:Sl bf
 af:Sl af
 rsl:Sl re
 bx:Sl bx
 jz:∀i<Y re.ac,Sl (cr 134 re i)/\(cr 134 re i).ac.length<=100
structure asO(ak:Int)(wg bd mv bf af re bx:RV):Prop where
 wk:lg=0
 nw:Y wg.ac<=8
 br:0<=ak/\ak<fo
 laf:Y af.ac=Y aL.ac
 lbx:Y bx.ac=Y aL.ac
 lbd:Y bd.ac=Y aL.ac
 lmv:Y mv.ac=Y aL.ac
 lbf:Y bf.ac=Y aL.ac
 lre:Y re.ac=Y aL.ac
 iw:∀i<Y aL.ac,NK bd i=0/\YI bf i=0/\(if cb mv i 0 then m85 ak re i=0 else(cr 134 re i).ac=[])
 box:∀i<Y aL.ac,vB bx i=J/\YI af i=0
 pth:∀g<Y wg.ac,qR (ci wg g) ak 4=0
def JJ(ak:Int)(Q X W V:RV)(i:Nat):Prop:=if cb Q i 0 then m89 ak X V i 13=0/\m90 ak X W V i 4=0 else ng X W i 4=0
def Fst(v:RV)(id:Int)(m:Nat):Prop:=m<Y v.ac/\ci v m 0=id/\∀X<m,ci v X 0≠id
def m78(X:RV)(id:Int)(i:Nat):bq:=out 196 (wk++[.i id,.r (cG .str (aU X.ac (i:Int) 0)),.i (ci X i 1),.i (ci X i 2),.i (ci X i 3),.i (ci X i 4),.i (ci X i 5),.i (ci X i 6),.i (ci X i 7),.i (ci X i 8),.i (ci X i 9),.i (ci X i 10),.i (ci X i 11),.i (ci X i 12),.i (ci X i 13),.i (ci X i 14),.i (ci X i 15),.i (ci X i 16)])
def aB6(ak:Int)(X W V Q P:RV)(c:Nat->Int):Bool:=ob 198 (wk++[.i ak,.r X,.r W,.r V,.r Q,.r P]++iN c) 0
def aB7(ak:Int)(W V Q P X N:RV)(i k:Nat):Prop:=∀m,Fst (cr 134 X i) (dj (dR i ak) k 0) m->
 xi (m78 W (dj (dR i ak) k 0) i) 1=0/\
 ob 197 [.r (xr (m78 W (dj (dR i ak) k 0) i) 0),.i (ci (cr 134 X i) m 0),.i (ci (cr 134 X i) m 1),.i (ci (cr 134 X i) m 2),.b (cb (cr 134 X i) m 3)] 0=J/\
 (dj (dR i ak) k 4=7\/dj (dR i ak) k 4=8->cb (cr 134 X i) m 3=J\/aB6 ak V Q P X N (dj (dR i ak) k)=J)
def ahC(ak:Int)(X W V:RV)(i:Nat):bq:=out 199 (wk++[.i i,.i ak,.i (ci X i 0),.i (ci X i 1),.i (ci X i 2),.i (ci X i 3),.i (ci X i 4),.i (ci X i 5),.i (ci X i 6),.i (ci X i 7),.i (ci X i 8),.i (ci X i 9),.i (ci X i 10),.i (ci X i 11),.i (ci X i 12),.r W,.r (cr 134 V i)])
structure aB8(ak:Int)(bd mv bf af re bx:RV)(i:Nat):Prop where
 gQ:∀j<13,ci af i j=gS ak mv bf re i j
 inb:bT (gB ak mv bf bd re i 0) (gB ak mv bf bd re i 1) (gB ak mv bf bd re i 2) (gB ak mv bf bd re i 3)=J/\vB bx i=J
 ins:arU (gB ak mv bf bd re i 0) (gB ak mv bf bd re i 1) (gB ak mv bf bd re i 2) (gB ak mv bf bd re i 3) (ci bx i 0) (ci bx i 1) (ci bx i 2) (ci bx i 3)=J
 GJ:cb mv i 0=J->(∀k<(dR i ak).length,aB7 ak bd mv bf af re bx i k)/\xi (ahC ak bf bd re i) 1=0/\(xr (ahC ak bf bd re i) 0).ac=[]
def JK(ak:Int):bq:=out 90 (wk++[.i ak])
def exR(v X:RV):Nat->au
 |0=>[]
 |i+1=>exR v X i++[[.mk (.int I (ng v X i 0)) [],.mk (.int I (ng v X i 1)) [],.mk (.int I (ng v X i 2)) [],.mk (.int I (ng v X i 3)) []]]
def stB(v X:RV)(i k:Nat):Bool:=bT (ng v X i 0) (ng v X i 1) (ng v X i 2) (ng v X i 3)&&bT (ng v X k 0) (ng v X k 1) (ng v X k 2) (ng v X k 3)&&JB (ng v X i 0) (ng v X i 1) (ng v X i 2) (ng v X i 3) (ng v X k 0) (ng v X k 1) (ng v X k 2) (ng v X k 3)
structure aJt(ak:Int)(wg bd mv bf af re bx:RV):Prop where
 ex:asO ak wg bd mv bf af re bx
 bld:∀i<Y aL.ac,JJ ak mv bf bd re i
 ro:∀i<Y aL.ac,aB8 ak bd mv bf af re bx i
 prs:xi (JK ak) 1=0
 st1:∀i<Y aL.ac,ng bf bd i 4=0
 st2:∀i<Y aL.ac,ng af bd i 4=0
 cl:aAR wg ak bx (aG (exR bf bd (Y aL.ac))) (xr (JK ak) 0)
 RU:∀p<(xr (JK ak) 0).ac.length,stB bf bd (ci (xr (JK ak) 0) p 0).toNat (ci (xr (JK ak) 0) p 1).toNat=J/\stB af bd (ci (xr (JK ak) 0) p 0).toNat (ci (xr (JK ak) 0) p 1).toNat=J
def JL{j:Nat}(h:Y Q=W):aU (Q++[M]) (W:Int) j=M.getD j default:=by
 subst h;simp[aU]
def JM{w:au}{j:Nat}(h:W<Y Q):aU (Q++w) (W:Int) j=aU Q (W:Int) j:=by
 simp[aU,dH h]
end
def T.at:ar->T->T
 |[],t=>t
 |0::p,.aT _ t _=>t.at p
 |_::p,.aT _ _ f=>f.at p
 |_::p,.be _ t=>t.at p
 |_::p,.call _ _ _ _ _ _ t=>t.at p
 |_::p,.loop _ _ _ t=>t.at p
 |_::p,.new _ _ _ _ t=>t.at p
 |_::p,.ac _ _ _ t=>t.at p
 |0::p,.gF _ _ t _=>t.at p
 |_::p,.gF _ _ _ f=>f.at p
 |0::p,.pick _ _ _ t _=>t.at p
 |_::p,.pick _ _ _ _ f=>f.at p
 |_::p,.eE _ _ _ _ _ _ _ t=>t.at p
 |_,t=>t
section
variable{R:bo->Prop}{G:aS}{t:T}{O:ai}{L:de}
variable[Inhabited db]
structure Bx(l0 h0 l1 h1:Int)(L H L' H':Int):Prop where
 a:L<=l0
 b:h0<=H
 c:L'<=l1
 d:h1<=H'
 e:-1099511627776<=L
 f:H<=1099511627776
 g:-1099511627776<=L'
 h:H'<=1099511627776
end
section
variable{R:bo->Prop}{G:aS}{t:T}{O:ai}{L:de}
def aCa{c d:Int}:bT N H c d=J<->(-1099511627776<=N/\N<=H/\H<=1099511627776)∧-1099511627776<=c/\c<=d/\d<=1099511627776:=by
 simp only[bT,aw,cm];omega
end
section
variable[Inhabited db]
end
section
variable{R:bo->Prop}{G:aS}{t:T}{O:ai}{L:de}
variable[Inhabited db]
def bj(X:RV)(k:Nat):Int:=CF (cG .str (aU X.ac (k:Int) 0)) (ci X k 1) (ci X k 2) (ci X k 3) (ci X k 4) (ci X k 5) (ci X k 6) (ci X k 7) (ci X k 8) (ci X k 9) (ci X k 10) (ci X k 11) (ci X k 12) (ci X k 13) (ci X k 14) (ci X k 15) (ci X k 16)
structure RgP(ak:Int)(bd mv bf re:RV):Prop where
 b:Y bd.ac=Y aL.ac/\∀k<Y bd.ac,bj bd k=0
 m:Y mv.ac=Y aL.ac
 f:Y bf.ac=Y aL.ac
 r:Y re.ac=Y aL.ac
 k:∀k<Y aL.ac,rS (ci bf k)/\(cb mv k 0=E->(cr 134 re k).ac.length=0)/\(cb mv k 0=J->NG k ak (cr 134 re k)=0)
end
section
variable[Inhabited db]
def mvB(c:Nat->Int)(j:Int):Bool:=decide ((c 4=1/\j=c 5-1)\/(c 4=2/\(j=0\/j=1))\/(c 4=3/\j=c 5-1)\/(c 4=4/\j=c 5+1)\/(c 4=5/\j=4)\/(c 4=7/\(j=2\/j=3))\/(c 4=8/\(j=0\/j=1))\/(c 4=9/\j=c 5+1))

def ptV(n d f l:Int)(j:Nat):Int:=aF .mul I n (oi 115 [.i (oi 114 [.i d,.i f] 0),.i l] j)

end
section
variable{R:bo->Prop}{G:aS}{t:T}{O:ai}{L:de}
variable[Inhabited db]
def fgF(v:au):Nat->Nat->Bool
 |0,_=>E
 |i+1,0=>fgF v i 0||(!gH (aU v i 17).val&&decide (dj v i 4=6))
 |i+1,j+1=>fgF v i (j+1)||(!gH (aU v i 17).val&&mvB (dj v i) j)
def xw(F:Nat->Bool)(X:Nat->Int)(g:Int)(x:Nat->Int):Nat->Nat->Int
 |0,j=>if j%2=0 then aF .sub I 0 (aF .mul I 841 g) else aF .mul I 841 g
 |n+1,j=>if F (1+n)=E/\x (4+2*n)=0 then xw F X g x n j
  else if F (1+n)=J\/F 0=J then(if j%2=0 then min (xw F X g x n j) (aF .sub I 0 (aF .mul I 841 (X n))) else max (xw F X g x n j) (aF .mul I 841 (X n)))
  else if j%2=0 then min (xw F X g x n j) (ptV (X n) (x (3+2*n)) (x 2) (x (4+2*n)) (j/2)) else max (xw F X g x n j) (ptV (X n) (x (3+2*n)) (x 2) (x (4+2*n)) (j/2))
def aCc{F W:Nat->Bool}(h:∀k<6,F k=W k):∀n≤5,∀j,xw F X N V n j=xw W X N V n j:=by
 intro n;induction n with
 |zero=>intro _ j;rfl
 |succ n Q=>
  intro P j;simp only[xw,Q aa,h (1+n) aa,h 0 aa]
structure FgQ(f0 f1 f2 f3 g:Int)(rc:Nat->Int)(F:Nat->Bool)(x:Nat->Int)(n:Nat):Prop where
 fg:Fg f0 f1 f2 f3
 e0:f0=xw F rc g x n 0
 e1:f1=xw F rc g x n 1
 e2:f2=xw F rc g x n 2
 e3:f3=xw F rc g x n 3
def FgQ.AR{W Q g:Int}{F P:Nat->Bool}(h:FgQ N H W Q g X F V 5)(e:∀k<6,F k=P k):FgQ N H W Q g X P V 5:=by
 refine⟨h.fg, ?_, ?_, ?_, ?_⟩<;>rw[<-aCc e 5 aa];exact h.e0;exact h.e1;exact h.e2;exact h.e3


def YJ(X:RV)(y:Nat->Int):Int:=CF X (y 1) (y 2) (y 3) (y 4) (y 5) (y 6) (y 7) (y 8) (y 9) (y 10) (y 11) (y 12) (y 13) (y 14) (y 15) (y 16)
def NL(f:Nat->Int)(x:Nat->Int)(v:au):Nat->Nat->Int
 |0,j=>f j+29*x (j/2)
 |n+1,j=>if j%2=0 then min (NL f x v n j) (f j+29*cF x v (n+1) (j/2)) else max (NL f x v n j) (f j+29*cF x v (n+1) (j/2))
def R8(e:Int):bq:=[.i 0,.i 0,.i 0,.i 0,.i e]
def YK(y:Nat->Int)(x:Nat->Int)(v:au):Nat->Int:=xw (fgF v (Y v)) (rch (y 6) (y 7) (y 8)) (y 3) x 5
structure SwE(aH ak:Int)(x:Nat->Int)(nm:RV)(y:Nat->Int)(r:RV)(ys:bq):Prop where
 c:fW aH ak≠0->ys=R8 (fW aH ak)
 p:fW aH ak=0->¬rS x->ys=R8 260
 b:fW aH ak=0->rS x->YJ nm y≠0->ys=R8 (YJ nm y)
 m:fW aH ak=0->rS x->YJ nm y=0->¬vM (dR aH ak) r->ys=R8 270
 w:fW aH ak=0->rS x->YJ nm y=0->vM (dR aH ak) r->∀v,vL (dR aH ak) r (dR aH ak).length v->(¬R7 x v (dR aH ak).length->ys=R8 2)/\(R7 x v (dR aH ak).length->ys=[.i (NL (YK y x v) x v (Y v) 0),.i (NL (YK y x v) x v (Y v) 1),.i (NL (YK y x v) x v (Y v) 2),.i (NL (YK y x v) x v (Y v) 3),.i 0])

end
