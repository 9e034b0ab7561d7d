/- Part 6. -/
import Derived.Test.YtjnmghiggfgjlaaGreatDoorW5
set_option linter.all false
set_option maxRecDepth 100000
set_option maxHeartbeats 100000000
open Bool renaming and_eq_true->aC,true->J,false->E
open Nat renaming le_refl->cd,zero_add->jm,le_trans->md,zero_le->rO,add_mul->sL,mul_le_mul_right->GA,min_eq_left->Mg,mul_le_mul->Mh,le_of_not_lt->QR,strongRecOn->QS,min_eq_right->akS,mul_one->akZ,lt_of_le_of_ne->avU,not_lt_zero->awa,pow_succ->awe,le_total->awk,le_mul_of_pos_right->aIJ
open List renaming cons_append->cU,range->dj,getElem?_eq_some_iff->dq,nil_append->du,getD_eq_getElem?_getD->dA,getElem?_eq_getElem->dB,map_cons->dG,replicate->ee,getElem?_map->eo,mem_append->fg,mem_map->fw,getElem?_append_left->fT,length_append->ga,all_eq_true->gC,getElem?_append_right->jl,mem_of_getElem?->jA,map_congr_left->kF,ext_getElem?->kS,length_cons->nX,map_nil->oD,length_map->oX,map_map->oY,mem_range->rN,getElem?_of_mem->sJ,getElem_mem->sK,getElem?_eq_none->ul,getElem?_set->yO,length_eq_zero_iff->AC,mem_cons_of_mem->AD,getElem?_set_ne->AE,append_assoc->Ce,length_drop->Cf,length_nil->Cg,drop_eq_getElem_cons->Ei,getElem?_range->Em,map_append->GF,mem_or_eq_of_mem_set->Mb,mem_singleton->Vn,getElem?_set_self->abZ,length_singleton->ab1,getElem?_modify->ab3,drop_of_length_le->akH,range_succ->akU,drop_append_of_le_length->avG,length_pos_iff->avR,getElem_of_mem->avS,take_add_one->avZ,length_set->av6,length_filter_le->aIP,length->Y
open Option renaming map_some->gc,getD_some->yP,some->U,none->Z
open Int renaming toNat_natCast->rM,le_refl->Cj,eq_ofNat_of_zero_le->akG,natCast_mul->av5,le_trans->awl,toNat_of_nonneg->aIW
open Go.IntKind renaming i64->I
namespace Go.Proofs.YtjnmghiggfgjlaaGreatDoor.Y
open Go.RowKit
noncomputable section
variable{V:Nat→Bool}
section
variable{R:aX->Prop}{G:aL}{t:T}{O:aj}{L:ck}
variable[Inhabited cm]
section
variable{ap:Int}{c a b d:RV}
end


section
variable{a b:RV}{n:Nat}
end
end
section
variable{R:aX->Prop}{G:aL}{t:T}{O:aj}{L:ck}
open Classical in
end
section
variable{bh u:my}
end
section
variable[Inhabited cm]
variable{ap:Int}{c b e d:RV}{f a g:av}
theorem Md.cr(k:Md ap c b e d f a g){i:Nat}(X:i<Y ay.ah):cr 96 (ao a) i=ao (cr 96 d i).ah:=by
 have:=(k.al i X).1;simp only[Y.cr,ov,this];rfl
end
section
variable{R:aX->Prop}{G:aL}{t:T}{O:aj}{L:ck}
variable[Inhabited cm]

open Classical in
open Classical in
end
inductive Rt(g:Nat->Nat):Nat->Nat->Prop where
 |here {k:Nat} (h:g k=k):Rt g k k
 |up {k r:Nat} (h:g k≠k) (h2:Rt g (g k) r):Rt g k r
def Rt.abp{g:Nat->Nat}{k r:Nat}(h:Rt g k r):∀{X:Nat},Rt g k X->r=X:=by
 induction h with
 |here h=>
  intro X V;cases V with|here=>rfl|up W R=>exact(W h).elim
 |up h R Q=>
  intro X V;cases V with|here W=>exact(h W).elim|up W P=>exact Q P
def Rt.fix{g:Nat->Nat}{k r:Nat}(h:Rt g k r):g r=r:=by
 induction h with|here h=>exact h|up h W X=>exact X
def Rt.le{g:Nat->Nat}(X:∀q,g q<=q){k r:Nat}(h:Rt g k r):r<=k:=by
 induction h with|here h=>exact cd _|up h V W=>exact md W (X _)
def ub(g:Nat->Nat)(k v:Nat):Nat->Nat:=λq=>if q=k then v else g q
def Jh:Nat->Nat->(Nat->Nat)->Nat->Nat
 |0,_,g=>g|n+1,k,g=>if g k=k then g else ub (Jh n (g k) g) k (Jh n (g k) g (g k))
def atI{g:Nat->Nat}(W:∀q,g q<=q):∀n k,k<n->Rt g k (Jh n k g k)/\∀q,Jh n k g q=g q\/Rt g q (Jh n k g q)
 |0,k,h=>bE h (awa _)
 |n+1,k,h=>by
  simp only[Jh];by_cases X:g k=k;rw[aH X];exact⟨by rw[X];exact .here X,λq=>.inl rfl⟩;rw[aP X];have P:=avU (W k) X;obtain⟨V,Q⟩:=atI W n (g k) ae;refine⟨by simp only[ub,dN];exact .up X V,λq=> ?_⟩;simp only[ub];by_cases R:q=k;subst R;rw[aH rfl];exact .inr (.up X V);rw[aP R];exact Q q
def Rt.short{g W:Nat->Nat}(R:∀q,g q<=q)(h:∀q,W q=g q\/Rt g q (W q))(x:Nat):∀{r:Nat},Rt g x r->Rt W x r:=by
 induction x using QS with
 |_ x Q=>
  intro r P;cases P with
  |here X=>
   rcases h x with e|e;exact .here (e.trans X);exact .here (e.abp (.here X))
  |up X V=>
   have O:=avU (R x) X;rcases h x with e|e;refine .up (by rw[e];exact X) ?_;rw[e];exact Q _ O V;have N:W x=r:=e.abp (.up X V);have M:=V.le R;refine .up ae ?_;rw[N];exact Q r ae (.here V.fix)
def aCW{g X:Nat->Nat}(W:∀q,g q<=q)(h:∀q,X q=g q\/Rt g q (X q))(q:Nat):X q<=q:=by
 rcases h q with e|e;rw[e];exact W q;exact e.le W
def Rt.join{g:Nat->Nat}{W X x r:Nat}(P:g W=W)(O:g X=X)(h:Rt g x r):Rt (ub g W X) x (if r=W then X else r):=by
 induction h with
 |here R=>
  rename_i k;by_cases V:k=W;subst V;rw[aH rfl];by_cases Q:X=k;subst Q;exact .here (by simp[ub]);have e:ub g k X k=X:=by simp[ub]
  refine .up (by rw[e];exact Q) ?_;rw[e];exact .here (by simp[ub,Q,O]);rw[aP V];exact .here (by simp[ub,V,R])
 |up R M N=>
  rename_i k r;have V:k≠W:=λe=>R (by rw[e];exact P)
  have e:ub g W X k=g k:=by simp[ub,V]
  refine .up (by rw[e];exact R) ?_;rw[e];exact N
def Ji(g:Nat->Nat)(a b:Nat):Prop:=∃r,Rt g a r/\Rt g b r
def Ji.short{g X:Nat->Nat}{a b:Nat}(W:∀q,g q<=q)(h:∀q,X q=g q\/Rt g q (X q))(k:Ji g a b):Ji X a b:=by
 obtain⟨r,V,R⟩:=k;exact⟨r,V.short W h,R.short W h⟩
def Ji.join{g:Nat->Nat}{X W a b:Nat}(V:g X=X)(R:g W=W)(k:Ji g a b):Ji (ub g X W) a b:=by
 obtain⟨r,Q,P⟩:=k;exact⟨_,Q.join V R,P.join V R⟩
def gR(m:av)(q:Nat):Nat:=(aI 0 (m.getD q [])).toNat
def atJ{m:av}{k:Nat}{x:aE}(W:k<Y m):gR (m.set k x)=ub (gR m) k (aI 0 x).toNat:=by
 funext q;simp only[gR,ub,dA];by_cases X:q=k;subst X;rw[aH rfl,abZ W];rfl;rw[aP X,AE (Ne.symm X)]
def LU{m:av}(h:mu m=J)(q:Nat):gR m q<=q:=by
 unfold gR;by_cases X:q<Y m;have:=Hg h X;omega;rw[dA,ul ae];show(0:Int).toNat<=q;simp
def atK{m:av}(h:mu m=J):∀(n:Nat)(i:Int),0<=i->i<Y m->gR (sT n i m)=Jh n i.toNat (gR m)
 |0,_,_,_=>rfl
 |n+1,i,W,V=>by
  obtain⟨R,O,Q⟩:=adQ h W V;have P:=atK h n _ R Q;have e:gR m i.toNat=(aI 0 (m.getD i.toNat [])).toNat:=rfl;simp only[sT,Jh];by_cases X:aI 0 (m.getD i.toNat [])=i;rw[aH X,aH (by rw[e,X])];rw[aP X,aP (by rw[e];omega),atJ (by rw[WF];omega),e,<-P];rfl
def ajz{m:av}(h:∀k<Y m,0<=aI 0 (m.getD k [])/\aI 0 (m.getD k [])<=k):mu m=true:=by
 refine gC.2 λk X=> ?_
 simp only[aC,dl];exact h k (rN.1 X)
def UP{m:av}(h:mu m=J)(k:Nat)(X:k<Y m):aI 0 (m.getD k [])=(gR m k:Int):=by
 have:=Hg h X;unfold gR;omega
def aCX{m X:av}(h:mu m=J)(R:∀x∈X,x∈m)(Q:∀q,gR X q<=q):mu X=true:=by
 refine ajz λk P=> ?_
 have O:X.getD k []∈X:=axH P _;obtain⟨p,V⟩:=sJ (R _ O);have N:p<Y m:=(dq.1 V).1;have W:=(Hg h N).1;rw[dA,V] at W;have W:0<=aI 0 (X.getD k []):=W;have:=Q k;unfold gR at this;omega
def aCY{m:av}(h:mu m=J)(N:Y m<=1099511627776){i:Int}(R:0<=i)(Q:i<Y m):∃X,xC i m=U X/\Y X=Y m/\mu X=J/\(∀q,gR X q=gR m q\/Rt (gR m) q (gR X q))/\Rt (gR m) i.toNat (gR X i.toNat):=by
 obtain⟨X,W⟩:∃X,xC i m=U X:=⟨sT (Y m) i m,by unfold xC;rw[aH (by simp[N,R,Q,h])]⟩;obtain⟨-,-,-,-,e⟩:=Se W;have P:=atK h (Y m) i R Q;rw[<-e] at P;obtain⟨O,V⟩:=atI (LU h) (Y m) i.toNat ae;rw[<-P] at O V;exact⟨X,W,adR W,aCX h (WG W) (aCW (LU h) V),V,O⟩
def w7(M:Nat->Nat->Prop):Nat->Nat->Nat->Prop
 |0,i,j=>i=j|r+1,i,j=>i=j\/∃k,(M i k\/M k i)/\w7 M r k j
def Cn(M:Nat->Nat->Prop)(i j:Nat):Prop:=∃r,w7 M r i j
section
variable{M:Nat->Nat->Prop}
def w7.succ{r:Nat}:∀{i j:Nat},w7 M r i j->w7 M (r+1) i j:=by
 induction r with
 |zero=>intro i j h;exact .inl h
 |succ r X=>
  intro i j h;rcases h with h|⟨k,e,h⟩;exact .inl h;exact .inr ⟨k,e,X h⟩
def w7.mono{r X:Nat}(h:r<=X){i j:Nat}(k:w7 M r i j):w7 M X i j:=by
 induction h with|refl=>exact k|step _ W=>exact W.succ
def w7.trans{r:Nat}:∀{i j k s:Nat},w7 M r i j->w7 M s j k->w7 M (r+s) i k:=by
 induction r with
 |zero=>intro i j k s X W;cases X;rw[jm];exact W
 |succ r V=>
  intro i j k s X W;rcases X with X|⟨q,e,X⟩;subst X;exact W.mono ae;rw[Nat.add_right_comm];exact .inr ⟨q,e,V X W⟩
def Cn.refl(i:Nat):Cn M i i:=⟨0,rfl⟩
def Cn.trans{i j k:Nat}(X:Cn M i j)(W:Cn M j k):Cn M i k:=by
 obtain⟨r,X⟩:=X;obtain⟨s,W⟩:=W;exact⟨_,X.trans W⟩
def Cn.one{i j:Nat}(h:M i j\/M j i):Cn M i j:=⟨1,.inr ⟨j,h,rfl⟩⟩
def w7.symm{r:Nat}:∀{i j:Nat},w7 M r i j->Cn M j i:=by
 induction r with
 |zero=>intro i j h;cases h;exact Cn.refl _
 |succ r X=>
  intro i j h;rcases h with h|⟨k,e,h⟩;subst h;exact Cn.refl _;exact(X h).trans (Cn.one e.symm)
def Cn.symm{i j:Nat}(h:Cn M i j):Cn M j i:=by
 obtain⟨r,h⟩:=h;exact h.symm
open Classical in
open Classical in
end
section
variable[Inhabited cm]
def UQ(v:av)(a b:Nat):Prop:=∃x∈v,(aI 0 x).toNat=a/\(aI 1 x).toNat=b
def ajA{X:Nat->Nat->Prop}{g:Nat->Nat}{n:Nat}(W:∀q,g q<=q)(h:∀q<n,Cn X q (g q)){k r:Nat}(V:Rt g k r):k<n->Cn X k r:=by
 induction V with
 |here _=>exact λ_=>Cn.refl _
 |up _ _ R=>
  rename_i k r _ _;exact λQ=>(h k Q).trans (R (by have:=W k;omega))
def ajB{X:Nat->Nat->Prop}{g W:Nat->Nat}{n:Nat}(V:∀q,g q<=q)(h:∀q<n,Cn X q (g q))(s:∀q,W q=g q\/Rt g q (W q)):∀q<n,Cn X q (W q):=λq R=>by
 rcases s q with e|e
 grind
 exact ajA V h e R
structure aCZ(n:Nat)(v m:av):Prop where
 len:Y m=n
 ok:mu m=J
 pr:∀x∈v,aI 0 (m.getD (aI 0 x).toNat [])=aI 0 (m.getD (aI 1 x).toNat [])
 cn:∀q<n,Cn (UQ v) q (gR m q)
def R63(n:Nat)(v:av)(e:Int)(o:aX):Prop:=(e≠0/\o=.ret [.r (ao []),.i e])\/(e=0/\∃m,o=.ret [.r (ao m),.i 0]/\aCZ n v m)
def aC1(m:av)(k:Nat)(x:Int)(W:k<Y m)(V:∀X∈m,Y X=1):(m.modify k λX=>gf X 0 [iV x])=m.set k [iV x]:=by
 apply kS;intro q;rw[ab3,yO];by_cases R:k=q;subst R;rw[aH rfl,aH W,dB W];have:=V _ (sK W);generalize m[k]=X at this
 match X,this with|[c],_=>simp[gf]
 grind
def aC2{m:av}{i:Nat}(h:mu m=J)(W:Y m=i):mu (m++[[iV i]])=true:=by
 refine ajz λk V=> ?_
 simp at V;rw[dA];by_cases X:k<Y m;rw[fT X,<-dA];exact Hg h X;have:k=Y m:=ae;subst this;rw[jl (cd _)];simp[aI,bn,iV,W]
def aC3{m:av}{i:Nat}(X:Y m=i)(h:∀q<i,gR m q=q):∀q<i+1,gR (m++[[iV i]]) q=q:=λq W=>by
 simp only[gR,dA];by_cases e:q=i;subst e;rw[jl ae];simp[X,aI,bn,iV];rw[fT ae,<-dA];exact h q ae
def aC4{m:av}{x:RV}(h:∀X∈m,Y X=1):∀X∈m++[[x]],Y X=1:=λX W=>by
 grind
def ajC{f g:FuncId}{R:aX->Prop}{O:aj}{L:ck}{t:T}{m:av}{r:RE}{e:TypeId}{V:bo}{i:K}(Q:r.rv O=ao m){a:Int}(z:i.ai O=a)(P:∀W∈m,Y W=1)(h:mu m=J)(y:Y m<=1000)(N:0<=a)(M:a<Y m)
  (k:∀X,Y X=Y m->(∀W∈X,Y W=1)->mu X=J->(∀q,gR X q=gR m q\/Rt (gR m) q (gR X q))->Rt (gR m) a.toNat (gR X a.toNat)->t.wp TB.Ev R (O.add (.r (ao X))) L):
  T.wp TB.Ev R (.eF f g e (.dE 0 (.lex [] E) [i]) J r V t) O L:=by
 obtain⟨X,H,G,F,D,B⟩:=aCY h ae N M;rw[aAY,Q];refine⟨X, ?_, ?_⟩;show xC (i.ai O) m=U X
 grind
 have:=k X G (λW A=>P W (WG H W A)) F D B
 grind [ao,RV.pf]
def t63(h:dV)(ap:Int){v:av}{e:Int}(al:TB.Ev 71 (wk++[.i ap]) (.ret [.r (ao v),.i e]))(hv:∀x∈v,0<=aI 0 x/\aI 0 x<aI 1 x/\aI 1 x<Y ay.ah)(br:Y v<=4096)(hn:Y ay.ah<=1000):
  ∃o,TB.Ev 44 (wk++[.i ap]) o/\R63 (Y ay.ah) v e o:=by
 refine eI ?_;simp only[wk,cU,du] at al;simp[T63,wk,aY al];refine aW (λd=> ?_) (λd=>.inl ⟨d,rfl⟩);subst d;have an:Y ay.ah<=140737488355328:=ae;have ba:Y v<=140737488355328:=ae;refine bQ (Y ay.ah) (λi D=>∃m,D=[.r (ao m)]/\Y m=i/\(∀L∈m,Y L=1)/\mu m=J/\∀q<i,gR m q=q) ⟨0,rfl,ae,[],rfl,rfl,aw,rfl,ae⟩ ?_;rintro i _ hi ⟨m0,rfl,H,B,G,a0⟩;simp[h.rl.len];refine aW (λhi=> ?_) (λbs=> ?_);simp[bD hi an];exact⟨ae,_,rfl,bZ,aC4 B,aC2 G H,aC3 H a0⟩;have bb:i=Y ay.ah:=ae;subst bb;refine bQ (Y v) (λj D=>∃m,D=[.r (ao m)]/\Y m=Y ay.ah/\(∀L∈m,Y L=1)/\mu m=J/\(∀x∈v.take j,Ji (gR m) (aI 0 x).toNat (aI 1 x).toNat)/\∀q<Y ay.ah,Cn (UQ v) q (gR m q)) ⟨0,rfl,ae,m0,rfl,H,B,G,aw,λq p=>by rw[a0 q p];exact Cn.refl _⟩ ?_;rintro j _ M ⟨m,rfl,H,B,G,c,hc⟩;simp;refine aW (λM=> ?_) (λbt=> ?_);simp[M];obtain⟨va,bc,vb⟩:=hv _ (sK M);have ea:bn (aQ v (j:Int) 0).val=aI 0 v[j]:=by simp[aQ,aI,M]
 have eb:bn (aQ v (j:Int) 1).val=aI 1 v[j]:=by simp[aQ,aI,M]
 refine ajC (m:=m) rfl ea B G ae ae ae ?_;intro F l1 b A R n;refine ajC (m:=F) rfl eb b A ae ae ae ?_;intro Q l2 r2 a l a2;simp[bD M ba];have na:bn (aQ F (bn (aQ v (j:Int) 0).val) 0).val=((gR F (aI 0 v[j]).toNat:Nat):Int):=by rw[ea];exact UP A _ ae
 have nb:bn (aQ Q (bn (aQ v (j:Int) 1).val) 0).val=((gR Q (aI 1 v[j]).toNat:Nat):Int):=by rw[eb];exact UP a _ ae
 simp only[na,nb];have N:=LU G;have g:=LU A;have f:=LU a;have aa:=ajB g (ajB N hc R) l;have bd:Cn (UQ v) (aI 0 v[j]).toNat (aI 1 v[j]).toNat:=Cn.one (.inl ⟨_,sK M,rfl,rfl⟩);have y:=(n.short N R).short g l;have w:=a2.short g l;have fa:=y.fix;have fb:=w.fix;have la:=y.le f;have lb:=w.le f;have cA:=ajA f aa y ae;have cB:=ajA f aa w ae;generalize gR F (aI 0 v[j]).toNat=P at y fa la cA⊢;generalize gR Q (aI 1 v[j]).toNat=O at w fb lb cB⊢;obtain⟨X,ab⟩:∃X:Nat,X=max P O:=⟨_,rfl⟩;obtain⟨W,ac⟩:∃W:Nat,W=min P O:=⟨_,rfl⟩;have e1:max (P:Int) (O:Int)=(X:Int):=ae;have e2:min (P:Int) (O:Int)=(W:Int):=ae;rw[e1,e2];have af:X<Y Q:=ae;have fx:gR Q X=X:=by rcases awk P O with q|q<;>simp only[ab,Nat.max_eq_left,Nat.max_eq_right,q]<;>assumption
 have fn:gR Q W=W:=by rcases awk P O with q|q<;>simp only[ac,Mg,akS,q]<;>assumption
 have ek:gR (Q.set X [iV (W:Int)])=ub (gR Q) X W:=by rw[atJ af];rfl
 refine⟨ae,Q.set X [iV (W:Int)], ?_,bZ,λL u=> ?_, ?_,λx V=> ?_,λq p=> ?_⟩;rw[<-aC1 Q X W af r2];rfl;rcases Mb u with u|u;exact r2 L u;subst u;rfl;refine ajz λk t=> ?_
 rw[av6] at t;rw[dA];by_cases a3:k=X;subst a3;rw[abZ af];show(0:Int)<=(W:Int)/\(W:Int)<=(k:Int);omega;rw[AE (Ne.symm a3),<-dA];exact Hg a t;rw[ek];rw[avZ,dB M] at V;rcases fg.1 V with V|V;exact(((c x V).short N R).short g l).join fx fn;simp at V;subst V;refine⟨W, ?_, ?_⟩;have:=y.join fx fn;by_cases q:P=X
 rwa [aH q] at this
 rw[aP q] at this;have:P=W:=ae;subst this;assumption;have:=w.join fx fn;by_cases q:O=X
 rwa [aH q] at this
 rw[aP q] at this;have:O=W:=ae;subst this;assumption;rw[ek];simp only[ub];have cR:Cn (UQ v) P O:=(cA.symm.trans bd).trans cB;by_cases e:q=X;rw[aH e,e];rcases awk P O with z|z;rw[ab,ac,Nat.max_eq_right z,Mg z];exact cR.symm;rw[ab,ac,Nat.max_eq_left z,akS z];exact cR;rw[aP e];exact aa q p;have bf:j=Y v:=ae;subst bf;rw[List.take_length] at c;refine bQ (Y ay.ah) (λk D=>∃m,D=[.r (ao m)]/\Y m=Y ay.ah/\(∀L∈m,Y L=1)/\mu m=J/\(∀x∈v,Ji (gR m) (aI 0 x).toNat (aI 1 x).toNat)/\(∀q<Y ay.ah,Cn (UQ v) q (gR m q))/\∀q<k,Rt (gR m) q (gR m q)) ⟨0,rfl,ae,m,rfl,H,B,G,c,hc,aw⟩ ?_;rintro k _ t ⟨m',rfl,bg,bk,s,a4,a9,ag⟩;simp[H];refine aW (λt=> ?_) (λbx=> ?_);refine ajC (m:=m') rfl rfl bk s ae aw bZ ?_;intro F l1 b A R n;have N:=LU s;simp[bD t an] at n⊢;refine⟨F,rfl,ae,b,A,λx V=>(a4 x V).short N R,ajB N a9 R,λq p=> ?_⟩;by_cases bl:q=k;subst bl;exact n.short N R;have:=ag q ae;rcases R q with e|e;rw[e];exact this.short N R;exact e.short N R;refine .inr ⟨rfl,m',rfl,bg,s,λx V=> ?_,a9⟩;obtain⟨va,bc,vb⟩:=hv x V;obtain⟨r,q1,q2⟩:=a4 x V;rw[UP s _ ae,UP s _ ae,(ag _ ae).abp q1,(ag _ ae).abp q2]
end
section
variable{R:aX->Prop}{G:aL}{t:T}{O:aj}{L:ck}
variable[Inhabited cm]
end
def atL{X:Type}(n i:Nat)(f V:Nat->X)(g:X->X)(h:∀k<n,V k=if k=i then g (f k) else f k):((dj n).map f).modify i g=(dj n).map V:=by
 apply kS;intro q;rw[ab3];simp only[eo];by_cases W:q<n;rw[Em W];simp only[gc,h q W];by_cases e:i=q;subst e;simp;rw[aP (Ne.symm e)];simp[e];rw[ul (by simpa using QR W)];simp
section
open Classical in
section
variable{m:av}{a b d:RV}{n:Nat}
end
section
variable[Inhabited cm]
end
end
section
variable{R:aX->Prop}{G:aL}{t:T}{O:aj}{L:ck}

variable[Inhabited cm]
variable{a c d g b:RV}
end
section
variable{R:aX->Prop}{G:aL}{t:T}{O:aj}{L:ck}
variable[Inhabited cm]
variable{a c d g e:RV}
def Qy(b:RV)(i:Nat):RV:=cH (.sl 4) (aQ b.ah i 0)
def B4(b:RV)(i:Nat):RV:=cH (.sl 101) (aQ b.ah i 1)
structure abq(mv re:RV):Prop where
 lm:Y mv.ah=Y ay.ah
 lr:Y re.ah=Y ay.ah
 few:∀i<Y ay.ah,(cr 96 re i).ah.length<=Y di.ah
structure ajD(g:RV):Prop where
 len:(Y g.ah:Int)=eU
 B3:∀k<Y g.ah,∀i<(cr 100 g k).ah.length,abq (Qy (cr 100 g k) i) (B4 (cr 100 g k) i)
structure CsQ(c d:RV):Prop where
 len:∀i<Y d.ah,(cr 3 d i).ah.length=Y ay.ah
 idx:∀i<Y d.ah,∀j<(cr 3 d i).ah.length,0<=ci (cr 3 d i) j 0/\ci (cr 3 d i) j 0<Y c.ah
structure nq(a c d g e:RV):Prop where
 wk:jU=0
 qc:Mny a c d g
 aG:CsQ c d
 B5:ajD g
 g15:TB.Ev 26 (bL a c d g e) (.ret [.i 0])
end
section
variable{R:aX->Prop}{G:aL}{t:T}{O:aj}{L:ck}
def D7{c:Prop}[Decidable c]{a b:Prop}(h:c)(k:a):if c then a else b:=by rw[aH h];exact k
def Jj{c:Prop}[Decidable c]{a b:Prop}(h:¬c)(k:b):if c then a else b:=by rw[aP h];exact k
variable[Inhabited cm]
variable{d e f g i:RV}
end
section
variable{R:aX->Prop}{G:aL}{t:T}{O:aj}{L:ck}
variable[Inhabited cm]
variable{l u d g w c a k:RV}{aG:Int}{cl:Bool}
def x63(h:dV)(W:jU=0)(V:Y ay.ah<=1000)(ap:Int)(Q:jk ap 0 (eU-1)=J):∃o,TB.Ev 44 (wk++[.i ap]) o/\∃m,o=.ret [.r (ao m),.i 0]/\Y m=Y ay.ah/\mu m=true:=by
 obtain⟨o,P,v,e,rfl,N,M,H⟩:=aCU h ap;obtain⟨o,G,F⟩:=t63 h ap P M N V;rcases F with⟨D,-⟩|⟨-,m,rfl,X⟩;exact bE (H W Q) D;exact⟨_,G,m,rfl,X.len,X.ok⟩
def abr(h:dV)(s:jV l u d g w)(p:nq l u d g w)(N:Sl c)(M:Sl a)(H:Sl k)(aa:∀i<Y a.ah,Sl (cr 108 a i))(f:km d g c a k aG):TB.Ev 15 (bL l u d g w++[.r c,.i aG,.r a,.r k,.b cl]) (.ret [.i 0]):=by
 have o:=p.g15;have lc:=f.calls;have c0:=f.cast;have lk:=f.Au;have lo:=f.D6;refine evo rfl rfl (.inr λv=>nofun) ?_;simp only[wk,bL,cU,du] at o;simp[aaK,bL,wk,aY o,N.len,M.len,H.len,s.sr.len,s.sc.len,h.rl.len];refine⟨ae,ae,ae,ae,ae, ?_⟩;refine bQ (Y c.ah) (λn W=>W=[]) ⟨0,rfl,ae,rfl⟩ ?_;rintro i _ hi rfl;simp[N.len,s.sr.len];refine aW (λD=> ?_) (λm=> ?_);have e:=(s.At i ae).len;have e2:=f.call i D;simp only[cr,ci] at e e2;simp only[e];refine⟨D,ae,ae,ae, ?_⟩;rw[bD D N.sm];refine bQ (Y a.ah) (λn W=>W=[]) ⟨0,rfl,ae,rfl⟩ ?_;rintro j _ hj rfl;simp[N.len,M.len,H.len];intro Q;have G:=aa j Q;have F:=G.len;have X:=f.Gm j Q;obtain⟨V,hV⟩:∃V,cr 108 a j=V:=⟨_,rfl⟩;have B:cH (.sl 108) (aQ a.ah j 0)=V:=hV;obtain⟨k1,k2,A,k4,z,k6⟩:=X;rw[hV] at G F k1 k2 A k4 z;simp only[B,F];refine⟨Q, ?_⟩;by_cases h1:Y V.ah=1;have h0:ci k j 0=0:=Classical.byContradiction λq=>by have:=A.2 q;omega
 simp only[ci] at h0;refine D7 ae ⟨ae,D7 h0 ?_⟩;refine bQ (Y V.ah) (λn W=>W=[]) ⟨0,rfl,ae,rfl⟩ ?_;rintro q _ hq rfl;simp[N.len,M.len,H.len,B,F,Q];refine aW (λP=> ?_) (λm=> ?_);have e:=z q P;simp only[Qx,ci] at e;simp[P,e,bD P G.sm];refine⟨ae,D7 ae ?_⟩;rw[bD Q M.sm];have h2:Y V.ah=2:=ae;have o0:=A.1 h2;obtain⟨y,x,b3⟩:=k6 o0;have ne:=k4 h2;simp only[ci] at o0 y x b3 ne;refine Jj ae ⟨ae,ae,ae, ?_⟩;refine⟨λz0 z1 z2 z3 z4 z5 z6 z7 z8 z9 za zb zc=> ?_, ?_⟩
 ·obtain⟨q,hq,ab⟩:=ne;have:q=0\/q=1\/q=2\/q=3\/q=4\/q=5\/q=6\/q=7\/q=8\/q=9\/q=10\/q=11\/q=12:=ae;rcases this with rfl|rfl|rfl|rfl|rfl|rfl|rfl|rfl|rfl|rfl|rfl|rfl|rfl
  all_goals exact ab me
 refine bQ (Y V.ah) (λn W=>W=[]) ⟨0,rfl,ae,rfl⟩ ?_;rintro q _ hq rfl;simp[N.len,M.len,H.len,B,F,Q];refine aW (λP=> ?_) (λm=> ?_);have e:=z q P;simp only[Qx,ci] at e;simp[P,e,bD P G.sm];refine⟨ae,Jj ae ?_⟩;refine⟨y,x,⟨y,x⟩,b3, ?_⟩;rw[bD Q M.sm]
end
section
variable{R:aX->Prop}{G:aL}{t:T}{O:aj}{L:ck}
variable[Inhabited cm]
variable{v x m n y a k c:RV}{aG u l d:Int}{cl:Bool}
def UR(a c:RV)(u l d:Int):Prop:=(0<=u/\u<Y c.ah)/\(0<=l/\l<Y a.ah)/\bn (aQ a.ah l 0).val≠0/\0<=d/\d<=8
def D8(a c:RV)(u:Nat)(l d:Int):Prop:=ci c u 0=1+l/\(d=0\/d=bn (aQ a.ah l 0).val)
def dv(V:RV)(q:Nat):RV:=ao [[.mk (.int I (ci V q 0)) [],.mk (.int I (ci V q 1)) [],.mk (.int I (ci V q 2)) [],.mk (.int I (ci V q 3)) [],.mk (.int I (ci V q 4)) [],.mk (.int I (ci V q 5)) [],.mk (.int I (ci V q 6)) [],.mk (.int I (ci V q 7)) [],.mk (.int I (ci V q 8)) [],.mk (.int I (ci V q 9)) [],.mk (.int I (ci V q 10)) [],.mk (.int I (ci V q 11)) [],.mk (.int I (ci V q 12)) []]]
open Classical in
noncomputable def sF(a k c:RV)(r:Nat)(l d:Int):av:=if D8 a c r l d then k.ah.modify r λX=>gf X 0 [dv (cr 108 k r) (if d=0 then 0 else 1)] else k.ah
open Classical in
noncomputable def sG(a c:RV)(r:Nat)(l d:Int):av:=if D8 a c r l d then c.ah.modify r λX=>gf X 0 [.mk (.int I 0) []] else c.ah
def aC7{r b:Nat}(h:dV)(s:jV v x m n y)(p:nq v x m n y)(H:Sl a)(G:Sl k)(F:Sl c)(D:∀i<Y k.ah,Sl (cr 108 k i))(f:km m n a k c aG)(g:UR a c r b d):TB.Ev 23 (bL v x m n y++[.r a,.i aG,.r k,.r c,.b cl,.i r,.i b,.i d]) (.ret [.r (ao a.ah),.i aG,.r (ao (sF a k c r b d)),.r (ao (sG a c r b d)),.b cl,.i 0]):=by
 obtain⟨P,B⟩:∃P:aX->Prop,∀o,P o<->o=.ret [.r (ao a.ah),.i aG,.r (ao (sF a k c r b d)),.r (ao (sG a c r b d)),.b cl,.i 0]:=⟨_,λ_=>Iff.rfl⟩
 suffices af:∃o,TB.Ev 23 (bL v x m n y++[.r a,.i aG,.r k,.r c,.b cl,.i r,.i b,.i d]) o/\P o by
  obtain⟨o,A,g2⟩:=af;rw[(B o).1 g2] at A;exact A
 have u:=abr (cl:=cl) h s p H G F D f;have lc:=f.calls;have c0:=f.cast;have q:=f.Au;have l:=f.D6;have m5:=p.qc.bars;have m2:=p.qc.rl;have lO:=p.B5.len;obtain⟨⟨r0,Q⟩,⟨b0,j⟩,c1,p0,p1⟩:=g;refine eI ?_;simp only[wk,bL,cU,du] at u;have a1:¬(r:Int)<0:=ae;have a2:¬(Y c.ah:Int)<=r:=ae;have a3:¬(b:Int)<0:=ae;have a4:¬(Y a.ah:Int)<=b:=ae;have a5:¬d<0:=ae;have a6:¬8<d:=ae;have a7:¬a.ah=[]:=λe=>by rw[e] at j;simp at j;omega
 have a8:¬c.ah=[]:=λe=>by rw[e] at Q;simp at Q;omega
 have a9:¬k.ah=[]:=λe=>by rw[e] at q;rw[<-q] at l;rw[l] at Q;simp at Q;omega
 have aa:r<Y c.ah:=ae;have ab:b<Y a.ah:=ae;have M:r<Y k.ah:=ae;have e1:be .add I 1 (b:Int)=1+b:=by simp only[be];exact i8 ae ae
 have N:∀X O,X=sF a k c r b d->O=sG a c r b d->P (.ret [.r (ao a.ah),.i aG,.r (ao X),.r (ao O),.b cl,.i 0]):=λX O hK hO=>(B _).2 (by rw[hK,hO])
 have X:=f.Gm r M;have eS:=(D r M).len;have two:bn (aQ c.ah (r:Int) 0).val=1+(b:Int)->(cr 108 k r).ah.length=2:=λe=>X.opn.2 (by simp only[ci];omega)
 simp only[cr] at eS two;simp[aiV,bL,wk,aY u,H.len,G.len,F.len,s.sr.len,s.sc.len,h.rl.len,Ge,a1,a2,a3,a4,a5,a6,a7,a8,a9,aa,ab,M,c1,e1,eS];refine⟨ae,ae,ae,aW (λz=>aW (λW=>⟨by have:=two z;omega,N _ _ ?_ ?_⟩) (λW=>aW (λV=>⟨by have:=two z;omega,N _ _ ?_ ?_⟩) (λV=>N _ _ ?_ ?_))) (λz=>N _ _ ?_ ?_)⟩;rw[sF,aH ⟨z,.inl W⟩,aH W];rfl;rw[sG,aH ⟨z,.inl W⟩];rw[sF,aH ⟨z,.inr V⟩,aP W];rfl;rw[sG,aH ⟨z,.inr V⟩];rw[sF,aP λw=>w.2.elim W V];rw[sG,aP λw=>w.2.elim W V];rw[sF,aP λw=>z w.1];rw[sG,aP λw=>z w.1]
end
section
variable{R:aX->Prop}{G:aL}{t:T}{O:aj}{L:ck}
structure Dk(ca d a:RV):Prop where
 sc:Sl ca
 sk:Sl d
 so:Sl a
 kk:∀i<Y d.ah,Sl (cr 108 d i)
 k1:∀row∈d.ah,Y row=1
 o1:∀row∈a.ah,Y row=1
variable[Inhabited cm]
variable{ca d a:RV}{aG ba pr:Int}{m:Bool}{r:Nat}
def atN{M:av}{i k:Nat}{x:RV}(W:i<Y M)(V:∀X∈M,Y X=1):aQ (M.modify i λX=>gf X 0 [x]) (k:Int) 0=if k=i then x else aQ M (k:Int) 0:=by
 simp only[aQ,rM,dA,ab3];by_cases e:k=i;subst e;have:=V _ (sK W);rw[aH rfl,dB W];generalize M[k]=X at this
 match X,this with|[c],_=>simp[gf]
 have Q:¬i=k:=λq=>e q.symm
 rw[aP e];cases M[k]?<;>simp[Q]
def atO{M:av}{i:Nat}{x:RV}(h:∀W∈M,Y W=1):∀W∈(M.modify i λW=>gf W 0 [x]),Y W=1:=λW Q=>by
 obtain⟨q,X⟩:=sJ Q;rw[ab3] at X;cases V:M[q]? with
 |none=>rw[V] at X;cases X
 |some r=>
  rw[V] at X;have:=h r (jA V);by_cases e:i=q;simp[e] at X;subst X
  match r,this with|[c],_=>rfl
  simp[e] at X;subst X;exact this
def abs:(sF ca d a r ba pr).length=Y d.ah:=by
 unfold sF;split<;>simp
def ajF:(sG ca a r ba pr).length=Y a.ah:=by
 unfold sG;split<;>simp
open Classical in
def aC8(D:Dk ca d a)(X:r<Y a.ah)(k:Nat):ci (ao (sG ca a r ba pr)) k 0=if D8 ca a r ba pr/\k=r then 0 else ci a k 0:=by
 show bn (aQ (sG ca a r ba pr) (k:Int) 0).val=_;unfold sG;by_cases z:D8 ca a r ba pr;rw[aH z,atN X D.o1];by_cases e:k=r;rw[aH e,aH ⟨z,e⟩];rfl;rw[aP e,aP λw=>e w.2];rfl;rw[aP z,aP λw=>z w.1];rfl
open Classical in
def atP(D:Dk ca d a)(X:r<Y d.ah)(k:Nat):cr 108 (ao (sF ca d a r ba pr)) k=if D8 ca a r ba pr/\k=r then dv (cr 108 d r) (if pr=0 then 0 else 1) else cr 108 d k:=by
 show cH (.sl 108) (aQ (sF ca d a r ba pr) (k:Int) 0)=_;unfold sF;by_cases z:D8 ca a r ba pr;rw[aH z,atN X D.k1];by_cases e:k=r;rw[aH e,aH (c:=D8 ca a r ba pr/\k=r) ⟨z,e⟩];rfl;rw[aP e,aP (c:=D8 ca a r ba pr/\k=r) λw=>e w.2];rfl;rw[aP z,aP (c:=D8 ca a r ba pr/\k=r) λw=>z w.1];rfl
def yF(V:RV)(q:Nat):∀j<13,ci (dv V q) 0 j=ci V q j:=λj X=>by
 have:j=0\/j=1\/j=2\/j=3\/j=4\/j=5\/j=6\/j=7\/j=8\/j=9\/j=10\/j=11\/j=12:=ae;rcases this with rfl|rfl|rfl|rfl|rfl|rfl|rfl|rfl|rfl|rfl|rfl|rfl|rfl<;>rfl
def aC9(D:Dk ca d a)(W:r<Y d.ah):Dk (ao ca.ah) (ao (sF ca d a r ba pr)) (ao (sG ca a r ba pr)):=by
 refine⟨l8 D.sc.sm,l8 (by rw[abs];exact D.sk.sm),l8 (by rw[ajF];exact D.so.sm),λi V=> ?_, ?_, ?_⟩;rw[atP D W];split;exact l8 aw;exact D.kk i (by simpa[ao,abs] using V);show∀X∈sF ca d a r ba pr,Y X=1;unfold sF;split;exact atO D.k1;exact D.k1;show∀X∈sG ca a r ba pr,Y X=1;unfold sG;split;exact atO D.o1;exact D.o1
variable{n o g l p:RV}
def aDa{b:Nat}(D:Dk ca d a)(f:km g l ca d a aG)(P:r<Y d.ah):km g l (ao ca.ah) (ao (sF ca d a r b pr)) (ao (sG ca a r b pr)) aG:=by
 have M:r<Y a.ah:=by rw[f.D6,<-f.Au];exact P
 refine⟨f.calls,f.cast,by simp only[ao,RV.mR,abs];exact f.Au,by simp only[ao,RV.mR,ajF];exact f.D6,f.call,λi Q=> ?_⟩;have Q:i<Y d.ah:=by simpa only[ao,RV.mR,abs] using Q
 have X:=f.Gm i Q;have W:=atP (ca:=ca) (ba:=b) (pr:=pr) D P i;have V:=aC8 (ca:=ca) (ba:=b) (pr:=pr) D M i;by_cases z:D8 ca a r b pr/\i=r;rw[aH z] at W V;obtain⟨H,rfl⟩:=z;have F:(cr 108 d i).ah.length=2:=X.opn.2 (by have:=H.1;omega);refine⟨by rw[W];simp[dv,ao],by rw[W];simp[dv,ao],by rw[W,V];simp[dv,ao],by rw[W];simp[dv,ao],λq N=> ?_,λh=>bE V h⟩;rw[W] at N⊢;have G:q=0:=by simp[dv,ao] at N;omega
 subst G;have c:=X.gw (if pr=0 then 0 else 1) (by split<;>omega);simp only[Qx] at c⊢;simp only[yF _ _ _ (show 0<13 from ae),yF _ _ _ (show 1<13 from ae),yF _ _ _ (show 2<13 from ae),yF _ _ _ (show 3<13 from ae),yF _ _ _ (show 4<13 from ae),yF _ _ _ (show 5<13 from ae),yF _ _ _ (show 6<13 from ae),yF _ _ _ (show 7<13 from ae),yF _ _ _ (show 8<13 from ae),yF _ _ _ (show 9<13 from ae),yF _ _ _ (show 10<13 from ae),yF _ _ _ (show 11<13 from ae),yF _ _ _ (show 12<13 from ae)];exact c;rw[aP z] at W V;refine⟨by rw[W];exact X.one,by rw[W];exact X.two,by rw[W,V];exact X.opn,by rw[W];exact X.ne,by rw[W];exact X.gw,by rw[V];exact X.ap⟩
end
section
variable{R:aX->Prop}{G:aL}{t:T}{O:aj}{L:ck}
variable[Inhabited cm]
variable{a c d e f ca h op:RV}{aG:Int}{k:Bool}
def aDb{O:av}{r b:Nat}{X:Int}(W:(ao O).ah.length=Y op.ah)(g:UR ca op r b X):UR (ao ca.ah) (ao O) r b X:=by
 unfold UR;rw[W];exact g
end
section
variable{R:aX->Prop}{P:aL}{t:T}{O σ:aj}{L:ck}
def jy(O σ:aj):Prop:=(∃a,σ.i=O.i++a)/\∃b,σ.r=O.r++b
def jy.refl:jy O O:=⟨⟨[],aw⟩,[],aw⟩
def jy.trans{X:aj}(h:jy O σ)(k:jy σ X):jy O X:=by
 obtain⟨⟨a,W⟩,b,V⟩:=h;obtain⟨⟨c,Q⟩,d,P⟩:=k;exact⟨⟨a++c,by rw[Q,W,Ce]⟩,b++d,by rw[P,V,Ce]⟩
theorem jy.add(x:XV):jy O (O.add x):=by
 cases x;exact⟨⟨_,rfl⟩,[],aw⟩;exact⟨⟨[],aw⟩,[],aw⟩;exact⟨⟨[],aw⟩,_,rfl⟩
def jy.ext:∀(X:aZ)(O:aj),jy O (O.ext X)
 |[],_=>.refl|x::X,O=>(jy.add x).trans (jy.ext X (O.add x))
def jy.iv(h:jy O σ){k:Nat}(X:k<Y O.i):σ.i.getD k 0=O.i.getD k 0:=by
 obtain⟨⟨a,W⟩,_⟩:=h
 grind
theorem jy.rv(h:jy O σ){k:Nat}(X:k<Y O.r):σ.rv k=O.rv k:=by
 obtain⟨_,b,W⟩:=h
 grind [aj.rv]
def aDc{v:RV}{l:aE}{k:Nat}(h:O.r=l++[v])(X:Y l=k):O.rv k=v:=by
 grind [aj.rv]
def Gp{v:RV}{k:Nat}(X:Y O.r=k):(O.add (.r v)).rv k=v:=aDc rfl X
def ajG:∀(n:Nat)(t:T),T.wp TB.Ev R (Uw n t) O L=T.wp TB.Ev R t O L
 |0,_=>rfl|n+1,t=>by rw[Uw,yC,ajG n t];simp
def mb(V:RV)(i:Nat):aE:=(dj 13).map λq=>.mk (.int I (ci V i q)) []
def iU(X:aE):RV:=cH (.sl 108) (X.getD 0 default)
def kE:av->List av
 |[]=>[[]]|X::W=>(dj (iU X).ah.length).flatMap λi=>(kE W).map (mb (iU X) i::·)
def D9(X:aE)(W:av)(i:Nat):List av:=(dj i).flatMap λi=>(kE W).map (mb (iU X) i::·)
def US(X:aE)(W:av)(i:Nat):D9 X W (i+1)=D9 X W i++(kE W).map (mb (iU X) i::·):=by
 simp[D9,akU]
def atQ(X:aE)(W:av):kE (X::W)=D9 X W (iU X).ah.length:=rfl
def abt(W:aE)(X:av):∀i,(D9 W X i).length=i*(kE X).length
 |0=>by simp[D9]|i+1=>by rw[US,ga,abt W X i,oX,sL];omega
structure Lvl(d:Nat)(O:aj)(p:av)(S:RV):Prop where
 li:Y O.i=12+d
 lr:Y O.r=16+3*d
 lp:Y p=d
 prev:∀j<d,∀σ,jy O σ->(IZ j).map (C.cg σ)=p.getD j []
 da:O.rv (vn d)=S
def ajH(d:Nat):vn d<16+3*d:=by cases d<;>simp only[vn]<;>omega
def aDd{d:Nat}{S:RV}{i:Nat}(X:σ.rv (vn d)=S)(W:σ.i.getD (12+d) 0=(i:Int)):(IZ d).map (C.cg σ)=mb (iU (S.ah.getD 0 [])) i:=by
 simp only[IZ,mb,oY];refine kF λq V=> ?_
 simp only[Function.comp,C.cg,K.ai,RE.rv,X,W,iU,ci];rfl
variable[Inhabited cm]
variable{g A D G H w re s:RV}{aG ap:Int}{f:av->aE}{o:av->Int}
structure Qz(g A D G H w:RV)(aG ap:Int)(O:aj):Prop where
 a26:∀σ,jy O σ->(rk [(.agg (Qe++[(.ak (.v 5)),(.ak (.v 6)),(.ak (.v 7)),(.ak (.v 8)),(.ak (.v 9))])),(.int I (.v 6))]).map (C.xv σ)=bL g A D G H++[.i aG]
 pE:∀σ,jy O σ->∀u z y,(rk [(.agg Qe),(.agg [(.ak (.v 5))]),(.ak (.v u)),(.int I (.len (.v 10))),(.ak (.v 13)),(.ak (.v z)),(.ak (.v y))]).map (C.xv σ)=wk++[.r g,.r (σ.rv u),.i ap,.r w,.r (σ.rv z),.r (σ.rv y)]
def Qz.mono(h:Qz g A D G H w aG ap O)(k:jy O σ):Qz g A D G H w aG ap σ:=⟨λX q=>h.a26 X (k.trans q),λX q=>h.pE X (k.trans q)⟩
structure QA(g s w re:RV)(ap:Int)(f:av->aE)(o:av->Int):Prop where
 ans:∀c:av,Y c<=64->∃b M F S V B,f c=[.mk (.int I b) [],M,F,S,V,B]/\TB.Ev 54 (wk++[.r g,.r s,.i ap,.r w,.r (ao c),.r re]) (.ret [.i b,.r M,.r F,.r S,.r V,.r B,.i (o c)])
def aDe{d:Nat}{c a:av}{i:Nat}(k:Qz g A D G H w aG ap σ)(al:TB.Ev 55 (bL g A D G H++[.i aG]) (.ret [.r s]))(M:QA g s w re ap f o)(hc:Y c<=64)
  (li:Y σ.i=13+d)(y:Y σ.r=21+5*d)(hz:σ.rv (20+5*d)=ao c)(j:σ.rv (17+3*d)=re)(hA:σ.rv (16+3*d)=ao a)(hi:σ.i.getD (12+d) 0=(i:Int))(hl:Y a+1<=536870912)
  (hf:∀e,e≠0->R (.ret [.r (ao []),.i e]))(x:o c=0->I2 (Bh (2+d) L) [.i (be .add I (i:Int) 1),.r (ao (a++[f c])),.r re]):T.wp TB.Ev R (acT d) σ L:=by
 obtain⟨b,Q,F,S,V,B,ha,an⟩:=M.ans c hc;unfold acT;rw[ai8,k.a26 σ .refl,aY al,ai9];refine⟨rfl, ?_⟩;have P:jy σ (σ.add (.r s)):=.add _;show T.wp TB.Ev R _ (σ.add (.r s)) L;rw[ai8,k.pE _ P,Gp y,P.rv ae,P.rv ae,hz,j,aY an,ai9];refine⟨rfl, ?_⟩;generalize u:(σ.add (.r s)).ext [.i b,.r Q,.r F,.r S,.r V,.r B,.i (o c)]=X;have e2:jy (σ.add (.r s)) X:=u▸jy.ext _ _;have p:X.i=σ.i++[b,o c]:=by rw[<-u];simp[aj.ext,aj.add]
 have h:X.r=σ.r++[s,Q,F,S,V,B]:=by rw[<-u];simp[aj.ext,aj.add]
 have a0:X.i.getD (13+d) 0=b:=by rw[p];simp[dA,<-li]
 have n:X.i.getD (14+d) 0=o c:=by rw[p,show 14+d=Y σ.i+1 from ae];simp[dA]
 have W:∀q v,[s,Q,F,S,V,B][q]?=U v->X.rv (21+5*d+q)=v:=λq v hq=>by
  unfold aj.rv;rw[h,<-y];simp[dA,jl,hq]
 have aa:=W 1 Q rfl;have ab:=W 2 F rfl;have ac:=W 3 S rfl;have af:=W 4 V rfl;have ag:=W 5 B rfl;rw[show 21+5*d+1=22+5*d from ae] at aa;rw[show 21+5*d+2=23+5*d from ae] at ab;rw[show 21+5*d+3=24+5*d from ae] at ac;rw[show 21+5*d+4=25+5*d from ae] at af;rw[show 21+5*d+5=26+5*d from ae] at ag;have m:Y X.r=27+5*d:=by rw[h];simp[y];omega
 have l:=P.trans e2;have rA:X.rv (16+3*d)=ao a:=(l.rv ae).trans hA;have rR:X.rv (17+3*d)=re:=(l.rv ae).trans j;have iI:X.i.getD (12+d) 0=(i:Int):=(l.iv ae).trans hi;rw[Qf];refine aW (λN=> ?_) (λhn=> ?_);have N:o c≠0:=by
  simp only[BE.ai,K.ai,n,fk] at N;simpa using N
 rw[ajG,Uy];show R (.ret [.r (ao []),.i (X.i.getD (14+d) 0)]);rw[n];exact hf (o c) N;have h0:o c=0:=by
  simp only[BE.ai,K.ai,n,fk] at hn;simpa using hn
 have x:=x h0;rw[yC];refine⟨rfl, ?_⟩;rw[I3];have n1:gu (.lit [[(.int I (.v (13+d))),(.ak (.v (22+5*d))),(.ak (.v (23+5*d))),(.ak (.v (24+5*d))),(.ak (.v (25+5*d))),(.ak (.v (26+5*d)))]]) X=ao [f c]:=by
  rw[LL];simp only[LE.ah,dG,oD,C.cg,K.ai,RE.rv,a0,aa,ab,ac,af,ag,ha]
 rw[n1];have z:jy X (X.add (.r (ao [f c]))):=.add _;rw[yC];refine⟨?_, ?_⟩;simp only[BE.ai,K.ai,RE.rv,z.rv (show 16+3*d<Y X.r from ae),rA,Gp m,Qi,fk];simp only[nX,Cg,aC,dl];omega;rw[I3];have n2:gu (.iA (.ak (.v (16+3*d))) (.ak (.v (27+5*d)))) (X.add (.r (ao [f c])))=ao (a++[f c]):=by
  rw[LL];simp only[LE.ah,RE.rv,z.rv (show 16+3*d<Y X.r from ae),rA,Gp m,ov]
 rw[n2,ajG,aja];have e5:jy (X.add (.r (ao [f c]))) ((X.add (.r (ao [f c]))).add (.r (ao (a++[f c])))):=.add _;have l5:(X.add (.r (ao [f c]))).r.length=28+5*d:=by simp[aj.add,m];omega
 simp only[dG,oD,C.xv,K.ai,RE.rv,Gp l5,(z.trans e5).rv (show 17+3*d<Y X.r from ae),rR];rw[(z.trans e5).iv (show 12+d<Y X.i by rw[p];simp;omega),iI];exact x
def atT{d:Nat}{S:RV}{p x a:av}{W:aj}{i:Nat}(N:Qz g A D G H w aG ap W)(F:TB.Ev 55 (bL g A D G H++[.i aG]) (.ret [.r s]))(M:QA g s w re ap f o)(X:Lvl d O p S)(B:jy O W)(hd:d<=60)(hx:Y x=d+1)(z:∀j<d,x.getD j []=p.getD j [])
  (y:Y W.i=13+d)(lr:Y W.r=19+3*d)(u:W.rv (17+3*d)=re)(q:W.rv (16+3*d)=ao a)(n:W.i.getD (12+d) 0=(i:Int))(l:Y a+1<=536870912)
  (k:∀e,e≠0->R (.ret [.r (ao []),.i e]))(h:o x=0->I2 (Bh (2+d) L) [.i (be .add I (i:Int) 1),.r (ao (a++[f x])),.r re]):
  ∀(j m:Nat)(σ:aj),m+j=d+1->j<=d->jy W σ->σ.i=W.i->Y σ.r=19+3*d+2*m->σ.rv (18+3*d+2*m)=ao (x.drop j)->T.wp TB.Ev R (Ux d j m) σ L
 |0,m,σ,hm,_,e,Q,V,P=>by
  rw[Ux];refine aDe (N.mono e) F M ae (by rw[Q];exact y) (by rw[V];omega) ?_ ((e.rv ae).trans u) ((e.rv ae).trans q) (by rw[Q];exact n) l k h;rw[show 20+5*d=18+3*d+2*m from ae,P];rfl
 |j+1,m,σ,hm,hj,e,Q,V,P=>by
  rw[Ux,yC];refine⟨rfl, ?_⟩;have aa:x.getD j []::x.drop (j+1)=x.drop j:=by
   rw[Ei (i:=j) ae];simp[dA,dB (show j<Y x from ae)]
  have n1:gu (.lit [IZ j]) σ=ao [x.getD j []]:=by
   rw[LL];simp only[LE.ah,dG,oD];rw[X.prev j ae σ (B.trans e),z j ae]
  rw[I3,n1];have c:jy σ (σ.add (.r (ao [x.getD j []]))):=.add _;have b:=Gp (v:=ao [x.getD j []]) V;have v2:=(c.rv (show 18+3*d+2*m<Y σ.r from ae)).trans P;rw[yC];refine⟨?_, ?_⟩;simp only[BE.ai,K.ai,RE.rv,b,v2,Qi,fk];simp only[nX,Cg,Cf,aC,dl];omega;rw[I3];have n2:gu (.iA (.ak (.v (19+3*d+2*m))) (.ak (.v (18+3*d+2*m)))) (σ.add (.r (ao [x.getD j []])))=ao (x.drop j):=by
   rw[LL];simp only[LE.ah,RE.rv,b,v2,ov];rw[<-aa];rfl
  rw[n2];have l5:(σ.add (.r (ao [x.getD j []]))).r.length=20+3*d+2*m:=by simp[aj.add,V];omega
  refine atT N F M X B hd hx z y lr u q n l k h j (m+1) _ ae ae ((e.trans c).trans (.add _)) Q (by simp[aj.add,V];omega) ?_;rw[show 18+3*d+2*(m+1)=20+3*d+2*m from ae];exact Gp l5
def atU(ba:TB.Ev 55 (bL g A D G H++[.i aG]) (.ret [.r s]))(M:QA g s w re ap f o)(hf:∀e,e≠0->R (.ret [.r (ao []),.i e])):
  ∀(n d:Nat)(O:aj)(p:av)(S:RV)(V:aE)(W z:av)(L:ck),Qz g A D G H w aG ap O->Lvl d O p S->Sl S->S.ah=V::W->Y S.ah<=n->d+n<=60->(∀V∈S.ah,Sl (iU V))->
   (acI d).map (C.xv O)=[.i 0,.r (ao z),.r re]->Y z+(kE S.ah).length<=536870912->
   (∀c:PC,c.ax=2+d->(∀q∈kE S.ah,o (p++q)=0)->T.wp TB.Ev R (acE d) (O.ext [.i ((iU V).ah.length:Int),.r (ao (z++(kE S.ah).map λq=>f (p++q))),.r re]) (c::L))->T.wp TB.Ev R (acL n d) O L
 |0,d,O,p,S,V,W,z,L,hB,X,hS,B,hn,b3,hV,hI,u,m=>by
  rw[B] at hn;simp at hn
 |n+1,d,O,p,S,V,W,z,L,hB,X,hS,B,hn,b3,hV,hI,u,m=>by
  have aa:Sl (iU V):=hV V (by rw[B];simp);rw[B] at u m hn;simp only[nX] at hn;rw[atQ] at u m;obtain⟨N,l⟩:∃N,(iU V).ah.length=N:=⟨_,rfl⟩;rw[l] at u m;have bb:N<=140737488355328:=by rw[<-l];exact aa.sm
  rw[acL];refine bQ N (λi rs=>∃a,rs=[.r (ao a),.r re]/\a=z++(D9 V W i).map (λq=>f (p++q))/\∀q∈D9 V W i,o (p++q)=0) (by rw[hI];exact⟨0,rfl,rO _,z,rfl,by simp[D9],by simp[D9]⟩) ?_;rintro i _ hi ⟨a,rfl,ha,an⟩;have b4:Y a=Y z+i*(kE W).length:=by rw[ha];simp[abt]
  rw[abt] at u;have li:=X.li;have lr:=X.lr;have e1:jy O (O.ext [.i (i:Int),.r (ao a),.r re]):=jy.ext _ _;have a1:(O.ext [.i (i:Int),.r (ao a),.r re]).i=O.i++[(i:Int)]:=by simp[aj.ext,aj.add]
  have af:(O.ext [.i (i:Int),.r (ao a),.r re]).r=O.r++[ao a,re]:=by simp[aj.ext,aj.add]
  have cl:=m;generalize b5:O.ext [.i (i:Int),.r (ao a),.r re]=Q at e1 a1 af⊢;have vi:Q.i.getD (12+d) 0=(i:Int):=by rw[a1];simp[dA,<-li]
  have vA:Q.rv (16+3*d)=ao a:=by
   unfold aj.rv;rw[af];simp[dA,<-lr]
  have vR:Q.rv (17+3*d)=re:=by
   unfold aj.rv;rw[af,show 17+3*d=Y O.r+1 from ae];simp[dA]
  have y:Q.rv (vn d)=S:=(e1.rv (by rw[lr];exact ajH d)).trans X.da;have ag:cH (.sl 108) (aQ S.ah 0 0)=iU V:=by rw[B];rfl
  have lS:lenOf S.val=((Y W+1:Nat):Int):=by rw[hS.len,B];rfl
  rw[Qf];refine aW (λab=> ?_) (λb6=> ?_)
  rotate_left
  simp only[BE.ai,K.ai,RE.rv,vi,y,ag,aa.len,l,fk,dl] at b6;have b7:i=N:=ae;subst b7;rw[<-b5,ha];exact m _ rfl an;simp only[BE.ai,K.ai,RE.rv,vi,y,ag,aa.len,l,fk,dl] at ab;have ab:i<N:=ae;have bf:(i+1)*(kE W).length<=N*(kE W).length:=GA _ ab;rw[sL] at bf;rw[yC];refine⟨?_, ?_⟩;simp only[BE.ai,K.ai,RE.rv,vi,y,ag,aa.len,l,fk,aC,dl];omega;rw[yC];refine⟨?_, ?_⟩;simp only[BE.ai,K.ai,RE.rv,vi,y,ag,aa.len,l,fk,aC,dl];omega;rw[yC];refine⟨?_, ?_⟩;simp only[BE.ai,K.ai,RE.rv,y,lS,fk,dl];omega;rw[I3];have n1:gu (.sub (.ak (.v (vn d))) (.c 1) (.len (.v (vn d)))) Q=ao W:=by
   rw[LL];simp only[LE.ah,K.ai,RE.rv,y,lS,B];simp
  rw[n1];have e2:jy Q (Q.add (.r (ao W))):=.add _;have a3:Y Q.r=18+3*d:=by rw[af];simp[lr];omega
  have b8:Y Q.i=13+d:=by rw[a1];simp[li];omega
  have ac:=Gp (v:=ao W) a3;have wS:(Q.add (.r (ao W))).rv (vn d)=S:=(e2.rv (by rw[a3];have:=ajH d;omega)).trans y;have wA:(Q.add (.r (ao W))).rv (16+3*d)=ao a:=(e2.rv ae).trans vA;have wR:(Q.add (.r (ao W))).rv (17+3*d)=re:=(e2.rv ae).trans vR;have wi:(Q.add (.r (ao W))).i.getD (12+d) 0=(i:Int):=vi;have bg:(Q.add (.r (ao W))).i.length=13+d:=b8;have k:(Q.add (.r (ao W))).r.length=19+3*d:=by simp[aj.add,a3];omega
  generalize Q.add (.r (ao W))=P at e2 ac wS wA wR wi bg k⊢;have al:=e1.trans e2;have bk:∀σ,jy P σ->(IZ d).map (C.cg σ)=mb (iU V) i:=λσ e=>by
   have:=aDd (σ:=σ) (d:=d) (S:=S) (i:=i) ((e.rv (by have:=ajH d;omega)).trans wS) ((e.iv ae).trans wi);rw[B] at this;exact this
  rw[Qf];refine aW (λh=> ?_) (λbl=> ?_);simp only[BE.ai,K.ai,RE.rv,ac,Qi,fk] at h;have h:W=[]:=AC.1 (by simpa using h);subst h;rw[yC];refine⟨rfl, ?_⟩;have m1:gu (.lit [IZ d]) P=ao [mb (iU V) i]:=by
   rw[LL];simp only[LE.ah,dG,oD];rw[bk P .refl]
  rw[I3,m1];have e3:jy P (P.add (.r (ao [mb (iU V) i]))):=.add _;have bs:=Gp (v:=ao [mb (iU V) i]) k;rw[yC];refine⟨?_, ?_⟩;simp only[BE.ai,K.ai,RE.rv,bs,Qi,fk];simp;have m2:gu (.iA (.ak (.v (19+3*d))) (.lit [])) (P.add (.r (ao [mb (iU V) i])))=ao [mb (iU V) i]:=by
   rw[LL];simp only[LE.ah,RE.rv,bs,ov];rfl
  rw[I3,m2];have l3:(P.add (.r (ao [mb (iU V) i]))).r.length=20+3*d:=by simp[aj.add,k];omega
  have lp:=X.lp;refine atT (x:=p++[mb (iU V) i]) (a:=a) (hB.mono al) ba M X al ae (by simp[lp]) (λj hj=>by simp[dA,fT (show j<Y p from ae)]) bg k wR wA wi (by simp only[kE,nX,Cg] at u b4 bf;omega) hf (λh=> ?_) d 1 _ ae (cd _) (e3.trans (.add _)) rfl (by simp[aj.add,k]) ?_;simp only[Bh,dN];rw[bD ab bb];refine⟨_,rfl, ?_, ?_⟩;rw[ha,US];simp[kE];intro q F;rw[US] at F;rcases fg.1 F with F|F;exact an q F;simp only[kE,dG,oD,Vn] at F;subst F;exact h;rw[show 18+3*d+2*1=20+3*d from ae,Gp l3,avG ae,akH ae];rfl;simp only[BE.ai,K.ai,RE.rv,ac,Qi,fk] at bl;obtain⟨b,a4,bt⟩:∃b a4,W=b::a4:=by
   cases W with|nil=>simp at bl|cons r q=>exact⟨r,q,rfl⟩
  have bx:BE.ai P (.cmp .lss (.c 0) (.len (.v (18+3*d))))=true:=by
   simp only[BE.ai,K.ai,RE.rv,ac,Qi,fk,dl,bt,nX];omega
  rw[yC];refine⟨bx, ?_⟩;rw[yC];refine⟨bx, ?_⟩;have b0:=hS.sm;rw[B] at b0;simp only[nX] at b0;refine atU ba M hf n (d+1) P (p++[mb (iU V) i]) (ao W) b a4 a _ (hB.mono al) ⟨ae,ae,by simp[X.lp],λj hj σ e=> ?_,ac⟩ (l8 ae) bt (by simp only[ov];omega) ae (λq F=>hV q (by rw[B];exact AD _ F)) ?_ (by simp only[ov];omega) ?_;by_cases b1:j<d;rw[X.prev j b1 σ (al.trans e)];simp[dA,fT (show j<Y p by rw[X.lp];exact b1)];have:j=d:=ae;subst this;rw[bk σ e];simp[dA,<-X.lp];simp only[acI,dG,oD,C.xv,K.ai,RE.rv,wA,wR];intro c hc b2;simp only[ov] at b2⊢;rw[acE,aja];have ca:¬c.ax=2+d:=ae;simp only[Bh,ca,jB,dN];have e3:jy P (P.ext [.i ((iU b).ah.length:Int),.r (ao (a++(kE W).map λq=>f (p++[mb (iU V) i]++q))),.r re]):=jy.ext _ _;have a9:(P.ext [.i ((iU b).ah.length:Int),.r (ao (a++(kE W).map λq=>f (p++[mb (iU V) i]++q))),.r re]).r=P.r++[ao (a++(kE W).map λq=>f (p++[mb (iU V) i]++q)),re]:=by simp[aj.ext,aj.add]
  generalize P.ext [.i ((iU b).ah.length:Int),.r (ao (a++(kE W).map λq=>f (p++[mb (iU V) i]++q))),.r re]=O3 at e3 a9⊢;have cc:O3.rv (19+3*d)=ao (a++(kE W).map λq=>f (p++[mb (iU V) i]++q)):=by
   unfold aj.rv;rw[a9];simp[dA,<-k]
  have cf:O3.rv (20+3*d)=re:=by
   unfold aj.rv;rw[a9,show 20+3*d=Y P.r+1 from ae];simp[dA]
  simp only[dG,oD,C.xv,K.ai,RE.rv,cc,cf,(e3.iv (show 12+d<Y P.i from ae)).trans wi];rw[bD ab bb];refine⟨_,rfl, ?_, ?_⟩;rw[ha,US];simp[Ce];intro q F;rw[US] at F;rcases fg.1 F with F|F;exact an q F;obtain⟨q',ch,rfl⟩:=fw.1 F;have:=b2 q' ch;simpa[Ce] using this
end
section
variable{R:aX->Prop}{G:aL}{t:T}{O:aj}{L:ck}
variable[Inhabited cm]
variable{q u d a co l v w:RV}{aG k:Int}{cl:Bool}
def aDf(h:dV)(X:40<Y di.ah):TB.Ev 30 (bL q u d a co) (.ret [.b E]):=by
 refine kD ?_;unfold IY;simp only[bL,wk,cU,du];rw[Qf];refine D7 ?_ (by rw[Uy];rfl);show decide (_>_)=J;simp only[dl];show lenOf di.val>40;rw[h.sg.len];omega
def aDg(h:dV)(X:TB.Ev 30 (bL q u d a co) (.ret [.b J])):Y di.ah<=40:=Classical.byContradiction λW=>by
 have:=N3 X (aDf h ae);injection this with this;injection this with this;injection this with this;cases this
def nu(a l:RV)(k:Int):Int:=if Y a.ah<=Y l.ah\/k<1\/((cr 100 a (Y l.ah)).ah.length:Int)<k then 1 else 0
def ajJ(h:dV)(s:jV q u d a co)(p:nq q u d a co)(D:Dk l v w)(f:km d a l v w aG):TB.Ev 47 (bL q u d a co++[.r l,.i aG,.r v,.r w,.b cl,.i k]) (.ret [.i (nu a l k)]):=by
 have X:=abr (cl:=cl) h s p D.sc D.sk D.so D.kk f;refine kD ?_;simp only[wk,bL,cU,du] at X;simp[aaM,bL,wk,aY X,D.sc.len,s.sr.len];refine aW (λQ=> ?_) (λQ=> ?_);rw[nu,aH (.inl ae)];refine aW (λW=> ?_) (λW=> ?_);rw[nu,aH (.inr (.inl W))];have P:Y l.ah<Y a.ah:=ae;have e:=(s.At (Y l.ah) P).len;simp only[cr] at e;simp only[e];refine⟨ae,aW (λV=> ?_) (λV=> ?_)⟩;rw[nu,aH (.inr (.inr (by simpa[cr] using V)))];rw[nu,aP (by simp only[cr];omega)]
def aDh(h:dV)(s:jV q u d a co)(p:nq q u d a co){c:Nat}(X:c<Y d.ah):∃o,TB.Ev 55 (bL q u d a co++[.i c]) o/\∃m:av,o=.ret [.r (ao m)]/\Y m<=12:=by
 have V:=s.ccs c X;have e:=V.len;have Q:=p.aG.len c X;have P:=p.aG.idx c X;have G:=p.qc.rl;simp only[cr] at e;refine eI ?_;simp[aiX,bL,wk,s.sc.len,X,e];refine bQ (cr 3 d c).ah.length (λi N=>∃m:av,N=[.r (ao m)]/\Y m=i) ⟨0,rfl,ae,[],rfl,rfl⟩ ?_;rintro i _ F ⟨m,rfl,M⟩;simp[s.sc.len,s.sb.len,X,e];refine aW (λW=> ?_) (λD=> ?_);have g:=P i W;simp only[ci,cr] at g;rw[bD (n:=(cr 3 d c).ah.length) (show i<(cr 3 d c).ah.length from W) V.sm];refine⟨W,g, ?_,_,rfl,by simp[M]⟩;omega;have H:=Q;simp only[cr] at H;exact⟨m,rfl,ae⟩
end
section
variable{R:aX->Prop}{Q:aL}{t:T}{O:aj}{L:ck}
variable[Inhabited cm]
variable{wg G A v H m d N:RV}{aG k:Int}{cl:Bool}
def bR(f:Nat->Bool)(n:Nat):av:=(dj n).map λi=>[RV.mk (.bool (f i)) []]
def LV{n:Nat}:(bR V n).length=n:=by simp[bR]
def ajK{n i:Nat}(X:i<n):jr (aQ (bR V n) (i:Int) 0).val=V i:=by
 simp[aQ,bR,X,jr]
def vu(f:Nat->Bool)(X:RV)(n i:Nat):av:=(dj n).map λq=>[if decide (q<i)&&f q then cr 96 X q else ao []]
def ajL{X:RV}{n i:Nat}:(vu V X n i).length=n:=by simp[vu]
def aDi{X:RV}{n:Nat}:vu V X n 0=ee n [ao []]:=by
 simp[vu,List.map_const']
def aDj{X:RV}{n i:Nat}(Q:V i=J):(vu V X n i).modify i (λW=>gf W 0 [cr 96 X i])=vu V X n (i+1):=by
 refine atL n i _ _ _ λq _=> ?_
 grind [gf]
theorem aDl{X:RV}{n i:Nat}(W:V i=E):vu V X n (i+1)=vu V X n i:=by
 grind [vu]
def aDm{X:RV}{n i:Nat}(W:i<n)(Q:Sl (cr 96 X i)):cr 96 (ao (vu V X n n)) i=if V i then cr 96 X i else ao []:=by
 unfold cr;simp only[ov,aQ,vu,rM,dA,eo,Em W];simp[W];split
 grind [cH,cr,aQ]
 rfl
def Av:av->Nat
 |[]=>1|X::W=>(iU X).ah.length*Av W
def abu:∀l:av,(kE l).length=Av l
 |[]=>rfl|W::X=>by rw[atQ,abt,abu X];rfl
def aDn{l:av}{i:Nat}(X:i<Y l):Av (l.drop i)=(iU (l.getD i [])).ah.length*Av (l.drop (i+1)):=by
 grind [Ei,Av]
def ajM{d:RV}(i:Nat):iU (d.ah.getD i [])=cr 108 d i:=by
 simp only[iU,cr,aQ,rM]
def aDo{l:av}:∀q∈kE l,Y q=Y l:=by
 induction l with
 |nil=>simp[kE]
 |cons X W V=>
  grind [kE]
def aDp(h:dV)(ap:Int){bc mv re:RV}(H:Sl bc)(G:Sl mv)(D:Sl re)(A:∀i<Y re.ah,Sl (cr 96 re i)/\(cr 96 re i).ah.length<=100):∃W P,QA wg bc mv re ap W P/\∀c:av,Y c<=64->UO ap bc mv (ao c) re (.ret ([.i (bn ((W c).getD 0 default).val)]++((W c).drop 1).map XV.r++[.i (P c)])):=by
 have z:∀c:av,∃x:aE×Int,Y c<=64->(∃b M F S V B,x.1=[.mk (.int I b) [],M,F,S,V,B]/\TB.Ev 54 (wk++[.r wg,.r bc,.i ap,.r mv,.r (ao c),.r re]) (.ret [.i b,.r M,.r F,.r S,.r V,.r B,.i x.2]))/\UO ap bc mv (ao c) re (.ret ([.i (bn (x.1.getD 0 default).val)]++(x.1.drop 1).map XV.r++[.i x.2])):=λc=>by
  by_cases X:Y c<=64;obtain⟨o,g,Q⟩:=t13 h ap wg bc mv (ao c) re H G (l8 ae) D A;rcases id Q with⟨e,u,rfl⟩|⟨y,w,v,rfl,s⟩;exact⟨⟨[.mk (.int I 0) [],ao [],ao [],ao [],ao [],ao []],e⟩,λ_=>⟨⟨_,_,_,_,_,_,rfl,g⟩,Q⟩⟩;exact⟨⟨[.mk (.int I ap) [],ao mv.ah,ao c,ao y,ao w,ao v],0⟩,λ_=>⟨⟨_,_,_,_,_,_,rfl,g⟩,Q⟩⟩;exact⟨⟨[],0⟩,λq=>bE q X⟩
 obtain⟨F,N⟩:=Classical.axiomOfChoice z;exact⟨λc=>(F c).1,λc=>(F c).2,⟨λc X=>(N c X).1⟩,λc X=>(N c X).2⟩
def atV(h:dV)(s:jV wg G A v H)(p:nq wg G A v H)(D:Dk m d N)(f:km A v m d N aG){mf:Nat->Bool}{bc:av}{act:av->aE}{fe:av->Int}(b5:Y bc<=12)
  (aa:nu v m k=0->TB.Ev 48 (bL wg G A v H++[.r m,.i aG,.r d,.r N,.b cl,.i k]) (.ret [.r (ao (bR mf (Y ay.ah)))]))(af:TB.Ev 55 (bL wg G A v H++[.i aG]) (.ret [.r (ao bc)]))
  (M:nu v m k=0->QA wg (ao bc) (ao (bR mf (Y ay.ah))) (ao (vu mf (B4 (cr 100 v (Y m.ah)) (k-1).toNat) (Y ay.ah) (Y ay.ah))) (Y m.ah) act fe):
  ∃o,TB.Ev 37 (bL wg G A v H++[.r m,.i aG,.r d,.r N,.b cl,.i k]) o/\((∃e,e≠0/\o=.ret [.r (ao []),.i e])\/(nu v m k=0/\(∀q∈kE d.ah,fe q=0)/\o=.ret [.r (ao ((kE d.ah).map act)),.i 0])):=by
 obtain⟨P,hP⟩:∃P:aX->Prop,∀o,P o<->((∃e,e≠0/\o=.ret [.r (ao []),.i e])\/(nu v m k=0/\(∀q∈kE d.ah,fe q=0)/\o=.ret [.r (ao ((kE d.ah).map act)),.i 0])):=⟨_,λ_=>Iff.rfl⟩
 suffices b6:∃o,TB.Ev 37 (bL wg G A v H++[.r m,.i aG,.r d,.r N,.b cl,.i k]) o/\P o by
  grind
 have ag:∀e,e≠0->P (.ret [.r (ao []),.i e]):=λe he=>(hP _).2 (.inl ⟨e,he,rfl⟩)
 have a0:=ajJ (cl:=cl) (k:=k) h s p D f;have lk:=f.Au;have b7:=p.qc.rl;have a4:∀i<Y d.ah,1<=(cr 108 d i).ah.length/\(cr 108 d i).ah.length<=2:=λi g=>⟨(f.Gm i g).one,(f.Gm i g).two⟩
 refine eI ?_;simp only[wk,bL,cU,du] at a0;simp[ai7,bL,wk,aY a0];refine aW (λh0=> ?_) (λh0=>ag _ h0);have aa:=aa h0;have M:=M h0;have a9:Y m.ah<Y v.ah/\1<=k/\k<=(cr 100 v (Y m.ah)).ah.length:=by
  grind [nu]
 obtain⟨ab,b8,cc⟩:=a9;obtain⟨X,ba⟩:∃X:Nat,k=X+1:=⟨(k-1).toNat,ae⟩;subst ba;have bb:((X:Int)+1-1).toNat=X:=ae;rw[bb] at M;have ac:X<(cr 100 v (Y m.ah)).ah.length:=ae;refine bQ (Y d.ah) (λi Q=>∃q:Nat,Q=[.i q]/\q*Av (d.ah.drop i)=Av d.ah/\1<=q/\q<=256) ⟨0,rfl,ae,1,rfl,aw,ae,ae⟩ ?_;rintro i _ g ⟨q,rfl,hq,bf,bg⟩;simp[D.sk.len];refine aW (λW=> ?_) (λbk=> ?_);have e:=(D.kk i W).len;have el:=a4 i W;have ed:=aDn W;rw[ajM] at ed;simp only[cr] at e el ed;simp only[e];obtain⟨w,hw⟩:∃w,(cH (.sl 108) (aQ d.ah (i:Int) 0)).ah.length=w:=⟨_,rfl⟩;rw[hw] at el ed⊢;have hm:be .mul I (q:Int) (w:Int)=((q*w:Nat):Int):=by
  simp only[be];have:q*w<=256*2:=Mh bg el.2;rw[<-av5,i8 ae ae]
 rw[hm];refine⟨W,aW (λn=>ag 2 ew) (λn=> ?_)⟩;rw[bD W D.sk.sm];refine⟨_,rfl, ?_, ?_,ae⟩
 grind
 exact Mh bf el.1;have bl:i=Y d.ah:=ae;subst bl;have cf:Av d.ah<=256:=by
  rw[akH (cd _)] at hq;simp only[Av,akZ] at hq;omega
 clear hq g bk;simp only[wk,bL,cU,du] at aa;simp[aY aa];rw[LV];have bs:Y ay.ah<=140737488355328:=ae;have hS:=s.At (Y m.ah) ab;have eS:=hS.len;have pg:=s.B3 (Y m.ah) ab X ac;have pp:=p.B5.B3 (Y m.ah) ab X ac;obtain⟨B,hB⟩:∃B,cr 100 v (Y m.ah)=B:=⟨_,rfl⟩;rw[hB] at hS eS pg pp ac M;have bt:cH (.sl 100) (aQ v.ah (Y m.ah:Int) 0)=B:=hB;obtain⟨RL,eR⟩:∃x,B4 B X=x:=⟨_,rfl⟩;have a1:cH (.sl 101) (aQ B.ah (X:Int) 1)=RL:=eR;obtain⟨-,p2,p3⟩:=pg;have lr:=pp.lr;rw[eR] at lr M;simp only[a1] at p2 p3;have k2:=p2.len;have bx:be .sub I ((X:Int)+1) 1=(X:Int):=by
  simp only[be];rw[i8 (by have:=hS.sm;omega) (by have:=hS.sm;omega)];omega
 refine⟨ae, ?_⟩;refine bQ (Y ay.ah) (λi Q=>Q=[.r (ao (vu mf RL (Y ay.ah) i))]) ⟨0,rfl,ae,by show[XV.r (ao (ee _ [ao []]))]=_;rw[aDi]⟩ ?_;rintro j _ hj rfl;simp[LV,ajL,D.sc.len,s.sr.len,bt,eS,a1,k2,lr,bx];refine aW (λW=> ?_) (λch=> ?_);rw[ajK W];refine⟨W,aW (λhm=> ?_) (λhm=> ?_)⟩;refine⟨ab,ac,W, ?_⟩;rw[bD W bs,show cH (.sl 96) (aQ RL.ah (j:Int) 0)=cr 96 RL j from rfl,aDj hm]
 grind [bD,aDl]
 have b0:j=Y ay.ah:=ae;subst b0;have al:(∀q∈kE d.ah,fe q=0)->P (.ret [.r (ao ((kE d.ah).map act)),.i 0]):=λq=>(hP _).2 (.inr ⟨h0,q,rfl⟩)
 have b1:=D.sk.len;by_cases hz:d.ah=[];have b2:lenOf d.val=0:=by rw[b1,hz];rfl
 refine D7 b2 ?_;obtain⟨b,Mm,F,S,V,Bx,l,a3⟩:=M.ans [] aw;rw[hz] at al;simp only[kE,Vn,dG,oD,l] at al;simp only[wk,bL,cU,du] at af a3;simp[aY af,D.sc.len,aY a3]
 grind
 have cn:0<Y d.ah:=avR.2 hz;refine Jj ae ?_;refine⟨ae, ?_⟩;obtain⟨an,Q,hr⟩:∃an Q,d.ah=an::Q:=by
  cases hk:d.ah with|nil=>exact bE hk hz|cons r q=>exact⟨r,q,rfl⟩
 refine atU (re:=ao (vu mf RL (Y ay.ah) (Y ay.ah))) af M ag 12 0 _ [] d an Q [] _ ⟨λσ e=> ?_,λσ e u z y=> ?_⟩ ⟨rfl,rfl,rfl,λj hj=>bE hj (awa j),rfl⟩ D.sk hr ae ae (λcp b3=> ?_) rfl (by rw[abu];simp only[Cg];omega) (λc _ b4=> ?_);obtain⟨⟨a,l⟩,b,n⟩:=e;obtain⟨si,sb,sr,sy⟩:=σ;simp only at l n;subst l;subst n;simp[Qe,bL,wk];obtain⟨⟨a,l⟩,b,n⟩:=e;obtain⟨si,sb,sr,sy⟩:=σ;simp only at l n;subst l;subst n;simp[Qe,wk,D.sc.len];obtain⟨i,g,rfl⟩:=avS b3;have:=D.kk i g;rw[<-ajM] at this
 grind
 rw[acE,Uy];exact al b4
end
section
variable{R:aX->Prop}{H:aL}{t:T}{O:aj}{L:ck}
variable[Inhabited cm]
variable{y F w g G c v u:RV}{aG k:Int}{cl:Bool}
def LW(X:nu g c k=0):Y c.ah<Y g.ah/\1<=k/\k<=(cr 100 g (Y c.ah)).ah.length:=by
 grind [nu]
theorem atW{n:Nat}{b:Bool}:bR V n++[[RV.mk (.bool b) []]]=bR (λq=>if q=n then b else V q) (n+1):=by
 simp only[bR,akU,GF,dG,oD,dN];congr 1;refine kF λq X=> ?_
 grind
def ajN(h:dV)(s:jV y F w g G)(p:nq y F w g G)(D:Dk c v u)(f:km w g c v u aG)(h0:nu g c k=0):∃o,TB.Ev 48 (bL y F w g G++[.r c,.i aG,.r v,.r u,.b cl,.i k]) o/\∃W,o=.ret [.r (ao (bR W (Y ay.ah)))]/\∀i<Y ay.ah,W i=J->cb (Qy (cr 100 g (Y c.ah)) (k-1).toNat) i 0=true:=by
 obtain⟨V,ag,al⟩:=LW h0;obtain⟨X,rfl⟩:∃X:Nat,k=X+1:=⟨(k-1).toNat,ae⟩;have aa:((X:Int)+1-1).toNat=X:=ae;rw[aa];have Q:X<(cr 100 g (Y c.ah)).ah.length:=ae;have lO:=p.B5.len;have m2:=p.qc.rl;have lk:=f.Au;obtain⟨o,n,m,rfl,gk⟩:=x63 h p.wk (show Y ay.ah<=1000 from ae) (Y c.ah) bZ;have l:Y m=Y ay.ah:=gk.1;have ab:Y ay.ah<=140737488355328:=ae;have N:=s.At (Y c.ah) V;have d:=N.len;have a:=s.B3 (Y c.ah) V X Q;have pp:=p.B5.B3 (Y c.ah) V X Q;obtain⟨B,hB⟩:∃B,cr 100 g (Y c.ah)=B:=⟨_,rfl⟩;rw[hB] at N d a pp Q;have ac:cH (.sl 100) (aQ g.ah (Y c.ah:Int) 0)=B:=hB;obtain⟨M,A⟩:∃M,cH (.sl 4) (aQ B.ah X 0)=M:=⟨_,rfl⟩;have P:abq M (B4 B X):=by rw[<-A];exact pp
 have p1:=a.1;rw[A] at p1;have k1:=p1.len;have lm:=P.lm;have af:be .sub I ((X:Int)+1) 1=(X:Int):=by
  simp only[be];rw[i8 (by have:=N.sm;omega) (by have:=N.sm;omega)];omega
 refine eI ?_;simp only[wk,cU,du] at n;simp[aiZ,bL,wk,D.sc.len,aY n];refine bQ (Y ay.ah) (λi z=>∃x,z=[.r (ao x)]) ⟨0,rfl,ae,[],rfl⟩ ?_;rintro i _ hi ⟨x,rfl⟩;simp[l,D.sk.len];refine aW (λH=> ?_) (λan=> ?_)
 grind [cr,bD]
 refine bQ (Y ay.ah) (λi z=>∃W,z=[.r (ao (bR W i))]/\∀q<i,W q=J->cb M q 0=J) ⟨0,rfl,ae,λ_=>E,rfl,ae⟩ ?_;rintro j _ hj ⟨W,rfl,a0⟩;simp[l,D.sc.len,s.sr.len,ac,d,A,k1,lm,af,LV];refine aW (λH=> ?_) (λa1=> ?_);refine⟨H,V,Q,H,aW (λhm=>⟨ae, ?_⟩) (λhm=>⟨ae, ?_⟩)⟩;rw[bD H ab,atW];refine⟨_,rfl,λq hq a3=> ?_⟩;by_cases e:q=j;subst e;exact hm
 grind
 grind [bD,atW]
 have:j=Y ay.ah:=ae;subst this
 grind [Qy]
def aDq(h:dV)(s:jV y F w g G)(p:nq y F w g G)(D:Dk c v u)(f:km w g c v u aG):∃a b d q,TB.Ev 22 (bL y F w g G++[.r c,.i aG,.r v,.r u,.b cl,.i 0]) (.ret [.r a,.i (if Y g.ah<=Y c.ah then 0 else aG),.r b,.r d,.b (if Y g.ah<=Y c.ah then E else cl),.r q,.i (if Y g.ah<=Y c.ah then 1 else 0)])/\(Y c.ah<Y g.ah->a=ao (c.ah++[[.mk (.int I 0) []]])/\b=ao v.ah/\d=ao u.ah/\q=ao []):=by
 have V:=abr (cl:=cl) h s p D.sc D.sk D.so D.kk f;have m5:=p.qc.bars;have m2:=p.qc.rl;have lO:=p.B5.len;have lc:=f.calls;have lk:=f.Au;have lo:=f.D6;simp only[wk,bL,cU,du] at V;by_cases Q:Y g.ah<=Y c.ah;refine⟨ao [],ao [],ao [],ao [], ?_,λq=>ae⟩;refine kD ?_;simp[Uv,bL,wk,aY V,D.sc.len,s.sr.len,Q]
 ·refine⟨ao (c.ah++[[.mk (.int I 0) []]]),ao v.ah,ao u.ah,ao [], ?_,λ_=>⟨rfl,rfl,rfl,rfl⟩⟩;simp only[aP Q];obtain⟨P,W⟩:∃P:aX->Prop,∀o,P o<->o=.ret [.r (ao (c.ah++[[.mk (.int I 0) []]])),.i aG,.r (ao v.ah),.r (ao u.ah),.b cl,.r (ao []),.i 0]:=⟨_,λ_=>Iff.rfl⟩
  suffices M:∃o,TB.Ev 22 (bL y F w g G++[.r c,.i aG,.r v,.r u,.b cl,.i 0]) o/\P o by
   obtain⟨o,N,H⟩:=M;rw[(W o).1 H] at N;exact N
  have B:∀A X O,A=c.ah++[[RV.mk (.int I 0) []]]->X=v.ah->O=u.ah->P (.ret [.r (ao A),.i aG,.r (ao X),.r (ao O),.b cl,.r (ao []),.i 0]):=λA X O z x n=>(W _).2 (by rw[z,x,n])
  have m:KD P:=λa b j e=>by
   rw[(W a).1 j,(W b).1 e];exact⟨rfl,Hv _⟩
  have nl:∀{l:av},Y l<=0->l=[]:=λh=>AC.1 ae
  refine eI ?_;simp[Uv,bL,wk,aY V,D.sc.len,D.sk.len,D.so.len,s.sr.len,Q,Ge,m];have b1:(Y c.ah:Int)<=536870912:=ae;have b2:(Y v.ah:Int)<=536870912:=ae;have b3:(Y u.ah:Int)<=536870912:=ae
  repeat'(first|exact b1|exact b2|exact b3|apply And.intro|intro _)
  all_goals(refine B _ _ _ ?_ ?_ ?_<;>first|rfl|exact Eq.symm me|(rw[show c.ah=[] from me];rfl))
def aDr(D:Dk c v u)(X:Y c.ah<=1000):Dk (ao (c.ah++[[.mk (.int I 0) []]])) (ao v.ah) (ao u.ah):=⟨l8 bZ,l8 D.sk.sm,l8 D.so.sm,D.kk,D.k1,D.o1⟩
def aDs(D:Dk c v u)(f:km w g c v u aG)(F:Y c.ah<Y g.ah):km w g (ao (c.ah++[[.mk (.int I 0) []]])) (ao v.ah) (ao u.ah) aG:=by
 have V:∀i<Y c.ah,aQ (c.ah++[[RV.mk (.int I 0) []]]) (i:Int) 0=aQ c.ah (i:Int) 0:=λi X=>by
  grind [aQ]
 refine⟨bZ,f.cast,f.Au,f.D6,λi X=> ?_,λi X=> ?_⟩;simp at X;by_cases e:i<Y c.ah;have:=f.call i e
 grind [ci,ov]
 have:i=Y c.ah:=ae;subst this;have:ci (ao (c.ah++[[RV.mk (.int I 0) []]])) (Y c.ah) 0=0:=by
  simp[ci,aQ,bn]
 omega;obtain⟨Q,P,N,M,H,G⟩:=f.Gm i X;refine⟨Q,P,N,M,H,λh=> ?_⟩;obtain⟨W,B,A⟩:=G h;refine⟨W, ?_, ?_⟩;show _<(((c.ah++[[RV.mk (.int I 0) []]]).length:Nat):Int);have:ci (ao u.ah) i 0=ci u i 0:=rfl
 grind
 have e:=V (be .sub I (ci u i 0) 1).toNat ae;rw[aIW W] at e;show bn (aQ (c.ah++[[RV.mk (.int I 0) []]]) (be .sub I (ci u i 0) 1) 0).val≠0
 grind
end
section
variable{R:aX->Prop}{G:aL}{t:T}{O:aj}{L:ck}{a b:RV}
end
section
variable{R:aX->Prop}{G:aL}{t:T}{O:aj}{L:ck}
variable[Inhabited cm]
variable{c e d g m a o u:RV}{aG k:Int}{v:Bool}
def sH(X:Nat->Bool)(n:Nat):List Nat:=(dj n).filter X
def yG(X:Nat->Bool)(n:Nat):av:=(sH X n).map λi:Nat=>[RV.mk (.int I (i:Int)) []]
def atX{n:Nat}:yG V (n+1)=if V n then yG V n++[[RV.mk (.int I (n:Int)) []]] else yG V n:=by
 simp only[yG,sH,akU,List.filter_append,GF];cases h:V n<;>simp[List.filter_cons,h]
def ajO{mf:Nat->Bool}{n:Nat}:(sH mf n).length<=n:=by
 have:=aIP mf (dj n);simpa[sH] using this
def atY(h:dV)(s:jV c e d g m)(p:nq c e d g m)(D:Dk a o u)(f:km d g a o u aG)(M:nu g a k=0)
  (P:TB.Ev 48 (bL c e d g m++[.r a,.i aG,.r o,.r u,.b v,.i k]) (.ret [.r (ao (bR V (Y ay.ah)))])):TB.Ev 28 (bL c e d g m++[.r a,.i aG,.r o,.r u,.b v,.i k]) (.ret [.r (ao (yG V (Y ay.ah))),.i 0]):=by
 have W:=ajJ (cl:=v) (k:=k) h s p D f;have G:=p.qc.rl;have N:Y ay.ah<=140737488355328:=ae;refine kD ?_;simp only[wk,bL,cU,du] at W P;rw[M] at W;simp[aaL,bL,wk,aY W,aY P];refine bQ (Y ay.ah) (λi H=>H=[.r (ao (yG V i))]) ⟨0,rfl,ae,rfl⟩ ?_;rintro i _ F rfl;simp[LV];refine aW (λX=> ?_) (λB=> ?_);rw[ajK X];refine⟨X,aW (λQ=>⟨?_, ?_⟩) (λQ=> ?_)⟩;have:=ajO (mf:=V) (n:=i);simp only[yG,oX];omega;rw[bD X N,atX,aH Q];rw[bD X N,atX,aP Q];have:i=Y ay.ah:=ae;subst this;rfl
def atZ:∀{l:av},(∀X∈l,1<=(iU X).ah.length)->1<=Av l
 |[],_=>cd 1|X::V,h=>Mh (h X aw) (atZ λr W=>h r (by simp[W]))
def at0:∀{l:av},(∀X∈l,(iU X).ah.length<=2)->Av l<=2^Y l
 |[],_=>cd 1
 |X::W,h=>by
  have:=Mh (h X aw) (at0 (l:=W) λr V=>h r (by simp[V]));simp only[Av,nX,awe];omega
def at1{mf:Nat->Bool}{n q:Nat}:q∈sH mf n<->q<n/\mf q=true:=by simp[sH]
def aDt{n j:Nat}(X:j<(sH V n).length):bn (aQ (yG V n) (j:Int) 0).val=((sH V n)[j]:Int):=by
 simp[aQ,yG,dA,dB X,bn]
end
section
def aDu{a:RV}(X:Sl a)(n:Int):∃o,TB.Ev 42 [.r a,.i n] o/\∃b,o=.ret [.b b]/\(b=J->∀j<Y a.ah,0<=ci a j 0/\ci a j 0<n):=by
 refine eI ?_;simp[aiU];refine bQ (Y a.ah) (λi R=>∃m,R=[.r (ao m)]/\∀j<i,0<=ci a j 0/\ci a j 0<n) ⟨0,rfl,ae,[],rfl,λj h=>ae⟩ ?_;rintro i _ O ⟨m,rfl,W⟩;simp[X.len];refine aW (λV=>⟨V, ?_⟩) (λN=>λj M=>W j ae);intro Q P _;rw[bD V X.sm];exact⟨⟨_,rfl⟩,LS W ⟨Q,P⟩⟩
def aDv[Inhabited cm](h:dV){bw ap:Int}{r:RV}(W:Sl r){e:Int}(g:TB.Ev 45 (wk++[.i bw,.i ap,.r r]) (.ret [.i e]))(V:e=0):Y r.ah<=Y di.ah:=by
 have R:(dS bw ap).length<=Y di.ah:=by
  unfold dS;split;rw[pL];exact UA _;simp
 by_cases Q:(dS bw ap).length=Y r.ah;omega;have X:=I8 oW h bw ap;have:TB.Ev 45 (wk++[.i bw,.i ap,.r r]) (.ret [.i (if ma bw ap=0 then 270 else ma bw ap)]):=by
  refine kD ?_;simp only[wk,cU,du] at X;simp[Ut,wk,aY X,W.len]
  grind
 have:=N3 g this
 grind
variable[Inhabited cm]
variable{p l d c t:RV}
def aDw(h:dV)(s:jV p l d c t):∃o,TB.Ev 26 (bL p l d c t) o/\∃e,o=.ret [.i e]/\(e=0->jU=0/\Mny p l d c/\CsQ l d/\ajD c):=by
 have w:=(yD oW h).1;refine Qg rfl rfl (.inr λv=>nofun) ?_;simp only[wk] at w;simp[aiW,bL,wk,aY w,s.sw.len,s.sb.len,s.sc.len,h.rl.len];refine aW (λN=> ?_) (λN q=>bE q N);intro m1 m2 m3 m4 m5;refine bQ (Y c.ah) (λn X=>X=[]/\∀i<n,(cr 100 c i).ah.length<=8) ⟨0,rfl,ae,rfl,λi Q=>ae⟩ ?_;rintro i _ Q ⟨rfl,hb⟩;simp[s.sr.len];refine aW (λW=> ?_) (λan=> ?_);have e:=(s.At i W).len;simp only[cr] at e;simp only[e];refine⟨W,λh8=> ?_⟩;rw[bD W s.sr.sm]
 grind [cr]
 have mn:Mny p l d c:=⟨ae,ae,ae,ae,m5,λq D=>hb q ae⟩;refine bQ (Y l.ah) (λn X=>X=[]) ⟨0,rfl,ae,rfl⟩ ?_;rintro i2 _ a0 rfl;simp[s.sb.len,s.sc.len,s.sr.len];refine aW (λW=> ?_) (λa1=> ?_)
 grind [bD]
 intro c0 lO;refine bQ (Y d.ah) (λn X=>X=[]/\∀i<n,(cr 3 d i).ah.length=Y ay.ah/\∀j<(cr 3 d i).ah.length,0<=ci (cr 3 d i) j 0/\ci (cr 3 d i) j 0<Y l.ah) ⟨0,rfl,ae,rfl,λi Q=>ae⟩ ?_;rintro i3 _ a3 ⟨rfl,u⟩;simp[s.sb.len,s.sc.len,h.rl.len];refine aW (λW=> ?_) (λa4=> ?_);have P:=s.ccs i3 W;have a:=P.len;obtain⟨o,g,b,rfl,a9⟩:=aDu P (Y l.ah);simp only[cr] at g a;simp only[a];refine⟨W,λel=> ?_⟩;simp[aY g]
 grind [bD,cr]
 have CS:CsQ l d:=⟨λq D=>(u q ae).1,λq D=>(u q ae).2⟩;refine bQ (Y c.ah) (λn X=>X=[]/\∀k<n,∀i<(cr 100 c k).ah.length,abq (Qy (cr 100 c k) i) (B4 (cr 100 c k) i)) ⟨0,rfl,ae,rfl,λi Q=>ae⟩ ?_;rintro k _ hk ⟨rfl,af⟩;simp[s.sr.len];refine aW (λA=>⟨A, ?_⟩) (λba=> ?_)
 ·have P:=s.At k A;have eS:=P.len;have pg:=s.B3 k A;obtain⟨B,hB⟩:∃B,cr 100 c k=B:=⟨_,rfl⟩;rw[hB] at P eS pg;have aa:cH (.sl 100) (aQ c.ah k 0)=B:=hB;refine bQ (Y p.ah) (λn X=>X=[]) ⟨0,rfl,ae,rfl⟩ ?_;rintro i4 _ bb rfl;simp[s.sw.len];refine aW (λW=> ?_) (λbc=> ?_);have ab:=f25 (ci p i4) k;simp only[LM,ci,cU,du] at ab;simp[W,aY ab];intro e0;rw[bD W s.sw.sm];obtain⟨o,ac,m,rfl,ml,gk⟩:=x63 h N ae k bZ;simp only[wk,cU,du] at ac;simp[aY ac];refine bQ (Y B.ah) (λn X=>X=[]/\∀i<n,abq (Qy B i) (B4 B i)) ⟨0,rfl,ae,rfl,λi Q=>ae⟩ ?_;rintro y _ bf ⟨rfl,ag⟩;simp[aa,eS,h.rl.len];refine aW (λR=> ?_) (λbg=> ?_)
  rotate_left
  grind [bD]
  obtain⟨x,M⟩:∃x,cH (.sl 4) (aQ B.ah y 0)=x:=⟨_,rfl⟩;obtain⟨O,L⟩:∃O,cH (.sl 101) (aQ B.ah y 1)=O:=⟨_,rfl⟩;obtain⟨p1,p2,H⟩:=pg y R;rw[M] at p1;rw[L] at p2 H;simp only[M,L];have k1:=p1.len;have k2:=p2.len;refine⟨R,λq1 q2=> ?_⟩;have lm:Y x.ah=Y ay.ah:=ae;have lr:Y O.ah=Y ay.ah:=ae;refine bQ (Y ay.ah) (λn X=>X=[]/\∀i<n,(cr 96 O i).ah.length<=Y di.ah) ⟨0,rfl,ae,rfl,λi Q=>ae⟩ ?_;rintro V _ bk ⟨rfl,h6⟩;simp[aa,M,L,k1,k2,lm,lr];refine aW (λG=> ?_) (λbl=> ?_)
  rotate_left
  rw[bD R P.sm];exact⟨rfl,LS ag (by
   simp only[Qy,B4,M,L];exact⟨lm,lr,λi Q=>h6 i ae⟩)⟩
  have nn:bn (aQ m (V:Int) 0).val=(gR m V:Int):=UP gk V ae;have le:=LU gk V;obtain⟨o,f,bs,rfl,-⟩:=t85 oW h V k (cr 96 O V) (H V ae);have f0:=aDv h (H V ae) f;have q3:=(H V ae).len;simp only[wk,cU,du,cr] at f;simp only[cr] at q3;rw[nn];refine⟨ae,ae,⟨ae,ae⟩, ?_⟩;intro eq;refine aW (λz=> ?_) (λz=> ?_);refine D7 z ⟨G, ?_⟩;simp[aY f]
  grind [bD]
  grind [bD,cr]
 have PG:ajD c:=⟨lO,λq D=>af q ae⟩;refine bQ (Y di.ah) (λn X=>∃m,X=[.r (ao m)]) ⟨0,rfl,ae,[],rfl⟩ ?_;rintro j _ hj ⟨m,rfl⟩;simp[h.sg.len];refine aW (λG=>⟨G, ?_⟩) (λbt=> ?_);rw[bD G h.sg.sm]
 grind
 refine bQ (Y t.ah) (λn X=>X=[]) ⟨0,rfl,ae,rfl⟩ ?_;rintro F _ bx rfl;simp[s.so.len];refine aW (λR=>⟨R, ?_⟩) (λb0=>⟨N,mn,CS,PG⟩);intro _;refine aW (λz=> ?_) (λb1=> ?_);rw[bD R s.so.sm];have al:be .sub I (F:Int) 1=((F-1:Nat):Int):=by
  rw[show be .sub I (F:Int) 1=(F:Int)-1 by simp only[be];exact i8 (by have:=s.so.sm;omega) (by have:=s.so.sm;omega)];omega
 rw[al];refine⟨ae, ?_⟩;intro _;rw[bD R s.so.sm]
def aDx(h:dV)(s:jV p l d c t):∃o,TB.Ev 26 (bL p l d c t) o/\∃e,o=.ret [.i e]/\(e=0->nq p l d c t):=by
 obtain⟨o,g,e,rfl,k⟩:=aDw h s;refine⟨_,g,e,rfl,λX=> ?_⟩;subst X;obtain⟨W,V,R,Q⟩:=k rfl;exact⟨W,V,R,Q,g⟩
variable{w u x:RV}{aG:Int}{cl:Bool}
def at2(h:dV)(s:jV p l d c t)(Q:Sl w)(N:Sl u)(M:Sl x)(ab:∀i<Y u.ah,Sl (cr 108 u i)):∃o,TB.Ev 15 (bL p l d c t++[.r w,.i aG,.r u,.r x,.b cl]) o/\∃e,o=.ret [.i e]/\(e=0->nq p l d c t/\km d c w u x aG):=by
 obtain⟨o,g,e,rfl,ac⟩:=aDx h s;refine Qg rfl rfl (.inr λv=>nofun) ?_;simp only[wk,bL,cU,du] at g;simp[aaK,bL,wk,aY g,Q.len,N.len,M.len,s.sr.len,s.sc.len,h.rl.len];refine aW (λD=> ?_) (λD q=>bE q D);have SP:=ac D;intro g1 g2 g3 g4 g5;refine bQ (Y w.ah) (λn R=>R=[]/\∀i<n,0<=ci w i 0/\ci w i 0<=(cr 100 c i).ah.length) ⟨0,rfl,ae,rfl,λi L=>ae⟩ ?_;rintro i _ L ⟨rfl,f⟩;simp[Q.len,s.sr.len];refine aW (λa=> ?_) (λaa=> ?_);have e:=(s.At i ae).len;simp only[cr] at e;simp only[e];refine⟨a,λq1=>⟨ae,λq2=> ?_⟩⟩;rw[bD a Q.sm];exact⟨rfl,LS f ⟨q1,q2⟩⟩;refine bQ (Y u.ah) (λn R=>R=[]/\∀i<n,Kno w u x i) ⟨0,rfl,ae,rfl,λi L=>ae⟩ ?_;rintro j _ hj ⟨rfl,B⟩;simp[N.len,M.len];refine aW (λH=> ?_) (λal=> ?_)
 rotate_left
 exact⟨SP,ae,⟨g2,g3⟩,ae,ae,λr A=>f r ae,λr A=>B r ae⟩;have G:=ab j H;have F:=G.len;obtain⟨V,W⟩:∃V,cr 108 u j=V:=⟨_,rfl⟩;have z:cH (.sl 108) (aQ u.ah j 0)=V:=W;rw[W] at G F;simp only[z,F];refine⟨H, ?_⟩;by_cases h1:Y V.ah=1
 ·refine D7 ae ⟨ae, ?_⟩;refine aW (λy=> ?_) (λy=> ?_)
  rotate_left
  omega;refine bQ (Y V.ah) (λn R=>R=[]/\∀q<n,Qx V q=0) ⟨0,rfl,ae,rfl,λi L=>ae⟩ ?_;rintro q _ af ⟨rfl,m⟩;simp[Q.len,M.len,z,F];refine aW (λP=> ?_) (λaa=> ?_);simp[P];intro e;rw[bD P G.sm];exact⟨rfl,LS m e⟩;refine⟨ae,D7 ae ?_⟩;rw[bD H N.sm];refine⟨rfl,LS B ⟨by rw[W];omega,by rw[W];omega, ?_,λh2=> ?_,λr A=> ?_,λO=>bE y O⟩⟩;rw[W];exact⟨λh2=>ae,λO=>bE y O⟩
  grind
  grind
 refine Jj ae ?_;intro h2;have ag:Y V.ah=2:=ae;refine⟨ae,ae,λO=> ?_⟩;have ne:∃j<13,ci V 0 j≠ci V 1 j:=by
  refine Classical.byContradiction λhn=> ?_
  have X:∀j<13,ci V 0 j=ci V 1 j:=λj hj=>Classical.byContradiction λq=>hn ⟨j,hj,q⟩
  exact O (X 0 ae) (X 1 ae) (X 2 ae) (X 3 ae) (X 4 ae) (X 5 ae) (X 6 ae) (X 7 ae) (X 8 ae) (X 9 ae) (X 10 ae) (X 11 ae) (X 12 ae)
 refine bQ (Y V.ah) (λn R=>R=[]/\∀q<n,Qx V q=0) ⟨0,rfl,ae,rfl,λi L=>ae⟩ ?_;rintro q _ af ⟨rfl,m⟩;simp[Q.len,M.len,z,F];refine aW (λP=> ?_) (λaa=> ?_);simp[P];intro e;rw[bD P G.sm];exact⟨rfl,LS m e⟩;refine⟨ae,Jj ae ?_⟩;intro k b2;refine⟨⟨k,b2⟩,λb3=> ?_⟩;rw[bD H N.sm];refine⟨rfl,LS B ⟨by rw[W];omega,by rw[W];omega, ?_,λ_=>by rw[W];exact ne,λr A=> ?_,λ_=>⟨k,b2,b3⟩⟩⟩;rw[W];refine⟨λ_ hz=> ?_,λ_=>ag⟩;simp only[ci] at hz;rw[hz,show be .sub I (0:Int) 1=(0:Int)-1 by simp only[be];exact i8 ae ae] at k;omega
 grind
end
section
variable{R:aX->Prop}{G:aL}{t:T}{O:aj}{L:ck}
def aDy{a:RV}(W:Sl a)(x:Int):∃o,TB.Ev 29 [.r a,.i x] o/\∃i b,o=.ret [.i i,.b b]:=by
 refine eI ?_;simp[ai1];have N:=W.sm;refine Ap (λX=>∃i j:Nat,X=[.i i,.i j]/\i<=j/\j<=Y a.ah) (λX=>(xi X 1-xi X 0).toNat) ⟨0,Y a.ah,by simp[W.len],ae,ae⟩ ?_;rintro _ ⟨i,j,rfl,V,M⟩;simp[xi,BO,W.len,ajd (show j<=140737488355328 from ae) V];refine aW (λH=> ?_) (λG=> ?_);refine⟨ae, ?_⟩;have Q:((i:Int)+j)/2=(((i+j)/2:Nat):Int):=ae;rw[Q,wX (i:=(i+j)/2) ae];refine aW (λP=> ?_) (λP=> ?_);exact⟨⟨(i+j)/2+1,j,⟨rfl,rfl⟩,ae,ae⟩,ae⟩
 grind
 omega
variable[Inhabited cm]
variable{l u d g v c kn op:RV}{aG k:Int}{cl:Bool}
def aDz(s:jV l u d g v)(W:Sl c):∃o,TB.Ev 16 (bL l u d g v++[.r c,.i aG,.r kn,.r op,.b cl]) o/\∃n,o=.ret [.i n]:=by
 refine eI ?_;simp[aaP,bL,wk];have Q:=s.sr.sm;refine Ap (λX=>∃(i:Nat)(n:Int),X=[.i i,.i n]) (λX=>(Y g.ah-xi X 0).toNat) ⟨Y c.ah,1,by simp[W.len]⟩ ?_;rintro _ ⟨i,n,rfl⟩;simp[xi,BO,s.sr.len];intro V P;refine⟨V, ?_⟩;rw[wX ae];exact⟨⟨_,rfl⟩,ae⟩
def aDA(W:Sl c)(X:Sl kn)(V:Sl op)(P:∀i<Y kn.ah,Sl (cr 108 kn i)):∃o,TB.Ev 31 [.r c,.i aG,.r kn,.r op,.b cl] o/\∃b,o=.ret [.b b]:=by
 refine eI ?_;simp[ai0,W.len,X.len,V.len];intro _ _ _;refine bQ (Y kn.ah) (λn Q=>Q=[]) ⟨0,rfl,ae,rfl⟩ ?_;rintro i _ N rfl;simp[X.len]
 grind [cr,bD]
def aDB(h:dV)(s:jV l u d g v)(X:Sl c)(Q:Sl kn)(P:Sl op)(N:∀i<Y kn.ah,Sl (cr 108 kn i)):∃o,TB.Ev 14 (bL l u d g v++[.r c,.i aG,.r kn,.r op,.b cl]) o/\∃b,o=.ret [.b b]:=by
 obtain⟨o,W,x,rfl⟩:=atG h s;obtain⟨o,M,y,rfl⟩:=aDA (aG:=aG) (cl:=cl) X Q P N;obtain⟨o,V,n,rfl⟩:=aDz (aG:=aG) (cl:=cl) (kn:=kn) (op:=op) s X;refine eI ?_;simp only[wk,bL,cU,du] at W V;simp[aaN,bL,wk,aY W];cases x;simp;simp[aY M];cases y;simp;simp[aY V];omega
def aDC(h:dV)(s:jV l u d g v)(D:Dk c kn op):∃o,TB.Ev 47 (bL l u d g v++[.r c,.i aG,.r kn,.r op,.b cl,.i k]) o/\∃e,o=.ret [.i e]/\(e=0->(nq l u d g v/\km d g c kn op aG)/\nu g c k=0):=by
 obtain⟨o,X,e,rfl,V⟩:=at2 (cl:=cl) (aG:=aG) h s D.sc D.sk D.so D.kk;by_cases W:e=0;obtain⟨p,f⟩:=V W;exact⟨_,ajJ h s p D f,_,rfl,λq=>⟨⟨p,f⟩,q⟩⟩;refine eI ?_;simp only[wk,bL,cU,du] at X;simp[aaM,bL,wk,aY X,W]
def aDD(h:dV)(s:jV l u d g v)(D:Dk c kn op):∃o,TB.Ev 28 (bL l u d g v++[.r c,.i aG,.r kn,.r op,.b cl,.i k]) o/\((∃r e,o=.ret [.r r,.i e]/\e≠0)\/((nq l u d g v/\km d g c kn op aG)/\nu g c k=0)/\∃X,o=.ret [.r (ao (yG X (Y ay.ah))),.i 0]):=by
 obtain⟨o,V,e,rfl,P⟩:=aDC (k:=k) (cl:=cl) (aG:=aG) h s D;by_cases Q:e=0;obtain⟨⟨p,f⟩,W⟩:=P Q;obtain⟨o,N,X,rfl,-⟩:=ajN (cl:=cl) h s p D f W;exact⟨_,atY h s p D f W N,.inr ⟨⟨⟨p,f⟩,W⟩,X,rfl⟩⟩;have:∃o,TB.Ev 28 (bL l u d g v++[.r c,.i aG,.r kn,.r op,.b cl,.i k]) o/\∃r e,o=.ret [.r r,.i e]/\e≠0:=by
  refine eI ?_;simp only[wk,bL,cU,du] at V;simp[aaL,bL,wk,aY V,Q]
  grind
 grind
def aDE(h:dV)(s:jV l u d g v)(p:nq l u d g v)(D:Dk c kn op)(f:km d g c kn op aG)(h0:nu g c k=0)
  (a:TB.Ev 28 (bL l u d g v++[.r c,.i aG,.r kn,.r op,.b cl,.i k]) (.ret [.r (ao (yG V (Y ay.ah))),.i 0])):
  ∃o,TB.Ev 12 (bL l u d g v++[.r c,.i aG,.r kn,.r op,.b cl,.i k]) o/\∃n,o=.ret [.i n,.i 0]:=by
 have m2:=p.qc.rl;obtain⟨M,a1,ag⟩:=LW h0;obtain⟨W,rfl⟩:∃W:Nat,k=W+1:=⟨(k-1).toNat,ae⟩;have a3:((W:Int)+1-1).toNat=W:=ae;have F:W<(cr 100 g (Y c.ah)).ah.length:=ae;have H:=s.At (Y c.ah) M;have eS:=H.len;have pg:=s.B3 (Y c.ah) M W F;have pp:=p.B5.B3 (Y c.ah) M W F;obtain⟨B,hB⟩:∃B,cr 100 g (Y c.ah)=B:=⟨_,rfl⟩;rw[hB] at H eS pg pp F ag;have A:cH (.sl 100) (aQ g.ah (Y c.ah:Int) 0)=B:=hB;obtain⟨G,eR⟩:∃x,B4 B W=x:=⟨_,rfl⟩;have z:cH (.sl 101) (aQ B.ah (W:Int) 1)=G:=eR;obtain⟨-,q2,q3⟩:=pg;have y:=pp.lr;rw[eR] at y;simp only[z] at q2 q3;have kR:=q2.len;have w:be .sub I ((W:Int)+1) 1=(W:Int):=by
  simp only[be];rw[i8 (by have:=H.sm;omega) (by have:=H.sm;omega)];omega
 refine eI ?_;simp only[wk,bL,cU,du] at a;simp[aaO,bL,wk,aY a];refine bQ (Y di.ah) (λn N=>∃m,N=[.r (ao m)]) ⟨0,rfl,ae,[],rfl⟩ ?_;rintro i _ hi ⟨m,rfl⟩;simp[h.sg.len];refine aW (λQ=>⟨Q, ?_⟩) (λa4=> ?_)
 ·obtain⟨o,aa,a9,b,rfl⟩:=aDy s.so (ci di i 0);simp only[ci] at aa;simp[aY aa];refine aW (λ_=> ?_) (λ_=> ?_)
  all_goals
   rw[bD Q h.sg.sm]
   grind
 simp[D.sc.len,s.sr.len,A,eS,w];refine⟨M,ae, ?_⟩;have al:(yG V (Y ay.ah)).length=(sH V (Y ay.ah)).length:=by simp[yG]
 have ba:=ajO (mf:=V) (n:=Y ay.ah);refine bQ (sH V (Y ay.ah)).length (λj N=>∃n,N=[.i n]) ⟨0,rfl,ae,_,rfl⟩ ?_;rintro j _ hj ⟨n,rfl⟩;simp[al,D.sc.len,A,z,kR,w,y];intro Q;refine⟨Q, ?_⟩;have hr:=aDt Q;have ab:=(at1 (mf:=V) (n:=Y ay.ah)).1 (sK Q);have an:(sH V (Y ay.ah)).getD j 0=(sH V (Y ay.ah))[j]:=by simp[dB Q]
 rw[hr];obtain⟨P,ac⟩:∃P,(sH V (Y ay.ah))[j]=P:=⟨_,rfl⟩;rw[ac] at ab an⊢;have e:Sl (cr 96 G P):=q3 P (by rw[y];exact ab.1);have e9:=e.len;obtain⟨X,hX⟩:∃X,cr 96 G P=X:=⟨_,rfl⟩;have a0:cH (.sl 96) (aQ G.ah (P:Int) 0)=X:=hX;rw[hX] at e e9;refine⟨⟨ae,ae⟩, ?_⟩;refine bQ (Y X.ah) (λq N=>∃n,N=[.i n]) ⟨0,rfl,ae,_,rfl⟩ ?_;rintro q _ hq ⟨n,rfl⟩;simp[D.sc.len,A,z,w,hr,ac,a0,e9];refine aW (λaf=>⟨af, ?_⟩) (λbb=> ?_)
 rotate_left
 grind [bD]
 refine aW (λ_=>aW (λ_=> ?_) (λ_=> ?_)) (λ_=> ?_)
 all_goals
  rw[bD af e.sm];simp
def aDF(h:dV){r:RV}{e:Int}(W:e≠0)(X:TB.Ev 28 (bL l u d g v++[.r c,.i aG,.r kn,.r op,.b cl,.i k]) (.ret [.r r,.i e])):TB.Ev 12 (bL l u d g v++[.r c,.i aG,.r kn,.r op,.b cl,.i k]) (.ret [.i 0,.i e]):=by
 refine kD ?_;simp only[wk,bL,cU,du] at X;simp[aaO,bL,wk,aY X,W]
end
section
variable{R:aX->Prop}{G:aL}{t:T}{O:aj}{L:ck}
variable[Inhabited cm]
variable{d w u l m ca kn op:RV}{aG k:Int}{cl:Bool}
def QB{e:TypeId}{v:RV}(h:Sl v):cH (.sl e) v=v:=by
 obtain⟨a,n,c,X⟩:=h.sl;simp only[cH,X]
def aDG{ap:Int}{Q X P:RV}{W:av->aE}{N:av->Int}(M:QA d Q X P ap W N)(y:∀c:av,Y c<=64->UO ap Q X (ao c) P (.ret ([.i (bn ((W c).getD 0 default).val)]++((W c).drop 1).map XV.r++[.i (N c)]))){c:av}(A:Y c<=64)(x:N c=0):∃H G D,W c=[.mk (.int I ap) [],ao X.ah,ao c,ao H,ao G,ao D]/\Md ap Q X (ao c) P H G D:=by
 obtain⟨b,v,F,S,V,B,w,-⟩:=M.ans c A;have z:=y c A;rw[w,x] at z;rcases z with⟨e,u,q⟩|⟨H,G,D,q,s⟩
 grind
 simp[bn] at q
 grind
def aDH(h:dV)(s:jV d w u l m)(p:nq d w u l m)(D:Dk ca kn op)(f:km u l ca kn op aG)(fP:Y di.ah<=40):∃o,TB.Ev 37 (bL d w u l m++[.r ca,.i aG,.r kn,.r op,.b cl,.i k]) o/\((∃e,e≠0/\o=.ret [.r (ao []),.i e])\/(nu l ca k=0/\∃(Q:Nat->Bool)(H:av)(A:List av)(z:av->aE),TB.Ev 55 (bL d w u l m++[.i aG]) (.ret [.r (ao H)])/\A≠[]/\Y A<=4096/\o=.ret [.r (ao (A.map z)),.i 0]/\∀c∈A,∃F S V B,z c=[.mk (.int I (Y ca.ah)) [],ao (bR Q (Y ay.ah)),F,S,V,B]/\Gh ay d (ao H) (ao (bR Q (Y ay.ah))) F S V B)):=by
 obtain⟨c,hc⟩:=akG f.cast.1;have bq:=f.cast.2;subst hc;obtain⟨o,x,H,rfl,jc⟩:=aDh (co:=m) h s p (c:=c) ae;by_cases P:nu l ca k=0
 rotate_left
 obtain⟨o,g,v⟩:=atV (k:=k) (cl:=cl) (mf:=λ_=>E) (act:=λ_=>[]) (fe:=λ_=>0) h s p D f jc (λq=>bE q P) x (λq=>bE q P);exact⟨o,g,v.imp id λq=>bE q.1 P⟩;obtain⟨j,a3,a4⟩:=LW P;obtain⟨o,ag,Q,rfl,a9⟩:=ajN (cl:=cl) h s p D f P;have a:(k-1).toNat<(cr 100 l (Y ca.ah)).ah.length:=ae;have pg:=s.B3 (Y ca.ah) j _ a;have pp:=p.B5.B3 (Y ca.ah) j _ a;have m2:=p.qc.rl;have al:=pp.few;have lr:=pp.lr;have lk:=f.Au;obtain⟨N,y⟩:∃N,N=ao (vu Q (B4 (cr 100 l (Y ca.ah)) (k-1).toNat) (Y ay.ah) (Y ay.ah)):=⟨_,rfl⟩;have aa:∀i<Y N.ah,Sl (cr 96 N i)/\(cr 96 N i).ah.length<=100:=λi X=>by
  rw[y,ov,ajL] at X;have ab:Sl (cr 96 (B4 (cr 100 l (Y ca.ah)) (k-1).toNat) i):=pg.2.2 i (by rw[<-B4,lr];exact X);rw[y,aDm X ab];split;exact⟨ab,by have:=al i X;omega⟩;exact⟨l8 aw,aw⟩
 obtain⟨z,fe,M,an⟩:=aDp (wg:=d) h (Y ca.ah) (bc:=ao H) (mv:=ao (bR Q (Y ay.ah))) (re:=N) (l8 ae) (l8 (by rw[LV];omega)) (by rw[y];exact l8 (by rw[ajL];omega)) aa;obtain⟨o,g,v⟩:=atV (k:=k) (cl:=cl) h s p D f jc (λ_=>ag) x (λ_=>y▸M);refine⟨o,g,v.imp id ?_⟩;rintro⟨-,a0,rfl⟩;have ac:∀W∈kn.ah,1<=(iU W).ah.length/\(iU W).ah.length<=2:=λW a1=>by
  obtain⟨i,X,rfl⟩:=avS a1;have:=f.Gm i X;have e:iU kn.ah[i]=cr 108 kn i:=by rw[<-ajM];simp[dA,dB X]
  rw[e];exact⟨this.one,this.two⟩
 refine⟨P,Q,H,kE kn.ah,z,x, ?_, ?_,rfl,λc af=> ?_⟩;have h1:=abu kn.ah;have h2:=atZ λW n=>(ac W n).1
 intro e;rw[e] at h1;simp only[Cg] at h1;omega;rw[abu];have h2:=at0 λW n=>(ac W n).2
 have h3:2^Y kn.ah<=2^12:=Nat.pow_le_pow_right ae ae;omega;have bq:=aDo c af;obtain⟨vs,vr,vb,e,G⟩:=aDG M an ae (a0 c af);have l1:=G.ls;have l2:=G.lr;have l3:=G.lb;refine⟨_,_,_,_,e,⟨s.sw,l8 ae,l8 (by rw[LV];omega),l8 ae,l8 ae,l8 ae,l8 ae,λi X=> ?_⟩⟩;have X:i<Y ay.ah:=by simpa[l2] using X
 have:=aa i (by rw[G.Gi];exact X);rw[G.cr X];exact⟨l8 this.1.sm,this.2⟩
def aDI{Q:av}{W:List av}{N:av->aE}{ap:Int}{X:RV}(h:dV)(M:TB.Ev 55 (bL d w u l m++[.i aG]) (.ret [.r (ao Q)]))(s:Y W<=4096)(z:∀c∈W,∃F S V B,N c=[.mk (.int I ap) [],X,F,S,V,B]/\Gh ay d (ao Q) X F S V B):
  ∃o,TB.Ev 38 (bL d w u l m++[.r ca,.i aG,.r kn,.r op,.b cl,.r (ao (W.map N))]) o/\∃A,o=.ret [.b A]/\(A=J->∀c∈W,∃F S V B,N c=[.mk (.int I ap) [],X,F,S,V,B]/\Gh ay d (ao Q) X F S V B/\Je ap d (ao Q) X F S V B):=by
 simp only[wk,bL,cU,du] at M;refine eI ?_;simp[aiY,bL,wk];refine bQ (Y W) (λi y=>y=[]/\∀(j:Nat)(H:j<Y W),j<i->∃F S V B,N W[j]=[.mk (.int I ap) [],X,F,S,V,B]/\Gh ay d (ao Q) X F S V B/\Je ap d (ao Q) X F S V B) ⟨0,rfl,ae,rfl,λj _ H=>ae⟩ ?_;rintro i _ q ⟨rfl,p⟩;simp;refine aW (λG=> ?_) (λn=> ?_)
 rotate_left
 intro c x;obtain⟨j,H,rfl⟩:=avS x
 grind
 obtain⟨F,S,V,B,e,P⟩:=z W[i] (sK G);have v:∀j:Nat,aQ (W.map N) (i:Int) j=[.mk (.int I ap) [],X,F,S,V,B].getD j default:=λj=>by
  grind [aQ]
 obtain⟨o,D,b,g,rfl,f,a⟩:=t18 h ap d (ao Q) X F S V B P;simp only[wk,cU,du] at D;simp[G,aY M,v,QB P.mv,QB P.bf,QB P.af,QB P.Qr,QB P.bx,bn,aY D]
 grind [bD]
end
section
variable{R:aX->Prop}{X:aL}{t:T}{O:aj}{L:ck}
open Classical in
noncomputable def vw(P:Nat->Prop)(w:Nat->aE)(M:av)(i:Nat):av:=(dj (Y M)).map λq=>if q<i/\P q then w q else M.getD q []
variable{P:Nat->Prop}{w:Nat->aE}{M:av}{i:Nat}
def Ed:(vw P w M i).length=Y M:=by simp[vw]
def at3:vw P w M 0=M:=by
 refine List.ext_getElem Ed λq W X=> ?_
 simp[vw,X]
def abv(h:¬P i):vw P w M (i+1)=vw P w M i:=by
 unfold vw
 grind
def at4{x:RV}(W:i<Y M)(h:P i)(V:∀X∈M,Y X=1)(Q:w i=[x]):(vw P w M i).modify i (λX=>gf X 0 [x])=vw P w M (i+1):=by
 refine atL (Y M) i _ _ _ λq N=> ?_
 by_cases e:q=i;subst e;have:=V _ (sK W);rw[aH rfl,aH ⟨ae,h⟩,aP ae,Q];simp only[dA,dB W,yP];generalize M[q]=X at this
 match X,this with|[c],_=>rfl
 grind
open Classical in
def at5{q:Nat}(X:q<Y M):aQ (vw P w M i) (q:Int) 0=if q<i/\P q then(w q).getD 0 default else aQ M (q:Int) 0:=by
 simp only[aQ,vw,rM,dA,eo,Em X,gc,yP]
 grind
def at6(V:∀X∈M,Y X=1)(Q:∀q,(w q).length=1):∀X∈vw P w M i,Y X=1:=λX W=>by
 simp only[vw,fw,rN] at W
 grind
variable[Inhabited cm]
def uc(X:Nat->Bool)(ap k:Int)(i:Nat):av:=(sH X i).map λq:Nat=>[.mk (.int I ap) [],.mk (.int I (q:Int)) [],.mk (.int I ap) [],.mk (.int I k) []]
def ajP{ap k:Int}{n:Nat}:uc V ap k (n+1)=if V n then uc V ap k n++[[.mk (.int I ap) [],.mk (.int I (n:Int)) [],.mk (.int I ap) [],.mk (.int I k) []]] else uc V ap k n:=by
 grind [uc,sH,akU]
def at7{mf:Nat->Bool}{ap k:Int}{n:Nat}:(uc mf ap k n).length<=n:=by
 rw[uc,oX];exact ajO
def aDJ{ap k:Int}{n j:Nat}(X:j<(uc V ap k n).length):∃r<n,ci (ao (uc V ap k n)) j 1=(r:Int)/\ci (ao (uc V ap k n)) j 2=ap/\ci (ao (uc V ap k n)) j 3=k:=by
 have W:j<(sH V n).length:=by rw[uc,oX] at X;exact X
 refine⟨(sH V n)[j],(at1.1 (sK W)).1, ?_⟩;simp[ci,aQ,uc,W,bn]
variable{N Q H G W u d y:RV}{aG k:Int}{cl:Bool}
def Df(d S:RV)(q:Nat):Prop:=∃j<13,ci (cr 108 d q) 0 j≠ci S q j
def Jk(X:Nat->Bool)(d S:RV)(q:Nat):Prop:=X q=J/\Df d S q
def knW(d S:RV)(q:Nat):aE:=[ao [mb (cr 108 d q) 0,mb S q]]
noncomputable def pF(X:Nat->Bool)(d S:RV)(i:Nat):av:=vw (Jk X d S) (knW d S) d.ah i
noncomputable def qe(X:Nat->Bool)(d y S:RV)(v:Int)(i:Nat):av:=vw (Jk X d S) (λ_=>[.mk (.int I v) []]) y.ah i
def aDK(f g:Nat->Int):(∃j<13,f j≠g j)<->(¬f 0=g 0\/¬f 1=g 1\/¬f 2=g 2\/¬f 3=g 3\/¬f 4=g 4\/¬f 5=g 5\/¬f 6=g 6\/¬f 7=g 7\/¬f 8=g 8\/¬f 9=g 9\/¬f 10=g 10\/¬f 11=g 11\/¬f 12=g 12):=by
 constructor
 ·rintro⟨j,X,h⟩;have:j=0\/j=1\/j=2\/j=3\/j=4\/j=5\/j=6\/j=7\/j=8\/j=9\/j=10\/j=11\/j=12:=ae;rcases this with rfl|rfl|rfl|rfl|rfl|rfl|rfl|rfl|rfl|rfl|rfl|rfl|rfl
  all_goals simp[h]
 grind
def aDL{S:RV}{i:Nat}:(pF V d S i).length=Y d.ah:=Ed
def aDM{S:RV}{v:Int}{i:Nat}:(qe V d y S v i).length=Y y.ah:=Ed
def aDN{mf:Nat->Bool}{S:RV}{m:Nat}(D:Dk u d y)(f:km H G u d y aG)(p:nu G u k=0)(hl:Y u.ah<=1000)(cS:∀i<Y ay.ah,LO S i=0):Dk (ao (u.ah++[[.mk (.int I k) []]])) (ao (pF mf d S m)) (ao (qe mf d y S (1+Y u.ah) m))/\km H G (ao (u.ah++[[.mk (.int I k) []]])) (ao (pF mf d S m)) (ao (qe mf d y S (1+Y u.ah) m)) aG:=by
 obtain⟨aa,ab,ac⟩:=LW p;have o:=f.Au;have n:=f.D6;have B:∀q<Y d.ah,(Jk mf d S q/\q<m/\cr 108 (ao (pF mf d S m)) q=ao [mb (cr 108 d q) 0,mb S q]/\ci (ao (qe mf d y S (1+Y u.ah) m)) q 0=1+Y u.ah)\/(cr 108 (ao (pF mf d S m)) q=cr 108 d q/\ci (ao (qe mf d y S (1+Y u.ah) m)) q 0=ci y q 0):=λq Q=>by
  have X:cr 108 (ao (pF mf d S m)) q=cH (.sl 108) _:=jY (cH (.sl 108)) (at5 (P:=Jk mf d S) (w:=knW d S) (i:=m) Q);have V:ci (ao (qe mf d y S (1+Y u.ah) m)) q 0=bn (RV.val _):=jY (λx=>bn (RV.val x)) (at5 (P:=Jk mf d S) (w:=λ_=>[.mk (.int I (1+Y u.ah)) []]) (M:=y.ah) (i:=m) ae);by_cases c:q<m/\Jk mf d S q;rw[aH c] at X V;exact .inl ⟨c.2,c.1,X,V⟩;rw[aP c] at X V;exact .inr ⟨X,V⟩
 have A:∀i<Y u.ah,aQ (u.ah++[[RV.mk (.int I k) []]]) (i:Int) 0=aQ u.ah (i:Int) 0:=λi W=>by
  simp[aQ,dA,fT W]
 have z:aQ (u.ah++[[RV.mk (.int I k) []]]) (Y u.ah:Int) 0=.mk (.int I k) []:=by
  simp[aQ,dA]
 refine⟨⟨l8 bZ,l8 (by rw[pF,Ed];exact D.sk.sm),l8 (by rw[qe,Ed];exact D.so.sm),λi W=> ?_,at6 D.k1 λ_=>rfl,at6 D.o1 λ_=>rfl⟩,bZ,f.cast,by rw[ov,pF,Ed];exact o,by rw[ov,qe,Ed];exact n,λi W=> ?_,λi W=> ?_⟩;rw[ov,pF,Ed] at W;rcases B i W with⟨-,-,e,-⟩|⟨e,-⟩;rw[e];exact l8 aw;rw[e];exact D.kk i W;simp only[ov,ga,ab1] at W;by_cases e:i<Y u.ah;have:=f.call i e;simp only[ci,ov,A i e] at this⊢;exact this;have:i=Y u.ah:=ae;subst this;have e:ci (ao (u.ah++[[.mk (.int I k) []]])) (Y u.ah) 0=k:=by simp only[ci,ov,z];rfl
 rw[e];omega;rw[ov,pF,Ed] at W;obtain⟨l,h,g,b,v,a⟩:=f.Gm i W;rcases B i W with⟨⟨-,c⟩,-,X,V⟩|⟨X,V⟩;have s:∀j<13,ci (ao [mb (cr 108 d i) 0,mb S i]) 0 j=ci (cr 108 d i) 0 j/\ci (ao [mb (cr 108 d i) 0,mb S i]) 1 j=ci S i j:=ats ⟨rfl,rfl⟩ ⟨rfl,rfl⟩ ⟨rfl,rfl⟩ ⟨rfl,rfl⟩ ⟨rfl,rfl⟩ ⟨rfl,rfl⟩ ⟨rfl,rfl⟩ ⟨rfl,rfl⟩ ⟨rfl,rfl⟩ ⟨rfl,rfl⟩ ⟨rfl,rfl⟩ ⟨rfl,rfl⟩ ⟨rfl,rfl⟩;have sb:be .sub I (1+(Y u.ah:Int)) 1=Y u.ah:=by
  simp only[be];rw[i8 ae ae];omega
 refine⟨?_, ?_, ?_,λ_=> ?_,λq Q=> ?_,λ_=> ?_⟩;rw[X];simp;rw[X];simp;rw[X,V];simp;omega;obtain⟨j,N,F⟩:=c;rw[X];exact⟨j,N,by rw[(s j N).1,(s j N).2];exact F⟩;rw[X] at Q⊢;have Q:q<2:=by simpa using Q
 have:q=0\/q=1:=ae;rcases this with rfl|rfl;exact v 0 ae;exact cS i ae;rw[V,sb];refine⟨ae,bZ, ?_⟩;rw[ov,z];show k≠0;omega;refine⟨by rw[X];exact l,by rw[X];exact h,by rw[X,V];exact g,by rw[X];exact b,by rw[X];exact v, ?_⟩;rw[V];intro F;obtain⟨r,g2,g3⟩:=a F;refine⟨r,bZ, ?_⟩;have e:=A (be .sub I (ci y i 0) 1).toNat ae;rw[aIW r] at e;rw[ov,e];exact g3
def aDO(h:dV)(s:jV N Q H G W)(p:nq N Q H G W)(D:Dk u d y)(f:km H G u d y aG){mf:Nat->Bool}{l rest:av}{F S V B:RV}(g:l=[.mk (.int I (Y u.ah)) [],ao (bR mf (Y ay.ah)),F,S,V,B]::rest)(ll:Y l<=4096)(h0:nu G u k=0)(ab:TB.Ev 37 (bL N Q H G W++[.r u,.i aG,.r d,.r y,.b E,.i k]) (.ret [.r (ao l),.i 0]))(ac:TB.Ev 38 (bL N Q H G W++[.r u,.i aG,.r d,.r y,.b E,.r (ao l)]) (.ret [.b J]))(sS:Sl S)(lS:Y S.ah=Y ay.ah):
  TB.Ev 22 (bL N Q H G W++[.r u,.i aG,.r d,.r y,.b E,.i k]) (.ret [.r (ao (u.ah++[[.mk (.int I k) []]])),.i aG,.r (ao (pF mf d S (Y ay.ah))),.r (ao (qe mf d y S (1+Y u.ah) (Y ay.ah))),.b E,.r (ao (uc mf (Y u.ah) k (Y ay.ah))),.i 0]):=by
 obtain⟨P,v⟩:∃P:aX->Prop,∀o,P o<->o=.ret [.r (ao (u.ah++[[.mk (.int I k) []]])),.i aG,.r (ao (pF mf d S (Y ay.ah))),.r (ao (qe mf d y S (1+Y u.ah) (Y ay.ah))),.b E,.r (ao (uc mf (Y u.ah) k (Y ay.ah))),.i 0]:=⟨_,λ_=>Iff.rfl⟩
 suffices al:∃o,TB.Ev 22 (bL N Q H G W++[.r u,.i aG,.r d,.r y,.b E,.i k]) o/\P o by
  obtain⟨o,m,c⟩:=al;rw[(v o).1 c] at m;exact m
 have an:∀A,A=u.ah++[[RV.mk (.int I k) []]]->P (.ret [.r (ao A),.i aG,.r (ao (pF mf d S (Y ay.ah))),.r (ao (qe mf d y S (1+Y u.ah) (Y ay.ah))),.b E,.r (ao (uc mf (Y u.ah) k (Y ay.ah))),.i 0]):=λA e=>(v _).2 (by rw[e])
 have a0:KD P:=λa b ha a1=>by
  rw[(v a).1 ha,(v b).1 a1];exact⟨rfl,Hv _⟩
 obtain⟨a9,ba,bb⟩:=LW h0;have a3:k≠0:=ae;have m5:=p.qc.bars;have m2:=p.qc.rl;have lO:=p.B5.len;have lc:=f.calls;have lk:=f.Au;have lo:=f.D6;have b1:(Y u.ah:Int)<=536870912:=ae;have b2:(Y d.ah:Int)<=536870912:=ae;have b3:(Y y.ah:Int)<=536870912:=ae;have a4:l≠[]:=by rw[g];simp
 have aa:Y ay.ah<=140737488355328:=ae;have c1:cH (.sl 4) (aQ l 0 1)=ao (bR mf (Y ay.ah)):=by rw[g];rfl
 have c3:cH (.sl 108) (aQ l 0 3)=S:=by rw[g];exact QB sS
 have wX:be .add I 1 (Y u.ah:Int)=1+Y u.ah:=by simp only[be];exact i8 ae ae
 refine eI ?_;simp only[wk,bL,cU,du] at ab ac;simp[Uv,bL,wk,a3,aY ab,aY ac,D.sc.len,D.sk.len,D.so.len,Ge,a0];have af:0<Y l:=avR.2 a4
 repeat'(first|exact b1|exact b2|exact b3|exact af|apply And.intro|intro _)
 all_goals refine bQ (Y ay.ah) (λi rest=>rest=[.r (ao (uc mf (Y u.ah) k i)),.r (ao (pF mf d S i)),.r (ao (qe mf d y S (1+Y u.ah) i))]) ⟨0,rfl,ae, ?_⟩ ?_
 all_goals try(show[XV.r _,XV.r _,XV.r _]=_;rw[pF,qe,at3,at3];(first|rfl|(rw[show d.ah=[] from me];rfl)|(rw[show y.ah=[] from me];rfl)|(rw[show d.ah=[] from me,show y.ah=[] from me];rfl)))
 all_goals
  rintro i _ hi rfl;simp[af,c1,c3,LV,aDL,aDM,D.sc.len,D.sk.len,wX]
 all_goals
  refine aW (λz=>⟨z, ?_⟩) (λbc=> ?_)
  rotate_left
  have e:i=Y ay.ah:=ae;rw[e];exact an _ (by first|rfl|(rw[show u.ah=[] from me];rfl));rw[ajK z];refine aW (λX=> ?_) (λX=> ?_)
  rotate_left
  rw[bD z aa,ajP,aP X,pF,pF,qe,qe,abv (λq=>X q.1),abv (λq=>X q.1)];have e:=(D.kk i ae).len;have e1:=(f.Gm i ae).one;have e2:=at7 (mf:=mf) (ap:=Y u.ah) (k:=k) (n:=i);simp only[cr] at e e1;refine⟨ae,ae,by rw[e];omega,by rw[sS.len];omega, ?_⟩;have ag:=aDK (λj=>ci (cr 108 d i) 0 j) λj=>ci S i j
  refine aW (λhd=>⟨ae,ae, ?_⟩) (λhd=> ?_);have x:Jk mf d S i:=⟨X,ag.2 hd⟩;have m:(pF mf d S i).modify i _=pF mf d S (i+1):=at4 ae x D.k1 rfl;have c:(qe mf d y S (1+Y u.ah) i).modify i _=qe mf d y S (1+Y u.ah) (i+1):=at4 ae x D.o1 rfl;rw[bD z aa,ajP,aH X,<-m,<-c];rfl;have x:¬Jk mf d S i:=λq=>hd (ag.1 q.2)
  rw[bD z aa,ajP,aH X,pF,pF,qe,qe,abv x,abv x]
def QC(A O X:av):Prop:=Y X<=4096/\∀j<Y X,UR (ao A) (ao O) (ci (ao X) j 1) (ci (ao X) j 2) (ci (ao X) j 3)
def aDP(h:dV)(s:jV N Q H G W)(p:nq N Q H G W)(D:Dk u d y)(f:km H G u d y aG)(fP:Y di.ah<=40):∃o,TB.Ev 21 (bL N Q H G W++[.r u,.i aG,.r d,.r y,.b cl,.i k]) o/\∃b e,o=.ret [.b b,.i e]/\(b=J->e=0/\nu G u k=0/\(cl=E->∃X O g,TB.Ev 22 (bL N Q H G W++[.r u,.i aG,.r d,.r y,.b cl,.i k]) (.ret [.r (ao (u.ah++[[.mk (.int I k) []]])),.i aG,.r (ao X),.r (ao O),.b cl,.r (ao g),.i 0])/\Dk (ao (u.ah++[[.mk (.int I k) []]])) (ao X) (ao O)/\km H G (ao (u.ah++[[.mk (.int I k) []]])) (ao X) (ao O) aG/\QC (u.ah++[[.mk (.int I k) []]]) O g)):=by
 obtain⟨o,z,hR⟩:=aDH (k:=k) (cl:=cl) h s p D f fP;rcases hR with⟨e,he,rfl⟩|⟨x,v,bc,CC,c,aa,ab,bq,rfl,hA⟩;refine⟨_, ?_,E,e,rfl,nofun⟩;simp only[wk,bL,cU,du] at z;refine kD ?_;simp[aaR,bL,wk,aY z,he];obtain⟨o,q,A,rfl,ac⟩:=aDI (ca:=u) (kn:=d) (op:=y) (cl:=cl) h aa bq hA;refine⟨_, ?_,A,0,rfl,λag=>⟨rfl,x,λhc=> ?_⟩⟩;simp only[wk,bL,cU,du] at z q;refine kD ?_;simp[aaR,bL,wk,aY z,aY q];subst hc ag;obtain⟨al,a1,a3⟩:=LW x;have m5:=p.qc.bars;have m2:=p.qc.rl;have lO:=p.B5.len;have k8:=p.qc.br _ al;have lo:=f.D6;obtain⟨c0,an,a⟩:=List.exists_cons_of_ne_nil ab;obtain⟨F,S,V,B,ea,hS,hO⟩:=ac rfl c0 (by rw[a];simp);have a0:=aDO (mf:=v) (F:=F) (S:=S) (V:=V) (B:=B) (l:=CC.map c) (rest:=an.map c) h s p D f (by rw[a];simp[ea]) bZ x z q hS.af hO.ex.Jc;obtain⟨D2,f2⟩:=aDN (mf:=v) (S:=S) (m:=Y ay.ah) D f x ae λi hi=>(hO.ex.box i hi).2
 refine⟨_,_,_,a0,D2,f2,by have:=at7 (mf:=v) (ap:=Y u.ah) (k:=k) (n:=Y ay.ah);omega,λj hj=> ?_⟩;obtain⟨r,hr,e1,e2,e3⟩:=aDJ hj;rw[e1,e2,e3];refine⟨⟨ae,by rw[ov,qe,Ed];omega⟩,⟨ae,bZ⟩, ?_,ae,ae⟩;rw[ov];simp[aQ,bn];omega
end
structure Sr where
 st:Int
 pl:List Int
 kb:Int
section
variable{a:Type}
def qT(bud:Int)(cl:Bool)(sf:Int->Bool)(g:Int->Sr->Sr)(z:Sr->Sr):Nat->Int->Sr->Sr
 |0,_,s=>z s|r+1,k,s=>if s.st<bud/\cl=E then qT bud cl sf g z r (k+1) (if sf k then g k ⟨s.st+1,s.pl,s.kb⟩ else⟨s.st+1,s.pl,s.kb⟩) else z s
def ln(cl:Bool)(lim:a->Nat)(sf:a->Int->Bool)(kp:a->Int->Int)(nx:a->Int->a)(add:Int->Int->Int)(bud:Int):Nat->a->List Int->Int->Sr->Sr
 |0,_,c,X,s=>if s.kb<X then⟨s.st,c,X⟩ else s|m+1,x,c,X,s=>qT bud cl (sf x) (λk=>ln cl lim sf kp nx add bud m (nx x k) (c++[k]) (add X (kp x k))) (ln cl lim sf kp nx add bud m (nx x 0) (c++[0]) X) (lim x) 1 s
def Gq(cl:Bool)(sf:a->Int->Bool)(kp:a->Int->Int)(nx:a->Int->a)(add:Int->Int->Int):List Int->Nat->a->Int->Option Int
 |[],m,_,X=>if m=0 then U X else Z|_::_,0,_,_=>Z|k::p,m+1,x,X=>if k=0 then Gq cl sf kp nx add p m (nx x 0) X else if cl=E/\sf x k=J then Gq cl sf kp nx add p m (nx x k) (add X (kp x k)) else Z
variable{cl:Bool}{lim:a->Nat}{sf:a->Int->Bool}{kp:a->Int->Int}{nx:a->Int->a}{add:Int->Int->Int}{bud bud':Int}{f:Int->Bool}{g d:Int->Sr->Sr}{z i:Sr->Sr}
def Sr.Le(s t:Sr):Prop:=s.st<=t.st/\s.kb<=t.kb
def Sr.Le.trans{s t u:Sr}(h:s.Le t)(k:t.Le u):s.Le u:=⟨awl h.1 k.1,awl h.2 k.2⟩
def ajQ(Q:Sr->Prop)(X:∀s,Q s->Q (z s))(W:∀k s,0<k->cl=E->f k=J->Q s->Q (g k s))(V:∀s,s.st<bud->Q s->Q ⟨s.st+1,s.pl,s.kb⟩):∀r k s,0<k->Q s->Q (qT bud cl f g z r k s)
 |0,_,s,_,h=>X s h
 |r+1,k,s,R,h=>by
  rw[qT];split;rename_i q;refine ajQ Q X W V r (k+1) _ ae ?_
  grind
  grind
def ajR(X:∀(k:Int)(s:Sr),s.Le (g k s)):∀r k(s:Sr),∃t,s.Le t/\qT bud cl f g z r k s=z t
 |0,_,s=>⟨s,⟨Cj _,Cj _⟩,rfl⟩
 |r+1,k,s=>by
  rw[qT];have W:s.Le ⟨s.st+1,s.pl,s.kb⟩:=⟨by show s.st<=s.st+1;omega,Cj _⟩;split;obtain⟨t,h,e⟩:=ajR X r (k+1) (if f k then g k ⟨s.st+1,s.pl,s.kb⟩ else⟨s.st+1,s.pl,s.kb⟩);refine⟨t,Sr.Le.trans ?_ h,e⟩;split;exact W.trans (X _ _);exact W;exact⟨s,⟨Cj _,Cj _⟩,rfl⟩
def QD:∀m x c X(s:Sr),s.Le (ln cl lim sf kp nx add bud m x c X s)/\X<=(ln cl lim sf kp nx add bud m x c X s).kb
 |0,x,c,X,s=>by
  rw[ln];split;exact⟨⟨Cj _,Int.le_of_lt me⟩,Cj _⟩;exact⟨⟨Cj _,Cj _⟩,ae⟩
 |m+1,x,c,X,s=>by
  rw[ln];obtain⟨t,h,e⟩:=ajR (bud:=bud) (cl:=cl) (f:=sf x) (z:=ln cl lim sf kp nx add bud m (nx x 0) (c++[0]) X) (λk s=>(QD m (nx x k) (c++[k]) (add X (kp x k)) s).1) (lim x) 1 s;rw[e];exact⟨h.trans (QD m _ _ _ t).1,(QD m _ _ _ t).2⟩
def abw:∀m x c X(s:Sr),s.st<=bud->(ln cl lim sf kp nx add bud m x c X s).st<=bud
 |0,x,c,X,s,h=>by
  grind [ln]
 |m+1,x,c,X,s,h=>by
  rw[ln];exact ajQ (λq=>q.st<=bud) (λq h=>abw m _ _ _ q h) (λk q _ _ _ h=>abw m _ _ _ q h) (λq h _=>by show q.st+1<=bud;omega) _ _ s ew h
def ajS:∀m x c X(s:Sr),((ln cl lim sf kp nx add bud m x c X s).pl=s.pl/\(ln cl lim sf kp nx add bud m x c X s).kb=s.kb)\/∃p,Y p=m/\Gq cl sf kp nx add p m x X=U (ln cl lim sf kp nx add bud m x c X s).kb/\(ln cl lim sf kp nx add bud m x c X s).pl=c++p
 |0,x,c,X,s=>by
  rw[ln];split;exact .inr ⟨[],rfl,by simp[Gq],aw⟩;simp
 |m+1,x,c,X,s=>by
  rw[ln];refine ajQ (λt=>(t.pl=s.pl/\t.kb=s.kb)\/∃p:List Int,Y p=m+1/\Gq cl sf kp nx add p (m+1) x X=U t.kb/\t.pl=c++p) (λt W=> ?_) (λk t P O N W=> ?_) (λt _ W=>W) (lim x) 1 s ew (.inl ⟨rfl,rfl⟩);rcases ajS m (nx x 0) (c++[0]) X t with⟨V,R⟩|⟨p,V,R,Q⟩
  grind
  grind [Gq]
  rcases ajS m (nx x k) (c++[k]) (add X (kp x k)) t with⟨V,R⟩|⟨p,V,R,Q⟩
  grind
  grind [Gq]
def at9:∀m x c X(s:Sr),(cl=J\/bud<=s.st)->ln cl lim sf kp nx add bud m x c X s=if s.kb<X then⟨s.st,c++ee m 0,X⟩ else s
 |0,x,c,X,s,_=>by rw[ln];simp
 |m+1,x,c,X,s,h=>by
  have e:∀n g z,qT bud cl (sf x) g z n 1 s=z s:=λn g z=>by
   cases n;rfl
   grind [qT]
  rw[ln,e,at9 m _ _ _ s h]
  grind
def Gr(bud:Int)(s t:Sr):Prop:=s=t\/(bud<=s.st/\s.Le t)
def aua(X:∀s t,Gr bud s t->Gr bud (z s) (i t))(V:∀k s t,Gr bud s t->Gr bud (g k s) (d k t))(R:∀(k:Int)(s:Sr),s.Le (d k s))(O:bud<=bud'):∀r k s t,Gr bud s t->Gr bud (qT bud cl f g z r k s) (qT bud' cl f d i r k t)
 |0,_,s,t,h=>X s t h
 |r+1,k,s,t,h=>by
  by_cases W:s.st<bud/\cl=E;have e:s=t:=h.resolve_right λq=>by have:=q.1;omega
  subst e;simp only[qT,aH W,aH (show s.st<bud'/\cl=E from⟨ae,W.2⟩)];refine aua X V R O r (k+1) _ _ ?_;split;exact V _ _ _ (.inl rfl);exact .inl rfl;rw[qT,aP W];by_cases Q:cl=J
  grind [qT]
  have Q:cl=false:=by simpa using Q
  have N:bud<=s.st:=by
   grind
  obtain⟨u,P,e⟩:=ajR (bud:=bud') (cl:=cl) (f:=f) (z:=i) R (r+1) k t;rw[e];refine X _ _ (.inr ⟨N, ?_⟩);rcases h with rfl|⟨-,h⟩;exact P;exact h.trans P
def ajT(W:bud<=bud'):∀m x c X s t,Gr bud s t->Gr bud (ln cl lim sf kp nx add bud m x c X s) (ln cl lim sf kp nx add bud' m x c X t)
 |0,x,c,X,s,t,h=>by
  rcases h with rfl|⟨h,V,R⟩;exact .inl (by rw[ln,ln]);rw[ln,ln];refine .inr ?_;split<;>split;exact⟨h,V,Cj _⟩;exact⟨h,V,by show X<=t.kb;omega⟩;omega;exact⟨h,V,R⟩
 |m+1,x,c,X,s,t,h=>by
  rw[ln,ln];exact aua (λs t h=>ajT W m _ _ _ s t h) (λk s t h=>ajT W m (nx x k) (c++[k]) (add X (kp x k)) s t h) (λk s=>(QD m _ _ _ s).1) W (lim x) 1 s t h
end
section
variable{R:aX->Prop}{G:aL}{t:T}{O:aj}{L:ck}
variable[Inhabited cm]
variable{e l d c n o u q:RV}{aG k:Int}{cl:Bool}
noncomputable def lq(o:RV)(a Q O:av):Nat->av×av
 |0=>(Q,O)|i+1=>(sF o (ao (lq o a Q O i).1) (ao (lq o a Q O i).2) (ci (ao a) i 1).toNat (ci (ao a) i 2) (ci (ao a) i 3),sG o (ao (lq o a Q O i).2) (ci (ao a) i 1).toNat (ci (ao a) i 2) (ci (ao a) i 3))
variable{A Q O a:av}
def ajU(h:dV)(s:jV e l d c n)(p:nq e l d c n)(D:Dk (ao A) (ao Q) (ao O))(f:km d c (ao A) (ao Q) (ao O) aG)(M:QC A O a):∀i≤Y a,Dk (ao A) (ao (lq (ao A) a Q O i).1) (ao (lq (ao A) a Q O i).2)/\km d c (ao A) (ao (lq (ao A) a Q O i).1) (ao (lq (ao A) a Q O i).2) aG/\(lq (ao A) a Q O i).2.length=Y O/\
  (i<Y a->TB.Ev 23 (bL e l d c n++[.r (ao A),.i aG,.r (ao (lq (ao A) a Q O i).1),.r (ao (lq (ao A) a Q O i).2),.b cl,.i (ci (ao a) i 1),.i (ci (ao a) i 2),.i (ci (ao a) i 3)]) (.ret [.r (ao A),.i aG,.r (ao (lq (ao A) a Q O (i+1)).1),.r (ao (lq (ao A) a Q O (i+1)).2),.b cl,.i 0]))
 |i,H=>by
  have G:Dk (ao A) (ao (lq (ao A) a Q O i).1) (ao (lq (ao A) a Q O i).2)/\km d c (ao A) (ao (lq (ao A) a Q O i).1) (ao (lq (ao A) a Q O i).2) aG/\(lq (ao A) a Q O i).2.length=Y O:=by
   match i,H with
   |0,_=>exact⟨D,f,rfl⟩
   |i+1,H=>
    obtain⟨X,W,P,-⟩:=ajU h s p D f M i ae;have g:=M.2 i H;have V:(ci (ao a) i 1).toNat<(ao (lq (ao A) a Q O i).1).ah.length:=by
     have:=g.1;have z:=W.Au;have y:=W.D6
     grind [ov]
    obtain⟨b,N⟩:=akG g.2.1.1;rw[lq,N];exact⟨aC9 X V,aDa X W V,(ajF).trans P⟩
  obtain⟨X,W,P⟩:=G;refine⟨X,W,P,λF=> ?_⟩;have g:=M.2 i F;have B:(ao (lq (ao A) a Q O i).2).ah.length=(ao O).ah.length:=P;obtain⟨r,V⟩:=akG g.1.1;obtain⟨b,N⟩:=akG g.2.1.1;rw[lq,N,V];rw[N,V] at g;exact aC7 (cl:=cl) h s p X.sc X.sk X.so X.kk W (aDb (ca:=ao A) (op:=ao O) B g)
def aDQ(h:dV)(s:jV e l d c n)(p:nq e l d c n)(W:TB.Ev 22 (bL e l d c n++[.r o,.i aG,.r u,.r q,.b cl,.i k]) (.ret [.r (ao A),.i aG,.r (ao Q),.r (ao O),.b cl,.r (ao a),.i 0]))(D:Dk (ao A) (ao Q) (ao O))(f:km d c (ao A) (ao Q) (ao O) aG)(V:QC A O a):
  TB.Ev 20 (bL e l d c n++[.r o,.i aG,.r u,.r q,.b cl,.i k]) (.ret [.r (ao A),.i aG,.r (ao (lq (ao A) a Q O (Y a)).1),.r (ao (lq (ao A) a Q O (Y a)).2),.b cl]):=by
 refine kD ?_;simp only[wk,bL,cU,du] at W;simp[ai2,bL,wk,aY W];refine bQ (Y a) (λi P=>P=[.r (ao A),.i aG,.r (ao (lq (ao A) a Q O i).1),.r (ao (lq (ao A) a Q O i).2),.b cl]) ⟨0,rfl,ae,rfl⟩ ?_;rintro i _ N rfl;simp;refine aW (λX=>⟨X, ?_⟩) (λM=> ?_);have g:=(ajU (cl:=cl) h s p D f V i N).2.2.2 X;simp only[wk,bL,ci,cU,du,ov] at g;simp[aY g];rw[bD X (by have:=V.1;omega)]
 grind
abbrev DS:=RV×RV×RV
structure Gd(d c:RV)(aG:Int)(x:DS)(m:Nat):Prop where
 D:Dk x.1 x.2.1 x.2.2
 f:km d c x.1 x.2.1 x.2.2 aG
 m:Y x.1.ah+m=Y c.ah
def rI(e l d c n:RV)(aG:Int)(cl:Bool)(x:DS)(k:Int):aZ:=bL e l d c n++[.r x.1,.i aG,.r x.2.1,.r x.2.2,.b cl,.i k]
def w8(c:RV)(x:DS):Nat:=(cr 100 c (Y x.1.ah)).ah.length
noncomputable def yH(e l d c n:RV)(aG:Int)(cl:Bool)(x:DS)(k:Int):Bool:=decide (1<=k/\k<=w8 c x)&&ob 21 (rI e l d c n aG cl x k) 0
noncomputable def Gs(e l d c n:RV)(aG:Int)(cl:Bool)(x:DS)(k:Int):Int:=oi 12 (rI e l d c n aG cl x k) 0
noncomputable def ud(e l d c n:RV)(aG:Int)(cl:Bool)(x:DS)(k:Int):DS:=(or 20 (rI e l d c n aG cl x k) 0,or 20 (rI e l d c n aG cl x k) 2,or 20 (rI e l d c n aG cl x k) 3)
end
section
variable{R:aX->Prop}{G:aL}{t:T}{O:aj}{L:ck}
variable[Inhabited cm]
variable{B H y w M ca kn op:RV}{aG k:Int}{cl:Bool}{x:DS}{m:Nat}
def aub(h:dV)(s:jV B H y w M)(p:nq B H y w M)(fP:Y di.ah<=40)(G:Gd y w aG x m)(k:Int):∃e,TB.Ev 21 (rI B H y w M aG cl x k) (.ret [.b (yH B H y w M aG cl x k),.i e])/\(yH B H y w M aG cl x k=J->e=0/\nu w x.1 k=0/\(cl=E->∃X O W,TB.Ev 22 (rI B H y w M aG cl x k) (.ret [.r (ao (x.1.ah++[[.mk (.int I k) []]])),.i aG,.r (ao X),.r (ao O),.b cl,.r (ao W),.i 0])/\Dk (ao (x.1.ah++[[.mk (.int I k) []]])) (ao X) (ao O)/\km y w (ao (x.1.ah++[[.mk (.int I k) []]])) (ao X) (ao O) aG/\QC (x.1.ah++[[.mk (.int I k) []]]) O W)):=by
 obtain⟨o,g,b,e,rfl,V⟩:=aDP (cl:=cl) (k:=k) h s p G.D G.f fP;have Q:ob 21 (rI B H y w M aG cl x k) 0=b:=by simp only[ob,rI,DT g];rfl
 have P:yH B H y w M aG cl x k=b:=by
  rw[yH,Q];cases b;simp;obtain⟨-,N,-⟩:=V rfl;obtain⟨z,F,A⟩:=LW N;simp[w8,F,A]
 rw[P];exact⟨e,g,V⟩
def aDR(h:dV)(s:jV B H y w M)(p:nq B H y w M)(G:Gd y w aG x m)(k:Int):∃e,TB.Ev 12 (rI B H y w M aG cl x k) (.ret [.i (Gs B H y w M aG cl x k),.i e])/\(nu w x.1 k=0->e=0):=by
 have Q:∃n e,TB.Ev 12 (rI B H y w M aG cl x k) (.ret [.i n,.i e])/\(nu w x.1 k=0->e=0):=by
  obtain⟨o,W,P⟩:=aDD (aG:=aG) (cl:=cl) (k:=k) h s G.D;rcases P with⟨r,e,rfl,V⟩|⟨⟨⟨p,f⟩,X⟩,N,rfl⟩;refine⟨0,e,aDF h V W,λX=>bE ?_ V⟩;obtain⟨o,F,N,rfl,-⟩:=ajN (cl:=cl) h s p G.D G.f X;have:=N3 W (atY h s p G.D G.f X F)
  grind
  obtain⟨o,g,m,-,rfl⟩:=aDE h s p G.D f X W;exact⟨_,0,g,λ_=>rfl⟩
 obtain⟨n,e,g,V⟩:=Q;have:Gs B H y w M aG cl x k=n:=by simp only[Gs,oi,DT g];rfl
 grind
def auc(h:dV)(s:jV B H y w M)(p:nq B H y w M)(fP:Y di.ah<=40)(G:Gd y w aG x (m+1))(N:k=0\/cl=E/\yH B H y w M aG cl x k=J):∃A X O W,TB.Ev 22 (rI B H y w M aG cl x k) (.ret [.r (ao A),.i aG,.r (ao X),.r (ao O),.b cl,.r (ao W),.i 0])/\Dk (ao A) (ao X) (ao O)/\km y w (ao A) (ao X) (ao O) aG/\QC A O W/\ud B H y w M aG cl x k=(ao A,ao (lq (ao A) W X O (Y W)).1,ao (lq (ao A) W X O (Y W)).2)/\
  TB.Ev 20 (rI B H y w M aG cl x k) (.ret [.r (ud B H y w M aG cl x k).1,.i aG,.r (ud B H y w M aG cl x k).2.1,.r (ud B H y w M aG cl x k).2.2,.b cl])/\Gd y w aG (ud B H y w M aG cl x k) m:=by
 have l:=G.m;have c:=p.B5.len;have m5:=p.qc.bars
 suffices F:∃A X O W,TB.Ev 22 (rI B H y w M aG cl x k) (.ret [.r (ao A),.i aG,.r (ao X),.r (ao O),.b cl,.r (ao W),.i 0])/\Dk (ao A) (ao X) (ao O)/\km y w (ao A) (ao X) (ao O) aG/\QC A O W/\Y A=Y x.1.ah+1 by
  obtain⟨A,X,O,W,g,D,f,V,hA⟩:=F;have Q:=aDQ h s p g D f V;have e:ud B H y w M aG cl x k=(ao A,ao (lq (ao A) W X O (Y W)).1,ao (lq (ao A) W X O (Y W)).2):=by
   simp only[ud,or,rI,DT Q];rfl
  obtain⟨z,v,-,-⟩:=ajU (cl:=cl) h s p D f V (Y W) (cd _);refine⟨A,X,O,W,g,D,f,V,e, ?_, ?_⟩;rw[e];exact Q;rw[e];exact⟨z,v,bZ⟩
 rcases N with rfl|⟨V,hs⟩;obtain⟨a,b,d,q,g,u⟩:=aDq (cl:=cl) h s p G.D G.f;have P:Y x.1.ah<Y w.ah:=ae;obtain⟨rfl,rfl,rfl,rfl⟩:=u P;have o:¬Y w.ah<=Y x.1.ah:=ae;simp only[aP o] at g;exact⟨_,_,_,[],g,aDr G.D ae,aDs G.D G.f P,⟨aw,λj n=>by simp at n⟩,aw⟩;obtain⟨e,-,hf⟩:=aub (cl:=cl) h s p fP G k
 grind
def rJ(l:List Int):RV:=ao (l.map λk=>[.mk (.int I k) []])
def abx(l:List Int):lenOf (rJ l).val=Y l:=by simp[rJ]
def aud(l:List Int)(k:Int):ao ((rJ l).ah++[[.mk (.int I k) []]])=rJ (l++[k]):=by simp[rJ]
def aDS(l:List Int)(X:Y l<=4096):TB.Ev 35 [.r (rJ l)] (.ret [.r (rJ l)]):=by
 refine kD ?_;simp[aiT,rJ,Ge];refine⟨ae,λe=>by rw[e];rfl,λ_=>single (Hv _)⟩
noncomputable def ue(B H y w M:RV)(aG:Int)(cl:Bool)(X:Int):Nat->DS->List Int->Int->Sr->Sr:=ln cl (w8 w) (yH B H y w M aG cl) (Gs B H y w M aG cl) (ud B H y w M aG cl) (be .add I) X
def aDT{a b:Int}:be .add I (be .add I a b) 0=be .add I a b:=by
 simp only[be,Int.add_zero,IntKind.wrap_i64];omega
def aDU{cl0:Bool}{W:Int}(h:dV)(s:jV B H y w M)(p:nq B H y w M)(fP:Y di.ah<=40)(hb:W<=4096):∀(m:Nat)(x:DS)(c:List Int)(X:Int)(q:Sr),Gd y w aG x m->be .add I X 0=X->0<=q.st->q.st<=W->Y c+m<=4096->
  TB.Ev 308 ([.r x.1,.i aG,.r x.2.1,.r x.2.2,.b cl,.r (rJ c),.i X]++bL B H y w M++[.r ca,.i aG,.r kn,.r op,.b cl0,.i W,.i q.st,.r (rJ q.pl),.i q.kb]) (.ret [.i (ue B H y w M aG cl W m x c X q).st,.r (rJ (ue B H y w M aG cl W m x c X q).pl),.i (ue B H y w M aG cl W m x c X q).kb]):=by
 intro m;induction m with
 |zero=>
  intro x c X q G n h1 h2 hc;have e:Y x.1.ah=Y w.ah:=G.m;have a0:=aDS c ae;have hl:ue B H y w M aG cl W 0 x c X q=if q.kb<X then⟨q.st,c,X⟩ else q:=rfl;rw[hl];refine evo rfl rfl (.inr λv=>nofun) ?_;simp[aaQ,bL,wk,G.D.sc.len,s.sr.len,e];refine aW (λaa=> ?_) (λab=> ?_);simp[aY a0,aa];simp[ab]
 |succ m ih=>
  intro x c X q G n h1 h2 hc;obtain⟨F,l⟩:∃F,ue B H y w M aG cl W (m+1) x c X q=F:=⟨_,rfl⟩;obtain⟨g,j⟩:∃g:Int->Sr->Sr,(λk=>ue B H y w M aG cl W m (ud B H y w M aG cl x k) (c++[k]) (be .add I X (Gs B H y w M aG cl x k)))=g:=⟨_,rfl⟩;obtain⟨z,hz⟩:∃z:Sr->Sr,ue B H y w M aG cl W m (ud B H y w M aG cl x 0) (c++[0]) X=z:=⟨_,rfl⟩;have a1:qT W cl (yH B H y w M aG cl x) g z (w8 w x) 1 q=F:=by rw[<-l,<-j,<-hz];rfl
  rw[l];clear l;have f:Y x.1.ah<Y w.ah:=by have:=G.m;omega
  have s3:=(s.At _ f).len;have b8:=p.qc.br _ f;have a3:(cr 100 w (Y x.1.ah)).ah.length=w8 w x:=rfl;rw[a3] at s3 b8;simp only[cr] at s3;obtain⟨A0,K0,O0,bc,-,-,-,-,-,ac,G0⟩:=auc (cl:=cl) (k:=0) h s p fP G (.inl rfl);refine evo rfl rfl (.inr λv=>nofun) ?_;simp[aaQ,bL,wk,G.D.sc.len,s.sr.len];refine Jj ae ?_;refine Ap (λV=>∃(r k:Nat)(u:Sr),V=[.i k,.i u.st,.r (rJ u.pl),.i u.kb]/\k+r=w8 w x+1/\1<=k/\0<=u.st/\u.st<=W/\qT W cl (yH B H y w M aG cl x) g z r k u=F) (λV=>(w8 w x+1-xi V 0).toNat) ⟨w8 w x,1,q,aw,ae,ae,h1,h2,a1⟩ ?_;rintro _ ⟨r,k,u,rfl,bf,bg,a4,a9,P⟩;simp[xi,G.D.sc.len,s.sr.len,s3];refine⟨f, ?_⟩;have ba:∀k(v:Sr),0<=v.st->v.st<=W->0<=(g k v).st/\(g k v).st<=W:=λk v a b=>by
   rw[<-j];exact⟨awl a (QD m _ _ _ v).1.1,abw m _ _ _ v b⟩
  refine aW (λab=>aW (λaf=>aW (λbq=> ?a) (λbq=> ?b)) (λaf=> ?c)) (λaa=> ?d)
  case b=>
   have bq:cl=false:=by simpa using bq
   obtain⟨r,rfl⟩:∃r',r=r'+1:=⟨r-1,ae⟩;rw[qT,aH ⟨af,bq⟩] at P;have ek:((k+1:Nat):Int)=(k:Int)+1:=ae;have es:be .add I u.st 1=u.st+1:=by simp only[be];exact i8 ae ae
   obtain⟨e,ag,hs⟩:=aub (cl:=cl) h s p fP G k;simp only[rI,wk,bL,cU,du] at ag;simp[aY ag,es,wX (show k<=140737488355328 from ae)];have bk:∀v:Sr,0<=v.st->v.st<=W->qT W cl (yH B H y w M aG cl x) g z r ((k:Int)+1) v=F->I2 (U ⟨0,λV=>∃(r k:Nat)(u:Sr),V=[.i k,.i u.st,.r (rJ u.pl),.i u.kb]/\k+r=w8 w x+1/\1<=k/\0<=u.st/\u.st<=W/\qT W cl (yH B H y w M aG cl x) g z r k u=F,λV=>(w8 w x+1-xi V 0).toNat,w8 w x+1-k⟩) [.i ((k:Int)+1),.i v.st,.r (rJ v.pl),.i v.kb]:=λv v1 v2 o=>by
    refine⟨⟨r,k+1,v,by rw[ek],ae,ae,v1,v2,by rw[ek];exact o⟩, ?_⟩;show((w8 w x:Int)+1-((k:Int)+1)).toNat<w8 w x+1-k;omega
   by_cases N:yH B H y w M aG cl x k=J;obtain⟨he,ha,-⟩:=hs N;obtain⟨A,K',O,cu,-,-,-,-,-,al,G1⟩:=auc (cl:=cl) (k:=k) h s p fP G (.inr ⟨bq,N⟩);obtain⟨e',an,-⟩:=aDR (cl:=cl) h s p G k;have Q:=ih (ud B H y w M aG cl x k) (c++[(k:Int)]) (be .add I X (Gs B H y w M aG cl x k)) ⟨u.st+1,u.pl,u.kb⟩ G1 aDT (by show 0<=u.st+1;omega) (by show u.st+1<=W;omega) bZ;rw[show ue B H y w M aG cl W m (ud B H y w M aG cl x k) (c++[(k:Int)]) (be .add I X (Gs B H y w M aG cl x k))=g k by rw[<-j],<-aud] at Q;rw[aH N] at P;simp only[rI,wk,bL,cU,du] at an al Q;simp[N,he,aY an,aY al,abx,es,aY Q,wX (show k<=140737488355328 from ae)];have o:=ba k ⟨u.st+1,u.pl,u.kb⟩ (by show 0<=u.st+1;omega) (by show u.st+1<=W;omega);exact⟨ae,bk _ o.1 o.2 P⟩;rw[aP N] at P;simp[N];exact bk ⟨u.st+1,u.pl,u.kb⟩ (by show 0<=u.st+1;omega) (by show u.st+1<=W;omega) P
  all_goals
   have bb:z u=F:=by
    rw[<-P];cases r with
    |zero=>rfl
    |succ r=>
     rw[qT,aP];rintro⟨q1,q2⟩
     first|omega|(rw[bq] at q2;cases q2)
   have Q:=ih (ud B H y w M aG cl x 0) (c++[0]) X u G0 n a4 a9 bZ;rw[show ue B H y w M aG cl W m (ud B H y w M aG cl x 0) (c++[0]) X u=F by rw[hz,bb],<-aud] at Q;simp only[rI,wk,bL,cU,du] at ac Q;simp[aY ac,abx,n,aY Q];omega
end
section
variable{R:aX->Prop}{G:aL}{t:T}{O:aj}{L:ck}
variable[Inhabited cm]
variable{l q d br u g v w:RV}{aG k bud:Int}{cl:Bool}{x:DS}{m:Nat}
def B6(br:RV)(c:Nat):Nat->Nat
 |0=>1|i+1=>B6 br c i*(1+(cr 100 br (c+i)).ah.length)
def ajV{c:Nat}:∀{i j:Nat},i<=j->B6 br c i<=B6 br c j
 |i,0,h=>by rw[show i=0 from ae];exact cd _
 |i,j+1,h=>by
  by_cases e:i=j+1
  grind
  refine md (ajV (show i<=j from ae)) ?_;exact aIJ _ ae
def aue{a b:Nat}(X:a<=4096)(V:b<=8):be .mul I (a:Int) (be .add I 1 (b:Int))=((a*(1+b):Nat):Int):=by
 have W:be .add I 1 (b:Int)=((1+b:Nat):Int):=by simp only[be];rw[i8 ae ae];omega
 have Q:a*(1+b)<=4096*9:=Mh X ae;rw[W];simp only[be];rw[<-av5,i8 ae ae]
def aDV(s:jV l q d br u)(p:nq l q d br u)(D:Dk g v w)(f:km d br g v w aG):∃o,TB.Ev 16 (bL l q d br u++[.r g,.i aG,.r v,.r w,.b cl]) o/\∃n,o=.ret [.i n]/\(n<=4096->B6 br (Y g.ah) (Y br.ah-Y g.ah)<=4096):=by
 refine eI ?_;simp[aaP,bL,wk];have N:=s.sr.sm;have M:=f.calls;have Q:=p.qc.br;refine Ap (λX=>∃i:Nat,X=[.i ((Y g.ah+i:Nat):Int),.i (B6 br (Y g.ah) i)]/\Y g.ah+i<=Y br.ah) (λX=>(Y br.ah-xi X 0).toNat) ⟨0,by simp[D.sc.len,B6],ae⟩ ?_;rintro _ ⟨i,rfl,H⟩;simp[xi,BO,s.sr.len];refine aW (λG=> ?_) (λF=> ?_);have W:Y g.ah+i<Y br.ah:=ae;refine aW (λP=> ?_) (λP=> ?_);have e:=(s.At _ W).len;have V:=Q _ W;simp only[cr] at e V;rw[show(Y g.ah:Int)+(i:Int)=((Y g.ah+i:Nat):Int) from ae,e,aue ae V,wX ae];exact⟨ae,⟨i+1,⟨ae,rfl⟩,ae⟩,ae⟩;intro h;omega;intro h;have:i=Y br.ah-Y g.ah:=ae;subst this;omega
def ajW(h:dV)(s:jV l q d br u)(p:nq l q d br u)(fP:Y di.ah<=40)(G:Gd d br aG x m)(W:0<=bud)(V:bud<=4096)(A:B6 br (Y x.1.ah) m<=4096):TB.Ev 8 (bL l q d br u++[.r x.1,.i aG,.r x.2.1,.r x.2.2,.b cl,.i bud]) (.ret [.r (rJ (ue l q d br u aG cl bud m x [] 0 ⟨0,[],-1⟩).pl),.i (ue l q d br u aG cl bud m x [] 0 ⟨0,[],-1⟩).kb,.i (ue l q d br u aG cl bud m x [] 0 ⟨0,[],-1⟩).st,.i 0]):=by
 have z:=G.m;have Q:=abr (cl:=cl) h s p G.D.sc G.D.sk G.D.so G.D.kk G.f;have y:=s.sr.sm;refine kD ?_;simp only[wk,bL,cU,du] at Q;simp[ai3,bL,wk,aY Q,G.D.sc.len,s.sr.len];refine⟨W,V,ae, ?_⟩;refine bQ m (λi M=>M=[.i (B6 br (Y x.1.ah) i)]) ⟨0,rfl,ae,rfl⟩ ?_;rintro i _ o rfl;simp;have H:aQ (br.ah.drop (Y x.1.ah)) (i:Int) 0=aQ br.ah ((Y x.1.ah+i:Nat):Int) 0:=by
  grind [aQ,rM]
 rw[H];refine aW (λF=>⟨F, ?_⟩) (λn=> ?_);have P:Y x.1.ah+i<Y br.ah:=ae;have e:=(s.At _ P).len;have N:=p.qc.br _ P;have j:=ajV (br:=br) (c:=Y x.1.ah) (show i<=m from ae);have a:=ajV (br:=br) (c:=Y x.1.ah) (show i+1<=m from ae);simp only[cr] at e N;rw[e,aue ae N,bD ae ae];have B:B6 br (Y x.1.ah) (i+1)=B6 br (Y x.1.ah) i*(1+(cH (.sl 100) (aQ br.ah ((Y x.1.ah+i:Nat):Int) 0)).ah.length):=rfl;rw[<-B]
 grind
 have m5:=p.qc.bars;have lO:=p.B5.len;have X:=aDU (ca:=x.1) (kn:=x.2.1) (op:=x.2.2) (cl:=cl) (cl0:=cl) h s p fP V m x [] 0 ⟨0,[],-1⟩ G rfl ew W bZ;rw[show rJ []=ao [] from rfl] at X;simp only[wk,bL,cU,du] at X;simp[aY X]
noncomputable def fpD(l q d br u:RV)(aG:Int)(cl:Bool):List Int->Nat->DS->Int->Option Int:=Gq cl (yH l q d br u aG cl) (Gs l q d br u aG cl) (ud l q d br u aG cl) (be .add I)
def aDX(h:dV)(s:jV l q d br u)(V:Sl g)(Q:Sl v)(P:Sl w)(N:∀i<Y v.ah,Sl (cr 108 v i)):∃o,TB.Ev 14 (bL l q d br u++[.r g,.i aG,.r v,.r w,.b cl]) o/\∃b,o=.ret [.b b]/\(b=J->Y di.ah<=40):=by
 obtain⟨o,W,b,rfl⟩:=aDB (aG:=aG) (cl:=cl) h s V Q P N;refine⟨_,W,b,rfl,λM=> ?_⟩;subst M;obtain⟨o,X,y,rfl⟩:=atG h s;cases y;exfalso;have:TB.Ev 14 (bL l q d br u++[.r g,.i aG,.r v,.r w,.b cl]) (.ret [.b E]):=by
  refine kD ?_;simp only[wk,bL,cU,du] at X;simp[aaN,bL,wk,aY X]
 have:=N3 W this;simp at this;exact aDg h X
def auf(h:dV)(s:jV l q d br u)(D:Dk g v w):∃o,TB.Ev 7 (bL l q d br u++[.r g,.i aG,.r v,.r w,.b cl,.i bud]) o/\∃b,o=.ret [.b b]/\(b=J->Y di.ah<=40/\(nq l q d br u/\km d br g v w aG)/\0<=bud/\bud<=4096/\B6 br (Y g.ah) (Y br.ah-Y g.ah)<=4096):=by
 obtain⟨o,X,b,rfl,P⟩:=aDX (aG:=aG) (cl:=cl) h s D.sc D.sk D.so D.kk;obtain⟨o,W,e,rfl,N⟩:=at2 (aG:=aG) (cl:=cl) h s D.sc D.sk D.so D.kk;refine eI ?_;simp only[wk,bL,cU,du] at X W;simp[ai4,bL,wk,aY X];cases b;simp;simp[aY W];intro M;obtain⟨p,f⟩:=N M;obtain⟨o,V,n,rfl,H⟩:=aDV (cl:=cl) s p D f;simp only[wk,bL,cU,du] at V;intro G F;simp[aY V];by_cases Q:n<=4096;exact .inr ⟨Q,P rfl,⟨p,f⟩,G,F,H Q⟩;exact .inl ae
def aDY{X:Type}{N:X->Nat}{W:X->Int->Bool}{V:X->Int->Int}{Q:X->Int->X}{P:Int->Int->Int}{y:X}{F:Sr}(H:ln cl N W V Q P bud m y [] 0 ⟨0,[],-1⟩=F)(G:0<=bud):Y F.pl=m/\Gq cl W V Q P F.pl m y 0=U F.kb/\0<=F.kb/\0<=F.st/\F.st<=bud:=by
 subst H;have M:=QD (cl:=cl) (lim:=N) (sf:=W) (kp:=V) (nx:=Q) (add:=P) (bud:=bud) m y [] 0 ⟨0,[],-1⟩;have D:=abw (cl:=cl) (lim:=N) (sf:=W) (kp:=V) (nx:=Q) (add:=P) (bud:=bud) m y [] 0 ⟨0,[],-1⟩ G;refine⟨?_, ?_,M.2,M.1.1,D⟩
 all_goals
  rcases ajS (cl:=cl) (lim:=N) (sf:=W) (kp:=V) (nx:=Q) (add:=P) (bud:=bud) m y [] 0 ⟨0,[],-1⟩ with⟨-,e⟩|⟨p,B,A,z⟩
  grind
  grind
def aDZ(X:0<=bud){F:Sr}(W:ue l q d br u aG cl bud m x [] 0 ⟨0,[],-1⟩=F):Y F.pl=m/\fpD l q d br u aG cl F.pl m x 0=U F.kb/\0<=F.kb/\0<=F.st/\F.st<=bud:=aDY W X
def aD0(D:Dk g v w)(f:km d br g v w aG):Gd d br aG (g,v,w) (Y br.ah-Y g.ah):=⟨D,f,by have:=f.calls;show Y g.ah+_=_;omega⟩
end
section
variable{R:aX->Prop}{G:aL}{t:T}{O:aj}{L:ck}
variable[Inhabited cm]
variable{e n q g u a v w:RV}{aG k d:Int}{cl:Bool}{x:DS}{m:Nat}
theorem aug{l:List Int}{i:Nat}(X:i<Y l):bn (aQ (rJ l).ah (i:Int) 0).val=l[i]:=by
 simp[rJ,aQ,X,bn]
theorem aD1(hS:TB.Ev 6 [] (.ret [.b J]))(h:dV)(s:jV e n q g u)(D:Dk a v w)(d X:Int):TB.Ev 5 (bL e n q g u++[.r a,.i aG,.r v,.r w,.b cl,.i d,.i X]) (.ret [.b J]):=by
 obtain⟨o,z,b,rfl,hb⟩:=auf (aG:=aG) (cl:=cl) (bud:=d) h s D;obtain⟨o,y,b',rfl,ac⟩:=auf (aG:=aG) (cl:=cl) (bud:=X) h s D;simp only[wk,bL,cU,du] at z y;obtain⟨P,hP⟩:∃P:aX->Prop,∀o,P o<->o=.ret [.b J]:=⟨_,λ_=>Iff.rfl⟩
 suffices a0:∃o,TB.Ev 5 (bL e n q g u++[.r a,.i aG,.r v,.r w,.b cl,.i d,.i X]) o/\P o by
  grind
 have af:=(hP _).2 rfl;refine eI ?_;simp[ai5,bL,wk,aY hS,aY z,aY y];cases b
 grind
 simp;cases b'
 grind
 obtain⟨fP,⟨p,f⟩,l,b1,Q⟩:=hb rfl;obtain⟨-,-,c0,c1,-⟩:=ac rfl;have G:=aD0 D f;have N:=ajW (cl:=cl) h s p fP G l b1 Q;have M:=ajW (cl:=cl) h s p fP G c0 c1 Q;have H:=ajW (cl:=J) h s p fP G c0 c1 Q;obtain⟨F,B⟩:∃F,ue e n q g u aG cl d (Y g.ah-Y a.ah) (a,v,w) [] 0 ⟨0,[],-1⟩=F:=⟨_,rfl⟩;obtain⟨F',aa⟩:∃F,ue e n q g u aG cl X (Y g.ah-Y a.ah) (a,v,w) [] 0 ⟨0,[],-1⟩=F:=⟨_,rfl⟩;have ag:∀c b,c=J\/b<=0->ue e n q g u aG c b (Y g.ah-Y a.ah) (a,v,w) [] 0 ⟨0,[],-1⟩=⟨0,ee (Y g.ah-Y a.ah) 0,0⟩:=λc b hc=>at9 (Y g.ah-Y a.ah) (a,v,w) [] 0 ⟨0,[],-1⟩ hc
 obtain⟨f1,-,f3,f4,f5⟩:=aDZ l B;rw[B] at N;rw[aa] at M;rw[ag J X (.inl rfl)] at H;simp only[wk,bL,cU,du] at N M H;simp;refine aW (λ_=>af) (λa1=> ?_);simp[aY N,aY M];have W:=ajT (cl:=cl) (lim:=w8 g) (sf:=yH e n q g u aG cl) (kp:=Gs e n q g u aG cl) (nx:=ud e n q g u aG cl) (add:=be .add I) (bud:=d) (bud':=X) ae (Y g.ah-Y a.ah) (a,v,w) [] 0 ⟨0,[],-1⟩ ⟨0,[],-1⟩ (.inl rfl);have W:Gr d F F':=by rw[<-B,<-aa];exact W
 have al:F.Le F':=by
  rcases W with rfl|⟨-,W⟩;exact⟨Cj _,Cj _⟩;exact W
 obtain⟨l1,l2⟩:=al;have a3:∀i(hi:i<Y F.pl),cl=J\/d<=0->F.pl[i]=0:=λi hi hc=>by
  grind
 have hs:=s.sr.sm;refine Jj ae (Jj ae ?_);simp[aY H];have ab:d=0->F.kb=0/\F.st=0:=λV=>by
  grind
 refine aW (λV=>D7 (ab V).1 (D7 (ab V).2 ?_)) (λV=> ?_)
 all_goals
  refine bQ (Y g.ah-Y a.ah) (λi A=>A=[]) ⟨0,rfl,ae,rfl⟩ ?_;rintro i _ hi rfl;simp[abx];refine aW (λan=> ?_) (λa4=> ?_);rw[aug bZ];simp;rw[bD an ae]
  grind
  refine bQ (Y F.pl) (λi A=>A=[]) ⟨0,rfl,ae,rfl⟩ ?_;rintro j _ hj rfl;simp[abx]
  grind [aug,bD]
end
