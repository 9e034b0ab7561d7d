/- Part 6. -/
import Derived.Test.YtjnmghiggfgjlaaGreatDoorV5
set_option linter.all false
set_option maxRecDepth 100000
set_option maxHeartbeats 100000000
open Bool renaming and_eq_true->aC,true->J,false->E
open Nat renaming le_refl->cd,zero_add->jk,le_trans->mc,zero_le->rN,add_mul->sM,mul_le_mul_right->GC,min_eq_left->Mp,mul_le_mul->Mr,le_of_not_lt->QT,strongRecOn->QU,min_eq_right->ak3,mul_one->ala,lt_of_le_of_ne->av0,not_lt_zero->awh,pow_succ->awm,le_total->awr,le_mul_of_pos_right->aIQ
open List renaming cons_append->cJ,nil_append->da,range->di,getElem?_eq_some_iff->dq,getElem?_eq_getElem->dG,map_cons->dH,getD_eq_getElem?_getD->dM,getElem?_map->et,replicate->eu,mem_append->fg,mem_map->fw,getElem?_append_left->f8,length_append->f9,all_eq_true->gz,getElem?_append_right->ji,mem_of_getElem?->jz,map_congr_left->kF,ext_getElem?->kU,map_nil->oC,length_cons->oV,length_map->oW,map_map->oX,getElem?_of_mem->sK,mem_range->sL,getElem?_eq_none->uk,getElem_mem->ul,getElem?_set->yW,mem_cons_of_mem->AH,drop_eq_getElem_cons->Cb,getElem?_set_ne->Cd,append_assoc->Ce,length_drop->Cf,length_nil->Cg,length_eq_zero_iff->Em,getElem?_range->Ep,map_append->GH,mem_or_eq_of_mem_set->Mi,mem_singleton->VB,drop_of_length_le->acb,length_singleton->ace,getElem?_modify->acg,getElem?_set_self->akS,range_succ->ak5,drop_append_of_le_length->avM,length_pos_iff->avX,getElem_of_mem->avY,take_add_one->av5,length_set->awd,length_filter_le->aIW,length->Y
open Option renaming map_some->ga,getD_some->yX,some->U,none->Z
open Int renaming toNat_natCast->rM,le_refl->JB,eq_ofNat_of_zero_le->akR,le_trans->ak7,natCast_mul->awc,toNat_of_nonneg->aI3
open Go.IntKind renaming i64->I
namespace Go.Proofs.YtjnmghiggfgjlaaGreatDoor.Y
open Go.RowKit
noncomputable section
variable{V:Nat→Bool}
section
variable{R:aX->Prop}{G:aL}{t:T}{O:aj}{L:ck}
variable[Inhabited cm]
section
variable{ao:Int}{c a b d:RV}
end


section
variable{a b:RV}{n:Nat}
end
end
section
variable{R:aX->Prop}{G:aL}{t:T}{O:aj}{L:ck}
open Classical in
end
section
variable{bh u:mw}
end
section
variable[Inhabited cm]
variable{ao:Int}{c b e d:RV}{f a g:av}
theorem Md.cr(k:Md ao c b e d f a g){i:Nat}(X:i<Y ay.ah):cr 96 (ap a) i=ap (cr 96 d i).ah:=by
 have:=(k.al i X).1;simp only[Y.cr,nq,this];rfl
end
section
variable{R:aX->Prop}{G:aL}{t:T}{O:aj}{L:ck}
variable[Inhabited cm]

open Classical in
open Classical in
end
inductive Rt(g:Nat->Nat):Nat->Nat->Prop where
 |here {k:Nat} (h:g k=k):Rt g k k
 |up {k r:Nat} (h:g k≠k) (h2:Rt g (g k) r):Rt g k r
def Rt.abB{g:Nat->Nat}{k r:Nat}(h:Rt g k r):∀{X:Nat},Rt g k X->r=X:=by
 induction h with
 |here h=>
  intro X V;cases V with|here=>rfl|up W R=>exact(W h).elim
 |up h R Q=>
  intro X V;cases V with|here W=>exact(h W).elim|up W P=>exact Q P
def Rt.fix{g:Nat->Nat}{k r:Nat}(h:Rt g k r):g r=r:=by
 induction h with|here h=>exact h|up h W X=>exact X
def Rt.le{g:Nat->Nat}(X:∀q,g q<=q){k r:Nat}(h:Rt g k r):r<=k:=by
 induction h with|here h=>exact cd _|up h V W=>exact mc W (X _)
def t8(g:Nat->Nat)(k v:Nat):Nat->Nat:=λq=>if q=k then v else g q
def Jj:Nat->Nat->(Nat->Nat)->Nat->Nat
 |0,_,g=>g|n+1,k,g=>if g k=k then g else t8 (Jj n (g k) g) k (Jj n (g k) g (g k))
def atQ{g:Nat->Nat}(W:∀q,g q<=q):∀n k,k<n->Rt g k (Jj n k g k)/\∀q,Jj n k g q=g q\/Rt g q (Jj n k g q)
 |0,k,h=>bF h (awh _)
 |n+1,k,h=>by
  simp only[Jj];by_cases X:g k=k;rw[aH X];exact⟨by rw[X];exact .here X,λq=>.inl rfl⟩;rw[aS X];have Q:=av0 (W k) X;obtain⟨V,P⟩:=atQ W n (g k) ae;refine⟨by simp only[t8,dO];exact .up X V,λq=> ?_⟩;simp only[t8];by_cases R:q=k;subst R;rw[aH rfl];exact .inr (.up X V)
  grind
def Rt.short{g W:Nat->Nat}(R:∀q,g q<=q)(h:∀q,W q=g q\/Rt g q (W q))(x:Nat):∀{r:Nat},Rt g x r->Rt W x r:=by
 induction x using QU with
 |_ x Q=>
  intro r P;cases P with
  |here X=>
   rcases h x with e|e;exact .here (e.trans X);exact .here (e.abB (.here X))
  |up X V=>
   have N:=av0 (R x) X;rcases h x with e|e;refine .up (by rw[e];exact X) ?_
   grind
   have O:W x=r:=e.abB (.up X V);have M:=V.le R;refine .up ae ?_;rw[O];exact Q r ae (.here V.fix)
def aC3{g X:Nat->Nat}(W:∀q,g q<=q)(h:∀q,X q=g q\/Rt g q (X q))(q:Nat):X q<=q:=by
 rcases h q with e|e
 grind
 exact e.le W
def Rt.join{g:Nat->Nat}{W X x r:Nat}(P:g W=W)(O:g X=X)(h:Rt g x r):Rt (t8 g W X) x (if r=W then X else r):=by
 induction h with
 |here R=>
  rename_i k;by_cases V:k=W;subst V;rw[aH rfl];by_cases Q:X=k;subst Q;exact .here (by simp[t8]);have e:t8 g k X k=X:=by simp[t8]
  refine .up (by rw[e];exact Q) ?_;rw[e];exact .here (by simp[t8,O]);rw[aS V];exact .here (by simp[t8,V,R])
 |up R N M=>
  rename_i k r;have V:k≠W:=λe=>R (by rw[e];exact P)
  have e:t8 g W X k=g k:=by simp[t8,V]
  refine .up (by rw[e];exact R) ?_
  grind
def Jk(g:Nat->Nat)(a b:Nat):Prop:=∃r,Rt g a r/\Rt g b r
def Jk.short{g X:Nat->Nat}{a b:Nat}(W:∀q,g q<=q)(h:∀q,X q=g q\/Rt g q (X q))(k:Jk g a b):Jk X a b:=by
 obtain⟨r,V,R⟩:=k;exact⟨r,V.short W h,R.short W h⟩
def Jk.join{g:Nat->Nat}{X W a b:Nat}(V:g X=X)(R:g W=W)(k:Jk g a b):Jk (t8 g X W) a b:=by
 obtain⟨r,Q,P⟩:=k;exact⟨_,Q.join V R,P.join V R⟩
def gP(m:av)(q:Nat):Nat:=(aW 0 (m.getD q [])).toNat
def atS{m:av}{k:Nat}{x:aE}(X:k<Y m):gP (m.set k x)=t8 (gP m) k (aW 0 x).toNat:=by
 grind [gP,t8]
def L5{m:av}(h:mq m=J)(q:Nat):gP m q<=q:=by
 unfold gP;by_cases X:q<Y m;have:=Hj h X;omega;rw[dM,uk ae];show(0:Int).toNat<=q;simp
def atT{m:av}(h:mq m=J):∀(n:Nat)(i:Int),0<=i->i<Y m->gP (sU n i m)=Jj n i.toNat (gP m)
 |0,_,_,_=>rfl
 |n+1,i,X,W=>by
  obtain⟨V,O,R⟩:=ad1 h X W;have Q:=atT h n _ V R;have e:gP m i.toNat=(aW 0 (m.getD i.toNat [])).toNat:=rfl;simp only[sU,Jj];by_cases P:aW 0 (m.getD i.toNat [])=i
  grind
  rw[aS P,aS (by rw[e];omega),atS (by rw[WS];omega),e,<-Q];rfl
def ajM{m:av}(h:∀k<Y m,0<=aW 0 (m.getD k [])/\aW 0 (m.getD k [])<=k):mq m=true:=by
 refine gz.2 λk X=> ?_
 grind
def U0{m:av}(h:mq m=J)(k:Nat)(X:k<Y m):aW 0 (m.getD k [])=(gP m k:Int):=by
 have:=Hj h X;unfold gP;omega
def aC4{m X:av}(h:mq m=J)(R:∀x∈X,x∈m)(Q:∀q,gP X q<=q):mq X=true:=by
 refine ajM λk P=> ?_
 have O:X.getD k []∈X:=axN P _;obtain⟨p,V⟩:=sK (R _ O);have N:p<Y m:=(dq.1 V).1;have W:=(Hj h N).1;rw[dM,V] at W;have W:0<=aW 0 (X.getD k []):=W;have:=Q k;unfold gP at this;omega
def aC5{m:av}(h:mq m=J)(N:Y m<=1099511627776){i:Int}(R:0<=i)(Q:i<Y m):∃X,xE i m=U X/\Y X=Y m/\mq X=J/\(∀q,gP X q=gP m q\/Rt (gP m) q (gP X q))/\Rt (gP m) i.toNat (gP X i.toNat):=by
 obtain⟨X,W⟩:∃X,xE i m=U X:=⟨sU (Y m) i m,by unfold xE;rw[aH (by simp[N,R,Q,h])]⟩;obtain⟨-,-,-,-,e⟩:=Sg W;have P:=atT h (Y m) i R Q;rw[<-e] at P;obtain⟨O,V⟩:=atQ (L5 h) (Y m) i.toNat ae;rw[<-P] at O V;exact⟨X,W,ad2 W,aC4 h (WT W) (aC3 (L5 h) V),V,O⟩
def w7(M:Nat->Nat->Prop):Nat->Nat->Nat->Prop
 |0,i,j=>i=j|r+1,i,j=>i=j\/∃k,(M i k\/M k i)/\w7 M r k j
def Cn(M:Nat->Nat->Prop)(i j:Nat):Prop:=∃r,w7 M r i j
section
variable{M:Nat->Nat->Prop}
def w7.succ{r:Nat}:∀{i j:Nat},w7 M r i j->w7 M (r+1) i j:=by
 induction r with
 |zero=>intro i j h;exact .inl h
 |succ r X=>
  intro i j h;rcases h with h|⟨k,e,h⟩;exact .inl h;exact .inr ⟨k,e,X h⟩
def w7.mono{r X:Nat}(h:r<=X){i j:Nat}(k:w7 M r i j):w7 M X i j:=by
 induction h with|refl=>exact k|step _ W=>exact W.succ
def w7.trans{r:Nat}:∀{i j k s:Nat},w7 M r i j->w7 M s j k->w7 M (r+s) i k:=by
 induction r with
 |zero=>intro i j k s X W;cases X;rw[jk];exact W
 |succ r V=>
  intro i j k s X W;rcases X with X|⟨q,e,X⟩;subst X;exact W.mono ae;rw[Nat.add_right_comm];exact .inr ⟨q,e,V X W⟩
def Cn.refl(i:Nat):Cn M i i:=⟨0,rfl⟩
def Cn.trans{i j k:Nat}(X:Cn M i j)(W:Cn M j k):Cn M i k:=by
 obtain⟨r,X⟩:=X;obtain⟨s,W⟩:=W;exact⟨_,X.trans W⟩
def Cn.one{i j:Nat}(h:M i j\/M j i):Cn M i j:=⟨1,.inr ⟨j,h,rfl⟩⟩
def w7.symm{r:Nat}:∀{i j:Nat},w7 M r i j->Cn M j i:=by
 induction r with
 |zero=>intro i j h;cases h;exact Cn.refl _
 |succ r X=>
  intro i j h;rcases h with h|⟨k,e,h⟩;subst h;exact Cn.refl _;exact(X h).trans (Cn.one e.symm)
def Cn.symm{i j:Nat}(h:Cn M i j):Cn M j i:=by
 obtain⟨r,h⟩:=h;exact h.symm
open Classical in
open Classical in
end
section
variable[Inhabited cm]
def U4(v:av)(a b:Nat):Prop:=∃x∈v,(aW 0 x).toNat=a/\(aW 1 x).toNat=b
def ajN{X:Nat->Nat->Prop}{g:Nat->Nat}{n:Nat}(W:∀q,g q<=q)(h:∀q<n,Cn X q (g q)){k r:Nat}(V:Rt g k r):k<n->Cn X k r:=by
 induction V with
 |here _=>exact λ_=>Cn.refl _
 |up _ _ R=>
  rename_i k r _ _;exact λQ=>(h k Q).trans (R (by have:=W k;omega))
def ajO{X:Nat->Nat->Prop}{g W:Nat->Nat}{n:Nat}(V:∀q,g q<=q)(h:∀q<n,Cn X q (g q))(s:∀q,W q=g q\/Rt g q (W q)):∀q<n,Cn X q (W q):=λq R=>by
 rcases s q with e|e
 grind
 exact ajN V h e R
structure aC6(n:Nat)(v m:av):Prop where
 len:Y m=n
 ok:mq m=J
 pr:∀x∈v,aW 0 (m.getD (aW 0 x).toNat [])=aW 0 (m.getD (aW 1 x).toNat [])
 cn:∀q<n,Cn (U4 v) q (gP m q)
def R63(n:Nat)(v:av)(e:Int)(o:aX):Prop:=(e≠0/\o=.ret [.r (ap []),.i e])\/(e=0/\∃m,o=.ret [.r (ap m),.i 0]/\aC6 n v m)
def aC8(m:av)(k:Nat)(x:Int)(W:k<Y m)(V:∀X∈m,Y X=1):(m.modify k λX=>ge X 0 [iV x])=m.set k [iV x]:=by
 apply kU;intro q;rw[acg,yW];by_cases R:k=q;subst R;rw[aH rfl,aH W,dG W];have:=V _ (ul W);generalize m[k]=X at this
 match X,this with|[c],_=>simp[ge]
 grind
def aC9{m:av}{i:Nat}(h:mq m=J)(W:Y m=i):mq (m++[[iV i]])=true:=by
 refine ajM λk V=> ?_
 simp at V;rw[dM];by_cases X:k<Y m;rw[f8 X,<-dM];exact Hj h X;have:k=Y m:=ae;subst this;rw[ji (cd _)];simp[aW,bn,iV,W]
def aDa{m:av}{i:Nat}(X:Y m=i)(h:∀q<i,gP m q=q):∀q<i+1,gP (m++[[iV i]]) q=q:=λq W=>by
 simp only[gP,dM];by_cases e:q=i;subst e;rw[ji ae];simp[X,aW,bn,iV];rw[f8 ae,<-dM];exact h q ae
def aDb{m:av}{x:RV}(h:∀X∈m,Y X=1):∀X∈m++[[x]],Y X=1:=λX W=>by
 grind
def ajP{f g:FuncId}{R:aX->Prop}{O:aj}{L:ck}{t:T}{m:av}{r:RE}{e:TypeId}{V:bo}{i:K}(Q:r.rv O=ap m){a:Int}(z:i.ai O=a)(P:∀W∈m,Y W=1)(h:mq m=J)(y:Y m<=1000)(N:0<=a)(M:a<Y m)
  (k:∀X,Y X=Y m->(∀W∈X,Y W=1)->mq X=J->(∀q,gP X q=gP m q\/Rt (gP m) q (gP X q))->Rt (gP m) a.toNat (gP X a.toNat)->t.wp TB.Ev R (O.add (.r (ap X))) L):
  T.wp TB.Ev R (.eE f g e (.dw 0 (.lex [] E) [i]) J r V t) O L:=by
 obtain⟨X,H,G,F,D,B⟩:=aC5 h ae N M;rw[aA4,Q];refine⟨X, ?_, ?_⟩;show xE (i.ai O) m=U X
 grind
 have:=k X G (λW A=>P W (WT H W A)) F D B
 grind [ap,RV.pe]
def t63(h:dS)(ao:Int){v:av}{e:Int}(al:TB.Ev 71 (wk++[.i ao]) (.ret [.r (ap v),.i e]))(hv:∀x∈v,0<=aW 0 x/\aW 0 x<aW 1 x/\aW 1 x<Y ay.ah)(br:Y v<=4096)(hn:Y ay.ah<=1000):
  ∃o,TB.Ev 44 (wk++[.i ao]) o/\R63 (Y ay.ah) v e o:=by
 refine eJ ?_;simp only[wk,cJ,da] at al;simp[T63,wk,aY al];refine aV (λd=> ?_) (λd=>.inl ⟨d,rfl⟩);subst d;have an:Y ay.ah<=140737488355328:=ae;have ba:Y v<=140737488355328:=ae;refine bQ (Y ay.ah) (λi D=>∃m,D=[.r (ap m)]/\Y m=i/\(∀L∈m,Y L=1)/\mq m=J/\∀q<i,gP m q=q) ⟨0,rfl,ae,[],rfl,rfl,aw,rfl,ae⟩ ?_;rintro i _ hi ⟨m0,rfl,H,B,G,a0⟩;simp[h.rl.len];refine aV (λhi=> ?_) (λbs=> ?_);simp[bC hi an];exact⟨ae,_,rfl,bY,aDb B,aC9 G H,aDa H a0⟩;have bb:i=Y ay.ah:=ae;subst bb;refine bQ (Y v) (λj D=>∃m,D=[.r (ap m)]/\Y m=Y ay.ah/\(∀L∈m,Y L=1)/\mq m=J/\(∀x∈v.take j,Jk (gP m) (aW 0 x).toNat (aW 1 x).toNat)/\∀q<Y ay.ah,Cn (U4 v) q (gP m q)) ⟨0,rfl,ae,m0,rfl,H,B,G,aw,λq p=>by rw[a0 q p];exact Cn.refl _⟩ ?_;rintro j _ M ⟨m,rfl,H,B,G,c,hc⟩;simp;refine aV (λM=> ?_) (λbt=> ?_);simp[M];obtain⟨va,bc,vb⟩:=hv _ (ul M);have ea:bn (aN v (j:Int) 0).val=aW 0 v[j]:=by simp[aN,aW,M]
 have eb:bn (aN v (j:Int) 1).val=aW 1 v[j]:=by simp[aN,aW,M]
 refine ajP (m:=m) rfl ea B G ae ae ae ?_;intro F l1 b A R n;refine ajP (m:=F) rfl eb b A ae ae ae ?_;intro Q l2 r2 a l a2;simp[bC M ba];have na:bn (aN F (bn (aN v (j:Int) 0).val) 0).val=((gP F (aW 0 v[j]).toNat:Nat):Int):=by rw[ea];exact U0 A _ ae
 have nb:bn (aN Q (bn (aN v (j:Int) 1).val) 0).val=((gP Q (aW 1 v[j]).toNat:Nat):Int):=by rw[eb];exact U0 a _ ae
 simp only[na,nb];have N:=L5 G;have g:=L5 A;have f:=L5 a;have aa:=ajO g (ajO N hc R) l;have bd:Cn (U4 v) (aW 0 v[j]).toNat (aW 1 v[j]).toNat:=Cn.one (.inl ⟨_,ul M,rfl,rfl⟩);have y:=(n.short N R).short g l;have w:=a2.short g l;have fa:=y.fix;have fb:=w.fix;have la:=y.le f;have lb:=w.le f;have cA:=ajN f aa y ae;have cB:=ajN f aa w ae;generalize gP F (aW 0 v[j]).toNat=P at y fa la cA⊢;generalize gP Q (aW 1 v[j]).toNat=O at w fb lb cB⊢;obtain⟨X,ab⟩:∃X:Nat,X=max P O:=⟨_,rfl⟩;obtain⟨W,ac⟩:∃W:Nat,W=min P O:=⟨_,rfl⟩;have e1:max (P:Int) (O:Int)=(X:Int):=ae;have e2:min (P:Int) (O:Int)=(W:Int):=ae;rw[e1,e2];have af:X<Y Q:=ae;have fx:gP Q X=X:=by rcases awr P O with q|q<;>simp only[ab,Nat.max_eq_left,Nat.max_eq_right,q]<;>assumption
 have fn:gP Q W=W:=by rcases awr P O with q|q<;>simp only[ac,Mp,ak3,q]<;>assumption
 have ek:gP (Q.set X [iV (W:Int)])=t8 (gP Q) X W:=by rw[atS af];rfl
 refine⟨ae,Q.set X [iV (W:Int)], ?_,bY,λL u=> ?_, ?_,λx V=> ?_,λq p=> ?_⟩;rw[<-aC8 Q X W af r2];rfl;rcases Mi u with u|u;exact r2 L u;subst u;rfl;refine ajM λk t=> ?_
 rw[awd] at t;rw[dM];by_cases a3:k=X;subst a3;rw[akS af];show(0:Int)<=(W:Int)/\(W:Int)<=(k:Int);omega;rw[Cd (Ne.symm a3),<-dM];exact Hj a t;rw[ek];rw[av5,dG M] at V;rcases fg.1 V with V|V;exact(((c x V).short N R).short g l).join fx fn;simp at V;subst V;refine⟨W, ?_, ?_⟩;have:=y.join fx fn;by_cases q:P=X
 rwa [aH q] at this
 rw[aS q] at this;have:P=W:=ae;subst this;assumption;have:=w.join fx fn;by_cases q:O=X
 rwa [aH q] at this
 rw[aS q] at this;have:O=W:=ae;subst this;assumption;rw[ek];simp only[t8];have cR:Cn (U4 v) P O:=(cA.symm.trans bd).trans cB;by_cases e:q=X;rw[aH e,e];rcases awr P O with z|z;rw[ab,ac,Nat.max_eq_right z,Mp z];exact cR.symm;rw[ab,ac,Nat.max_eq_left z,ak3 z];exact cR;rw[aS e];exact aa q p;have bf:j=Y v:=ae;subst bf;rw[List.take_length] at c;refine bQ (Y ay.ah) (λk D=>∃m,D=[.r (ap m)]/\Y m=Y ay.ah/\(∀L∈m,Y L=1)/\mq m=J/\(∀x∈v,Jk (gP m) (aW 0 x).toNat (aW 1 x).toNat)/\(∀q<Y ay.ah,Cn (U4 v) q (gP m q))/\∀q<k,Rt (gP m) q (gP m q)) ⟨0,rfl,ae,m,rfl,H,B,G,c,hc,aw⟩ ?_;rintro k _ t ⟨m',rfl,bg,bk,s,a4,a9,ag⟩;simp[H];refine aV (λt=> ?_) (λbx=> ?_);refine ajP (m:=m') rfl rfl bk s ae aw bY ?_;intro F l1 b A R n;have N:=L5 s;simp[bC t an] at n⊢;refine⟨F,rfl,ae,b,A,λx V=>(a4 x V).short N R,ajO N a9 R,λq p=> ?_⟩;by_cases bl:q=k;subst bl;exact n.short N R;have:=ag q ae;rcases R q with e|e;rw[e];exact this.short N R;exact e.short N R;refine .inr ⟨rfl,m',rfl,bg,s,λx V=> ?_,a9⟩;obtain⟨va,bc,vb⟩:=hv x V;obtain⟨r,q1,q2⟩:=a4 x V;rw[U0 s _ ae,U0 s _ ae,(ag _ ae).abB q1,(ag _ ae).abB q2]
end
section
variable{R:aX->Prop}{G:aL}{t:T}{O:aj}{L:ck}
variable[Inhabited cm]
end
def atU{X:Type}(n i:Nat)(f V:Nat->X)(g:X->X)(h:∀k<n,V k=if k=i then g (f k) else f k):((di n).map f).modify i g=(di n).map V:=by
 apply kU;intro q;rw[acg];simp only[et];by_cases W:q<n;rw[Ep W];simp only[ga,h q W];by_cases e:i=q;subst e;simp;rw[aS (Ne.symm e)];simp[e];rw[uk (by simpa using QT W)];simp
section
open Classical in
section
variable{m:av}{a b d:RV}{n:Nat}
end
section
variable[Inhabited cm]
end
end
section
variable{R:aX->Prop}{G:aL}{t:T}{O:aj}{L:ck}

variable[Inhabited cm]
variable{a c d g b:RV}
end
section
variable{R:aX->Prop}{G:aL}{t:T}{O:aj}{L:ck}
variable[Inhabited cm]
variable{a c d g e:RV}
def QA(b:RV)(i:Nat):RV:=cH (.sl 4) (aN b.ah i 0)
def BZ(b:RV)(i:Nat):RV:=cH (.sl 101) (aN b.ah i 1)
structure abC(mv re:RV):Prop where
 lm:Y mv.ah=Y ay.ah
 lr:Y re.ah=Y ay.ah
 few:∀i<Y ay.ah,(cr 96 re i).ah.length<=Y dh.ah
structure ajQ(g:RV):Prop where
 len:(Y g.ah:Int)=eD
 BY:∀k<Y g.ah,∀i<(cr 100 g k).ah.length,abC (QA (cr 100 g k) i) (BZ (cr 100 g k) i)
structure CsQ(c d:RV):Prop where
 len:∀i<Y d.ah,(cr 3 d i).ah.length=Y ay.ah
 idx:∀i<Y d.ah,∀j<(cr 3 d i).ah.length,0<=ci (cr 3 d i) j 0/\ci (cr 3 d i) j 0<Y c.ah
structure mN(a c d g e:RV):Prop where
 wk:jL=0
 qe:Mny a c d g
 aG:CsQ c d
 B3:ajQ g
 g15:TB.Ev 26 (bJ a c d g e) (.ret [.i 0])
end
section
variable{R:aX->Prop}{G:aL}{t:T}{O:aj}{L:ck}
def Ed{c:Prop}[Decidable c]{a b:Prop}(h:c)(k:a):if c then a else b:=by rw[aH h];exact k
def QB{c:Prop}[Decidable c]{a b:Prop}(h:¬c)(k:b):if c then a else b:=by rw[aS h];exact k
variable[Inhabited cm]
variable{d e f g i:RV}
end
section
variable{R:aX->Prop}{G:aL}{t:T}{O:aj}{L:ck}
variable[Inhabited cm]
variable{l u d g w c a k:RV}{aG:Int}{cl:Bool}
def x63(h:dS)(W:jL=0)(V:Y ay.ah<=1000)(ao:Int)(Q:jh ao 0 (eD-1)=J):∃o,TB.Ev 44 (wk++[.i ao]) o/\∃m,o=.ret [.r (ap m),.i 0]/\Y m=Y ay.ah/\mq m=true:=by
 obtain⟨o,P,v,e,rfl,N,M,H⟩:=aC1 h ao;obtain⟨o,G,F⟩:=t63 h ao P M N V;rcases F with⟨D,-⟩|⟨-,m,rfl,X⟩;exact bF (H W Q) D;exact⟨_,G,m,rfl,X.len,X.ok⟩
def abD(h:dS)(s:jN l u d g w)(p:mN l u d g w)(N:Sl c)(M:Sl a)(H:Sl k)(aa:∀i<Y a.ah,Sl (cr 108 a i))(f:ko d g c a k aG):TB.Ev 15 (bJ l u d g w++[.r c,.i aG,.r a,.r k,.b cl]) (.ret [.i 0]):=by
 have o:=p.g15;have lc:=f.calls;have c0:=f.cast;have lk:=f.Ay;have lo:=f.D9;refine evo rfl rfl (.inr λv=>nofun) ?_;simp only[wk,bJ,cJ,da] at o;simp[aaX,bJ,wk,aY o,N.len,M.len,H.len,s.sr.len,s.sc.len,h.rl.len];refine⟨ae,ae,ae,ae,ae, ?_⟩;refine bQ (Y c.ah) (λn W=>W=[]) ⟨0,rfl,ae,rfl⟩ ?_;rintro i _ hi rfl;simp[N.len,s.sr.len];refine aV (λD=> ?_) (λm=> ?_);have e:=(s.Ax i ae).len;have e2:=f.call i D;simp only[cr,ci] at e e2;simp only[e];refine⟨D,ae,ae,ae, ?_⟩;rw[bC D N.sm];refine bQ (Y a.ah) (λn W=>W=[]) ⟨0,rfl,ae,rfl⟩ ?_;rintro j _ hj rfl;simp[N.len,M.len,H.len];intro Q;have G:=aa j Q;have F:=G.len;have X:=f.Gs j Q;obtain⟨V,hV⟩:∃V,cr 108 a j=V:=⟨_,rfl⟩;have B:cH (.sl 108) (aN a.ah j 0)=V:=hV;obtain⟨k1,k2,A,k4,z,k6⟩:=X;rw[hV] at G F k1 k2 A k4 z;simp only[B,F];refine⟨Q, ?_⟩;by_cases h1:Y V.ah=1;have h0:ci k j 0=0:=Classical.byContradiction λq=>by have:=A.2 q;omega
 simp only[ci] at h0;refine Ed ae ⟨ae,Ed h0 ?_⟩;refine bQ (Y V.ah) (λn W=>W=[]) ⟨0,rfl,ae,rfl⟩ ?_;rintro q _ hq rfl;simp[N.len,M.len,H.len,B,F,Q];refine aV (λP=> ?_) (λm=> ?_);have e:=z q P;simp only[Qz,ci] at e;simp[P,e,bC P G.sm];refine⟨ae,Ed ae ?_⟩;rw[bC Q M.sm];have h2:Y V.ah=2:=ae;have o0:=A.1 h2;obtain⟨y,x,b3⟩:=k6 o0;have ne:=k4 h2;simp only[ci] at o0 y x b3 ne;refine QB ae ⟨ae,ae,ae, ?_⟩;refine⟨λz0 z1 z2 z3 z4 z5 z6 z7 z8 z9 za zb zc=> ?_, ?_⟩
 ·obtain⟨q,hq,ab⟩:=ne;have:q=0\/q=1\/q=2\/q=3\/q=4\/q=5\/q=6\/q=7\/q=8\/q=9\/q=10\/q=11\/q=12:=ae;rcases this with rfl|rfl|rfl|rfl|rfl|rfl|rfl|rfl|rfl|rfl|rfl|rfl|rfl
  all_goals exact ab md
 refine bQ (Y V.ah) (λn W=>W=[]) ⟨0,rfl,ae,rfl⟩ ?_;rintro q _ hq rfl;simp[N.len,M.len,H.len,B,F,Q];refine aV (λP=> ?_) (λm=> ?_);have e:=z q P;simp only[Qz,ci] at e;simp[P,e,bC P G.sm];refine⟨ae,QB ae ?_⟩;refine⟨y,x,⟨y,x⟩,b3, ?_⟩;rw[bC Q M.sm]
end
section
variable{R:aX->Prop}{G:aL}{t:T}{O:aj}{L:ck}
variable[Inhabited cm]
variable{v x m n y a k c:RV}{aG u l d:Int}{cl:Bool}
def U5(a c:RV)(u l d:Int):Prop:=(0<=u/\u<Y c.ah)/\(0<=l/\l<Y a.ah)/\bn (aN a.ah l 0).val≠0/\0<=d/\d<=8
def Ee(a c:RV)(u:Nat)(l d:Int):Prop:=ci c u 0=1+l/\(d=0\/d=bn (aN a.ah l 0).val)
def dt(V:RV)(q:Nat):RV:=ap [[.mk (.int I (ci V q 0)) [],.mk (.int I (ci V q 1)) [],.mk (.int I (ci V q 2)) [],.mk (.int I (ci V q 3)) [],.mk (.int I (ci V q 4)) [],.mk (.int I (ci V q 5)) [],.mk (.int I (ci V q 6)) [],.mk (.int I (ci V q 7)) [],.mk (.int I (ci V q 8)) [],.mk (.int I (ci V q 9)) [],.mk (.int I (ci V q 10)) [],.mk (.int I (ci V q 11)) [],.mk (.int I (ci V q 12)) []]]
open Classical in
noncomputable def sG(a k c:RV)(r:Nat)(l d:Int):av:=if Ee a c r l d then k.ah.modify r λX=>ge X 0 [dt (cr 108 k r) (if d=0 then 0 else 1)] else k.ah
open Classical in
noncomputable def sH(a c:RV)(r:Nat)(l d:Int):av:=if Ee a c r l d then c.ah.modify r λX=>ge X 0 [.mk (.int I 0) []] else c.ah
def aDe{r b:Nat}(h:dS)(s:jN v x m n y)(p:mN v x m n y)(H:Sl a)(G:Sl k)(F:Sl c)(D:∀i<Y k.ah,Sl (cr 108 k i))(f:ko m n a k c aG)(g:U5 a c r b d):TB.Ev 23 (bJ v x m n y++[.r a,.i aG,.r k,.r c,.b cl,.i r,.i b,.i d]) (.ret [.r (ap a.ah),.i aG,.r (ap (sG a k c r b d)),.r (ap (sH a c r b d)),.b cl,.i 0]):=by
 obtain⟨P,j⟩:∃P:aX->Prop,∀o,P o<->o=.ret [.r (ap a.ah),.i aG,.r (ap (sG a k c r b d)),.r (ap (sH a c r b d)),.b cl,.i 0]:=⟨_,λ_=>Iff.rfl⟩
 suffices af:∃o,TB.Ev 23 (bJ v x m n y++[.r a,.i aG,.r k,.r c,.b cl,.i r,.i b,.i d]) o/\P o by
  grind
 have B:=abD (cl:=cl) h s p H G F D f;have lc:=f.calls;have c0:=f.cast;have A:=f.Ay;have u:=f.D9;have m5:=p.qe.bars;have m2:=p.qe.rl;have lO:=p.B3.len;obtain⟨⟨r0,Q⟩,⟨b0,q⟩,c1,p0,p1⟩:=g;refine eJ ?_;simp only[wk,bJ,cJ,da] at B;have a1:¬(r:Int)<0:=ae;have a2:¬(Y c.ah:Int)<=r:=ae;have a3:¬(b:Int)<0:=ae;have a4:¬(Y a.ah:Int)<=b:=ae;have a5:¬d<0:=ae;have a6:¬8<d:=ae;have a7:¬a.ah=[]:=λe=>by rw[e] at q;simp at q;omega
 have a8:¬c.ah=[]:=λe=>by rw[e] at Q;simp at Q;omega
 have a9:¬k.ah=[]:=λe=>by rw[e] at A;rw[<-A] at u;rw[u] at Q;simp at Q;omega
 have aa:r<Y c.ah:=ae;have ab:b<Y a.ah:=ae;have M:r<Y k.ah:=ae;have e1:be .add I 1 (b:Int)=1+b:=by simp only[be];exact i8 ae ae
 have N:∀X O,X=sG a k c r b d->O=sH a c r b d->P (.ret [.r (ap a.ah),.i aG,.r (ap X),.r (ap O),.b cl,.i 0]):=λX O hK hO=>(j _).2 (by rw[hK,hO])
 have X:=f.Gs r M;have l:=(D r M).len;have two:bn (aN c.ah (r:Int) 0).val=1+(b:Int)->(cr 108 k r).ah.length=2:=λe=>X.opn.2 (by simp only[ci];omega)
 simp only[cr] at l two;simp[ai7,bJ,wk,aY B,H.len,G.len,F.len,Gj,a1,a2,a3,a4,a5,a6,a7,a8,a9,aa,ab,M,c1,e1,l];refine⟨ae,ae,ae,aV (λz=>aV (λW=>⟨by have:=two z;omega,N _ _ ?_ ?_⟩) (λW=>aV (λV=>⟨by have:=two z;omega,N _ _ ?_ ?_⟩) (λV=>N _ _ ?_ ?_))) (λz=>N _ _ ?_ ?_)⟩;rw[sG,aH ⟨z,.inl W⟩,aH W];rfl;rw[sH,aH ⟨z,.inl W⟩];rw[sG,aH ⟨z,.inr V⟩,aS W];rfl;rw[sH,aH ⟨z,.inr V⟩];rw[sG,aS λw=>w.2.elim W V];rw[sH,aS λw=>w.2.elim W V];rw[sG,aS λw=>z w.1];rw[sH,aS λw=>z w.1]
end
section
variable{R:aX->Prop}{G:aL}{t:T}{O:aj}{L:ck}
structure Dk(ca d a:RV):Prop where
 sc:Sl ca
 sk:Sl d
 so:Sl a
 kk:∀i<Y d.ah,Sl (cr 108 d i)
 k1:∀row∈d.ah,Y row=1
 o1:∀row∈a.ah,Y row=1
variable[Inhabited cm]
variable{ca d a:RV}{aG ba pr:Int}{m:Bool}{r:Nat}
def atW{M:av}{i k:Nat}{x:RV}(W:i<Y M)(V:∀X∈M,Y X=1):aN (M.modify i λX=>ge X 0 [x]) (k:Int) 0=if k=i then x else aN M (k:Int) 0:=by
 simp only[aN,rM,dM,acg]
 grind [ge]
def atX{M:av}{i:Nat}{x:RV}(h:∀X∈M,Y X=1):∀X∈(M.modify i λX=>ge X 0 [x]),Y X=1:=λX Q=>by
 obtain⟨q,W⟩:=sK Q;rw[acg] at W;cases V:M[q]? with
 |none=>rw[V] at W;cases W
 |some r=>
  rw[V] at W;have:=h r (jz V);by_cases e:i=q;simp[e] at W;subst W
  match r,this with|[c],_=>rfl
  grind
def abE:(sG ca d a r ba pr).length=Y d.ah:=by
 unfold sG;split<;>simp
def ajS:(sH ca a r ba pr).length=Y a.ah:=by
 unfold sH;split<;>simp
open Classical in
def aDf(D:Dk ca d a)(X:r<Y a.ah)(k:Nat):ci (ap (sH ca a r ba pr)) k 0=if Ee ca a r ba pr/\k=r then 0 else ci a k 0:=by
 show bn (aN (sH ca a r ba pr) (k:Int) 0).val=_;unfold sH;by_cases z:Ee ca a r ba pr;rw[aH z,atW X D.o1];by_cases e:k=r;rw[aH e,aH ⟨z,e⟩];rfl;rw[aS e,aS λw=>e w.2];rfl;rw[aS z,aS λw=>z w.1];rfl
open Classical in
def atY(D:Dk ca d a)(X:r<Y d.ah)(k:Nat):cr 108 (ap (sG ca d a r ba pr)) k=if Ee ca a r ba pr/\k=r then dt (cr 108 d r) (if pr=0 then 0 else 1) else cr 108 d k:=by
 show cH (.sl 108) (aN (sG ca d a r ba pr) (k:Int) 0)=_;unfold sG;by_cases z:Ee ca a r ba pr;rw[aH z,atW X D.k1];by_cases e:k=r;rw[aH e,aH (c:=Ee ca a r ba pr/\k=r) ⟨z,e⟩];rfl;rw[aS e,aS (c:=Ee ca a r ba pr/\k=r) λw=>e w.2];rfl;rw[aS z,aS (c:=Ee ca a r ba pr/\k=r) λw=>z w.1];rfl
theorem aDg(V:RV)(q:Nat):∀j<13,ci (dt V q) 0 j=ci V q j:=λj X=>by
 have:j=0\/j=1\/j=2\/j=3\/j=4\/j=5\/j=6\/j=7\/j=8\/j=9\/j=10\/j=11\/j=12:=ae;rcases this with rfl|rfl|rfl|rfl|rfl|rfl|rfl|rfl|rfl|rfl|rfl|rfl|rfl<;>rfl
def aDh(D:Dk ca d a)(W:r<Y d.ah):Dk (ap ca.ah) (ap (sG ca d a r ba pr)) (ap (sH ca a r ba pr)):=by
 refine⟨lZ D.sc.sm,lZ (by rw[abE];exact D.sk.sm),lZ (by rw[ajS];exact D.so.sm),λi V=> ?_, ?_, ?_⟩;rw[atY D W];split;exact lZ aw;exact D.kk i (by simpa[ap,abE] using V);show∀X∈sG ca d a r ba pr,Y X=1;unfold sG;split;exact atX D.k1;exact D.k1;show∀X∈sH ca a r ba pr,Y X=1;unfold sH;split;exact atX D.o1;exact D.o1
variable{n o g l p:RV}
def aDi{b:Nat}(D:Dk ca d a)(f:ko g l ca d a aG)(P:r<Y d.ah):ko g l (ap ca.ah) (ap (sG ca d a r b pr)) (ap (sH ca a r b pr)) aG:=by
 have M:r<Y a.ah:=by rw[f.D9,<-f.Ay];exact P
 refine⟨f.calls,f.cast,by simp only[ap,RV.mU,abE];exact f.Ay,by simp only[ap,RV.mU,ajS];exact f.D9,f.call,λi Q=> ?_⟩;have Q:i<Y d.ah:=by simpa only[ap,RV.mU,abE] using Q
 have X:=f.Gs i Q;have W:=atY (ca:=ca) (ba:=b) (pr:=pr) D P i;have V:=aDf (ca:=ca) (ba:=b) (pr:=pr) D M i;by_cases z:Ee ca a r b pr/\i=r;rw[aH z] at W V;obtain⟨H,rfl⟩:=z;have F:(cr 108 d i).ah.length=2:=X.opn.2 (by have:=H.1;omega);refine⟨by rw[W];simp[dt],by rw[W];simp[dt],by rw[W,V];simp[dt],by rw[W];simp[dt],λq N=> ?_,λh=>bF V h⟩;rw[W] at N⊢;have G:q=0:=by simp[dt] at N;omega
 subst G;have c:=X.fM (if pr=0 then 0 else 1) (by split<;>omega)
 grind [Qz,aDg]
 rw[aS z] at W V;refine⟨by rw[W];exact X.one,by rw[W];exact X.two,by rw[W,V];exact X.opn,by rw[W];exact X.ne,by rw[W];exact X.fM,by rw[V];exact X.ao⟩
end
section
variable{R:aX->Prop}{G:aL}{t:T}{O:aj}{L:ck}
variable[Inhabited cm]
variable{a c d e f ca h op:RV}{aG:Int}{k:Bool}
def aDj{O:av}{r b:Nat}{X:Int}(W:(ap O).ah.length=Y op.ah)(g:U5 ca op r b X):U5 (ap ca.ah) (ap O) r b X:=by
 unfold U5;rw[W];exact g
end
section
variable{R:aX->Prop}{P:aL}{t:T}{O σ:aj}{L:ck}
def jx(O σ:aj):Prop:=(∃a,σ.i=O.i++a)/\∃b,σ.r=O.r++b
def jx.refl:jx O O:=⟨⟨[],aw⟩,[],aw⟩
def jx.trans{X:aj}(h:jx O σ)(k:jx σ X):jx O X:=by
 obtain⟨⟨a,W⟩,b,V⟩:=h;obtain⟨⟨c,Q⟩,d,P⟩:=k;exact⟨⟨a++c,by rw[Q,W,Ce]⟩,b++d,by rw[P,V,Ce]⟩
theorem jx.add(x:XV):jx O (O.add x):=by
 cases x;exact⟨⟨_,rfl⟩,[],aw⟩;exact⟨⟨[],aw⟩,[],aw⟩;exact⟨⟨[],aw⟩,_,rfl⟩
def jx.ext:∀(X:aZ)(O:aj),jx O (O.ext X)
 |[],_=>.refl|x::X,O=>(jx.add x).trans (jx.ext X (O.add x))
def jx.iv(h:jx O σ){k:Nat}(X:k<Y O.i):σ.i.getD k 0=O.i.getD k 0:=by
 obtain⟨⟨a,W⟩,_⟩:=h
 grind
theorem jx.rv(h:jx O σ){k:Nat}(X:k<Y O.r):σ.rv k=O.rv k:=by
 obtain⟨_,b,W⟩:=h
 grind [aj.rv]
def aDl{v:RV}{l:aE}{k:Nat}(h:O.r=l++[v])(X:Y l=k):O.rv k=v:=by
 grind [aj.rv]
def Gu{v:RV}{k:Nat}(X:Y O.r=k):(O.add (.r v)).rv k=v:=aDl rfl X
def ajT:∀(n:Nat)(t:T),T.wp TB.Ev R (UE n t) O L=T.wp TB.Ev R t O L
 |0,_=>rfl|n+1,t=>by rw[UE,yJ,ajT n t];simp
def ma(V:RV)(i:Nat):aE:=(di 13).map λq=>.mk (.int I (ci V i q)) []
def iU(X:aE):RV:=cH (.sl 108) (X.getD 0 default)
def kE:av->List av
 |[]=>[[]]|X::W=>(di (iU X).ah.length).flatMap λi=>(kE W).map (ma (iU X) i::·)
def Ef(X:aE)(W:av)(i:Nat):List av:=(di i).flatMap λi=>(kE W).map (ma (iU X) i::·)
def U6(X:aE)(W:av)(i:Nat):Ef X W (i+1)=Ef X W i++(kE W).map (ma (iU X) i::·):=by
 simp[Ef,ak5]
def atZ(X:aE)(W:av):kE (X::W)=Ef X W (iU X).ah.length:=rfl
def abF(W:aE)(X:av):∀i,(Ef W X i).length=i*(kE X).length
 |0=>by simp[Ef]|i+1=>by rw[U6,f9,abF W X i,oW,sM];omega
structure Lvl(d:Nat)(O:aj)(p:av)(S:RV):Prop where
 li:Y O.i=12+d
 lr:Y O.r=16+3*d
 lp:Y p=d
 prev:∀j<d,∀σ,jx O σ->(I1 j).map (C.cj σ)=p.getD j []
 db:O.rv (vl d)=S
def ajU(d:Nat):vl d<16+3*d:=by cases d<;>simp only[vl]<;>omega
def aDm{d:Nat}{S:RV}{i:Nat}(X:σ.rv (vl d)=S)(W:σ.i.getD (12+d) 0=(i:Int)):(I1 d).map (C.cj σ)=ma (iU (S.ah.getD 0 [])) i:=by
 simp only[I1,ma,oX];refine kF λq V=> ?_
 simp only[Function.comp,C.cj,K.ai,RE.rv,X,W,iU,ci];rfl
variable[Inhabited cm]
variable{g A D G H w re s:RV}{aG ao:Int}{f:av->aE}{o:av->Int}
structure QC(g A D G H w:RV)(aG ao:Int)(O:aj):Prop where
 a26:∀σ,jx O σ->(rq [(.agg (Qi++[(.ak (.v 5)),(.ak (.v 6)),(.ak (.v 7)),(.ak (.v 8)),(.ak (.v 9))])),(.int I (.v 6))]).map (C.xv σ)=bJ g A D G H++[.i aG]
 pF:∀σ,jx O σ->∀u z y,(rq [(.agg Qi),(.agg [(.ak (.v 5))]),(.ak (.v u)),(.int I (.len (.v 10))),(.ak (.v 13)),(.ak (.v z)),(.ak (.v y))]).map (C.xv σ)=wk++[.r g,.r (σ.rv u),.i ao,.r w,.r (σ.rv z),.r (σ.rv y)]
def QC.mono(h:QC g A D G H w aG ao O)(k:jx O σ):QC g A D G H w aG ao σ:=⟨λX q=>h.a26 X (k.trans q),λX q=>h.pF X (k.trans q)⟩
structure QD(g s w re:RV)(ao:Int)(f:av->aE)(o:av->Int):Prop where
 ans:∀c:av,Y c<=64->∃b M F S V B,f c=[.mk (.int I b) [],M,F,S,V,B]/\TB.Ev 54 (wk++[.r g,.r s,.i ao,.r w,.r (ap c),.r re]) (.ret [.i b,.r M,.r F,.r S,.r V,.r B,.i (o c)])
def aDn{d:Nat}{c a:av}{i:Nat}(k:QC g A D G H w aG ao σ)(al:TB.Ev 55 (bJ g A D G H++[.i aG]) (.ret [.r s]))(M:QD g s w re ao f o)(hc:Y c<=64)
  (li:Y σ.i=13+d)(y:Y σ.r=21+5*d)(hz:σ.rv (20+5*d)=ap c)(j:σ.rv (17+3*d)=re)(hA:σ.rv (16+3*d)=ap a)(hi:σ.i.getD (12+d) 0=(i:Int))(hl:Y a+1<=536870912)
  (hf:∀e,e≠0->R (.ret [.r (ap []),.i e]))(x:o c=0->I4 (C0 (2+d) L) [.i (be .add I (i:Int) 1),.r (ap (a++[f c])),.r re]):T.wp TB.Ev R (acT d) σ L:=by
 obtain⟨b,Q,F,S,V,B,ha,an⟩:=M.ans c hc;unfold acT;rw[ajl,k.a26 σ .refl,aY al,ajm];refine⟨rfl, ?_⟩;have P:jx σ (σ.add (.r s)):=.add _;show T.wp TB.Ev R _ (σ.add (.r s)) L;rw[ajl,k.pF _ P,Gu y,P.rv ae,P.rv ae,hz,j,aY an,ajm];refine⟨rfl, ?_⟩;generalize u:(σ.add (.r s)).ext [.i b,.r Q,.r F,.r S,.r V,.r B,.i (o c)]=X;have e2:jx (σ.add (.r s)) X:=u▸jx.ext _ _;have p:X.i=σ.i++[b,o c]:=by rw[<-u];simp[aj.ext,aj.add]
 have h:X.r=σ.r++[s,Q,F,S,V,B]:=by rw[<-u];simp[aj.ext,aj.add]
 have a0:X.i.getD (13+d) 0=b:=by rw[p];simp[dM,<-li]
 have n:X.i.getD (14+d) 0=o c:=by rw[p,show 14+d=Y σ.i+1 from ae];simp[dM]
 have W:∀q v,[s,Q,F,S,V,B][q]?=U v->X.rv (21+5*d+q)=v:=λq v hq=>by
  unfold aj.rv;rw[h,<-y];simp[dM,ji,hq]
 have aa:=W 1 Q rfl;have ab:=W 2 F rfl;have ac:=W 3 S rfl;have af:=W 4 V rfl;have ag:=W 5 B rfl;rw[show 21+5*d+1=22+5*d from ae] at aa;rw[show 21+5*d+2=23+5*d from ae] at ab;rw[show 21+5*d+3=24+5*d from ae] at ac;rw[show 21+5*d+4=25+5*d from ae] at af;rw[show 21+5*d+5=26+5*d from ae] at ag;have m:Y X.r=27+5*d:=by rw[h];simp[y];omega
 have l:=P.trans e2;have rA:X.rv (16+3*d)=ap a:=(l.rv ae).trans hA;have rR:X.rv (17+3*d)=re:=(l.rv ae).trans j;have iI:X.i.getD (12+d) 0=(i:Int):=(l.iv ae).trans hi;rw[Qj];refine aV (λN=> ?_) (λhn=> ?_);have N:o c≠0:=by
  simp only[BE.ai,K.ai,n,fj] at N;simpa using N
 rw[ajT,UG];show R (.ret [.r (ap []),.i (X.i.getD (14+d) 0)]);rw[n];exact hf (o c) N;have h0:o c=0:=by
  simp only[BE.ai,K.ai,n,fj] at hn;simpa using hn
 have x:=x h0;rw[yJ];refine⟨rfl, ?_⟩;rw[I5];have n1:gt (.lit [[(.int I (.v (13+d))),(.ak (.v (22+5*d))),(.ak (.v (23+5*d))),(.ak (.v (24+5*d))),(.ak (.v (25+5*d))),(.ak (.v (26+5*d)))]]) X=ap [f c]:=by
  rw[LS];simp only[LE.ah,dH,oC,C.cj,K.ai,RE.rv,a0,aa,ab,ac,af,ag,ha]
 rw[n1];have z:jx X (X.add (.r (ap [f c]))):=.add _;rw[yJ];refine⟨?_, ?_⟩;simp only[BE.ai,K.ai,RE.rv,z.rv (show 16+3*d<Y X.r from ae),rA,Gu m,Qm,fj];simp only[oV,Cg,aC,dD];omega;rw[I5];have n2:gt (.iB (.ak (.v (16+3*d))) (.ak (.v (27+5*d)))) (X.add (.r (ap [f c])))=ap (a++[f c]):=by
  rw[LS];simp only[LE.ah,RE.rv,z.rv (show 16+3*d<Y X.r from ae),rA,Gu m,nq]
 rw[n2,ajT,ajn];have e5:jx (X.add (.r (ap [f c]))) ((X.add (.r (ap [f c]))).add (.r (ap (a++[f c])))):=.add _;have l5:(X.add (.r (ap [f c]))).r.length=28+5*d:=by simp[aj.add,m];omega
 simp only[dH,oC,C.xv,K.ai,RE.rv,Gu l5,(z.trans e5).rv (show 17+3*d<Y X.r from ae),rR];rw[(z.trans e5).iv (show 12+d<Y X.i by rw[p];simp;omega),iI];exact x
def at1{d:Nat}{S:RV}{p x a:av}{W:aj}{i:Nat}(N:QC g A D G H w aG ao W)(F:TB.Ev 55 (bJ g A D G H++[.i aG]) (.ret [.r s]))(M:QD g s w re ao f o)(X:Lvl d O p S)(B:jx O W)(hd:d<=60)(hx:Y x=d+1)(z:∀j<d,x.getD j []=p.getD j [])
  (y:Y W.i=13+d)(lr:Y W.r=19+3*d)(u:W.rv (17+3*d)=re)(q:W.rv (16+3*d)=ap a)(n:W.i.getD (12+d) 0=(i:Int))(l:Y a+1<=536870912)
  (k:∀e,e≠0->R (.ret [.r (ap []),.i e]))(h:o x=0->I4 (C0 (2+d) L) [.i (be .add I (i:Int) 1),.r (ap (a++[f x])),.r re]):
  ∀(j m:Nat)(σ:aj),m+j=d+1->j<=d->jx W σ->σ.i=W.i->Y σ.r=19+3*d+2*m->σ.rv (18+3*d+2*m)=ap (x.drop j)->T.wp TB.Ev R (UF d j m) σ L
 |0,m,σ,hm,_,e,Q,V,P=>by
  rw[UF];refine aDn (N.mono e) F M ae (by rw[Q];exact y) (by rw[V];omega) ?_ ((e.rv ae).trans u) ((e.rv ae).trans q) (by rw[Q];exact n) l k h;rw[show 20+5*d=18+3*d+2*m from ae,P];rfl
 |j+1,m,σ,hm,hj,e,Q,V,P=>by
  rw[UF,yJ];refine⟨rfl, ?_⟩;have aa:x.getD j []::x.drop (j+1)=x.drop j:=by
   rw[Cb (i:=j) ae];simp[dM,dG (show j<Y x from ae)]
  have n1:gt (.lit [I1 j]) σ=ap [x.getD j []]:=by
   rw[LS];simp only[LE.ah,dH,oC];rw[X.prev j ae σ (B.trans e),z j ae]
  rw[I5,n1];have c:jx σ (σ.add (.r (ap [x.getD j []]))):=.add _;have b:=Gu (v:=ap [x.getD j []]) V;have v2:=(c.rv (show 18+3*d+2*m<Y σ.r from ae)).trans P;rw[yJ];refine⟨?_, ?_⟩;simp only[BE.ai,K.ai,RE.rv,b,v2,Qm,fj];simp only[oV,Cg,Cf,aC,dD];omega;rw[I5];have n2:gt (.iB (.ak (.v (19+3*d+2*m))) (.ak (.v (18+3*d+2*m)))) (σ.add (.r (ap [x.getD j []])))=ap (x.drop j):=by
   rw[LS];simp only[LE.ah,RE.rv,b,v2,nq];rw[<-aa];rfl
  rw[n2];have l5:(σ.add (.r (ap [x.getD j []]))).r.length=20+3*d+2*m:=by simp[aj.add,V];omega
  refine at1 N F M X B hd hx z y lr u q n l k h j (m+1) _ ae ae ((e.trans c).trans (.add _)) Q (by simp[aj.add,V];omega) ?_;rw[show 18+3*d+2*(m+1)=20+3*d+2*m from ae];exact Gu l5
def at2(ba:TB.Ev 55 (bJ g A D G H++[.i aG]) (.ret [.r s]))(M:QD g s w re ao f o)(hf:∀e,e≠0->R (.ret [.r (ap []),.i e])):
  ∀(n d:Nat)(O:aj)(p:av)(S:RV)(V:aE)(W z:av)(L:ck),QC g A D G H w aG ao O->Lvl d O p S->Sl S->S.ah=V::W->Y S.ah<=n->d+n<=60->(∀V∈S.ah,Sl (iU V))->
   (acI d).map (C.xv O)=[.i 0,.r (ap z),.r re]->Y z+(kE S.ah).length<=536870912->
   (∀c:PC,c.ax=2+d->(∀q∈kE S.ah,o (p++q)=0)->T.wp TB.Ev R (acE d) (O.ext [.i ((iU V).ah.length:Int),.r (ap (z++(kE S.ah).map λq=>f (p++q))),.r re]) (c::L))->T.wp TB.Ev R (acL n d) O L
 |0,d,O,p,S,V,W,z,L,hB,X,hS,B,hn,b3,hV,hI,u,m=>by
  rw[B] at hn;simp at hn
 |n+1,d,O,p,S,V,W,z,L,hB,X,hS,B,hn,b3,hV,hI,u,m=>by
  have aa:Sl (iU V):=hV V (by rw[B];simp);rw[B] at u m hn;simp only[oV] at hn;rw[atZ] at u m;obtain⟨N,l⟩:∃N,(iU V).ah.length=N:=⟨_,rfl⟩;rw[l] at u m;have bb:N<=140737488355328:=by rw[<-l];exact aa.sm
  rw[acL];refine bQ N (λi rs=>∃a,rs=[.r (ap a),.r re]/\a=z++(Ef V W i).map (λq=>f (p++q))/\∀q∈Ef V W i,o (p++q)=0) (by rw[hI];exact⟨0,rfl,rN _,z,rfl,by simp[Ef],by simp[Ef]⟩) ?_;rintro i _ hi ⟨a,rfl,ha,an⟩;have b4:Y a=Y z+i*(kE W).length:=by rw[ha];simp[abF]
  rw[abF] at u;have li:=X.li;have lr:=X.lr;have e1:jx O (O.ext [.i (i:Int),.r (ap a),.r re]):=jx.ext _ _;have a1:(O.ext [.i (i:Int),.r (ap a),.r re]).i=O.i++[(i:Int)]:=by simp[aj.ext,aj.add]
  have af:(O.ext [.i (i:Int),.r (ap a),.r re]).r=O.r++[ap a,re]:=by simp[aj.ext,aj.add]
  have cl:=m;generalize b5:O.ext [.i (i:Int),.r (ap a),.r re]=Q at e1 a1 af⊢;have vi:Q.i.getD (12+d) 0=(i:Int):=by rw[a1];simp[dM,<-li]
  have vA:Q.rv (16+3*d)=ap a:=by
   unfold aj.rv;rw[af];simp[dM,<-lr]
  have vR:Q.rv (17+3*d)=re:=by
   unfold aj.rv;rw[af,show 17+3*d=Y O.r+1 from ae];simp[dM]
  have y:Q.rv (vl d)=S:=(e1.rv (by rw[lr];exact ajU d)).trans X.db;have ag:cH (.sl 108) (aN S.ah 0 0)=iU V:=by rw[B];rfl
  have lS:lenOf S.val=((Y W+1:Nat):Int):=by rw[hS.len,B];rfl
  rw[Qj];refine aV (λab=> ?_) (λb6=> ?_)
  rotate_left
  simp only[BE.ai,K.ai,RE.rv,vi,y,ag,aa.len,l,fj,dD] at b6;have b7:i=N:=ae;subst b7;rw[<-b5,ha];exact m _ rfl an;simp only[BE.ai,K.ai,RE.rv,vi,y,ag,aa.len,l,fj,dD] at ab;have ab:i<N:=ae;have bf:(i+1)*(kE W).length<=N*(kE W).length:=GC _ ab;rw[sM] at bf;rw[yJ];refine⟨?_, ?_⟩;simp only[BE.ai,K.ai,RE.rv,vi,y,ag,aa.len,l,fj,aC,dD];omega;rw[yJ];refine⟨?_, ?_⟩;simp only[BE.ai,K.ai,RE.rv,vi,y,ag,aa.len,l,fj,aC,dD];omega;rw[yJ];refine⟨?_, ?_⟩;simp only[BE.ai,K.ai,RE.rv,y,lS,fj,dD];omega;rw[I5];have n1:gt (.sub (.ak (.v (vl d))) (.c 1) (.len (.v (vl d)))) Q=ap W:=by
   rw[LS];simp only[LE.ah,K.ai,RE.rv,y,lS,B];simp
  rw[n1];have e2:jx Q (Q.add (.r (ap W))):=.add _;have a3:Y Q.r=18+3*d:=by rw[af];simp[lr];omega
  have b8:Y Q.i=13+d:=by rw[a1];simp[li];omega
  have ac:=Gu (v:=ap W) a3;have wS:(Q.add (.r (ap W))).rv (vl d)=S:=(e2.rv (by rw[a3];have:=ajU d;omega)).trans y;have wA:(Q.add (.r (ap W))).rv (16+3*d)=ap a:=(e2.rv ae).trans vA;have wR:(Q.add (.r (ap W))).rv (17+3*d)=re:=(e2.rv ae).trans vR;have wi:(Q.add (.r (ap W))).i.getD (12+d) 0=(i:Int):=vi;have bg:(Q.add (.r (ap W))).i.length=13+d:=b8;have k:(Q.add (.r (ap W))).r.length=19+3*d:=by simp[aj.add,a3];omega
  generalize Q.add (.r (ap W))=P at e2 ac wS wA wR wi bg k⊢;have al:=e1.trans e2;have bk:∀σ,jx P σ->(I1 d).map (C.cj σ)=ma (iU V) i:=λσ e=>by
   have:=aDm (σ:=σ) (d:=d) (S:=S) (i:=i) ((e.rv (by have:=ajU d;omega)).trans wS) ((e.iv ae).trans wi);rw[B] at this;exact this
  rw[Qj];refine aV (λh=> ?_) (λbl=> ?_);simp only[BE.ai,K.ai,RE.rv,ac,Qm,fj] at h;have h:W=[]:=Em.1 (by simpa using h);subst h;rw[yJ];refine⟨rfl, ?_⟩;have m1:gt (.lit [I1 d]) P=ap [ma (iU V) i]:=by
   rw[LS];simp only[LE.ah,dH,oC];rw[bk P .refl]
  rw[I5,m1];have e3:jx P (P.add (.r (ap [ma (iU V) i]))):=.add _;have bs:=Gu (v:=ap [ma (iU V) i]) k;rw[yJ];refine⟨?_, ?_⟩;simp only[BE.ai,K.ai,RE.rv,bs,Qm,fj];simp;have m2:gt (.iB (.ak (.v (19+3*d))) (.lit [])) (P.add (.r (ap [ma (iU V) i])))=ap [ma (iU V) i]:=by
   rw[LS];simp only[LE.ah,RE.rv,bs,nq];rfl
  rw[I5,m2];have l3:(P.add (.r (ap [ma (iU V) i]))).r.length=20+3*d:=by simp[aj.add,k];omega
  have lp:=X.lp;refine at1 (x:=p++[ma (iU V) i]) (a:=a) (hB.mono al) ba M X al ae (by simp[lp]) (λj hj=>by simp[dM,f8 (show j<Y p from ae)]) bg k wR wA wi (by simp only[kE,oV,Cg] at u b4 bf;omega) hf (λh=> ?_) d 1 _ ae (cd _) (e3.trans (.add _)) rfl (by simp[aj.add,k]) ?_;simp only[C0,dO];rw[bC ab bb];refine⟨_,rfl, ?_, ?_⟩;rw[ha,U6];simp[kE];intro q F;rw[U6] at F;rcases fg.1 F with F|F;exact an q F;simp only[kE,dH,oC,VB] at F;subst F;exact h;rw[show 18+3*d+2*1=20+3*d from ae,Gu l3,avM ae,acb ae];rfl;simp only[BE.ai,K.ai,RE.rv,ac,Qm,fj] at bl;obtain⟨b,a4,bt⟩:∃b a4,W=b::a4:=by
   cases W with|nil=>simp at bl|cons r q=>exact⟨r,q,rfl⟩
  have bx:BE.ai P (.cmp .lss (.c 0) (.len (.v (18+3*d))))=true:=by
   simp only[BE.ai,K.ai,RE.rv,ac,Qm,fj,dD,bt,oV];omega
  rw[yJ];refine⟨bx, ?_⟩;rw[yJ];refine⟨bx, ?_⟩;have b0:=hS.sm;rw[B] at b0;simp only[oV] at b0;refine at2 ba M hf n (d+1) P (p++[ma (iU V) i]) (ap W) b a4 a _ (hB.mono al) ⟨ae,ae,by simp[X.lp],λj hj σ e=> ?_,ac⟩ (lZ ae) bt (by simp only[nq];omega) ae (λq F=>hV q (by rw[B];exact AH _ F)) ?_ (by simp only[nq];omega) ?_;by_cases b1:j<d;rw[X.prev j b1 σ (al.trans e)];simp[dM,f8 (show j<Y p by rw[X.lp];exact b1)];have:j=d:=ae;subst this;rw[bk σ e];simp[dM,<-X.lp];simp only[acI,dH,oC,C.xv,K.ai,RE.rv,wA,wR];intro c hc b2;simp only[nq] at b2⊢;rw[acE,ajn];have ca:¬c.ax=2+d:=ae;simp only[C0,ca,ku,dO];have e3:jx P (P.ext [.i ((iU b).ah.length:Int),.r (ap (a++(kE W).map λq=>f (p++[ma (iU V) i]++q))),.r re]):=jx.ext _ _;have a9:(P.ext [.i ((iU b).ah.length:Int),.r (ap (a++(kE W).map λq=>f (p++[ma (iU V) i]++q))),.r re]).r=P.r++[ap (a++(kE W).map λq=>f (p++[ma (iU V) i]++q)),re]:=by simp[aj.ext,aj.add]
  generalize P.ext [.i ((iU b).ah.length:Int),.r (ap (a++(kE W).map λq=>f (p++[ma (iU V) i]++q))),.r re]=O3 at e3 a9⊢;have cc:O3.rv (19+3*d)=ap (a++(kE W).map λq=>f (p++[ma (iU V) i]++q)):=by
   unfold aj.rv;rw[a9];simp[dM,<-k]
  have cf:O3.rv (20+3*d)=re:=by
   unfold aj.rv;rw[a9,show 20+3*d=Y P.r+1 from ae];simp[dM]
  simp only[dH,oC,C.xv,K.ai,RE.rv,cc,cf,(e3.iv (show 12+d<Y P.i from ae)).trans wi];rw[bC ab bb];refine⟨_,rfl, ?_, ?_⟩;rw[ha,U6];simp[Ce];intro q F;rw[U6] at F;rcases fg.1 F with F|F;exact an q F;obtain⟨q',ch,rfl⟩:=fw.1 F;have:=b2 q' ch;simpa[Ce] using this
end
section
variable{R:aX->Prop}{G:aL}{t:T}{O:aj}{L:ck}
variable[Inhabited cm]
variable{l n d g co a q u:RV}{aG k:Int}{cl:Bool}
def aDo(h:dS)(X:40<Y dh.ah):TB.Ev 30 (bJ l n d g co) (.ret [.b E]):=by
 refine ki ?_;unfold I0;simp only[bJ,wk,cJ,da];rw[Qj];refine Ed ?_ (by rw[UG];rfl);show decide (_>_)=J;simp only[dD];show lenOf dh.val>40;rw[h.sg.len];omega
def aDp(h:dS)(X:TB.Ev 30 (bJ l n d g co) (.ret [.b J])):Y dh.ah<=40:=Classical.byContradiction λW=>by
 have:=N9 X (aDo h ae)
 grind
def nY(g a:RV)(k:Int):Int:=if Y g.ah<=Y a.ah\/k<1\/((cr 100 g (Y a.ah)).ah.length:Int)<k then 1 else 0
def ajW(h:dS)(s:jN l n d g co)(p:mN l n d g co)(D:Dk a q u)(f:ko d g a q u aG):TB.Ev 47 (bJ l n d g co++[.r a,.i aG,.r q,.r u,.b cl,.i k]) (.ret [.i (nY g a k)]):=by
 have X:=abD (cl:=cl) h s p D.sc D.sk D.so D.kk f;refine ki ?_;simp only[wk,bJ,cJ,da] at X;simp[aaZ,bJ,wk,aY X,D.sc.len,s.sr.len];refine aV (λV=> ?_) (λV=> ?_);rw[nY,aH (.inl ae)];refine aV (λW=> ?_) (λW=> ?_);rw[nY,aH (.inr (.inl W))];have Q:Y a.ah<Y g.ah:=ae;have e:=(s.Ax (Y a.ah) Q).len
 grind [cr,nY]
def aDq(h:dS)(s:jN l n d g co)(p:mN l n d g co){c:Nat}(X:c<Y d.ah):∃o,TB.Ev 55 (bJ l n d g co++[.i c]) o/\∃m:av,o=.ret [.r (ap m)]/\Y m<=12:=by
 have W:=s.ccs c X;have e:=W.len;have Q:=p.aG.len c X;have P:=p.aG.idx c X;have N:=p.qe.rl;simp only[cr] at e;refine eJ ?_;simp[ai9,bJ,wk,s.sc.len,X];refine bQ (cr 3 d c).ah.length (λi V=>∃m:av,V=[.r (ap m)]/\Y m=i) ⟨0,rfl,ae,[],rfl,rfl⟩ ?_;rintro i _ M ⟨m,rfl,H⟩;simp[s.sb.len,e]
 grind [ci,cr,bC]
end
section
variable{R:aX->Prop}{Q:aL}{t:T}{O:aj}{L:ck}
variable[Inhabited cm]
variable{wg G A v H m d N:RV}{aG k:Int}{cl:Bool}
def bR(f:Nat->Bool)(n:Nat):av:=(di n).map λi=>[RV.mk (.bool (f i)) []]
def L6{n:Nat}:(bR V n).length=n:=by simp[bR]
def ajX{n i:Nat}(X:i<n):jp (aN (bR V n) (i:Int) 0).val=V i:=by
 simp[aN,bR,X,jp]
def vq(f:Nat->Bool)(X:RV)(n i:Nat):av:=(di n).map λq=>[if decide (q<i)&&f q then cr 96 X q else ap []]
def ajY{X:RV}{n i:Nat}:(vq V X n i).length=n:=by simp[vq]
def aDr{X:RV}{n:Nat}:vq V X n 0=eu n [ap []]:=by
 simp[vq,List.map_const']
def aDs{X:RV}{n i:Nat}(Q:V i=J):(vq V X n i).modify i (λW=>ge W 0 [cr 96 X i])=vq V X n (i+1):=by
 refine atU n i _ _ _ λq _=> ?_
 grind [ge]
theorem aDt{X:RV}{n i:Nat}(W:V i=E):vq V X n (i+1)=vq V X n i:=by
 grind [vq]
def aDu{X:RV}{n i:Nat}(W:i<n)(Q:Sl (cr 96 X i)):cr 96 (ap (vq V X n n)) i=if V i then cr 96 X i else ap []:=by
 unfold cr;simp only[nq,aN,vq,rM,dM,et,Ep W];simp[W];split
 grind [cH,cr,aN]
 rfl
def Az:av->Nat
 |[]=>1|X::W=>(iU X).ah.length*Az W
def abG:∀l:av,(kE l).length=Az l
 |[]=>rfl|W::X=>by rw[atZ,abF,abG X];rfl
def aDv{l:av}{i:Nat}(X:i<Y l):Az (l.drop i)=(iU (l.getD i [])).ah.length*Az (l.drop (i+1)):=by
 grind [Cb,Az]
def ajZ{d:RV}(i:Nat):iU (d.ah.getD i [])=cr 108 d i:=by
 simp only[iU,cr,aN,rM]
def aDw{l:av}:∀q∈kE l,Y q=Y l:=by
 induction l with
 |nil=>simp[kE]
 |cons X W V=>
  grind [kE]
def aDx(h:dS)(ao:Int){bc mv re:RV}(H:Sl bc)(G:Sl mv)(D:Sl re)(A:∀i<Y re.ah,Sl (cr 96 re i)/\(cr 96 re i).ah.length<=100):∃W P,QD wg bc mv re ao W P/\∀c:av,Y c<=64->UZ ao bc mv (ap c) re (.ret ([.i (bn ((W c).getD 0 default).val)]++((W c).drop 1).map XV.r++[.i (P c)])):=by
 have z:∀c:av,∃x:aE×Int,Y c<=64->(∃b M F S V B,x.1=[.mk (.int I b) [],M,F,S,V,B]/\TB.Ev 54 (wk++[.r wg,.r bc,.i ao,.r mv,.r (ap c),.r re]) (.ret [.i b,.r M,.r F,.r S,.r V,.r B,.i x.2]))/\UZ ao bc mv (ap c) re (.ret ([.i (bn (x.1.getD 0 default).val)]++(x.1.drop 1).map XV.r++[.i x.2])):=λc=>by
  by_cases X:Y c<=64;obtain⟨o,g,Q⟩:=t13 h ao wg bc mv (ap c) re H G (lZ ae) D A;rcases id Q with⟨e,u,-,rfl⟩|⟨y,w,v,rfl,s⟩;exact⟨⟨[.mk (.int I 0) [],ap [],ap [],ap [],ap [],ap []],e⟩,λ_=>⟨⟨_,_,_,_,_,_,rfl,g⟩,Q⟩⟩;exact⟨⟨[.mk (.int I ao) [],ap mv.ah,ap c,ap y,ap w,ap v],0⟩,λ_=>⟨⟨_,_,_,_,_,_,rfl,g⟩,Q⟩⟩;exact⟨⟨[],0⟩,λq=>bF q X⟩
 obtain⟨F,N⟩:=Classical.axiomOfChoice z;exact⟨λc=>(F c).1,λc=>(F c).2,⟨λc X=>(N c X).1⟩,λc X=>(N c X).2⟩
def at3(h:dS)(s:jN wg G A v H)(p:mN wg G A v H)(D:Dk m d N)(f:ko A v m d N aG){mf:Nat->Bool}{bc:av}{act:av->aE}{fe:av->Int}(b5:Y bc<=12)
  (aa:nY v m k=0->TB.Ev 48 (bJ wg G A v H++[.r m,.i aG,.r d,.r N,.b cl,.i k]) (.ret [.r (ap (bR mf (Y ay.ah)))]))(af:TB.Ev 55 (bJ wg G A v H++[.i aG]) (.ret [.r (ap bc)]))
  (M:nY v m k=0->QD wg (ap bc) (ap (bR mf (Y ay.ah))) (ap (vq mf (BZ (cr 100 v (Y m.ah)) (k-1).toNat) (Y ay.ah) (Y ay.ah))) (Y m.ah) act fe):
  ∃o,TB.Ev 37 (bJ wg G A v H++[.r m,.i aG,.r d,.r N,.b cl,.i k]) o/\((∃e,e≠0/\o=.ret [.r (ap []),.i e])\/(nY v m k=0/\(∀q∈kE d.ah,fe q=0)/\o=.ret [.r (ap ((kE d.ah).map act)),.i 0])):=by
 obtain⟨P,hP⟩:∃P:aX->Prop,∀o,P o<->((∃e,e≠0/\o=.ret [.r (ap []),.i e])\/(nY v m k=0/\(∀q∈kE d.ah,fe q=0)/\o=.ret [.r (ap ((kE d.ah).map act)),.i 0])):=⟨_,λ_=>Iff.rfl⟩
 suffices b6:∃o,TB.Ev 37 (bJ wg G A v H++[.r m,.i aG,.r d,.r N,.b cl,.i k]) o/\P o by
  grind
 have ag:∀e,e≠0->P (.ret [.r (ap []),.i e]):=λe he=>(hP _).2 (.inl ⟨e,he,rfl⟩)
 have a0:=ajW (cl:=cl) (k:=k) h s p D f;have lk:=f.Ay;have b7:=p.qe.rl;have a4:∀i<Y d.ah,1<=(cr 108 d i).ah.length/\(cr 108 d i).ah.length<=2:=λi g=>⟨(f.Gs i g).one,(f.Gs i g).two⟩
 refine eJ ?_;simp only[wk,bJ,cJ,da] at a0;simp[ajk,bJ,wk,aY a0];refine aV (λh0=> ?_) (λh0=>ag _ h0);have aa:=aa h0;have M:=M h0;have a9:Y m.ah<Y v.ah/\1<=k/\k<=(cr 100 v (Y m.ah)).ah.length:=by
  grind [nY]
 obtain⟨ab,b8,cc⟩:=a9;obtain⟨X,ba⟩:∃X:Nat,k=X+1:=⟨(k-1).toNat,ae⟩;subst ba;have bb:((X:Int)+1-1).toNat=X:=ae;rw[bb] at M;have ac:X<(cr 100 v (Y m.ah)).ah.length:=ae;refine bQ (Y d.ah) (λi Q=>∃q:Nat,Q=[.i q]/\q*Az (d.ah.drop i)=Az d.ah/\1<=q/\q<=256) ⟨0,rfl,ae,1,rfl,aw,ae,ae⟩ ?_;rintro i _ g ⟨q,rfl,hq,bf,bg⟩;simp[D.sk.len];refine aV (λW=> ?_) (λbk=> ?_);have e:=(D.kk i W).len;have el:=a4 i W;have ed:=aDv W;rw[ajZ] at ed;simp only[cr] at e el ed;simp only[e];obtain⟨w,hw⟩:∃w,(cH (.sl 108) (aN d.ah (i:Int) 0)).ah.length=w:=⟨_,rfl⟩;rw[hw] at el ed⊢;have hm:be .mul I (q:Int) (w:Int)=((q*w:Nat):Int):=by
  simp only[be];have:q*w<=256*2:=Mr bg el.2;rw[<-awc,i8 ae ae]
 rw[hm];refine⟨W,aV (λn=>ag 2 ew) (λn=> ?_)⟩;rw[bC W D.sk.sm];refine⟨_,rfl, ?_, ?_,ae⟩
 grind
 exact Mr bf el.1;have bl:i=Y d.ah:=ae;subst bl;have cf:Az d.ah<=256:=by
  rw[acb (cd _)] at hq;simp only[Az,ala] at hq;omega
 clear hq g bk;simp only[wk,bJ,cJ,da] at aa;simp[aY aa];rw[L6];have bs:Y ay.ah<=140737488355328:=ae;have hS:=s.Ax (Y m.ah) ab;have eS:=hS.len;have pg:=s.BY (Y m.ah) ab X ac;have pp:=p.B3.BY (Y m.ah) ab X ac;obtain⟨B,hB⟩:∃B,cr 100 v (Y m.ah)=B:=⟨_,rfl⟩;rw[hB] at hS eS pg pp ac M;have bt:cH (.sl 100) (aN v.ah (Y m.ah:Int) 0)=B:=hB;obtain⟨RL,eR⟩:∃x,BZ B X=x:=⟨_,rfl⟩;have a1:cH (.sl 101) (aN B.ah (X:Int) 1)=RL:=eR;obtain⟨-,p2,p3⟩:=pg;have lr:=pp.lr;rw[eR] at lr M;simp only[a1] at p2 p3;have k2:=p2.len;have bx:be .sub I ((X:Int)+1) 1=(X:Int):=by
  simp only[be];rw[i8 (by have:=hS.sm;omega) (by have:=hS.sm;omega)];omega
 refine⟨ae, ?_⟩;refine bQ (Y ay.ah) (λi Q=>Q=[.r (ap (vq mf RL (Y ay.ah) i))]) ⟨0,rfl,ae,by show[XV.r (ap (eu _ [ap []]))]=_;rw[aDr]⟩ ?_;rintro j _ hj rfl;simp[L6,ajY,D.sc.len,s.sr.len,bt,eS,a1,k2,lr,bx];refine aV (λW=> ?_) (λch=> ?_);rw[ajX W];refine⟨W,aV (λhm=> ?_) (λhm=> ?_)⟩;refine⟨ab,ac,W, ?_⟩;rw[bC W bs,show cH (.sl 96) (aN RL.ah (j:Int) 0)=cr 96 RL j from rfl,aDs hm]
 grind [bC,aDt]
 have b0:j=Y ay.ah:=ae;subst b0;have al:(∀q∈kE d.ah,fe q=0)->P (.ret [.r (ap ((kE d.ah).map act)),.i 0]):=λq=>(hP _).2 (.inr ⟨h0,q,rfl⟩)
 have b1:=D.sk.len;by_cases hz:d.ah=[];have b2:lenOf d.val=0:=by rw[b1,hz];rfl
 refine Ed b2 ?_;obtain⟨b,Mm,F,S,V,Bx,l,a3⟩:=M.ans [] aw;rw[hz] at al;simp only[kE,VB,dH,oC,l] at al;simp only[wk,bJ,cJ,da] at af a3;simp[aY af,D.sc.len,aY a3]
 grind
 have cn:0<Y d.ah:=avX.2 hz;refine QB ae ?_;refine⟨ae, ?_⟩;obtain⟨an,Q,hr⟩:∃an Q,d.ah=an::Q:=by
  cases hk:d.ah with|nil=>exact bF hk hz|cons r q=>exact⟨r,q,rfl⟩
 refine at2 (re:=ap (vq mf RL (Y ay.ah) (Y ay.ah))) af M ag 12 0 _ [] d an Q [] _ ⟨λσ e=> ?_,λσ e u z y=> ?_⟩ ⟨rfl,rfl,rfl,λj hj=>bF hj (awh j),rfl⟩ D.sk hr ae ae (λcp b3=> ?_) rfl (by rw[abG];simp only[Cg];omega) (λc _ b4=> ?_);obtain⟨⟨a,l⟩,b,n⟩:=e;obtain⟨si,sb,sr,sy⟩:=σ;simp only at l n;subst l;subst n;simp[Qi,bJ,wk];obtain⟨⟨a,l⟩,b,n⟩:=e;obtain⟨si,sb,sr,sy⟩:=σ;simp only at l n;subst l;subst n;simp[Qi,wk,D.sc.len];obtain⟨i,g,rfl⟩:=avY b3;have:=D.kk i g;rw[<-ajZ] at this
 grind
 rw[acE,UG];exact al b4
end
section
variable{R:aX->Prop}{H:aL}{t:T}{O:aj}{L:ck}
variable[Inhabited cm]
variable{y F w g G c v u:RV}{aG k:Int}{cl:Bool}
def Jl(X:nY g c k=0):Y c.ah<Y g.ah/\1<=k/\k<=(cr 100 g (Y c.ah)).ah.length:=by
 grind [nY]
theorem at4{n:Nat}{b:Bool}:bR V n++[[RV.mk (.bool b) []]]=bR (λq=>if q=n then b else V q) (n+1):=by
 simp only[bR,ak5,GH,dH,oC,dO];congr 1;refine kF λq X=> ?_
 grind
def aj0(h:dS)(s:jN y F w g G)(p:mN y F w g G)(D:Dk c v u)(f:ko w g c v u aG)(h0:nY g c k=0):∃o,TB.Ev 48 (bJ y F w g G++[.r c,.i aG,.r v,.r u,.b cl,.i k]) o/\∃W,o=.ret [.r (ap (bR W (Y ay.ah)))]/\∀i<Y ay.ah,W i=J->cb (QA (cr 100 g (Y c.ah)) (k-1).toNat) i 0=true:=by
 obtain⟨V,ag,al⟩:=Jl h0;obtain⟨X,rfl⟩:∃X:Nat,k=X+1:=⟨(k-1).toNat,ae⟩;have aa:((X:Int)+1-1).toNat=X:=ae;rw[aa];have Q:X<(cr 100 g (Y c.ah)).ah.length:=ae;have lO:=p.B3.len;have m2:=p.qe.rl;have lk:=f.Ay;obtain⟨o,n,m,rfl,gk⟩:=x63 h p.wk (show Y ay.ah<=1000 from ae) (Y c.ah) bY;have l:Y m=Y ay.ah:=gk.1;have ab:Y ay.ah<=140737488355328:=ae;have N:=s.Ax (Y c.ah) V;have d:=N.len;have a:=s.BY (Y c.ah) V X Q;have pp:=p.B3.BY (Y c.ah) V X Q;obtain⟨B,hB⟩:∃B,cr 100 g (Y c.ah)=B:=⟨_,rfl⟩;rw[hB] at N d a pp Q;have ac:cH (.sl 100) (aN g.ah (Y c.ah:Int) 0)=B:=hB;obtain⟨M,A⟩:∃M,cH (.sl 4) (aN B.ah X 0)=M:=⟨_,rfl⟩;have P:abC M (BZ B X):=by rw[<-A];exact pp
 have p1:=a.1;rw[A] at p1;have k1:=p1.len;have lm:=P.lm;have af:be .sub I ((X:Int)+1) 1=(X:Int):=by
  simp only[be];rw[i8 (by have:=N.sm;omega) (by have:=N.sm;omega)];omega
 refine eJ ?_;simp only[wk,cJ,da] at n;simp[ajb,bJ,wk,D.sc.len,aY n];refine bQ (Y ay.ah) (λi z=>∃x,z=[.r (ap x)]) ⟨0,rfl,ae,[],rfl⟩ ?_;rintro i _ hi ⟨x,rfl⟩;simp[l,D.sk.len];refine aV (λH=> ?_) (λan=> ?_)
 grind [cr,bC]
 refine bQ (Y ay.ah) (λi z=>∃W,z=[.r (ap (bR W i))]/\∀q<i,W q=J->cb M q 0=J) ⟨0,rfl,ae,λ_=>E,rfl,ae⟩ ?_;rintro j _ hj ⟨W,rfl,a0⟩;simp[l,D.sc.len,s.sr.len,ac,d,A,k1,lm,af,L6];refine aV (λH=> ?_) (λa1=> ?_);refine⟨H,V,Q,H,aV (λhm=>⟨ae, ?_⟩) (λhm=>⟨ae, ?_⟩)⟩;rw[bC H ab,at4];refine⟨_,rfl,λq hq a3=> ?_⟩;by_cases e:q=j;subst e;exact hm
 grind
 grind [bC,at4]
 have:j=Y ay.ah:=ae;subst this
 grind [QA]
def at5(h:dS)(s:jN y F w g G)(p:mN y F w g G)(D:Dk c v u)(f:ko w g c v u aG):∃a b d q,TB.Ev 22 (bJ y F w g G++[.r c,.i aG,.r v,.r u,.b cl,.i 0]) (.ret [.r a,.i (if Y g.ah<=Y c.ah then 0 else aG),.r b,.r d,.b (if Y g.ah<=Y c.ah then E else cl),.r q,.i (if Y g.ah<=Y c.ah then 1 else 0)])/\(Y c.ah<Y g.ah->a=ap (c.ah++[[.mk (.int I 0) []]])/\b=ap v.ah/\d=ap u.ah/\q=ap []):=by
 have V:=abD (cl:=cl) h s p D.sc D.sk D.so D.kk f;have m5:=p.qe.bars;have m2:=p.qe.rl;have lO:=p.B3.len;have lc:=f.calls;have lk:=f.Ay;have lo:=f.D9;simp only[wk,bJ,cJ,da] at V;by_cases Q:Y g.ah<=Y c.ah;refine⟨ap [],ap [],ap [],ap [], ?_,λq=>ae⟩;refine ki ?_;simp[UD,bJ,wk,aY V,D.sc.len,s.sr.len,Q]
 ·refine⟨ap (c.ah++[[.mk (.int I 0) []]]),ap v.ah,ap u.ah,ap [], ?_,λ_=>⟨rfl,rfl,rfl,rfl⟩⟩;simp only[aS Q];obtain⟨P,W⟩:∃P:aX->Prop,∀o,P o<->o=.ret [.r (ap (c.ah++[[.mk (.int I 0) []]])),.i aG,.r (ap v.ah),.r (ap u.ah),.b cl,.r (ap []),.i 0]:=⟨_,λ_=>Iff.rfl⟩
  suffices M:∃o,TB.Ev 22 (bJ y F w g G++[.r c,.i aG,.r v,.r u,.b cl,.i 0]) o/\P o by
   obtain⟨o,N,H⟩:=M;rw[(W o).1 H] at N;exact N
  have B:∀A X O,A=c.ah++[[RV.mk (.int I 0) []]]->X=v.ah->O=u.ah->P (.ret [.r (ap A),.i aG,.r (ap X),.r (ap O),.b cl,.r (ap []),.i 0]):=λA X O z x n=>(W _).2 (by rw[z,x,n])
  have m:KG P:=λa b j e=>by
   rw[(W a).1 j,(W b).1 e];exact⟨rfl,Hz _⟩
  have nl:∀{l:av},Y l<=0->l=[]:=λh=>Em.1 ae
  refine eJ ?_;simp[UD,bJ,wk,aY V,D.sc.len,D.sk.len,D.so.len,s.sr.len,Q,Gj,m];have b1:(Y c.ah:Int)<=536870912:=ae;have b2:(Y v.ah:Int)<=536870912:=ae;have b3:(Y u.ah:Int)<=536870912:=ae
  repeat'(first|exact b1|exact b2|exact b3|apply And.intro|intro _)
  all_goals(refine B _ _ _ ?_ ?_ ?_<;>first|rfl|exact Eq.symm md|(rw[show c.ah=[] from md];rfl))
def aDy(D:Dk c v u)(X:Y c.ah<=1000):Dk (ap (c.ah++[[.mk (.int I 0) []]])) (ap v.ah) (ap u.ah):=⟨lZ bY,lZ D.sk.sm,lZ D.so.sm,D.kk,D.k1,D.o1⟩
def aDz(D:Dk c v u)(f:ko w g c v u aG)(F:Y c.ah<Y g.ah):ko w g (ap (c.ah++[[.mk (.int I 0) []]])) (ap v.ah) (ap u.ah) aG:=by
 have V:∀i<Y c.ah,aN (c.ah++[[RV.mk (.int I 0) []]]) (i:Int) 0=aN c.ah (i:Int) 0:=λi X=>by
  grind [aN]
 refine⟨bY,f.cast,f.Ay,f.D9,λi X=> ?_,λi X=> ?_⟩;simp at X;by_cases e:i<Y c.ah;have:=f.call i e
 grind [ci,nq]
 have:i=Y c.ah:=ae;subst this;have:ci (ap (c.ah++[[RV.mk (.int I 0) []]])) (Y c.ah) 0=0:=by
  simp[ci,aN,bn]
 omega;obtain⟨Q,P,N,M,H,G⟩:=f.Gs i X;refine⟨Q,P,N,M,H,λh=> ?_⟩;obtain⟨W,B,A⟩:=G h;refine⟨W, ?_, ?_⟩;show _<(((c.ah++[[RV.mk (.int I 0) []]]).length:Nat):Int);have:ci (ap u.ah) i 0=ci u i 0:=rfl
 grind
 have e:=V (be .sub I (ci u i 0) 1).toNat ae;rw[aI3 W] at e;show bn (aN (c.ah++[[RV.mk (.int I 0) []]]) (be .sub I (ci u i 0) 1) 0).val≠0
 grind
end
section
variable{R:aX->Prop}{G:aL}{t:T}{O:aj}{L:ck}{a b:RV}
end
section
variable{R:aX->Prop}{G:aL}{t:T}{O:aj}{L:ck}
variable[Inhabited cm]
variable{c e d g m a o u:RV}{aG k:Int}{v:Bool}
def sI(X:Nat->Bool)(n:Nat):List Nat:=(di n).filter X
def yP(X:Nat->Bool)(n:Nat):av:=(sI X n).map λi:Nat=>[RV.mk (.int I (i:Int)) []]
def at6{n:Nat}:yP V (n+1)=if V n then yP V n++[[RV.mk (.int I (n:Int)) []]] else yP V n:=by
 simp only[yP,sI,ak5,List.filter_append,GH];cases h:V n<;>simp[List.filter_cons,h]
def aj1{mf:Nat->Bool}{n:Nat}:(sI mf n).length<=n:=by
 have:=aIW mf (di n);simpa[sI] using this
def at7(h:dS)(s:jN c e d g m)(p:mN c e d g m)(D:Dk a o u)(f:ko d g a o u aG)(M:nY g a k=0)
  (P:TB.Ev 48 (bJ c e d g m++[.r a,.i aG,.r o,.r u,.b v,.i k]) (.ret [.r (ap (bR V (Y ay.ah)))])):TB.Ev 28 (bJ c e d g m++[.r a,.i aG,.r o,.r u,.b v,.i k]) (.ret [.r (ap (yP V (Y ay.ah))),.i 0]):=by
 have W:=ajW (cl:=v) (k:=k) h s p D f;have G:=p.qe.rl;have N:Y ay.ah<=140737488355328:=ae;refine ki ?_;simp only[wk,bJ,cJ,da] at W P;rw[M] at W;simp[aaY,bJ,wk,aY W,aY P];refine bQ (Y ay.ah) (λi H=>H=[.r (ap (yP V i))]) ⟨0,rfl,ae,rfl⟩ ?_;rintro i _ F rfl;simp[L6];refine aV (λX=> ?_) (λB=> ?_);rw[ajX X];refine⟨X,aV (λQ=>⟨?_, ?_⟩) (λQ=> ?_)⟩;have:=aj1 (mf:=V) (n:=i);simp only[yP,oW];omega;rw[bC X N,at6,aH Q];rw[bC X N,at6,aS Q];have:i=Y ay.ah:=ae;subst this;rfl
def at8:∀{l:av},(∀X∈l,1<=(iU X).ah.length)->1<=Az l
 |[],_=>cd 1|X::V,h=>Mr (h X aw) (at8 λr W=>h r (by simp[W]))
def at9:∀{l:av},(∀X∈l,(iU X).ah.length<=2)->Az l<=2^Y l
 |[],_=>cd 1
 |X::W,h=>by
  have:=Mr (h X aw) (at9 (l:=W) λr V=>h r (by simp[V]));simp only[Az,oV,awm];omega
def aua{mf:Nat->Bool}{n q:Nat}:q∈sI mf n<->q<n/\mf q=true:=by simp[sI]
def aDA{n j:Nat}(X:j<(sI V n).length):bn (aN (yP V n) (j:Int) 0).val=((sI V n)[j]:Int):=by
 simp[aN,yP,dM,dG X,bn]
end
section
def aDB{a:RV}(X:Sl a)(n:Int):∃o,TB.Ev 42 [.r a,.i n] o/\∃b,o=.ret [.b b]/\(b=J->∀j<Y a.ah,0<=ci a j 0/\ci a j 0<n):=by
 refine eJ ?_;simp[ai6];refine bQ (Y a.ah) (λi R=>∃m,R=[.r (ap m)]/\∀j<i,0<=ci a j 0/\ci a j 0<n) ⟨0,rfl,ae,[],rfl,λj h=>ae⟩ ?_;rintro i _ O ⟨m,rfl,W⟩;simp[X.len];refine aV (λV=>⟨V, ?_⟩) (λN=>λj M=>W j ae);intro Q P _;rw[bC V X.sm];exact⟨⟨_,rfl⟩,L4 W ⟨Q,P⟩⟩
def aDC[Inhabited cm](h:dS){bz ao:Int}{r:RV}(W:Sl r){e:Int}(g:TB.Ev 45 (wk++[.i bz,.i ao,.r r]) (.ret [.i e]))(V:e=0):Y r.ah<=Y dh.ah:=by
 have R:(dU bz ao).length<=Y dh.ah:=by
  unfold dU;split;rw[pN];exact UJ _;simp
 by_cases Q:(dU bz ao).length=Y r.ah;omega;have X:=Ja oU h bz ao;have:TB.Ev 45 (wk++[.i bz,.i ao,.r r]) (.ret [.i (if l9 bz ao=0 then 270 else l9 bz ao)]):=by
  refine ki ?_;simp only[wk,cJ,da] at X;simp[UB,wk,aY X,W.len]
  grind
 have:=N9 g this
 grind
variable[Inhabited cm]
variable{p l d c t:RV}
def aDD(h:dS)(s:jN p l d c t):∃o,TB.Ev 26 (bJ p l d c t) o/\∃e,o=.ret [.i e]/\(e=0->jL=0/\Mny p l d c/\CsQ l d/\ajQ c):=by
 have w:=(yM oU h).1;refine Qk rfl rfl (.inr λv=>nofun) ?_;simp only[wk] at w;simp[ai8,bJ,wk,aY w,s.sw.len,s.sb.len,s.sc.len,h.rl.len];refine aV (λN=> ?_) (λN q=>bF q N);intro m1 m2 m3 m4 m5;refine bQ (Y c.ah) (λn X=>X=[]/\∀i<n,(cr 100 c i).ah.length<=8) ⟨0,rfl,ae,rfl,λi Q=>ae⟩ ?_;rintro i _ Q ⟨rfl,hb⟩;simp[s.sr.len];refine aV (λW=> ?_) (λan=> ?_);have e:=(s.Ax i W).len;simp only[cr] at e;simp only[e];refine⟨W,λh8=> ?_⟩;rw[bC W s.sr.sm]
 grind [cr]
 have mn:Mny p l d c:=⟨ae,ae,ae,ae,m5,λq D=>hb q ae⟩;refine bQ (Y l.ah) (λn X=>X=[]) ⟨0,rfl,ae,rfl⟩ ?_;rintro i2 _ a0 rfl;simp[s.sb.len,s.sc.len,s.sr.len];refine aV (λW=> ?_) (λa1=> ?_)
 grind [bC]
 intro c0 lO;refine bQ (Y d.ah) (λn X=>X=[]/\∀i<n,(cr 3 d i).ah.length=Y ay.ah/\∀j<(cr 3 d i).ah.length,0<=ci (cr 3 d i) j 0/\ci (cr 3 d i) j 0<Y l.ah) ⟨0,rfl,ae,rfl,λi Q=>ae⟩ ?_;rintro i3 _ a3 ⟨rfl,u⟩;simp[s.sb.len,s.sc.len,h.rl.len];refine aV (λW=> ?_) (λa4=> ?_);have P:=s.ccs i3 W;have a:=P.len;obtain⟨o,g,b,rfl,a9⟩:=aDB P (Y l.ah);simp only[cr] at g a;simp only[a];refine⟨W,λel=> ?_⟩;simp[aY g]
 grind [bC,cr]
 have CS:CsQ l d:=⟨λq D=>(u q ae).1,λq D=>(u q ae).2⟩;refine bQ (Y c.ah) (λn X=>X=[]/\∀k<n,∀i<(cr 100 c k).ah.length,abC (QA (cr 100 c k) i) (BZ (cr 100 c k) i)) ⟨0,rfl,ae,rfl,λi Q=>ae⟩ ?_;rintro k _ hk ⟨rfl,af⟩;simp[s.sr.len];refine aV (λA=>⟨A, ?_⟩) (λba=> ?_)
 ·have P:=s.Ax k A;have eS:=P.len;have pg:=s.BY k A;obtain⟨B,hB⟩:∃B,cr 100 c k=B:=⟨_,rfl⟩;rw[hB] at P eS pg;have aa:cH (.sl 100) (aN c.ah k 0)=B:=hB;refine bQ (Y p.ah) (λn X=>X=[]) ⟨0,rfl,ae,rfl⟩ ?_;rintro i4 _ bb rfl;simp[s.sw.len];refine aV (λW=> ?_) (λbc=> ?_);have ab:=f25 (ci p i4) k;simp only[LU,ci,cJ,da] at ab;simp[W,aY ab];intro e0;rw[bC W s.sw.sm];obtain⟨o,ac,m,rfl,ml,gk⟩:=x63 h N ae k bY;simp only[wk,cJ,da] at ac;simp[aY ac];refine bQ (Y B.ah) (λn X=>X=[]/\∀i<n,abC (QA B i) (BZ B i)) ⟨0,rfl,ae,rfl,λi Q=>ae⟩ ?_;rintro y _ bf ⟨rfl,ag⟩;simp[aa,eS,h.rl.len];refine aV (λR=> ?_) (λbg=> ?_)
  rotate_left
  grind [bC]
  obtain⟨x,M⟩:∃x,cH (.sl 4) (aN B.ah y 0)=x:=⟨_,rfl⟩;obtain⟨O,L⟩:∃O,cH (.sl 101) (aN B.ah y 1)=O:=⟨_,rfl⟩;obtain⟨p1,p2,H⟩:=pg y R;rw[M] at p1;rw[L] at p2 H;simp only[M,L];have k1:=p1.len;have k2:=p2.len;refine⟨R,λq1 q2=> ?_⟩;have lm:Y x.ah=Y ay.ah:=ae;have lr:Y O.ah=Y ay.ah:=ae;refine bQ (Y ay.ah) (λn X=>X=[]/\∀i<n,(cr 96 O i).ah.length<=Y dh.ah) ⟨0,rfl,ae,rfl,λi Q=>ae⟩ ?_;rintro V _ bk ⟨rfl,h6⟩;simp[aa,M,L,k1,k2,lm,lr];refine aV (λG=> ?_) (λbl=> ?_)
  rotate_left
  rw[bC R P.sm];exact⟨rfl,L4 ag (by
   simp only[QA,BZ,M,L];exact⟨lm,lr,λi Q=>h6 i ae⟩)⟩
  have nn:bn (aN m (V:Int) 0).val=(gP m V:Int):=U0 gk V ae;have le:=L5 gk V;obtain⟨o,f,bs,rfl,-⟩:=t85 oU h V k (cr 96 O V) (H V ae);have f0:=aDC h (H V ae) f;have q3:=(H V ae).len;simp only[wk,cJ,da,cr] at f;simp only[cr] at q3;rw[nn];refine⟨ae,ae,⟨ae,ae⟩, ?_⟩;intro eq;refine aV (λz=> ?_) (λz=> ?_);refine Ed z ⟨G, ?_⟩;simp[aY f]
  grind [bC]
  grind [bC,cr]
 have PG:ajQ c:=⟨lO,λq D=>af q ae⟩;refine bQ (Y dh.ah) (λn X=>∃m,X=[.r (ap m)]) ⟨0,rfl,ae,[],rfl⟩ ?_;rintro j _ hj ⟨m,rfl⟩;simp[h.sg.len];refine aV (λG=>⟨G, ?_⟩) (λbt=> ?_);rw[bC G h.sg.sm]
 grind
 refine bQ (Y t.ah) (λn X=>X=[]) ⟨0,rfl,ae,rfl⟩ ?_;rintro F _ bx rfl;simp[s.so.len];refine aV (λR=>⟨R, ?_⟩) (λb0=>⟨N,mn,CS,PG⟩);intro _;refine aV (λz=> ?_) (λb1=> ?_);rw[bC R s.so.sm];have al:be .sub I (F:Int) 1=((F-1:Nat):Int):=by
  rw[show be .sub I (F:Int) 1=(F:Int)-1 by simp only[be];exact i8 (by have:=s.so.sm;omega) (by have:=s.so.sm;omega)];omega
 rw[al];refine⟨ae, ?_⟩;intro _;rw[bC R s.so.sm]
def aDE(h:dS)(s:jN p l d c t):∃o,TB.Ev 26 (bJ p l d c t) o/\∃e,o=.ret [.i e]/\(e=0->mN p l d c t):=by
 obtain⟨o,g,e,rfl,k⟩:=aDD h s;refine⟨_,g,e,rfl,λX=> ?_⟩;subst X;obtain⟨W,V,R,Q⟩:=k rfl;exact⟨W,V,R,Q,g⟩
variable{w u x:RV}{aG:Int}{cl:Bool}
def aub(h:dS)(s:jN p l d c t)(Q:Sl w)(N:Sl u)(M:Sl x)(ab:∀i<Y u.ah,Sl (cr 108 u i)):∃o,TB.Ev 15 (bJ p l d c t++[.r w,.i aG,.r u,.r x,.b cl]) o/\∃e,o=.ret [.i e]/\(e=0->mN p l d c t/\ko d c w u x aG):=by
 obtain⟨o,g,e,rfl,ac⟩:=aDE h s;refine Qk rfl rfl (.inr λv=>nofun) ?_;simp only[wk,bJ,cJ,da] at g;simp[aaX,bJ,wk,aY g,Q.len,N.len,M.len,s.sr.len,s.sc.len,h.rl.len];refine aV (λD=> ?_) (λD q=>bF q D);have SP:=ac D;intro g1 g2 g3 g4 g5;refine bQ (Y w.ah) (λn R=>R=[]/\∀i<n,0<=ci w i 0/\ci w i 0<=(cr 100 c i).ah.length) ⟨0,rfl,ae,rfl,λi L=>ae⟩ ?_;rintro i _ L ⟨rfl,f⟩;simp[Q.len,s.sr.len];refine aV (λa=> ?_) (λaa=> ?_);have e:=(s.Ax i ae).len;simp only[cr] at e;simp only[e];refine⟨a,λq1=>⟨ae,λq2=> ?_⟩⟩;rw[bC a Q.sm];exact⟨rfl,L4 f ⟨q1,q2⟩⟩;refine bQ (Y u.ah) (λn R=>R=[]/\∀i<n,Kno w u x i) ⟨0,rfl,ae,rfl,λi L=>ae⟩ ?_;rintro j _ hj ⟨rfl,B⟩;simp[N.len,M.len];refine aV (λH=> ?_) (λal=> ?_)
 rotate_left
 exact⟨SP,ae,⟨g2,g3⟩,ae,ae,λr A=>f r ae,λr A=>B r ae⟩;have G:=ab j H;have F:=G.len;obtain⟨V,W⟩:∃V,cr 108 u j=V:=⟨_,rfl⟩;have z:cH (.sl 108) (aN u.ah j 0)=V:=W;rw[W] at G F;simp only[z,F];refine⟨H, ?_⟩;by_cases h1:Y V.ah=1
 ·refine Ed ae ⟨ae, ?_⟩;refine aV (λy=> ?_) (λy=> ?_)
  rotate_left
  omega;refine bQ (Y V.ah) (λn R=>R=[]/\∀q<n,Qz V q=0) ⟨0,rfl,ae,rfl,λi L=>ae⟩ ?_;rintro q _ af ⟨rfl,m⟩;simp[Q.len,M.len,z,F];refine aV (λP=> ?_) (λaa=> ?_);simp[P];intro e;rw[bC P G.sm];exact⟨rfl,L4 m e⟩;refine⟨ae,Ed ae ?_⟩;rw[bC H N.sm];refine⟨rfl,L4 B ⟨by rw[W];omega,by rw[W];omega, ?_,λh2=> ?_,λr A=> ?_,λO=>bF y O⟩⟩;rw[W];exact⟨λh2=>ae,λO=>bF y O⟩
  grind
  grind
 refine QB ae ?_;intro h2;have ag:Y V.ah=2:=ae;refine⟨ae,ae,λO=> ?_⟩;have ne:∃j<13,ci V 0 j≠ci V 1 j:=by
  refine Classical.byContradiction λhn=> ?_
  have X:∀j<13,ci V 0 j=ci V 1 j:=λj hj=>Classical.byContradiction λq=>hn ⟨j,hj,q⟩
  exact O (X 0 ae) (X 1 ae) (X 2 ae) (X 3 ae) (X 4 ae) (X 5 ae) (X 6 ae) (X 7 ae) (X 8 ae) (X 9 ae) (X 10 ae) (X 11 ae) (X 12 ae)
 refine bQ (Y V.ah) (λn R=>R=[]/\∀q<n,Qz V q=0) ⟨0,rfl,ae,rfl,λi L=>ae⟩ ?_;rintro q _ af ⟨rfl,m⟩;simp[Q.len,M.len,z,F];refine aV (λP=> ?_) (λaa=> ?_);simp[P];intro e;rw[bC P G.sm];exact⟨rfl,L4 m e⟩;refine⟨ae,QB ae ?_⟩;intro k b2;refine⟨⟨k,b2⟩,λb3=> ?_⟩;rw[bC H N.sm];refine⟨rfl,L4 B ⟨by rw[W];omega,by rw[W];omega, ?_,λ_=>by rw[W];exact ne,λr A=> ?_,λ_=>⟨k,b2,b3⟩⟩⟩;rw[W];refine⟨λ_ hz=> ?_,λ_=>ag⟩;simp only[ci] at hz;rw[hz,show be .sub I (0:Int) 1=(0:Int)-1 by simp only[be];exact i8 ae ae] at k;omega
 grind
end
section
variable{R:aX->Prop}{G:aL}{t:T}{O:aj}{L:ck}
def aDF{a:RV}(W:Sl a)(x:Int):∃o,TB.Ev 29 [.r a,.i x] o/\∃i b,o=.ret [.i i,.b b]:=by
 refine eJ ?_;simp[ajd];have N:=W.sm;refine As (λX=>∃i j:Nat,X=[.i i,.i j]/\i<=j/\j<=Y a.ah) (λX=>(xi X 1-xi X 0).toNat) ⟨0,Y a.ah,by simp[W.len],ae,ae⟩ ?_;rintro _ ⟨i,j,rfl,V,M⟩;simp[xi,BN,W.len,ajq (show j<=140737488355328 from ae) V];refine aV (λH=> ?_) (λG=> ?_);refine⟨ae, ?_⟩;have Q:((i:Int)+j)/2=(((i+j)/2:Nat):Int):=ae;rw[Q,wX (i:=(i+j)/2) ae];refine aV (λP=> ?_) (λP=> ?_);exact⟨⟨(i+j)/2+1,j,⟨rfl,rfl⟩,ae,ae⟩,ae⟩
 grind
 omega
variable[Inhabited cm]
variable{l u d g v c kn op:RV}{aG k:Int}{cl:Bool}
def aDG(s:jN l u d g v)(W:Sl c):∃o,TB.Ev 16 (bJ l u d g v++[.r c,.i aG,.r kn,.r op,.b cl]) o/\∃n,o=.ret [.i n]:=by
 refine eJ ?_;simp[aa2,bJ,wk];have Q:=s.sr.sm;refine As (λX=>∃(i:Nat)(n:Int),X=[.i i,.i n]) (λX=>(Y g.ah-xi X 0).toNat) ⟨Y c.ah,1,by simp[W.len]⟩ ?_;rintro _ ⟨i,n,rfl⟩;simp[xi,BN,s.sr.len];intro V P;refine⟨V, ?_⟩;rw[wX ae];exact⟨⟨_,rfl⟩,ae⟩
def aDH(W:Sl c)(X:Sl kn)(V:Sl op)(P:∀i<Y kn.ah,Sl (cr 108 kn i)):∃o,TB.Ev 31 [.r c,.i aG,.r kn,.r op,.b cl] o/\∃b,o=.ret [.b b]:=by
 refine eJ ?_;simp[ajc,W.len,X.len,V.len];intro _ _ _;refine bQ (Y kn.ah) (λn Q=>Q=[]) ⟨0,rfl,ae,rfl⟩ ?_;rintro i _ N rfl;simp[X.len]
 grind [cr,bC]
def aDI(h:dS)(s:jN l u d g v)(X:Sl c)(Q:Sl kn)(P:Sl op)(N:∀i<Y kn.ah,Sl (cr 108 kn i)):∃o,TB.Ev 14 (bJ l u d g v++[.r c,.i aG,.r kn,.r op,.b cl]) o/\∃b,o=.ret [.b b]:=by
 obtain⟨o,W,x,rfl⟩:=atO h s;obtain⟨o,M,y,rfl⟩:=aDH (aG:=aG) (cl:=cl) X Q P N;obtain⟨o,V,n,rfl⟩:=aDG (aG:=aG) (cl:=cl) (kn:=kn) (op:=op) s X;refine eJ ?_;simp only[wk,bJ,cJ,da] at W V;simp[aa0,bJ,wk,aY W];cases x;simp;simp[aY M];cases y;simp;simp[aY V];omega
def aDJ(h:dS)(s:jN l u d g v)(D:Dk c kn op):∃o,TB.Ev 47 (bJ l u d g v++[.r c,.i aG,.r kn,.r op,.b cl,.i k]) o/\∃e,o=.ret [.i e]/\(e=0->(mN l u d g v/\ko d g c kn op aG)/\nY g c k=0):=by
 obtain⟨o,X,e,rfl,V⟩:=aub (cl:=cl) (aG:=aG) h s D.sc D.sk D.so D.kk;by_cases W:e=0;obtain⟨p,f⟩:=V W;exact⟨_,ajW h s p D f,_,rfl,λq=>⟨⟨p,f⟩,q⟩⟩;refine eJ ?_;simp only[wk,bJ,cJ,da] at X;simp[aaZ,bJ,wk,aY X,W]
def aDK(h:dS)(s:jN l u d g v)(D:Dk c kn op):∃o,TB.Ev 28 (bJ l u d g v++[.r c,.i aG,.r kn,.r op,.b cl,.i k]) o/\((∃r e,o=.ret [.r r,.i e]/\e≠0)\/((mN l u d g v/\ko d g c kn op aG)/\nY g c k=0)/\∃X,o=.ret [.r (ap (yP X (Y ay.ah))),.i 0]):=by
 obtain⟨o,V,e,rfl,P⟩:=aDJ (k:=k) (cl:=cl) (aG:=aG) h s D;by_cases Q:e=0;obtain⟨⟨p,f⟩,W⟩:=P Q;obtain⟨o,N,X,rfl,-⟩:=aj0 (cl:=cl) h s p D f W;exact⟨_,at7 h s p D f W N,.inr ⟨⟨⟨p,f⟩,W⟩,X,rfl⟩⟩;have:∃o,TB.Ev 28 (bJ l u d g v++[.r c,.i aG,.r kn,.r op,.b cl,.i k]) o/\∃r e,o=.ret [.r r,.i e]/\e≠0:=by
  refine eJ ?_;simp only[wk,bJ,cJ,da] at V;simp[aaY,bJ,wk,aY V,Q]
  grind
 grind
def aDL(h:dS)(s:jN l u d g v)(p:mN l u d g v)(D:Dk c kn op)(f:ko d g c kn op aG)(h0:nY g c k=0)
  (a:TB.Ev 28 (bJ l u d g v++[.r c,.i aG,.r kn,.r op,.b cl,.i k]) (.ret [.r (ap (yP V (Y ay.ah))),.i 0])):
  ∃o,TB.Ev 12 (bJ l u d g v++[.r c,.i aG,.r kn,.r op,.b cl,.i k]) o/\∃n,o=.ret [.i n,.i 0]:=by
 have m2:=p.qe.rl;obtain⟨M,a1,ag⟩:=Jl h0;obtain⟨W,rfl⟩:∃W:Nat,k=W+1:=⟨(k-1).toNat,ae⟩;have a3:((W:Int)+1-1).toNat=W:=ae;have F:W<(cr 100 g (Y c.ah)).ah.length:=ae;have H:=s.Ax (Y c.ah) M;have eS:=H.len;have pg:=s.BY (Y c.ah) M W F;have pp:=p.B3.BY (Y c.ah) M W F;obtain⟨B,hB⟩:∃B,cr 100 g (Y c.ah)=B:=⟨_,rfl⟩;rw[hB] at H eS pg pp F ag;have A:cH (.sl 100) (aN g.ah (Y c.ah:Int) 0)=B:=hB;obtain⟨G,eR⟩:∃x,BZ B W=x:=⟨_,rfl⟩;have z:cH (.sl 101) (aN B.ah (W:Int) 1)=G:=eR;obtain⟨-,q2,q3⟩:=pg;have y:=pp.lr;rw[eR] at y;simp only[z] at q2 q3;have kR:=q2.len;have w:be .sub I ((W:Int)+1) 1=(W:Int):=by
  simp only[be];rw[i8 (by have:=H.sm;omega) (by have:=H.sm;omega)];omega
 refine eJ ?_;simp only[wk,bJ,cJ,da] at a;simp[aa1,bJ,wk,aY a];refine bQ (Y dh.ah) (λn N=>∃m,N=[.r (ap m)]) ⟨0,rfl,ae,[],rfl⟩ ?_;rintro i _ hi ⟨m,rfl⟩;simp[h.sg.len];refine aV (λQ=>⟨Q, ?_⟩) (λa4=> ?_)
 ·obtain⟨o,aa,a9,b,rfl⟩:=aDF s.so (ci dh i 0);simp only[ci] at aa;simp[aY aa];refine aV (λ_=> ?_) (λ_=> ?_)
  all_goals
   rw[bC Q h.sg.sm]
   grind
 simp[D.sc.len,s.sr.len,A,eS,w];refine⟨M,ae, ?_⟩;have al:(yP V (Y ay.ah)).length=(sI V (Y ay.ah)).length:=by simp[yP]
 have ba:=aj1 (mf:=V) (n:=Y ay.ah);refine bQ (sI V (Y ay.ah)).length (λj N=>∃n,N=[.i n]) ⟨0,rfl,ae,_,rfl⟩ ?_;rintro j _ hj ⟨n,rfl⟩;simp[al,D.sc.len,A,z,kR,w,y];intro Q;refine⟨Q, ?_⟩;have hr:=aDA Q;have ab:=(aua (mf:=V) (n:=Y ay.ah)).1 (ul Q);have an:(sI V (Y ay.ah)).getD j 0=(sI V (Y ay.ah))[j]:=by simp[dG Q]
 rw[hr];obtain⟨P,ac⟩:∃P,(sI V (Y ay.ah))[j]=P:=⟨_,rfl⟩;rw[ac] at ab an⊢;have e:Sl (cr 96 G P):=q3 P (by rw[y];exact ab.1);have e9:=e.len;obtain⟨X,hX⟩:∃X,cr 96 G P=X:=⟨_,rfl⟩;have a0:cH (.sl 96) (aN G.ah (P:Int) 0)=X:=hX;rw[hX] at e e9;refine⟨⟨ae,ae⟩, ?_⟩;refine bQ (Y X.ah) (λq N=>∃n,N=[.i n]) ⟨0,rfl,ae,_,rfl⟩ ?_;rintro q _ hq ⟨n,rfl⟩;simp[D.sc.len,A,z,w,hr,ac,a0,e9];refine aV (λaf=>⟨af, ?_⟩) (λbb=> ?_)
 rotate_left
 grind [bC]
 refine aV (λ_=>aV (λ_=> ?_) (λ_=> ?_)) (λ_=> ?_)
 all_goals
  rw[bC af e.sm];simp
def aDM(h:dS){r:RV}{e:Int}(W:e≠0)(X:TB.Ev 28 (bJ l u d g v++[.r c,.i aG,.r kn,.r op,.b cl,.i k]) (.ret [.r r,.i e])):TB.Ev 12 (bJ l u d g v++[.r c,.i aG,.r kn,.r op,.b cl,.i k]) (.ret [.i 0,.i e]):=by
 refine ki ?_;simp only[wk,bJ,cJ,da] at X;simp[aa1,bJ,wk,aY X,W]
end
section
variable{R:aX->Prop}{G:aL}{t:T}{O:aj}{L:ck}
variable[Inhabited cm]
variable{d w u l m ca kn op:RV}{aG k:Int}{cl:Bool}
def QE{e:TypeId}{v:RV}(h:Sl v):cH (.sl e) v=v:=by
 obtain⟨a,n,c,X⟩:=h.sl;simp only[cH,X]
def aDN{ao:Int}{Q X P:RV}{W:av->aE}{N:av->Int}(M:QD d Q X P ao W N)(y:∀c:av,Y c<=64->UZ ao Q X (ap c) P (.ret ([.i (bn ((W c).getD 0 default).val)]++((W c).drop 1).map XV.r++[.i (N c)]))){c:av}(A:Y c<=64)(x:N c=0):∃H G D,W c=[.mk (.int I ao) [],ap X.ah,ap c,ap H,ap G,ap D]/\Md ao Q X (ap c) P H G D:=by
 obtain⟨b,v,F,S,V,B,w,-⟩:=M.ans c A;have z:=y c A;rw[w,x] at z;rcases z with⟨e,u,-,q⟩|⟨H,G,D,q,s⟩
 grind
 simp[bn] at q
 grind
def aDO(h:dS)(s:jN d w u l m)(p:mN d w u l m)(D:Dk ca kn op)(f:ko u l ca kn op aG)(fG:Y dh.ah<=40):∃o,TB.Ev 37 (bJ d w u l m++[.r ca,.i aG,.r kn,.r op,.b cl,.i k]) o/\((∃e,e≠0/\o=.ret [.r (ap []),.i e])\/(nY l ca k=0/\∃(Q:Nat->Bool)(H:av)(A:List av)(z:av->aE),TB.Ev 55 (bJ d w u l m++[.i aG]) (.ret [.r (ap H)])/\A≠[]/\Y A<=4096/\o=.ret [.r (ap (A.map z)),.i 0]/\∀c∈A,∃F S V B,z c=[.mk (.int I (Y ca.ah)) [],ap (bR Q (Y ay.ah)),F,S,V,B]/\Gn ay d (ap H) (ap (bR Q (Y ay.ah))) F S V B)):=by
 obtain⟨c,hc⟩:=akR f.cast.1;have bq:=f.cast.2;subst hc;obtain⟨o,x,H,rfl,jc⟩:=aDq (co:=m) h s p (c:=c) ae;by_cases P:nY l ca k=0
 rotate_left
 obtain⟨o,g,v⟩:=at3 (k:=k) (cl:=cl) (mf:=λ_=>E) (act:=λ_=>[]) (fe:=λ_=>0) h s p D f jc (λq=>bF q P) x (λq=>bF q P);exact⟨o,g,v.imp id λq=>bF q.1 P⟩;obtain⟨j,a3,a4⟩:=Jl P;obtain⟨o,ag,Q,rfl,a9⟩:=aj0 (cl:=cl) h s p D f P;have a:(k-1).toNat<(cr 100 l (Y ca.ah)).ah.length:=ae;have pg:=s.BY (Y ca.ah) j _ a;have pp:=p.B3.BY (Y ca.ah) j _ a;have m2:=p.qe.rl;have al:=pp.few;have lr:=pp.lr;have lk:=f.Ay;obtain⟨N,y⟩:∃N,N=ap (vq Q (BZ (cr 100 l (Y ca.ah)) (k-1).toNat) (Y ay.ah) (Y ay.ah)):=⟨_,rfl⟩;have aa:∀i<Y N.ah,Sl (cr 96 N i)/\(cr 96 N i).ah.length<=100:=λi X=>by
  rw[y,nq,ajY] at X;have ab:Sl (cr 96 (BZ (cr 100 l (Y ca.ah)) (k-1).toNat) i):=pg.2.2 i (by rw[<-BZ,lr];exact X);rw[y,aDu X ab];split;exact⟨ab,by have:=al i X;omega⟩;exact⟨lZ aw,aw⟩
 obtain⟨z,fe,M,an⟩:=aDx (wg:=d) h (Y ca.ah) (bc:=ap H) (mv:=ap (bR Q (Y ay.ah))) (re:=N) (lZ ae) (lZ (by rw[L6];omega)) (by rw[y];exact lZ (by rw[ajY];omega)) aa;obtain⟨o,g,v⟩:=at3 (k:=k) (cl:=cl) h s p D f jc (λ_=>ag) x (λ_=>y▸M);refine⟨o,g,v.imp id ?_⟩;rintro⟨-,a0,rfl⟩;have ac:∀W∈kn.ah,1<=(iU W).ah.length/\(iU W).ah.length<=2:=λW a1=>by
  obtain⟨i,X,rfl⟩:=avY a1;have:=f.Gs i X;have e:iU kn.ah[i]=cr 108 kn i:=by rw[<-ajZ];simp[dM,dG X]
  rw[e];exact⟨this.one,this.two⟩
 refine⟨P,Q,H,kE kn.ah,z,x, ?_, ?_,rfl,λc af=> ?_⟩;have h1:=abG kn.ah;have h2:=at8 λW n=>(ac W n).1
 intro e;rw[e] at h1;simp only[Cg] at h1;omega;rw[abG];have h2:=at9 λW n=>(ac W n).2
 have h3:2^Y kn.ah<=2^12:=Nat.pow_le_pow_right ae ae;omega;have bq:=aDw c af;obtain⟨vs,vr,vb,e,G⟩:=aDN M an ae (a0 c af);have l1:=G.ls;have l2:=G.lr;have l3:=G.lb;refine⟨_,_,_,_,e,⟨s.sw,lZ ae,lZ (by rw[L6];omega),lZ ae,lZ ae,lZ ae,lZ ae,λi X=> ?_⟩⟩;have X:i<Y ay.ah:=by simpa[l2] using X
 have:=aa i (by rw[G.BV];exact X);rw[G.cr X];exact⟨lZ this.1.sm,this.2⟩
def aDP{Q:av}{W:List av}{N:av->aE}{ao:Int}{X:RV}(h:dS)(M:TB.Ev 55 (bJ d w u l m++[.i aG]) (.ret [.r (ap Q)]))(s:Y W<=4096)(z:∀c∈W,∃F S V B,N c=[.mk (.int I ao) [],X,F,S,V,B]/\Gn ay d (ap Q) X F S V B):
  ∃o,TB.Ev 38 (bJ d w u l m++[.r ca,.i aG,.r kn,.r op,.b cl,.r (ap (W.map N))]) o/\∃A,o=.ret [.b A]/\(A=J->∀c∈W,∃F S V B,N c=[.mk (.int I ao) [],X,F,S,V,B]/\Gn ay d (ap Q) X F S V B/\Jg ao d (ap Q) X F S V B):=by
 simp only[wk,bJ,cJ,da] at M;refine eJ ?_;simp[aja,bJ,wk];refine bQ (Y W) (λi y=>y=[]/\∀(j:Nat)(H:j<Y W),j<i->∃F S V B,N W[j]=[.mk (.int I ao) [],X,F,S,V,B]/\Gn ay d (ap Q) X F S V B/\Jg ao d (ap Q) X F S V B) ⟨0,rfl,ae,rfl,λj _ H=>ae⟩ ?_;rintro i _ q ⟨rfl,p⟩;simp;refine aV (λG=> ?_) (λn=> ?_)
 rotate_left
 intro c x;obtain⟨j,H,rfl⟩:=avY x
 grind
 obtain⟨F,S,V,B,e,P⟩:=z W[i] (ul G);have v:∀j:Nat,aN (W.map N) (i:Int) j=[.mk (.int I ao) [],X,F,S,V,B].getD j default:=λj=>by
  grind [aN]
 obtain⟨o,D,b,g,rfl,f,a⟩:=t18 h ao d (ap Q) X F S V B P;simp only[wk,cJ,da] at D;simp[G,aY M,v,QE P.mv,QE P.bf,QE P.af,QE P.Qt,QE P.bx,bn,aY D]
 grind [bC]
end
section
variable{R:aX->Prop}{X:aL}{t:T}{O:aj}{L:ck}
open Classical in
noncomputable def vu(P:Nat->Prop)(w:Nat->aE)(M:av)(i:Nat):av:=(di (Y M)).map λq=>if q<i/\P q then w q else M.getD q []
variable{P:Nat->Prop}{w:Nat->aE}{M:av}{i:Nat}
def Eg:(vu P w M i).length=Y M:=by simp[vu]
def auc:vu P w M 0=M:=by
 refine List.ext_getElem Eg λq W X=> ?_
 simp[vu,X]
def abH(h:¬P i):vu P w M (i+1)=vu P w M i:=by
 unfold vu
 grind
def aud{x:RV}(W:i<Y M)(h:P i)(V:∀X∈M,Y X=1)(Q:w i=[x]):(vu P w M i).modify i (λX=>ge X 0 [x])=vu P w M (i+1):=by
 refine atU (Y M) i _ _ _ λq N=> ?_
 by_cases e:q=i;subst e;have:=V _ (ul W);rw[aH rfl,aH ⟨ae,h⟩,aS ae,Q];simp only[dM,dG W,yX];generalize M[q]=X at this
 match X,this with|[c],_=>rfl
 grind
open Classical in
def aue{q:Nat}(X:q<Y M):aN (vu P w M i) (q:Int) 0=if q<i/\P q then(w q).getD 0 default else aN M (q:Int) 0:=by
 simp only[aN,vu,rM,dM,et,Ep X,ga,yX]
 grind
def auf(V:∀X∈M,Y X=1)(Q:∀q,(w q).length=1):∀X∈vu P w M i,Y X=1:=λX W=>by
 simp only[vu,fw,sL] at W
 grind
variable[Inhabited cm]
def ua(X:Nat->Bool)(ao k:Int)(i:Nat):av:=(sI X i).map λq:Nat=>[.mk (.int I ao) [],.mk (.int I (q:Int)) [],.mk (.int I ao) [],.mk (.int I k) []]
def aj2{ao k:Int}{n:Nat}:ua V ao k (n+1)=if V n then ua V ao k n++[[.mk (.int I ao) [],.mk (.int I (n:Int)) [],.mk (.int I ao) [],.mk (.int I k) []]] else ua V ao k n:=by
 grind [ua,sI,ak5]
def aug{mf:Nat->Bool}{ao k:Int}{n:Nat}:(ua mf ao k n).length<=n:=by
 rw[ua,oW];exact aj1
def aDQ{ao k:Int}{n j:Nat}(X:j<(ua V ao k n).length):∃r<n,ci (ap (ua V ao k n)) j 1=(r:Int)/\ci (ap (ua V ao k n)) j 2=ao/\ci (ap (ua V ao k n)) j 3=k:=by
 have W:j<(sI V n).length:=by rw[ua,oW] at X;exact X
 refine⟨(sI V n)[j],(aua.1 (ul W)).1, ?_⟩;simp[ci,aN,ua,W,bn]
variable{N Q H G W u d y:RV}{aG k:Int}{cl:Bool}
def Df(d S:RV)(q:Nat):Prop:=∃j<13,ci (cr 108 d q) 0 j≠ci S q j
def Jm(X:Nat->Bool)(d S:RV)(q:Nat):Prop:=X q=J/\Df d S q
def knW(d S:RV)(q:Nat):aE:=[ap [ma (cr 108 d q) 0,ma S q]]
noncomputable def pG(X:Nat->Bool)(d S:RV)(i:Nat):av:=vu (Jm X d S) (knW d S) d.ah i
noncomputable def qf(X:Nat->Bool)(d y S:RV)(v:Int)(i:Nat):av:=vu (Jm X d S) (λ_=>[.mk (.int I v) []]) y.ah i
def aDR(f g:Nat->Int):(∃j<13,f j≠g j)<->(¬f 0=g 0\/¬f 1=g 1\/¬f 2=g 2\/¬f 3=g 3\/¬f 4=g 4\/¬f 5=g 5\/¬f 6=g 6\/¬f 7=g 7\/¬f 8=g 8\/¬f 9=g 9\/¬f 10=g 10\/¬f 11=g 11\/¬f 12=g 12):=by
 constructor
 ·rintro⟨j,X,h⟩;have:j=0\/j=1\/j=2\/j=3\/j=4\/j=5\/j=6\/j=7\/j=8\/j=9\/j=10\/j=11\/j=12:=ae;rcases this with rfl|rfl|rfl|rfl|rfl|rfl|rfl|rfl|rfl|rfl|rfl|rfl|rfl
  all_goals simp[h]
 grind
def aDS{S:RV}{i:Nat}:(pG V d S i).length=Y d.ah:=Eg
def aDT{S:RV}{v:Int}{i:Nat}:(qf V d y S v i).length=Y y.ah:=Eg
def aDU{mf:Nat->Bool}{S:RV}{m:Nat}(D:Dk u d y)(f:ko H G u d y aG)(p:nY G u k=0)(hl:Y u.ah<=1000)(cS:∀i<Y ay.ah,Je S i=0):Dk (ap (u.ah++[[.mk (.int I k) []]])) (ap (pG mf d S m)) (ap (qf mf d y S (1+Y u.ah) m))/\ko H G (ap (u.ah++[[.mk (.int I k) []]])) (ap (pG mf d S m)) (ap (qf mf d y S (1+Y u.ah) m)) aG:=by
 obtain⟨aa,ab,ac⟩:=Jl p;have o:=f.Ay;have n:=f.D9;have B:∀q<Y d.ah,(Jm mf d S q/\q<m/\cr 108 (ap (pG mf d S m)) q=ap [ma (cr 108 d q) 0,ma S q]/\ci (ap (qf mf d y S (1+Y u.ah) m)) q 0=1+Y u.ah)\/(cr 108 (ap (pG mf d S m)) q=cr 108 d q/\ci (ap (qf mf d y S (1+Y u.ah) m)) q 0=ci y q 0):=λq Q=>by
  have X:cr 108 (ap (pG mf d S m)) q=cH (.sl 108) _:=jY (cH (.sl 108)) (aue (P:=Jm mf d S) (w:=knW d S) (i:=m) Q);have V:ci (ap (qf mf d y S (1+Y u.ah) m)) q 0=bn (RV.val _):=jY (λx=>bn (RV.val x)) (aue (P:=Jm mf d S) (w:=λ_=>[.mk (.int I (1+Y u.ah)) []]) (M:=y.ah) (i:=m) ae);by_cases c:q<m/\Jm mf d S q;rw[aH c] at X V;exact .inl ⟨c.2,c.1,X,V⟩;rw[aS c] at X V;exact .inr ⟨X,V⟩
 have A:∀i<Y u.ah,aN (u.ah++[[RV.mk (.int I k) []]]) (i:Int) 0=aN u.ah (i:Int) 0:=λi W=>by
  simp[aN,dM,f8 W]
 have z:aN (u.ah++[[RV.mk (.int I k) []]]) (Y u.ah:Int) 0=.mk (.int I k) []:=by
  simp[aN,dM]
 refine⟨⟨lZ bY,lZ (by rw[pG,Eg];exact D.sk.sm),lZ (by rw[qf,Eg];exact D.so.sm),λi W=> ?_,auf D.k1 λ_=>rfl,auf D.o1 λ_=>rfl⟩,bY,f.cast,by rw[nq,pG,Eg];exact o,by rw[nq,qf,Eg];exact n,λi W=> ?_,λi W=> ?_⟩;rw[nq,pG,Eg] at W;rcases B i W with⟨-,-,e,-⟩|⟨e,-⟩;rw[e];exact lZ aw;rw[e];exact D.kk i W;simp only[nq,f9,ace] at W;by_cases e:i<Y u.ah;have:=f.call i e;simp only[ci,nq,A i e] at this⊢;exact this;have:i=Y u.ah:=ae;subst this;have e:ci (ap (u.ah++[[.mk (.int I k) []]])) (Y u.ah) 0=k:=by simp only[ci,nq,z];rfl
 rw[e];omega;rw[nq,pG,Eg] at W;obtain⟨l,h,g,b,v,a⟩:=f.Gs i W;rcases B i W with⟨⟨-,c⟩,-,X,V⟩|⟨X,V⟩;have s:∀j<13,ci (ap [ma (cr 108 d i) 0,ma S i]) 0 j=ci (cr 108 d i) 0 j/\ci (ap [ma (cr 108 d i) 0,ma S i]) 1 j=ci S i j:=atB ⟨rfl,rfl⟩ ⟨rfl,rfl⟩ ⟨rfl,rfl⟩ ⟨rfl,rfl⟩ ⟨rfl,rfl⟩ ⟨rfl,rfl⟩ ⟨rfl,rfl⟩ ⟨rfl,rfl⟩ ⟨rfl,rfl⟩ ⟨rfl,rfl⟩ ⟨rfl,rfl⟩ ⟨rfl,rfl⟩ ⟨rfl,rfl⟩;have sb:be .sub I (1+(Y u.ah:Int)) 1=Y u.ah:=by
  simp only[be];rw[i8 ae ae];omega
 refine⟨?_, ?_, ?_,λ_=> ?_,λq Q=> ?_,λ_=> ?_⟩;rw[X];simp;rw[X];simp;rw[X,V];simp;omega;obtain⟨j,N,F⟩:=c;rw[X];exact⟨j,N,by rw[(s j N).1,(s j N).2];exact F⟩;rw[X] at Q⊢;have Q:q<2:=by simpa using Q
 have:q=0\/q=1:=ae;rcases this with rfl|rfl;exact v 0 ae;exact cS i ae;rw[V,sb];refine⟨ae,bY, ?_⟩;rw[nq,z];show k≠0;omega;refine⟨by rw[X];exact l,by rw[X];exact h,by rw[X,V];exact g,by rw[X];exact b,by rw[X];exact v, ?_⟩;rw[V];intro F;obtain⟨r,g2,g3⟩:=a F;refine⟨r,bY, ?_⟩;have e:=A (be .sub I (ci y i 0) 1).toNat ae;rw[aI3 r] at e;rw[nq,e];exact g3
def aDV(h:dS)(s:jN N Q H G W)(p:mN N Q H G W)(D:Dk u d y)(f:ko H G u d y aG){mf:Nat->Bool}{l rest:av}{F S V B:RV}(g:l=[.mk (.int I (Y u.ah)) [],ap (bR mf (Y ay.ah)),F,S,V,B]::rest)(ll:Y l<=4096)(h0:nY G u k=0)(ab:TB.Ev 37 (bJ N Q H G W++[.r u,.i aG,.r d,.r y,.b E,.i k]) (.ret [.r (ap l),.i 0]))(ac:TB.Ev 38 (bJ N Q H G W++[.r u,.i aG,.r d,.r y,.b E,.r (ap l)]) (.ret [.b J]))(sS:Sl S)(lS:Y S.ah=Y ay.ah):
  TB.Ev 22 (bJ N Q H G W++[.r u,.i aG,.r d,.r y,.b E,.i k]) (.ret [.r (ap (u.ah++[[.mk (.int I k) []]])),.i aG,.r (ap (pG mf d S (Y ay.ah))),.r (ap (qf mf d y S (1+Y u.ah) (Y ay.ah))),.b E,.r (ap (ua mf (Y u.ah) k (Y ay.ah))),.i 0]):=by
 obtain⟨P,v⟩:∃P:aX->Prop,∀o,P o<->o=.ret [.r (ap (u.ah++[[.mk (.int I k) []]])),.i aG,.r (ap (pG mf d S (Y ay.ah))),.r (ap (qf mf d y S (1+Y u.ah) (Y ay.ah))),.b E,.r (ap (ua mf (Y u.ah) k (Y ay.ah))),.i 0]:=⟨_,λ_=>Iff.rfl⟩
 suffices al:∃o,TB.Ev 22 (bJ N Q H G W++[.r u,.i aG,.r d,.r y,.b E,.i k]) o/\P o by
  obtain⟨o,m,c⟩:=al;rw[(v o).1 c] at m;exact m
 have an:∀A,A=u.ah++[[RV.mk (.int I k) []]]->P (.ret [.r (ap A),.i aG,.r (ap (pG mf d S (Y ay.ah))),.r (ap (qf mf d y S (1+Y u.ah) (Y ay.ah))),.b E,.r (ap (ua mf (Y u.ah) k (Y ay.ah))),.i 0]):=λA e=>(v _).2 (by rw[e])
 have a0:KG P:=λa b ha a1=>by
  rw[(v a).1 ha,(v b).1 a1];exact⟨rfl,Hz _⟩
 obtain⟨a9,ba,bb⟩:=Jl h0;have a3:k≠0:=ae;have m5:=p.qe.bars;have m2:=p.qe.rl;have lO:=p.B3.len;have lc:=f.calls;have lk:=f.Ay;have lo:=f.D9;have b1:(Y u.ah:Int)<=536870912:=ae;have b2:(Y d.ah:Int)<=536870912:=ae;have b3:(Y y.ah:Int)<=536870912:=ae;have a4:l≠[]:=by rw[g];simp
 have aa:Y ay.ah<=140737488355328:=ae;have c1:cH (.sl 4) (aN l 0 1)=ap (bR mf (Y ay.ah)):=by rw[g];rfl
 have c3:cH (.sl 108) (aN l 0 3)=S:=by rw[g];exact QE sS
 have wX:be .add I 1 (Y u.ah:Int)=1+Y u.ah:=by simp only[be];exact i8 ae ae
 refine eJ ?_;simp only[wk,bJ,cJ,da] at ab ac;simp[UD,bJ,wk,a3,aY ab,aY ac,D.sc.len,D.sk.len,D.so.len,Gj,a0];have af:0<Y l:=avX.2 a4
 repeat'(first|exact b1|exact b2|exact b3|exact af|apply And.intro|intro _)
 all_goals refine bQ (Y ay.ah) (λi rest=>rest=[.r (ap (ua mf (Y u.ah) k i)),.r (ap (pG mf d S i)),.r (ap (qf mf d y S (1+Y u.ah) i))]) ⟨0,rfl,ae, ?_⟩ ?_
 all_goals try(show[XV.r _,XV.r _,XV.r _]=_;rw[pG,qf,auc,auc];(first|rfl|(rw[show d.ah=[] from md];rfl)|(rw[show y.ah=[] from md];rfl)|(rw[show d.ah=[] from md,show y.ah=[] from md];rfl)))
 all_goals
  rintro i _ hi rfl;simp[af,c1,c3,L6,aDS,aDT,D.sc.len,D.sk.len,wX]
 all_goals
  refine aV (λz=>⟨z, ?_⟩) (λbc=> ?_)
  rotate_left
  have e:i=Y ay.ah:=ae;rw[e];exact an _ (by first|rfl|(rw[show u.ah=[] from md];rfl));rw[ajX z];refine aV (λX=> ?_) (λX=> ?_)
  rotate_left
  rw[bC z aa,aj2,aS X,pG,pG,qf,qf,abH (λq=>X q.1),abH (λq=>X q.1)];have e:=(D.kk i ae).len;have e1:=(f.Gs i ae).one;have e2:=aug (mf:=mf) (ao:=Y u.ah) (k:=k) (n:=i);simp only[cr] at e e1;refine⟨ae,ae,by rw[e];omega,by rw[sS.len];omega, ?_⟩;have ag:=aDR (λj=>ci (cr 108 d i) 0 j) λj=>ci S i j
  refine aV (λhd=>⟨ae,ae, ?_⟩) (λhd=> ?_);have x:Jm mf d S i:=⟨X,ag.2 hd⟩;have m:(pG mf d S i).modify i _=pG mf d S (i+1):=aud ae x D.k1 rfl;have c:(qf mf d y S (1+Y u.ah) i).modify i _=qf mf d y S (1+Y u.ah) (i+1):=aud ae x D.o1 rfl;rw[bC z aa,aj2,aH X,<-m,<-c];rfl;have x:¬Jm mf d S i:=λq=>hd (ag.1 q.2)
  rw[bC z aa,aj2,aH X,pG,pG,qf,qf,abH x,abH x]
def QF(A O X:av):Prop:=Y X<=4096/\∀j<Y X,U5 (ap A) (ap O) (ci (ap X) j 1) (ci (ap X) j 2) (ci (ap X) j 3)
def aDW(h:dS)(s:jN N Q H G W)(p:mN N Q H G W)(D:Dk u d y)(f:ko H G u d y aG)(fG:Y dh.ah<=40):∃o,TB.Ev 21 (bJ N Q H G W++[.r u,.i aG,.r d,.r y,.b cl,.i k]) o/\∃b e,o=.ret [.b b,.i e]/\(b=J->e=0/\nY G u k=0/\(cl=E->∃X O g,TB.Ev 22 (bJ N Q H G W++[.r u,.i aG,.r d,.r y,.b cl,.i k]) (.ret [.r (ap (u.ah++[[.mk (.int I k) []]])),.i aG,.r (ap X),.r (ap O),.b cl,.r (ap g),.i 0])/\Dk (ap (u.ah++[[.mk (.int I k) []]])) (ap X) (ap O)/\ko H G (ap (u.ah++[[.mk (.int I k) []]])) (ap X) (ap O) aG/\QF (u.ah++[[.mk (.int I k) []]]) O g)):=by
 obtain⟨o,z,hR⟩:=aDO (k:=k) (cl:=cl) h s p D f fG;rcases hR with⟨e,he,rfl⟩|⟨x,v,bc,CC,c,aa,ab,bq,rfl,hA⟩;refine⟨_, ?_,E,e,rfl,nofun⟩;simp only[wk,bJ,cJ,da] at z;refine ki ?_;simp[aa4,bJ,wk,aY z,he];obtain⟨o,q,A,rfl,ac⟩:=aDP (ca:=u) (kn:=d) (op:=y) (cl:=cl) h aa bq hA;refine⟨_, ?_,A,0,rfl,λag=>⟨rfl,x,λhc=> ?_⟩⟩;simp only[wk,bJ,cJ,da] at z q;refine ki ?_;simp[aa4,bJ,wk,aY z,aY q];subst hc ag;obtain⟨al,a1,a3⟩:=Jl x;have m5:=p.qe.bars;have m2:=p.qe.rl;have lO:=p.B3.len;have k8:=p.qe.br _ al;have lo:=f.D9;obtain⟨c0,an,a⟩:=List.exists_cons_of_ne_nil ab;obtain⟨F,S,V,B,ea,hS,hO⟩:=ac rfl c0 (by rw[a];simp);have a0:=aDV (mf:=v) (F:=F) (S:=S) (V:=V) (B:=B) (l:=CC.map c) (rest:=an.map c) h s p D f (by rw[a];simp[ea]) bY x z q hS.af hO.ex.Jf;obtain⟨D2,f2⟩:=aDU (mf:=v) (S:=S) (m:=Y ay.ah) D f x ae λi hi=>(hO.ex.box i hi).2
 refine⟨_,_,_,a0,D2,f2,by have:=aug (mf:=v) (ao:=Y u.ah) (k:=k) (n:=Y ay.ah);omega,λj hj=> ?_⟩;obtain⟨r,hr,e1,e2,e3⟩:=aDQ hj;rw[e1,e2,e3];refine⟨⟨ae,by rw[nq,qf,Eg];omega⟩,⟨ae,bY⟩, ?_,ae,ae⟩;rw[nq];simp[aN,bn];omega
end
structure Sr where
 st:Int
 pl:List Int
 kb:Int
section
variable{a:Type}
def vw(bud:Int)(cl:Bool)(sf:Int->Bool)(g:Int->Sr->Sr)(z:Sr->Sr):Nat->Int->Sr->Sr
 |0,_,s=>z s|r+1,k,s=>if s.st<bud/\cl=E then vw bud cl sf g z r (k+1) (if sf k then g k ⟨s.st+1,s.pl,s.kb⟩ else⟨s.st+1,s.pl,s.kb⟩) else z s
def oz(cl:Bool)(lim:a->Nat)(sf:a->Int->Bool)(kp:a->Int->Int)(nx:a->Int->a)(add:Int->Int->Int)(bud:Int):Nat->a->List Int->Int->Sr->Sr
 |0,_,c,X,s=>if s.kb<X then⟨s.st,c,X⟩ else s|m+1,x,c,X,s=>vw bud cl (sf x) (λk=>oz cl lim sf kp nx add bud m (nx x k) (c++[k]) (add X (kp x k))) (oz cl lim sf kp nx add bud m (nx x 0) (c++[0]) X) (lim x) 1 s
def ub(cl:Bool)(sf:a->Int->Bool)(kp:a->Int->Int)(nx:a->Int->a)(add:Int->Int->Int):List Int->Nat->a->Int->Option Int
 |[],m,_,X=>if m=0 then U X else Z|_::_,0,_,_=>Z|k::p,m+1,x,X=>if k=0 then ub cl sf kp nx add p m (nx x 0) X else if cl=E/\sf x k=J then ub cl sf kp nx add p m (nx x k) (add X (kp x k)) else Z
variable{cl:Bool}{lim:a->Nat}{sf:a->Int->Bool}{kp:a->Int->Int}{nx:a->Int->a}{add:Int->Int->Int}{bud d:Int}{f:Int->Bool}{g i:Int->Sr->Sr}{z l:Sr->Sr}
def Sr.Le(s t:Sr):Prop:=s.st<=t.st/\s.kb<=t.kb
def Sr.Le.trans{s t u:Sr}(h:s.Le t)(k:t.Le u):s.Le u:=⟨ak7 h.1 k.1,ak7 h.2 k.2⟩
def aj3(Q:Sr->Prop)(X:∀s,Q s->Q (z s))(W:∀k s,0<k->cl=E->f k=J->Q s->Q (g k s))(V:∀s,s.st<bud->Q s->Q ⟨s.st+1,s.pl,s.kb⟩):∀r k s,0<k->Q s->Q (vw bud cl f g z r k s)
 |0,_,s,_,h=>X s h
 |r+1,k,s,R,h=>by
  rw[vw];split;rename_i q;refine aj3 Q X W V r (k+1) _ ae ?_
  grind
  grind
def U7(X:∀(k:Int)(s:Sr),s.Le (g k s)):∀r k(s:Sr),∃t,s.Le t/\vw bud cl f g z r k s=z t
 |0,_,s=>⟨s,⟨JB _,JB _⟩,rfl⟩
 |r+1,k,s=>by
  rw[vw];have W:s.Le ⟨s.st+1,s.pl,s.kb⟩:=⟨by show s.st<=s.st+1;omega,JB _⟩;split;obtain⟨t,h,e⟩:=U7 X r (k+1) (if f k then g k ⟨s.st+1,s.pl,s.kb⟩ else⟨s.st+1,s.pl,s.kb⟩);refine⟨t,Sr.Le.trans ?_ h,e⟩;split;exact W.trans (X _ _);exact W;exact⟨s,⟨JB _,JB _⟩,rfl⟩
def aui(W:∀(k:Int)(s:Sr),s.Le (g k s))(V:∀s:Sr,s.Le (z s))(R:cl=E):∀r k(s:Sr),(vw bud cl f g z r k s).st<bud->∀q,k<=q->q<k+r->f q=J->∃t,(g q t).Le (vw bud cl f g z r k s)
 |0,k,s,_,q,O,Q,_=>by simp at Q;omega
 |r+1,k,s,X,q,O,Q,P=>by
  have N:s.st<bud/\cl=false:=⟨by
   obtain⟨t,h,e⟩:=U7 (bud:=bud) (cl:=cl) (f:=f) (z:=z) W (r+1) k s;rw[e] at X;have:=(h.trans (V t)).1;omega,R⟩
  rw[vw,aH N] at X⊢;by_cases e:q=k;subst e;rw[aH P] at X⊢;obtain⟨t,h,e⟩:=U7 (bud:=bud) (cl:=cl) (f:=f) (z:=z) W r (q+1) (g q ⟨s.st+1,s.pl,s.kb⟩);exact⟨_,by rw[e];exact h.trans (V t)⟩;exact aui W V R r (k+1) _ X q ae ae P
def Jn:∀m x c X(s:Sr),s.Le (oz cl lim sf kp nx add bud m x c X s)/\X<=(oz cl lim sf kp nx add bud m x c X s).kb
 |0,x,c,X,s=>by
  rw[oz];split;exact⟨⟨JB _,Int.le_of_lt md⟩,JB _⟩;exact⟨⟨JB _,JB _⟩,ae⟩
 |m+1,x,c,X,s=>by
  rw[oz];obtain⟨t,h,e⟩:=U7 (bud:=bud) (cl:=cl) (f:=sf x) (z:=oz cl lim sf kp nx add bud m (nx x 0) (c++[0]) X) (λk s=>(Jn m (nx x k) (c++[k]) (add X (kp x k)) s).1) (lim x) 1 s;rw[e];exact⟨h.trans (Jn m _ _ _ t).1,(Jn m _ _ _ t).2⟩
def abI:∀m x c X(s:Sr),s.st<=bud->(oz cl lim sf kp nx add bud m x c X s).st<=bud
 |0,x,c,X,s,h=>by
  grind [oz]
 |m+1,x,c,X,s,h=>by
  rw[oz];exact aj3 (λq=>q.st<=bud) (λq h=>abI m _ _ _ q h) (λk q _ _ _ h=>abI m _ _ _ q h) (λq h _=>by show q.st+1<=bud;omega) _ _ s ew h
def aj4:∀m x c X(s:Sr),((oz cl lim sf kp nx add bud m x c X s).pl=s.pl/\(oz cl lim sf kp nx add bud m x c X s).kb=s.kb)\/∃p,Y p=m/\ub cl sf kp nx add p m x X=U (oz cl lim sf kp nx add bud m x c X s).kb/\(oz cl lim sf kp nx add bud m x c X s).pl=c++p
 |0,x,c,X,s=>by
  rw[oz];split;exact .inr ⟨[],rfl,by simp[ub],aw⟩;simp
 |m+1,x,c,X,s=>by
  rw[oz];refine aj3 (λt=>(t.pl=s.pl/\t.kb=s.kb)\/∃p:List Int,Y p=m+1/\ub cl sf kp nx add p (m+1) x X=U t.kb/\t.pl=c++p) (λt W=> ?_) (λk t P O N W=> ?_) (λt _ W=>W) (lim x) 1 s ew (.inl ⟨rfl,rfl⟩);rcases aj4 m (nx x 0) (c++[0]) X t with⟨V,R⟩|⟨p,V,R,Q⟩
  grind
  grind [ub]
  rcases aj4 m (nx x k) (c++[k]) (add X (kp x k)) t with⟨V,R⟩|⟨p,V,R,Q⟩
  grind
  grind [ub]
def aj5(R:∀x k,sf x k=J->1<=k/\k<=lim x):∀m x c X(s:Sr),(oz cl lim sf kp nx add bud m x c X s).st<bud->∀p W,ub cl sf kp nx add p m x X=U W->W<=(oz cl lim sf kp nx add bud m x c X s).kb
 |0,x,c,X,s,_,p,W,h=>by
  cases p;simp only[ub,dO] at h;injection h with h;subst h;exact(Jn 0 x c X s).2;cases h
 |m+1,x,c,X,s,V,[],W,h=>by simp[ub] at h
 |m+1,x,c,X,s,V,k::p,W,h=>by
  rw[oz] at V⊢;rw[ub] at h;have Q:=λk s=>(Jn (cl:=cl) (lim:=lim) (sf:=sf) (kp:=kp) (nx:=nx) (add:=add) (bud:=bud) m (nx x k) (c++[k]) (add X (kp x k)) s).1
  split at h;obtain⟨t,-,e⟩:=U7 (bud:=bud) (cl:=cl) (f:=sf x) (z:=oz cl lim sf kp nx add bud m (nx x 0) (c++[0]) X) Q (lim x) 1 s;rw[e] at V⊢;exact aj5 R m _ _ _ _ V p W h;split at h;rename_i q;have O:=R x k q.2;obtain⟨t,P⟩:=aui Q (λs=>(Jn m _ _ _ s).1) q.1 (lim x) 1 s V k O.1 ae q.2;exact ak7 (aj5 R m _ _ _ _ (Int.lt_of_le_of_lt P.1 V) p W h) P.2;cases h
end
section
variable{R:aX->Prop}{G:aL}{t:T}{O:aj}{L:ck}
variable[Inhabited cm]
variable{e l d c n o u q:RV}{aG k:Int}{cl:Bool}
noncomputable def jU(o:RV)(a Q O:av):Nat->av×av
 |0=>(Q,O)|i+1=>(sG o (ap (jU o a Q O i).1) (ap (jU o a Q O i).2) (ci (ap a) i 1).toNat (ci (ap a) i 2) (ci (ap a) i 3),sH o (ap (jU o a Q O i).2) (ci (ap a) i 1).toNat (ci (ap a) i 2) (ci (ap a) i 3))
variable{A Q O a:av}
def U8(h:dS)(s:jN e l d c n)(p:mN e l d c n)(D:Dk (ap A) (ap Q) (ap O))(f:ko d c (ap A) (ap Q) (ap O) aG)(M:QF A O a):∀i≤Y a,Dk (ap A) (ap (jU (ap A) a Q O i).1) (ap (jU (ap A) a Q O i).2)/\ko d c (ap A) (ap (jU (ap A) a Q O i).1) (ap (jU (ap A) a Q O i).2) aG/\(jU (ap A) a Q O i).2.length=Y O/\
  (i<Y a->TB.Ev 23 (bJ e l d c n++[.r (ap A),.i aG,.r (ap (jU (ap A) a Q O i).1),.r (ap (jU (ap A) a Q O i).2),.b cl,.i (ci (ap a) i 1),.i (ci (ap a) i 2),.i (ci (ap a) i 3)]) (.ret [.r (ap A),.i aG,.r (ap (jU (ap A) a Q O (i+1)).1),.r (ap (jU (ap A) a Q O (i+1)).2),.b cl,.i 0]))
 |i,H=>by
  have G:Dk (ap A) (ap (jU (ap A) a Q O i).1) (ap (jU (ap A) a Q O i).2)/\ko d c (ap A) (ap (jU (ap A) a Q O i).1) (ap (jU (ap A) a Q O i).2) aG/\(jU (ap A) a Q O i).2.length=Y O:=by
   match i,H with
   |0,_=>exact⟨D,f,rfl⟩
   |i+1,H=>
    obtain⟨X,W,P,-⟩:=U8 h s p D f M i ae;have g:=M.2 i H;have V:(ci (ap a) i 1).toNat<(ap (jU (ap A) a Q O i).1).ah.length:=by
     have:=g.1;have z:=W.Ay;have y:=W.D9
     grind [nq]
    obtain⟨b,N⟩:=akR g.2.1.1;rw[jU,N];exact⟨aDh X V,aDi X W V,(ajS).trans P⟩
  obtain⟨X,W,P⟩:=G;refine⟨X,W,P,λF=> ?_⟩;have g:=M.2 i F;have B:(ap (jU (ap A) a Q O i).2).ah.length=(ap O).ah.length:=P;obtain⟨r,V⟩:=akR g.1.1;obtain⟨b,N⟩:=akR g.2.1.1;rw[jU,N,V];rw[N,V] at g;exact aDe (cl:=cl) h s p X.sc X.sk X.so X.kk W (aDj (ca:=ap A) (op:=ap O) B g)
def aDX(h:dS)(s:jN e l d c n)(p:mN e l d c n)(W:TB.Ev 22 (bJ e l d c n++[.r o,.i aG,.r u,.r q,.b cl,.i k]) (.ret [.r (ap A),.i aG,.r (ap Q),.r (ap O),.b cl,.r (ap a),.i 0]))(D:Dk (ap A) (ap Q) (ap O))(f:ko d c (ap A) (ap Q) (ap O) aG)(V:QF A O a):
  TB.Ev 20 (bJ e l d c n++[.r o,.i aG,.r u,.r q,.b cl,.i k]) (.ret [.r (ap A),.i aG,.r (ap (jU (ap A) a Q O (Y a)).1),.r (ap (jU (ap A) a Q O (Y a)).2),.b cl]):=by
 refine ki ?_;simp only[wk,bJ,cJ,da] at W;simp[aje,bJ,wk,aY W];refine bQ (Y a) (λi P=>P=[.r (ap A),.i aG,.r (ap (jU (ap A) a Q O i).1),.r (ap (jU (ap A) a Q O i).2),.b cl]) ⟨0,rfl,ae,rfl⟩ ?_;rintro i _ N rfl;simp;refine aV (λX=>⟨X, ?_⟩) (λM=> ?_);have g:=(U8 (cl:=cl) h s p D f V i N).2.2.2 X;simp only[wk,bJ,ci,cJ,da,nq] at g;simp[aY g];rw[bC X (by have:=V.1;omega)]
 grind
abbrev DS:=RV×RV×RV
structure Gd(d c:RV)(aG:Int)(x:DS)(m:Nat):Prop where
 D:Dk x.1 x.2.1 x.2.2
 f:ko d c x.1 x.2.1 x.2.2 aG
 m:Y x.1.ah+m=Y c.ah
def pH(e l d c n:RV)(aG:Int)(cl:Bool)(x:DS)(k:Int):aZ:=bJ e l d c n++[.r x.1,.i aG,.r x.2.1,.r x.2.2,.b cl,.i k]
def vx(c:RV)(x:DS):Nat:=(cr 100 c (Y x.1.ah)).ah.length
noncomputable def uc(e l d c n:RV)(aG:Int)(cl:Bool)(x:DS)(k:Int):Bool:=decide (1<=k/\k<=vx c x)&&ob 21 (pH e l d c n aG cl x k) 0
noncomputable def AA(e l d c n:RV)(aG:Int)(cl:Bool)(x:DS)(k:Int):Int:=oi 12 (pH e l d c n aG cl x k) 0
noncomputable def qW(e l d c n:RV)(aG:Int)(cl:Bool)(x:DS)(k:Int):DS:=(or 20 (pH e l d c n aG cl x k) 0,or 20 (pH e l d c n aG cl x k) 2,or 20 (pH e l d c n aG cl x k) 3)
end
section
variable{R:aX->Prop}{G:aL}{t:T}{O:aj}{L:ck}
variable[Inhabited cm]
variable{B H y w M ca kn op:RV}{aG k:Int}{cl:Bool}{x:DS}{m:Nat}
def aj6(h:dS)(s:jN B H y w M)(p:mN B H y w M)(fG:Y dh.ah<=40)(G:Gd y w aG x m)(k:Int):∃e,TB.Ev 21 (pH B H y w M aG cl x k) (.ret [.b (uc B H y w M aG cl x k),.i e])/\(uc B H y w M aG cl x k=J->e=0/\nY w x.1 k=0/\(cl=E->∃X O W,TB.Ev 22 (pH B H y w M aG cl x k) (.ret [.r (ap (x.1.ah++[[.mk (.int I k) []]])),.i aG,.r (ap X),.r (ap O),.b cl,.r (ap W),.i 0])/\Dk (ap (x.1.ah++[[.mk (.int I k) []]])) (ap X) (ap O)/\ko y w (ap (x.1.ah++[[.mk (.int I k) []]])) (ap X) (ap O) aG/\QF (x.1.ah++[[.mk (.int I k) []]]) O W)):=by
 obtain⟨o,g,b,e,rfl,V⟩:=aDW (cl:=cl) (k:=k) h s p G.D G.f fG;have Q:ob 21 (pH B H y w M aG cl x k) 0=b:=by simp only[ob,pH,DW g];rfl
 have P:uc B H y w M aG cl x k=b:=by
  rw[uc,Q];cases b;simp;obtain⟨-,N,-⟩:=V rfl;obtain⟨z,F,A⟩:=Jl N;simp[vx,F,A]
 rw[P];exact⟨e,g,V⟩
def auj(h:dS)(s:jN B H y w M)(p:mN B H y w M)(G:Gd y w aG x m)(k:Int):∃e,TB.Ev 12 (pH B H y w M aG cl x k) (.ret [.i (AA B H y w M aG cl x k),.i e])/\(nY w x.1 k=0->e=0):=by
 have Q:∃n e,TB.Ev 12 (pH B H y w M aG cl x k) (.ret [.i n,.i e])/\(nY w x.1 k=0->e=0):=by
  obtain⟨o,W,P⟩:=aDK (aG:=aG) (cl:=cl) (k:=k) h s G.D;rcases P with⟨r,e,rfl,V⟩|⟨⟨⟨p,f⟩,X⟩,N,rfl⟩;refine⟨0,e,aDM h V W,λX=>bF ?_ V⟩;obtain⟨o,F,N,rfl,-⟩:=aj0 (cl:=cl) h s p G.D G.f X;have:=N9 W (at7 h s p G.D G.f X F)
  grind
  obtain⟨o,g,m,-,rfl⟩:=aDL h s p G.D f X W;exact⟨_,0,g,λ_=>rfl⟩
 obtain⟨n,e,g,V⟩:=Q;have:AA B H y w M aG cl x k=n:=by simp only[AA,oi,DW g];rfl
 grind
def abJ(h:dS)(s:jN B H y w M)(p:mN B H y w M)(fG:Y dh.ah<=40)(G:Gd y w aG x (m+1))(N:k=0\/cl=E/\uc B H y w M aG cl x k=J):∃A X O W,TB.Ev 22 (pH B H y w M aG cl x k) (.ret [.r (ap A),.i aG,.r (ap X),.r (ap O),.b cl,.r (ap W),.i 0])/\Dk (ap A) (ap X) (ap O)/\ko y w (ap A) (ap X) (ap O) aG/\QF A O W/\qW B H y w M aG cl x k=(ap A,ap (jU (ap A) W X O (Y W)).1,ap (jU (ap A) W X O (Y W)).2)/\
  TB.Ev 20 (pH B H y w M aG cl x k) (.ret [.r (qW B H y w M aG cl x k).1,.i aG,.r (qW B H y w M aG cl x k).2.1,.r (qW B H y w M aG cl x k).2.2,.b cl])/\Gd y w aG (qW B H y w M aG cl x k) m:=by
 have l:=G.m;have c:=p.B3.len;have m5:=p.qe.bars
 suffices F:∃A X O W,TB.Ev 22 (pH B H y w M aG cl x k) (.ret [.r (ap A),.i aG,.r (ap X),.r (ap O),.b cl,.r (ap W),.i 0])/\Dk (ap A) (ap X) (ap O)/\ko y w (ap A) (ap X) (ap O) aG/\QF A O W/\Y A=Y x.1.ah+1 by
  obtain⟨A,X,O,W,g,D,f,V,hA⟩:=F;have Q:=aDX h s p g D f V;have e:qW B H y w M aG cl x k=(ap A,ap (jU (ap A) W X O (Y W)).1,ap (jU (ap A) W X O (Y W)).2):=by
   simp only[qW,or,pH,DW Q];rfl
  obtain⟨z,v,-,-⟩:=U8 (cl:=cl) h s p D f V (Y W) (cd _);refine⟨A,X,O,W,g,D,f,V,e, ?_, ?_⟩;rw[e];exact Q;rw[e];exact⟨z,v,bY⟩
 rcases N with rfl|⟨V,hs⟩;obtain⟨a,b,d,q,g,u⟩:=at5 (cl:=cl) h s p G.D G.f;have P:Y x.1.ah<Y w.ah:=ae;obtain⟨rfl,rfl,rfl,rfl⟩:=u P;have o:¬Y w.ah<=Y x.1.ah:=ae;simp only[aS o] at g;exact⟨_,_,_,[],g,aDy G.D ae,aDz G.D G.f P,⟨aw,λj n=>by simp at n⟩,aw⟩;obtain⟨e,-,hf⟩:=aj6 (cl:=cl) h s p fG G k
 grind
def ud(l:List Int):RV:=ap (l.map λk=>[.mk (.int I k) []])
def auk(l:List Int):lenOf (ud l).val=Y l:=by simp[ud]
def aul(l:List Int)(k:Int):ap ((ud l).ah++[[.mk (.int I k) []]])=ud (l++[k]):=by simp[ud]
def aDY(l:List Int)(X:Y l<=4096):TB.Ev 35 [.r (ud l)] (.ret [.r (ud l)]):=by
 refine ki ?_;simp[ai5,ud,Gj];refine⟨ae,λe=>by rw[e];rfl,λ_=>single (Hz _)⟩
noncomputable def w8(B H y w M:RV)(aG:Int)(cl:Bool)(X:Int):Nat->DS->List Int->Int->Sr->Sr:=oz cl (vx w) (uc B H y w M aG cl) (AA B H y w M aG cl) (qW B H y w M aG cl) (be .add I) X
def aDZ{a b:Int}:be .add I (be .add I a b) 0=be .add I a b:=by
 simp only[be,Int.add_zero,IntKind.wrap_i64];omega
def aD0{cl0:Bool}{W:Int}(h:dS)(s:jN B H y w M)(p:mN B H y w M)(fG:Y dh.ah<=40)(hb:W<=4096):∀(m:Nat)(x:DS)(c:List Int)(X:Int)(q:Sr),Gd y w aG x m->be .add I X 0=X->0<=q.st->q.st<=W->Y c+m<=4096->
  TB.Ev 308 ([.r x.1,.i aG,.r x.2.1,.r x.2.2,.b cl,.r (ud c),.i X]++bJ B H y w M++[.r ca,.i aG,.r kn,.r op,.b cl0,.i W,.i q.st,.r (ud q.pl),.i q.kb]) (.ret [.i (w8 B H y w M aG cl W m x c X q).st,.r (ud (w8 B H y w M aG cl W m x c X q).pl),.i (w8 B H y w M aG cl W m x c X q).kb]):=by
 intro m;induction m with
 |zero=>
  intro x c X q G n h1 h2 hc;have e:Y x.1.ah=Y w.ah:=G.m;have a0:=aDY c ae;have hl:w8 B H y w M aG cl W 0 x c X q=if q.kb<X then⟨q.st,c,X⟩ else q:=rfl;rw[hl];refine evo rfl rfl (.inr λv=>nofun) ?_;simp[aa3,bJ,wk,G.D.sc.len,s.sr.len,e];refine aV (λaa=> ?_) (λab=> ?_);simp[aY a0,aa];simp[ab]
 |succ m ih=>
  intro x c X q G n h1 h2 hc;obtain⟨F,l⟩:∃F,w8 B H y w M aG cl W (m+1) x c X q=F:=⟨_,rfl⟩;obtain⟨g,j⟩:∃g:Int->Sr->Sr,(λk=>w8 B H y w M aG cl W m (qW B H y w M aG cl x k) (c++[k]) (be .add I X (AA B H y w M aG cl x k)))=g:=⟨_,rfl⟩;obtain⟨z,hz⟩:∃z:Sr->Sr,w8 B H y w M aG cl W m (qW B H y w M aG cl x 0) (c++[0]) X=z:=⟨_,rfl⟩;have a1:vw W cl (uc B H y w M aG cl x) g z (vx w x) 1 q=F:=by rw[<-l,<-j,<-hz];rfl
  rw[l];clear l;have f:Y x.1.ah<Y w.ah:=by have:=G.m;omega
  have s3:=(s.Ax _ f).len;have b8:=p.qe.br _ f;have a3:(cr 100 w (Y x.1.ah)).ah.length=vx w x:=rfl;rw[a3] at s3 b8;simp only[cr] at s3;obtain⟨A0,K0,O0,bc,-,-,-,-,-,ac,G0⟩:=abJ (cl:=cl) (k:=0) h s p fG G (.inl rfl);refine evo rfl rfl (.inr λv=>nofun) ?_;simp[aa3,bJ,wk,G.D.sc.len,s.sr.len];refine QB ae ?_;refine As (λV=>∃(r k:Nat)(u:Sr),V=[.i k,.i u.st,.r (ud u.pl),.i u.kb]/\k+r=vx w x+1/\1<=k/\0<=u.st/\u.st<=W/\vw W cl (uc B H y w M aG cl x) g z r k u=F) (λV=>(vx w x+1-xi V 0).toNat) ⟨vx w x,1,q,aw,ae,ae,h1,h2,a1⟩ ?_;rintro _ ⟨r,k,u,rfl,bf,bg,a4,a9,P⟩;simp[xi,G.D.sc.len,s.sr.len,s3];refine⟨f, ?_⟩;have ba:∀k(v:Sr),0<=v.st->v.st<=W->0<=(g k v).st/\(g k v).st<=W:=λk v a b=>by
   rw[<-j];exact⟨ak7 a (Jn m _ _ _ v).1.1,abI m _ _ _ v b⟩
  refine aV (λab=>aV (λaf=>aV (λbq=> ?a) (λbq=> ?b)) (λaf=> ?c)) (λaa=> ?d)
  case b=>
   have bq:cl=false:=by simpa using bq
   obtain⟨r,rfl⟩:∃r',r=r'+1:=⟨r-1,ae⟩;rw[vw,aH ⟨af,bq⟩] at P;have ek:((k+1:Nat):Int)=(k:Int)+1:=ae;have es:be .add I u.st 1=u.st+1:=by simp only[be];exact i8 ae ae
   obtain⟨e,ag,hs⟩:=aj6 (cl:=cl) h s p fG G k;simp only[pH,wk,bJ,cJ,da] at ag;simp[aY ag,es,wX (show k<=140737488355328 from ae)];have bk:∀v:Sr,0<=v.st->v.st<=W->vw W cl (uc B H y w M aG cl x) g z r ((k:Int)+1) v=F->I4 (U ⟨0,λV=>∃(r k:Nat)(u:Sr),V=[.i k,.i u.st,.r (ud u.pl),.i u.kb]/\k+r=vx w x+1/\1<=k/\0<=u.st/\u.st<=W/\vw W cl (uc B H y w M aG cl x) g z r k u=F,λV=>(vx w x+1-xi V 0).toNat,vx w x+1-k⟩) [.i ((k:Int)+1),.i v.st,.r (ud v.pl),.i v.kb]:=λv v1 v2 o=>by
    refine⟨⟨r,k+1,v,by rw[ek],ae,ae,v1,v2,by rw[ek];exact o⟩, ?_⟩;show((vx w x:Int)+1-((k:Int)+1)).toNat<vx w x+1-k;omega
   by_cases N:uc B H y w M aG cl x k=J;obtain⟨he,ha,-⟩:=hs N;obtain⟨A,K',O,cu,-,-,-,-,-,al,G1⟩:=abJ (cl:=cl) (k:=k) h s p fG G (.inr ⟨bq,N⟩);obtain⟨e',an,-⟩:=auj (cl:=cl) h s p G k;have Q:=ih (qW B H y w M aG cl x k) (c++[(k:Int)]) (be .add I X (AA B H y w M aG cl x k)) ⟨u.st+1,u.pl,u.kb⟩ G1 aDZ (by show 0<=u.st+1;omega) (by show u.st+1<=W;omega) bY;rw[show w8 B H y w M aG cl W m (qW B H y w M aG cl x k) (c++[(k:Int)]) (be .add I X (AA B H y w M aG cl x k))=g k by rw[<-j],<-aul] at Q;rw[aH N] at P;simp only[pH,wk,bJ,cJ,da] at an al Q;simp[N,he,aY an,aY al,auk,es,aY Q,wX (show k<=140737488355328 from ae)];have o:=ba k ⟨u.st+1,u.pl,u.kb⟩ (by show 0<=u.st+1;omega) (by show u.st+1<=W;omega);exact⟨ae,bk _ o.1 o.2 P⟩;rw[aS N] at P;simp[N];exact bk ⟨u.st+1,u.pl,u.kb⟩ (by show 0<=u.st+1;omega) (by show u.st+1<=W;omega) P
  all_goals
   have bb:z u=F:=by
    rw[<-P];cases r with
    |zero=>rfl
    |succ r=>
     rw[vw,aS];rintro⟨q1,q2⟩
     first|omega|(rw[bq] at q2;cases q2)
   have Q:=ih (qW B H y w M aG cl x 0) (c++[0]) X u G0 n a4 a9 bY;rw[show w8 B H y w M aG cl W m (qW B H y w M aG cl x 0) (c++[0]) X u=F by rw[hz,bb],<-aul] at Q;simp only[pH,wk,bJ,cJ,da] at ac Q;simp[aY ac,auk,n,aY Q];omega
end
section
variable{R:aX->Prop}{G:aL}{t:T}{O:aj}{L:ck}
variable[Inhabited cm]
variable{u v l br w B H M:RV}{aG k bud:Int}{cl:Bool}{x:DS}{m:Nat}
def B4(br:RV)(c:Nat):Nat->Nat
 |0=>1|i+1=>B4 br c i*(1+(cr 100 br (c+i)).ah.length)
def aj7{c:Nat}:∀{i j:Nat},i<=j->B4 br c i<=B4 br c j
 |i,0,h=>by rw[show i=0 from ae];exact cd _
 |i,j+1,h=>by
  by_cases e:i=j+1
  grind
  refine mc (aj7 (show i<=j from ae)) ?_;exact aIQ _ ae
def aum{a b:Nat}(X:a<=4096)(V:b<=8):be .mul I (a:Int) (be .add I 1 (b:Int))=((a*(1+b):Nat):Int):=by
 have W:be .add I 1 (b:Int)=((1+b:Nat):Int):=by simp only[be];rw[i8 ae ae];omega
 have Q:a*(1+b)<=4096*9:=Mr X ae;rw[W];simp only[be];rw[<-awc,i8 ae ae]
def aD1(s:jN u v l br w)(p:mN u v l br w)(D:Dk B H M)(f:ko l br B H M aG):∃o,TB.Ev 16 (bJ u v l br w++[.r B,.i aG,.r H,.r M,.b cl]) o/\∃n,o=.ret [.i n]/\(n<=4096->B4 br (Y B.ah) (Y br.ah-Y B.ah)<=4096):=by
 refine eJ ?_;simp[aa2,bJ,wk];have N:=s.sr.sm;have G:=f.calls;have Q:=p.qe.br;refine As (λX=>∃i:Nat,X=[.i ((Y B.ah+i:Nat):Int),.i (B4 br (Y B.ah) i)]/\Y B.ah+i<=Y br.ah) (λX=>(Y br.ah-xi X 0).toNat) ⟨0,by simp[D.sc.len,B4],ae⟩ ?_;rintro _ ⟨i,rfl,F⟩;simp[xi,BN,s.sr.len];refine aV (λA=> ?_) (λz=> ?_);have W:Y B.ah+i<Y br.ah:=ae;refine aV (λP=> ?_) (λP=> ?_);have e:=(s.Ax _ W).len;have V:=Q _ W;simp only[cr] at e V;rw[show(Y B.ah:Int)+(i:Int)=((Y B.ah+i:Nat):Int) from ae,e,aum ae V,wX ae];exact⟨ae,⟨i+1,⟨ae,rfl⟩,ae⟩,ae⟩;intro h;omega;intro h;have:i=Y br.ah-Y B.ah:=ae;subst this;omega
def aD2(h:dS)(s:jN u v l br w)(p:mN u v l br w)(fG:Y dh.ah<=40)(G:Gd l br aG x m)(W:0<=bud)(V:bud<=4096)(q:B4 br (Y x.1.ah) m<=4096):TB.Ev 8 (bJ u v l br w++[.r x.1,.i aG,.r x.2.1,.r x.2.2,.b cl,.i bud]) (.ret [.r (ud (w8 u v l br w aG cl bud m x [] 0 ⟨0,[],-1⟩).pl),.i (w8 u v l br w aG cl bud m x [] 0 ⟨0,[],-1⟩).kb,.i (w8 u v l br w aG cl bud m x [] 0 ⟨0,[],-1⟩).st,.i 0]):=by
 have o:=G.m;have Q:=abD (cl:=cl) h s p G.D.sc G.D.sk G.D.so G.D.kk G.f;have n:=s.sr.sm;refine ki ?_;simp only[wk,bJ,cJ,da] at Q;simp[ajf,bJ,wk,aY Q,G.D.sc.len,s.sr.len];refine⟨W,V,ae, ?_⟩;refine bQ m (λi F=>F=[.i (B4 br (Y x.1.ah) i)]) ⟨0,rfl,ae,rfl⟩ ?_;rintro i _ j rfl;simp;have A:aN (br.ah.drop (Y x.1.ah)) (i:Int) 0=aN br.ah ((Y x.1.ah+i:Nat):Int) 0:=by
  grind [aN,rM]
 rw[A];refine aV (λz=>⟨z, ?_⟩) (λg=> ?_);have P:Y x.1.ah+i<Y br.ah:=ae;have e:=(s.Ax _ P).len;have N:=p.qe.br _ P;have d:=aj7 (br:=br) (c:=Y x.1.ah) (show i<=m from ae);have a:=aj7 (br:=br) (c:=Y x.1.ah) (show i+1<=m from ae);simp only[cr] at e N;rw[e,aum ae N,bC ae ae];have y:B4 br (Y x.1.ah) (i+1)=B4 br (Y x.1.ah) i*(1+(cH (.sl 100) (aN br.ah ((Y x.1.ah+i:Nat):Int) 0)).ah.length):=rfl;rw[<-y]
 grind
 have m5:=p.qe.bars;have lO:=p.B3.len;have X:=aD0 (ca:=x.1) (kn:=x.2.1) (op:=x.2.2) (cl:=cl) (cl0:=cl) h s p fG V m x [] 0 ⟨0,[],-1⟩ G rfl ew W bY;rw[show ud []=ap [] from rfl] at X;simp only[wk,bJ,cJ,da] at X;simp[aY X]
def w9(X:RV):List Int:=(di (Y X.ah)).map λi=>ci X i 0
def aD3{X:RV}{i:Nat}(W:i<Y X.ah):(w9 X).drop i=ci X i 0::(w9 X).drop (i+1):=by
 grind [w9,Cb]
noncomputable def xe(u v l br w:RV)(aG:Int)(cl:Bool):List Int->Nat->DS->Int->Option Int:=ub cl (uc u v l br w aG cl) (AA u v l br w aG cl) (qW u v l br w aG cl) (be .add I)
def aD4{pv:RV}(h:dS)(s:jN u v l br w)(p:mN u v l br w)(fG:Y dh.ah<=40)(G:Gd l br aG x m)(hv:Sl pv):∃o,TB.Ev 9 (bJ u v l br w++[.r x.1,.i aG,.r x.2.1,.r x.2.2,.b cl,.r pv]) o/\∃n H,o=.ret [.i n,.b H]/\xe u v l br w aG cl (w9 pv) m x 0=if H=J then U n else none:=by
 obtain⟨P,hP⟩:∃P:aX->Prop,∀o,P o<->∃n H,o=.ret [.i n,.b H]/\xe u v l br w aG cl (w9 pv) m x 0=if H=J then U n else none:=⟨_,λ_=>Iff.rfl⟩
 suffices a9:∃o,TB.Ev 9 (bJ u v l br w++[.r x.1,.i aG,.r x.2.1,.r x.2.2,.b cl,.r pv]) o/\P o by
  grind
 refine eJ ?_;simp[ajg,bJ,wk];refine bQ (Y pv.ah) (λi F=>∃(y:DS)(q:Nat)(X:Int),F=[.i X,.r y.1,.i aG,.r y.2.1,.r y.2.2,.b cl]/\Gd l br aG y q/\xe u v l br w aG cl (w9 pv) m x 0=xe u v l br w aG cl ((w9 pv).drop i) q y X) ⟨0,rfl,ae,x,m,0,rfl,G,rfl⟩ ?_;rintro i _ hi ⟨y,q,X,rfl,W,V⟩;simp[hv.len,W.D.sc.len,s.sr.len];have hm:=W.m;refine aV (λag=>⟨ag, ?_⟩) (λba=> ?_)
 rotate_left
 have e:i=Y pv.ah:=ae;rw[e,acb (by simp[w9])] at V;refine(hP _).2 ⟨_,_,rfl,V.trans ?_⟩;by_cases h0:q=0;subst h0;rw[aH bY];rfl;rw[aS bY];exact aS h0;have bb:=hv.sm;rw[aD3 ag] at V;obtain⟨k,hk⟩:∃k,ci pv i 0=k:=⟨_,rfl⟩;have al:bn (aN pv.ah (i:Int) 0).val=k:=hk;rw[hk] at V;simp only[al];have af:∀n:Int,xe u v l br w aG cl (k::(w9 pv).drop (i+1)) q y X=Z->P (.ret [.i n,.b E]):=λn e=>(hP _).2 ⟨n,E,rfl,by rw[V,e];rfl⟩
 refine aV (λac=> ?_) (λac=> ?_);subst ac
 match q,W with
 |0,W=>
  obtain⟨a,b,d,r,g,-⟩:=at5 (cl:=cl) h s p W.D W.f;have hm:=W.m;have a1:Y br.ah<=Y y.1.ah:=ae;simp only[aH a1,wk,bJ,cJ,da] at g;simp[aY g];exact af _ rfl
 |q+1,W=>
  obtain⟨A,B,O,Q,g,D,f,c,aa,-,G'⟩:=abJ (cl:=cl) (k:=0) h s p fG W (.inl rfl);rw[show xe u v l br w aG cl (0::(w9 pv).drop (i+1)) (q+1) y X=xe u v l br w aG cl ((w9 pv).drop (i+1)) q (qW u v l br w aG cl y 0) X by simp only[xe,ub,dO],aa] at V;rw[aa] at G';simp only[pH,wk,bJ,cJ,da] at g;simp[aY g];refine bQ (Y Q) (λj F=>F=[.i X,.r (ap A),.i aG,.r (ap (jU (ap A) Q B O j).1),.r (ap (jU (ap A) Q B O j).2),.b cl]) ⟨0,rfl,ae,rfl⟩ ?_;rintro j _ hj rfl;simp;refine aV (λN=>⟨N, ?_⟩) (λa3=> ?_);have g:=(U8 (cl:=cl) h s p D f c j hj).2.2.2 N;simp only[wk,bJ,ci,cJ,da,nq] at g;simp[aY g];rw[bC N (by have:=c.1;omega)]
  grind [bC]
 obtain⟨e,an,hs⟩:=aj6 (cl:=cl) h s p fG W k;obtain⟨e',a0,a4⟩:=auj (cl:=cl) h s p W k;simp only[pH,wk,bJ,cJ,da] at an a0;simp[aY an,al,aY a0];have no:¬(cl=E/\uc u v l br w aG cl y k=J)->xe u v l br w aG cl (k::(w9 pv).drop (i+1)) q y X=none:=λhn=>by
  cases q;rfl;simp only[xe,ub,aS ac,aS hn]
 refine aV (λM=>af _ (no λz=>by rw[M] at z;cases z.1)) (λM=>aV (λab=> ?_) (λab=>af _ (no λz=>ab z.2)));have M:cl=false:=by simpa using M
 obtain⟨he,ha,-⟩:=hs ab;refine Ed he (Ed (a4 ha) ?_);obtain⟨bc,-,-⟩:=Jl ha
 match q,W with
 |0,W=>have:=W.m;omega
 |q+1,W=>
  obtain⟨A,B,O,Q,g,D,f,c,aa,-,G'⟩:=abJ (cl:=cl) (k:=k) h s p fG W (.inr ⟨M,ab⟩);rw[show xe u v l br w aG cl (k::(w9 pv).drop (i+1)) (q+1) y X=xe u v l br w aG cl ((w9 pv).drop (i+1)) q (qW u v l br w aG cl y k) (be .add I X (AA u v l br w aG cl y k)) by simp only[xe,ub,aS ac,aH (And.intro M ab)],aa] at V;rw[aa] at G';simp only[pH,wk,bJ,cJ,da] at g;simp[aY g];refine bQ (Y Q) (λj F=>F=[.i (be .add I X (AA u v l br w aG cl y k)),.r (ap A),.i aG,.r (ap (jU (ap A) Q B O j).1),.r (ap (jU (ap A) Q B O j).2),.b cl]) ⟨0,rfl,ae,rfl⟩ ?_;rintro j _ hj rfl;simp;refine aV (λN=>⟨N, ?_⟩) (λa3=> ?_);have g:=(U8 (cl:=cl) h s p D f c j hj).2.2.2 N;simp only[wk,bJ,ci,cJ,da,nq] at g;simp[aY g];rw[bC N (by have:=c.1;omega)]
  grind [bC]
def aD5(h:dS)(s:jN u v l br w)(V:Sl B)(Q:Sl H)(P:Sl M)(N:∀i<Y H.ah,Sl (cr 108 H i)):∃o,TB.Ev 14 (bJ u v l br w++[.r B,.i aG,.r H,.r M,.b cl]) o/\∃b,o=.ret [.b b]/\(b=J->Y dh.ah<=40):=by
 obtain⟨o,W,b,rfl⟩:=aDI (aG:=aG) (cl:=cl) h s V Q P N;refine⟨_,W,b,rfl,λG=> ?_⟩;subst G;obtain⟨o,X,y,rfl⟩:=atO h s;cases y;exfalso;have:TB.Ev 14 (bJ u v l br w++[.r B,.i aG,.r H,.r M,.b cl]) (.ret [.b E]):=by
  refine ki ?_;simp only[wk,bJ,cJ,da] at X;simp[aa0,bJ,wk,aY X]
 have:=N9 W this;simp at this;exact aDp h X
def aD6(h:dS)(s:jN u v l br w)(D:Dk B H M):∃o,TB.Ev 7 (bJ u v l br w++[.r B,.i aG,.r H,.r M,.b cl,.i bud]) o/\∃b,o=.ret [.b b]/\(b=J->Y dh.ah<=40/\(mN u v l br w/\ko l br B H M aG)/\0<=bud/\bud<=4096/\B4 br (Y B.ah) (Y br.ah-Y B.ah)<=4096):=by
 obtain⟨o,X,b,rfl,P⟩:=aD5 (aG:=aG) (cl:=cl) h s D.sc D.sk D.so D.kk;obtain⟨o,W,e,rfl,N⟩:=aub (aG:=aG) (cl:=cl) h s D.sc D.sk D.so D.kk;refine eJ ?_;simp only[wk,bJ,cJ,da] at X W;simp[ajh,bJ,wk,aY X];cases b;simp;simp[aY W];intro G;obtain⟨p,f⟩:=N G;obtain⟨o,V,n,rfl,F⟩:=aD1 (cl:=cl) s p D f;simp only[wk,bJ,cJ,da] at V;intro A z;simp[aY V];by_cases Q:n<=4096;exact .inr ⟨Q,P rfl,⟨p,f⟩,A,z,F Q⟩;exact .inl ae
def aD7{X:Type}{N:X->Nat}{W:X->Int->Bool}{V:X->Int->Int}{Q:X->Int->X}{P:Int->Int->Int}{y:X}{F:Sr}(H:oz cl N W V Q P bud m y [] 0 ⟨0,[],-1⟩=F)(G:0<=bud):Y F.pl=m/\ub cl W V Q P F.pl m y 0=U F.kb/\0<=F.kb/\0<=F.st/\F.st<=bud:=by
 subst H;have M:=Jn (cl:=cl) (lim:=N) (sf:=W) (kp:=V) (nx:=Q) (add:=P) (bud:=bud) m y [] 0 ⟨0,[],-1⟩;have D:=abI (cl:=cl) (lim:=N) (sf:=W) (kp:=V) (nx:=Q) (add:=P) (bud:=bud) m y [] 0 ⟨0,[],-1⟩ G;refine⟨?_, ?_,M.2,M.1.1,D⟩
 all_goals
  rcases aj4 (cl:=cl) (lim:=N) (sf:=W) (kp:=V) (nx:=Q) (add:=P) (bud:=bud) m y [] 0 ⟨0,[],-1⟩ with⟨-,e⟩|⟨p,B,A,z⟩
  grind
  grind
def aD8(X:0<=bud){F:Sr}(W:w8 u v l br w aG cl bud m x [] 0 ⟨0,[],-1⟩=F):Y F.pl=m/\xe u v l br w aG cl F.pl m x 0=U F.kb/\0<=F.kb/\0<=F.st/\F.st<=bud:=aD7 W X
def aD9(D:Dk B H M)(f:ko l br B H M aG):Gd l br aG (B,H,M) (Y br.ah-Y B.ah):=⟨D,f,by have:=f.calls;show Y B.ah+_=_;omega⟩
end
section
variable{R:aX->Prop}{G:aL}{t:T}{O:aj}{L:ck}
variable[Inhabited cm]
variable{a c d g e l v w:RV}{aG k u:Int}{cl:Bool}{x:DS}{m:Nat}
theorem aEa(A:TB.Ev 6 [] (.ret [.b J]))(h:dS)(s:jN a c d g e)(D:Dk l v w)(u:Int){W:RV}(P:Sl W):TB.Ev 4 (bJ a c d g e++[.r l,.i aG,.r v,.r w,.b cl,.i u,.r W]) (.ret [.b J]):=by
 obtain⟨o,N,b,rfl,z⟩:=aD6 (aG:=aG) (cl:=cl) (bud:=u) h s D;simp only[wk,bJ,cJ,da] at N;refine ki ?_;simp[aji,bJ,wk,aY A,aY N];cases b;simp;obtain⟨fG,⟨p,f⟩,M,y,j⟩:=z rfl;have G:=aD9 D f;have V:=aD2 (cl:=cl) h s p fG G M y j;obtain⟨F,Q⟩:∃F,w8 a c d g e aG cl u (Y g.ah-Y l.ah) (l,v,w) [] 0 ⟨0,[],-1⟩=F:=⟨_,rfl⟩;have f5:=(aD8 M Q).2.2.2.2;have H:=aj5 (cl:=cl) (lim:=vx g) (sf:=uc a c d g e aG cl) (kp:=AA a c d g e aG cl) (nx:=qW a c d g e aG cl) (add:=be .add I) (bud:=u) (λx k X=>by
  simp only[uc,aC,dD] at X;exact X.1) (Y g.ah-Y l.ah) (l,v,w) [] 0 ⟨0,[],-1⟩
 rw[show oz cl (vx g) (uc a c d g e aG cl) (AA a c d g e aG cl) (qW a c d g e aG cl) (be .add I) u (Y g.ah-Y l.ah) (l,v,w) [] 0 ⟨0,[],-1⟩=F from Q] at H;rw[Q] at V;obtain⟨o,B,n,ok,rfl,hn⟩:=aD4 (cl:=cl) (pv:=W) h s p fG G P;simp only[wk,bJ,cJ,da] at V B;simp[P.len,s.sr.len,aY V,aY B];intro _;cases ok;simp;have X:=λq=>H q _ n hn
 simp;exact λaa=>X ae
end
