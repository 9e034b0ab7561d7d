/- Part 6. -/
import Derived.Test.YtjnmghiggfgjlaaGreatDoorU5
set_option linter.all false
set_option maxRecDepth 100000
set_option maxHeartbeats 100000000
open Bool renaming and_eq_true->aC,true->J,false->E
open Nat renaming le_refl->cd,zero_add->jp,le_trans->mg,zero_le->rP,add_mul->sT,mul_le_mul_right->GG,min_eq_left->Ms,mul_le_mul->Mt,le_of_not_lt->QY,strongRecOn->QZ,min_eq_right->ak8,mul_one->alf,lt_of_le_of_ne->av8,not_lt_zero->awp,pow_succ->awt,le_total->awz,le_mul_of_pos_right->aI1
open List renaming cons_append->cG,nil_append->cX,getD_eq_getElem?_getD->di,range->dj,getElem?_eq_some_iff->du,getElem?_eq_getElem->dv,map_cons->dH,getElem?_map->ep,replicate->ew,mem_append->fc,mem_map->fo,getElem?_append_left->fO,length_append->fT,all_eq_true->gC,getElem?_append_right->jo,mem_of_getElem?->jD,map_congr_left->ky,ext_getElem?->kX,length_cons->n9,map_nil->oE,length_map->oW,map_map->oX,mem_range->rO,getElem?_of_mem->sP,getElem_mem->sQ,getElem?_eq_none->uk,length_eq_zero_iff->yS,getElem?_set->yU,mem_cons_of_mem->AI,getElem?_set_ne->AJ,drop_eq_getElem_cons->Cg,append_assoc->Ci,length_drop->Cj,length_nil->Ck,getElem?_range->Ep,map_append->GJ,mem_or_eq_of_mem_set->Mo,length_singleton->Vy,mem_singleton->VC,drop_of_length_le->acj,getElem?_set_self->ack,getElem?_modify->acn,range_succ->ala,drop_append_of_le_length->avT,length_pos_iff->av4,getElem_of_mem->av5,filter_append->av7,take_add_one->awd,ext_getElem->awg,length_set->awl,length_filter_le->aI7,length->Y
open Option renaming map_some->ga,getD_some->yV,some->U,none->Z
open Int renaming toNat_natCast->rN,le_refl->JF,eq_ofNat_of_zero_le->akY,natCast_mul->awk,le_trans->awA,toNat_of_nonneg->aJe
open Go.IntKind renaming i64->I
namespace Go.Proofs.YtjnmghiggfgjlaaGreatDoor.Y
open Go.RowKit
noncomputable section
variable{V:Nat→Bool}
section
variable{R:aX->Prop}{G:aN}{t:T}{O:aj}{L:ck}
variable[Inhabited cm]
section
variable{ap:Int}{c a b d:RV}
end


section
variable{a b:RV}{n:Nat}
end
end
section
variable{R:aX->Prop}{G:aN}{t:T}{O:aj}{L:ck}
open Classical in
end
section
variable{bh u:mA}
end
section
variable[Inhabited cm]
variable{ap:Int}{c b e d:RV}{f a g:av}
theorem Md.cr(k:Md ap c b e d f a g){i:Nat}(X:i<Y ay.ah):cr 96 (ao a) i=ao (cr 96 d i).ah:=by
 have:=(k.al i X).1;simp only[Y.cr,nz,this];rfl
end
section
variable{R:aX->Prop}{G:aN}{t:T}{O:aj}{L:ck}
variable[Inhabited cm]

open Classical in
open Classical in
end
inductive Rt(g:Nat->Nat):Nat->Nat->Prop where
 |here {k:Nat} (h:g k=k):Rt g k k
 |up {k r:Nat} (h:g k≠k) (h2:Rt g (g k) r):Rt g k r
def Rt.abI{g:Nat->Nat}{k r:Nat}(h:Rt g k r):∀{X:Nat},Rt g k X->r=X:=by
 induction h with
 |here h=>
  intro X V;cases V with|here=>rfl|up W R=>exact(W h).elim
 |up h R Q=>
  intro X V;cases V with|here W=>exact(h W).elim|up W P=>exact Q P
def Rt.fix{g:Nat->Nat}{k r:Nat}(h:Rt g k r):g r=r:=by
 induction h with|here h=>exact h|up h W X=>exact X
def Rt.le{g:Nat->Nat}(X:∀q,g q<=q){k r:Nat}(h:Rt g k r):r<=k:=by
 induction h with|here h=>exact cd _|up h V W=>exact mg W (X _)
def uc(g:Nat->Nat)(k v:Nat):Nat->Nat:=λq=>if q=k then v else g q
def Jl:Nat->Nat->(Nat->Nat)->Nat->Nat
 |0,_,g=>g|n+1,k,g=>if g k=k then g else uc (Jl n (g k) g) k (Jl n (g k) g (g k))
def atZ{g:Nat->Nat}(W:∀q,g q<=q):∀n k,k<n->Rt g k (Jl n k g k)/\∀q,Jl n k g q=g q\/Rt g q (Jl n k g q)
 |0,k,h=>bB h (awp _)
 |n+1,k,h=>by
  simp only[Jl];by_cases X:g k=k;rw[aH X];exact⟨by rw[X];exact .here X,λq=>.inl rfl⟩;rw[aJ X];have P:=av8 (W k) X;obtain⟨V,Q⟩:=atZ W n (g k) ae;refine⟨by simp only[uc,dP];exact .up X V,λq=> ?_⟩;simp only[uc];by_cases R:q=k;subst R;rw[aH rfl];exact .inr (.up X V);rw[aJ R];exact Q q
def Rt.short{g W:Nat->Nat}(R:∀q,g q<=q)(h:∀q,W q=g q\/Rt g q (W q))(x:Nat):∀{r:Nat},Rt g x r->Rt W x r:=by
 induction x using QZ with
 |_ x Q=>
  intro r P;cases P with
  |here X=>
   rcases h x with e|e;exact .here (e.trans X);exact .here (e.abI (.here X))
  |up X V=>
   have O:=av8 (R x) X;rcases h x with e|e;refine .up (by rw[e];exact X) ?_;rw[e];exact Q _ O V;have N:W x=r:=e.abI (.up X V);have M:=V.le R;refine .up ae ?_;rw[N];exact Q r ae (.here V.fix)
def aDa{g X:Nat->Nat}(W:∀q,g q<=q)(h:∀q,X q=g q\/Rt g q (X q))(q:Nat):X q<=q:=by
 rcases h q with e|e;rw[e];exact W q;exact e.le W
def Rt.join{g:Nat->Nat}{W X x r:Nat}(P:g W=W)(O:g X=X)(h:Rt g x r):Rt (uc g W X) x (if r=W then X else r):=by
 induction h with
 |here R=>
  rename_i k;by_cases V:k=W;subst V;rw[aH rfl];by_cases Q:X=k;subst Q;exact .here (by simp[uc]);have e:uc g k X k=X:=by simp[uc]
  refine .up (by rw[e];exact Q) ?_;rw[e];exact .here (by simp[uc,Q,O]);rw[aJ V];exact .here (by simp[uc,V,R])
 |up R M N=>
  rename_i k r;have V:k≠W:=λe=>R (by rw[e];exact P)
  have e:uc g W X k=g k:=by simp[uc,V]
  refine .up (by rw[e];exact R) ?_;rw[e];exact N
def Jm(g:Nat->Nat)(a b:Nat):Prop:=∃r,Rt g a r/\Rt g b r
def Jm.short{g X:Nat->Nat}{a b:Nat}(W:∀q,g q<=q)(h:∀q,X q=g q\/Rt g q (X q))(k:Jm g a b):Jm X a b:=by
 obtain⟨r,V,R⟩:=k;exact⟨r,V.short W h,R.short W h⟩
def Jm.join{g:Nat->Nat}{X W a b:Nat}(V:g X=X)(R:g W=W)(k:Jm g a b):Jm (uc g X W) a b:=by
 obtain⟨r,Q,P⟩:=k;exact⟨_,Q.join V R,P.join V R⟩
def gQ(m:av)(q:Nat):Nat:=(aI 0 (m.getD q [])).toNat
def at0{m:av}{k:Nat}{x:aE}(W:k<Y m):gQ (m.set k x)=uc (gQ m) k (aI 0 x).toNat:=by
 funext q;simp only[gQ,uc,di];by_cases X:q=k;subst X;rw[aH rfl,ack W];rfl;rw[aJ X,AJ (Ne.symm X)]
def L9{m:av}(h:my m=J)(q:Nat):gQ m q<=q:=by
 unfold gQ;by_cases X:q<Y m;have:=Hl h X;omega;rw[di,uk ae];show(0:Int).toNat<=q;simp
def at1{m:av}(h:my m=J):∀(n:Nat)(i:Int),0<=i->i<Y m->gQ (td n i m)=Jl n i.toNat (gQ m)
 |0,_,_,_=>rfl
 |n+1,i,W,V=>by
  obtain⟨R,O,Q⟩:=ad9 h W V;have P:=at1 h n _ R Q;have e:gQ m i.toNat=(aI 0 (m.getD i.toNat [])).toNat:=rfl;simp only[td,Jl];by_cases X:aI 0 (m.getD i.toNat [])=i;rw[aH X,aH (by rw[e,X])];rw[aJ X,aJ (by rw[e];omega),at0 (by rw[WU];omega),e,<-P];rfl
def ajT{m:av}(h:∀k<Y m,0<=aI 0 (m.getD k [])/\aI 0 (m.getD k [])<=k):my m=true:=by
 refine gC.2 λk X=> ?_
 simp only[aC,dq];exact h k (rO.1 X)
def U0{m:av}(h:my m=J)(k:Nat)(X:k<Y m):aI 0 (m.getD k [])=(gQ m k:Int):=by
 have:=Hl h X;unfold gQ;omega
def aDb{m X:av}(h:my m=J)(R:∀x∈X,x∈m)(Q:∀q,gQ X q<=q):my X=true:=by
 refine ajT λk P=> ?_
 have O:X.getD k []∈X:=axW P _;obtain⟨p,V⟩:=sP (R _ O);have N:p<Y m:=(du.1 V).1;have W:=(Hl h N).1;rw[di,V] at W;have W:0<=aI 0 (X.getD k []):=W;have:=Q k;unfold gQ at this;omega
def aDc{m:av}(h:my m=J)(N:Y m<=1099511627776){i:Int}(R:0<=i)(Q:i<Y m):∃X,xB i m=U X/\Y X=Y m/\my X=J/\(∀q,gQ X q=gQ m q\/Rt (gQ m) q (gQ X q))/\Rt (gQ m) i.toNat (gQ X i.toNat):=by
 obtain⟨X,W⟩:∃X,xB i m=U X:=⟨td (Y m) i m,by unfold xB;rw[aH (by simp[N,R,Q,h])]⟩;obtain⟨-,-,-,-,e⟩:=Sm W;have P:=at1 h (Y m) i R Q;rw[<-e] at P;obtain⟨O,V⟩:=atZ (L9 h) (Y m) i.toNat ae;rw[<-P] at O V;exact⟨X,W,aea W,aDb h (WV W) (aDa (L9 h) V),V,O⟩
def w6(M:Nat->Nat->Prop):Nat->Nat->Nat->Prop
 |0,i,j=>i=j|r+1,i,j=>i=j\/∃k,(M i k\/M k i)/\w6 M r k j
def Cn(M:Nat->Nat->Prop)(i j:Nat):Prop:=∃r,w6 M r i j
section
variable{M:Nat->Nat->Prop}
def w6.succ{r:Nat}:∀{i j:Nat},w6 M r i j->w6 M (r+1) i j:=by
 induction r with
 |zero=>intro i j h;exact .inl h
 |succ r X=>
  intro i j h;rcases h with h|⟨k,e,h⟩;exact .inl h;exact .inr ⟨k,e,X h⟩
def w6.mono{r X:Nat}(h:r<=X){i j:Nat}(k:w6 M r i j):w6 M X i j:=by
 induction h with|refl=>exact k|step _ W=>exact W.succ
def w6.trans{r:Nat}:∀{i j k s:Nat},w6 M r i j->w6 M s j k->w6 M (r+s) i k:=by
 induction r with
 |zero=>intro i j k s X W;cases X;rw[jp];exact W
 |succ r V=>
  intro i j k s X W;rcases X with X|⟨q,e,X⟩;subst X;exact W.mono ae;rw[Nat.add_right_comm];exact .inr ⟨q,e,V X W⟩
def Cn.refl(i:Nat):Cn M i i:=⟨0,rfl⟩
def Cn.trans{i j k:Nat}(X:Cn M i j)(W:Cn M j k):Cn M i k:=by
 obtain⟨r,X⟩:=X;obtain⟨s,W⟩:=W;exact⟨_,X.trans W⟩
def Cn.one{i j:Nat}(h:M i j\/M j i):Cn M i j:=⟨1,.inr ⟨j,h,rfl⟩⟩
def w6.symm{r:Nat}:∀{i j:Nat},w6 M r i j->Cn M j i:=by
 induction r with
 |zero=>intro i j h;cases h;exact Cn.refl _
 |succ r X=>
  intro i j h;rcases h with h|⟨k,e,h⟩;subst h;exact Cn.refl _;exact(X h).trans (Cn.one e.symm)
def Cn.symm{i j:Nat}(h:Cn M i j):Cn M j i:=by
 obtain⟨r,h⟩:=h;exact h.symm
open Classical in
open Classical in
end
section
variable[Inhabited cm]
def U4(v:av)(a b:Nat):Prop:=∃x∈v,(aI 0 x).toNat=a/\(aI 1 x).toNat=b
def ajU{X:Nat->Nat->Prop}{g:Nat->Nat}{n:Nat}(W:∀q,g q<=q)(h:∀q<n,Cn X q (g q)){k r:Nat}(V:Rt g k r):k<n->Cn X k r:=by
 induction V with
 |here _=>exact λ_=>Cn.refl _
 |up _ _ R=>
  rename_i k r _ _;exact λQ=>(h k Q).trans (R (by have:=W k;omega))
def ajV{X:Nat->Nat->Prop}{g W:Nat->Nat}{n:Nat}(R:∀q,g q<=q)(h:∀q<n,Cn X q (g q))(s:∀q,W q=g q\/Rt g q (W q)):∀q<n,Cn X q (W q):=λq V=>by
 rcases s q with e|e;rw[e];exact h q V;exact ajU R h e V
structure aDd(n:Nat)(v m:av):Prop where
 len:Y m=n
 ok:my m=J
 pr:∀x∈v,aI 0 (m.getD (aI 0 x).toNat [])=aI 0 (m.getD (aI 1 x).toNat [])
 cn:∀q<n,Cn (U4 v) q (gQ m q)
def R63(n:Nat)(v:av)(e:Int)(o:aX):Prop:=(e≠0/\o=.ret [.r (ao []),.i e])\/(e=0/\∃m,o=.ret [.r (ao m),.i 0]/\aDd n v m)
def aDf(m:av)(k:Nat)(x:Int)(W:k<Y m)(R:∀X∈m,Y X=1):(m.modify k λX=>ge X 0 [iV x])=m.set k [iV x]:=by
 apply kX;intro q;rw[acn,yU];by_cases V:k=q;subst V;rw[aH rfl,aH W,dv W];have:=R _ (sQ W);generalize m[k]=X at this
 match X,this with|[c],_=>simp[ge]
 rw[aJ V];simp[V]
def aDg{m:av}{i:Nat}(h:my m=J)(W:Y m=i):my (m++[[iV i]])=true:=by
 refine ajT λk V=> ?_
 simp only[fT,Vy] at V;rw[di];by_cases X:k<Y m;rw[fO X,<-di];exact Hl h X;have:k=Y m:=ae;subst this;rw[jo (cd _)];simp[aI,bn,iV,W]
def aDh{m:av}{i:Nat}(X:Y m=i)(h:∀q<i,gQ m q=q):∀q<i+1,gQ (m++[[iV i]]) q=q:=λq W=>by
 simp only[gQ,di];by_cases e:q=i;subst e;rw[jo ae];simp[X,aI,bn,iV];rw[fO ae,<-di];exact h q ae
def aDi{m:av}{x:RV}(h:∀W∈m,Y W=1):∀W∈m++[[x]],Y W=1:=λW X=>by
 rcases fc.1 X with X|X;exact h W X;simp at X;subst X;rfl
def ajW{f g:FuncId}{R:aX->Prop}{O:aj}{L:ck}{t:T}{m:av}{r:RE}{e:TypeId}{P:bo}{i:K}(N:r.rv O=ao m){a:Int}(M:i.ai O=a)(H:∀W∈m,Y W=1)(h:my m=J)(y:Y m<=1000)(G:0<=a)(F:a<Y m)
  (k:∀X,Y X=Y m->(∀W∈X,Y W=1)->my X=J->(∀q,gQ X q=gQ m q\/Rt (gQ m) q (gQ X q))->Rt (gQ m) a.toNat (gQ X a.toNat)->t.wp TB.Ev R (O.add (.r (ao X))) L):
  T.wp TB.Ev R (.eG f g e (.dE 0 (.lex [] E) [i]) J r P t) O L:=by
 obtain⟨X,V,Q,D,B,A⟩:=aDc h ae G F;rw[aBd,N];refine⟨X, ?_, ?_⟩;show xB (i.ai O) m=U X;rw[M];exact V;have:=k X Q (λW z=>H W (WV V W z)) D B A;have e:(RV.mk (ao m).val X)=ao X:=by
  simp only[ao,RV.pe,Q]
 rw[e];exact this
def t63(h:dU)(ap:Int){v:av}{e:Int}(al:TB.Ev 71 (wk++[.i ap]) (.ret [.r (ao v),.i e]))(hv:∀x∈v,0<=aI 0 x/\aI 0 x<aI 1 x/\aI 1 x<Y ay.ah)(br:Y v<=4096)(hn:Y ay.ah<=1000):
  ∃o,TB.Ev 44 (wk++[.i ap]) o/\R63 (Y ay.ah) v e o:=by
 refine eL ?_;simp only[wk,cG,cX] at al;simp[T63,wk,aY al];refine aU (λd=> ?_) (λd=>.inl ⟨d,rfl⟩);subst d;have an:Y ay.ah<=140737488355328:=ae;have ba:Y v<=140737488355328:=ae;refine bQ (Y ay.ah) (λi D=>∃m,D=[.r (ao m)]/\Y m=i/\(∀L∈m,Y L=1)/\my m=J/\∀q<i,gQ m q=q) ⟨0,rfl,ae,[],rfl,rfl,aw,rfl,ae⟩ ?_;rintro i _ hi ⟨m0,rfl,H,B,G,a0⟩;simp[h.rl.len];refine aU (λhi=> ?_) (λbs=> ?_);simp[bD hi an];exact⟨ae,_,rfl,bS,aDi B,aDg G H,aDh H a0⟩;have bb:i=Y ay.ah:=ae;subst bb;refine bQ (Y v) (λj D=>∃m,D=[.r (ao m)]/\Y m=Y ay.ah/\(∀L∈m,Y L=1)/\my m=J/\(∀x∈v.take j,Jm (gQ m) (aI 0 x).toNat (aI 1 x).toNat)/\∀q<Y ay.ah,Cn (U4 v) q (gQ m q)) ⟨0,rfl,ae,m0,rfl,H,B,G,aw,λq p=>by rw[a0 q p];exact Cn.refl _⟩ ?_;rintro j _ M ⟨m,rfl,H,B,G,c,hc⟩;simp;refine aU (λM=> ?_) (λbt=> ?_);simp[M];obtain⟨va,bc,vb⟩:=hv _ (sQ M);have ea:bn (aQ v (j:Int) 0).val=aI 0 v[j]:=by simp[aQ,aI,M]
 have eb:bn (aQ v (j:Int) 1).val=aI 1 v[j]:=by simp[aQ,aI,M]
 refine ajW (m:=m) rfl ea B G ae ae ae ?_;intro F l1 b A R n;refine ajW (m:=F) rfl eb b A ae ae ae ?_;intro Q l2 r2 a l a2;simp[bD M ba];have na:bn (aQ F (bn (aQ v (j:Int) 0).val) 0).val=((gQ F (aI 0 v[j]).toNat:Nat):Int):=by rw[ea];exact U0 A _ ae
 have nb:bn (aQ Q (bn (aQ v (j:Int) 1).val) 0).val=((gQ Q (aI 1 v[j]).toNat:Nat):Int):=by rw[eb];exact U0 a _ ae
 simp only[na,nb];have N:=L9 G;have g:=L9 A;have f:=L9 a;have aa:=ajV g (ajV N hc R) l;have bd:Cn (U4 v) (aI 0 v[j]).toNat (aI 1 v[j]).toNat:=Cn.one (.inl ⟨_,sQ M,rfl,rfl⟩);have y:=(n.short N R).short g l;have w:=a2.short g l;have fa:=y.fix;have fb:=w.fix;have la:=y.le f;have lb:=w.le f;have cA:=ajU f aa y ae;have cB:=ajU f aa w ae;generalize gQ F (aI 0 v[j]).toNat=P at y fa la cA⊢;generalize gQ Q (aI 1 v[j]).toNat=O at w fb lb cB⊢;obtain⟨X,ab⟩:∃X:Nat,X=max P O:=⟨_,rfl⟩;obtain⟨W,ac⟩:∃W:Nat,W=min P O:=⟨_,rfl⟩;have e1:max (P:Int) (O:Int)=(X:Int):=ae;have e2:min (P:Int) (O:Int)=(W:Int):=ae;rw[e1,e2];have af:X<Y Q:=ae;have fx:gQ Q X=X:=by rcases awz P O with q|q<;>simp only[ab,Nat.max_eq_left,Nat.max_eq_right,q]<;>assumption
 have fn:gQ Q W=W:=by rcases awz P O with q|q<;>simp only[ac,Ms,ak8,q]<;>assumption
 have ek:gQ (Q.set X [iV (W:Int)])=uc (gQ Q) X W:=by rw[at0 af];rfl
 refine⟨ae,Q.set X [iV (W:Int)], ?_,bS,λL u=> ?_, ?_,λx V=> ?_,λq p=> ?_⟩;rw[<-aDf Q X W af r2];rfl;rcases Mo u with u|u;exact r2 L u;subst u;rfl;refine ajT λk t=> ?_
 rw[awl] at t;rw[di];by_cases a3:k=X;subst a3;rw[ack af];show(0:Int)<=(W:Int)/\(W:Int)<=(k:Int);omega;rw[AJ (Ne.symm a3),<-di];exact Hl a t;rw[ek];rw[awd,dv M] at V;rcases fc.1 V with V|V;exact(((c x V).short N R).short g l).join fx fn;simp at V;subst V;refine⟨W, ?_, ?_⟩;have:=y.join fx fn;by_cases q:P=X
 rwa [aH q] at this
 rw[aJ q] at this;have:P=W:=ae;subst this;assumption;have:=w.join fx fn;by_cases q:O=X
 rwa [aH q] at this
 rw[aJ q] at this;have:O=W:=ae;subst this;assumption;rw[ek];simp only[uc];have cR:Cn (U4 v) P O:=(cA.symm.trans bd).trans cB;by_cases e:q=X;rw[aH e,e];rcases awz P O with z|z;rw[ab,ac,Nat.max_eq_right z,Ms z];exact cR.symm;rw[ab,ac,Nat.max_eq_left z,ak8 z];exact cR;rw[aJ e];exact aa q p;have bf:j=Y v:=ae;subst bf;rw[List.take_length] at c;refine bQ (Y ay.ah) (λk D=>∃m,D=[.r (ao m)]/\Y m=Y ay.ah/\(∀L∈m,Y L=1)/\my m=J/\(∀x∈v,Jm (gQ m) (aI 0 x).toNat (aI 1 x).toNat)/\(∀q<Y ay.ah,Cn (U4 v) q (gQ m q))/\∀q<k,Rt (gQ m) q (gQ m q)) ⟨0,rfl,ae,m,rfl,H,B,G,c,hc,aw⟩ ?_;rintro k _ t ⟨m',rfl,bg,bk,s,a4,a9,ag⟩;simp[H];refine aU (λt=> ?_) (λbx=> ?_);refine ajW (m:=m') rfl rfl bk s ae aw bS ?_;intro F l1 b A R n;have N:=L9 s;simp[bD t an] at n⊢;refine⟨F,rfl,ae,b,A,λx V=>(a4 x V).short N R,ajV N a9 R,λq p=> ?_⟩;by_cases bl:q=k;subst bl;exact n.short N R;have:=ag q ae;rcases R q with e|e;rw[e];exact this.short N R;exact e.short N R;refine .inr ⟨rfl,m',rfl,bg,s,λx V=> ?_,a9⟩;obtain⟨va,bc,vb⟩:=hv x V;obtain⟨r,q1,q2⟩:=a4 x V;rw[U0 s _ ae,U0 s _ ae,(ag _ ae).abI q1,(ag _ ae).abI q2]
end
section
variable{R:aX->Prop}{G:aN}{t:T}{O:aj}{L:ck}
variable[Inhabited cm]
end
def at2{X:Type}(n i:Nat)(f V:Nat->X)(g:X->X)(h:∀k<n,V k=if k=i then g (f k) else f k):((dj n).map f).modify i g=(dj n).map V:=by
 apply kX;intro q;rw[acn];simp only[ep];by_cases W:q<n;rw[Ep W];simp only[ga,h q W];by_cases e:i=q;subst e;simp;rw[aJ (Ne.symm e)];simp[e];rw[uk (by simpa using QY W)];simp
section
open Classical in
section
variable{m:av}{a b d:RV}{n:Nat}
end
section
variable[Inhabited cm]
end
end
section
variable{R:aX->Prop}{G:aN}{t:T}{O:aj}{L:ck}

variable[Inhabited cm]
variable{a c d g b:RV}
end
section
variable{R:aX->Prop}{G:aN}{t:T}{O:aj}{L:ck}
variable[Inhabited cm]
variable{a c d g e:RV}
def QF(b:RV)(i:Nat):RV:=cJ (.sl 4) (aQ b.ah i 0)
def B7(b:RV)(i:Nat):RV:=cJ (.sl 101) (aQ b.ah i 1)
structure abJ(mv re:RV):Prop where
 lm:Y mv.ah=Y ay.ah
 lr:Y re.ah=Y ay.ah
 few:∀i<Y ay.ah,(cr 96 re i).ah.length<=Y dh.ah
structure ajX(g:RV):Prop where
 len:(Y g.ah:Int)=eV
 B6:∀k<Y g.ah,∀i<(cr 100 g k).ah.length,abJ (QF (cr 100 g k) i) (B7 (cr 100 g k) i)
structure CsQ(c d:RV):Prop where
 len:∀i<Y d.ah,(cr 3 d i).ah.length=Y ay.ah
 idx:∀i<Y d.ah,∀j<(cr 3 d i).ah.length,0<=ci (cr 3 d i) j 0/\ci (cr 3 d i) j 0<Y c.ah
structure mQ(a c d g e:RV):Prop where
 wk:jY=0
 qf:Mny a c d g
 aG:CsQ c d
 B8:ajX g
 g15:TB.Ev 26 (bH a c d g e) (.ret [.i 0])
end
section
variable{R:aX->Prop}{G:aN}{t:T}{O:aj}{L:ck}
def Ed{c:Prop}[Decidable c]{a b:Prop}(h:c)(k:a):if c then a else b:=by rw[aH h];exact k
def Jn{c:Prop}[Decidable c]{a b:Prop}(h:¬c)(k:b):if c then a else b:=by rw[aJ h];exact k
variable[Inhabited cm]
variable{d e f g i:RV}
end
section
variable{R:aX->Prop}{G:aN}{t:T}{O:aj}{L:ck}
variable[Inhabited cm]
variable{l u d g w c a k:RV}{aG:Int}{cl:Bool}
def x63(h:dU)(W:jY=0)(V:Y ay.ah<=1000)(ap:Int)(Q:jf ap 0 (eV-1)=J):∃o,TB.Ev 44 (wk++[.i ap]) o/\∃m,o=.ret [.r (ao m),.i 0]/\Y m=Y ay.ah/\my m=true:=by
 obtain⟨o,P,v,e,rfl,N,M,H⟩:=aC8 h ap;obtain⟨o,G,F⟩:=t63 h ap P M N V;rcases F with⟨D,-⟩|⟨-,m,rfl,X⟩;exact bB (H W Q) D;exact⟨_,G,m,rfl,X.len,X.ok⟩
def abK(h:dU)(s:jR l u d g w)(p:mQ l u d g w)(N:Sl c)(M:Sl a)(H:Sl k)(aa:∀i<Y a.ah,Sl (cr 108 a i))(f:kw d g c a k aG):TB.Ev 15 (bH l u d g w++[.r c,.i aG,.r a,.r k,.b cl]) (.ret [.i 0]):=by
 have o:=p.g15;have lc:=f.calls;have c0:=f.cast;have lk:=f.Ay;have lo:=f.D9;refine evo rfl rfl (.inr λv=>nofun) ?_;simp only[wk,bH,cG,cX] at o;simp[aaZ,bH,wk,aY o,N.len,M.len,H.len,s.sr.len,s.sc.len,h.rl.len];refine⟨ae,ae,ae,ae,ae, ?_⟩;refine bQ (Y c.ah) (λn W=>W=[]) ⟨0,rfl,ae,rfl⟩ ?_;rintro i _ hi rfl;simp[N.len,s.sr.len];refine aU (λD=> ?_) (λm=> ?_);have e:=(s.Aw i ae).len;have e2:=f.call i D;simp only[cr,ci] at e e2;simp only[e];refine⟨D,ae,ae,ae, ?_⟩;rw[bD D N.sm];refine bQ (Y a.ah) (λn W=>W=[]) ⟨0,rfl,ae,rfl⟩ ?_;rintro j _ hj rfl;simp[N.len,M.len,H.len];intro Q;have G:=aa j Q;have F:=G.len;have X:=f.Gv j Q;obtain⟨V,hV⟩:∃V,cr 108 a j=V:=⟨_,rfl⟩;have B:cJ (.sl 108) (aQ a.ah j 0)=V:=hV;obtain⟨k1,k2,A,k4,z,k6⟩:=X;rw[hV] at G F k1 k2 A k4 z;simp only[B,F];refine⟨Q, ?_⟩;by_cases h1:Y V.ah=1;have h0:ci k j 0=0:=Classical.byContradiction λq=>by have:=A.2 q;omega
 simp only[ci] at h0;refine Ed ae ⟨ae,Ed h0 ?_⟩;refine bQ (Y V.ah) (λn W=>W=[]) ⟨0,rfl,ae,rfl⟩ ?_;rintro q _ hq rfl;simp[N.len,M.len,H.len,B,F,Q];refine aU (λP=> ?_) (λm=> ?_);have e:=z q P;simp only[QE,ci] at e;simp[P,e,bD P G.sm];refine⟨ae,Ed ae ?_⟩;rw[bD Q M.sm];have h2:Y V.ah=2:=ae;have o0:=A.1 h2;obtain⟨y,x,b3⟩:=k6 o0;have ne:=k4 h2;simp only[ci] at o0 y x b3 ne;refine Jn ae ⟨ae,ae,ae, ?_⟩;refine⟨λz0 z1 z2 z3 z4 z5 z6 z7 z8 z9 za zb zc=> ?_, ?_⟩
 ·obtain⟨q,hq,ab⟩:=ne;have:q=0\/q=1\/q=2\/q=3\/q=4\/q=5\/q=6\/q=7\/q=8\/q=9\/q=10\/q=11\/q=12:=ae;rcases this with rfl|rfl|rfl|rfl|rfl|rfl|rfl|rfl|rfl|rfl|rfl|rfl|rfl
  all_goals exact ab mh
 refine bQ (Y V.ah) (λn W=>W=[]) ⟨0,rfl,ae,rfl⟩ ?_;rintro q _ hq rfl;simp[N.len,M.len,H.len,B,F,Q];refine aU (λP=> ?_) (λm=> ?_);have e:=z q P;simp only[QE,ci] at e;simp[P,e,bD P G.sm];refine⟨ae,Jn ae ?_⟩;refine⟨y,x,⟨y,x⟩,b3, ?_⟩;rw[bD Q M.sm]
end
section
variable{R:aX->Prop}{G:aN}{t:T}{O:aj}{L:ck}
variable[Inhabited cm]
variable{v x m n y a k c:RV}{aG u l d:Int}{cl:Bool}
def U5(a c:RV)(u l d:Int):Prop:=(0<=u/\u<Y c.ah)/\(0<=l/\l<Y a.ah)/\bn (aQ a.ah l 0).val≠0/\0<=d/\d<=8
def Ee(a c:RV)(u:Nat)(l d:Int):Prop:=ci c u 0=1+l/\(d=0\/d=bn (aQ a.ah l 0).val)
def dw(V:RV)(q:Nat):RV:=ao [[.mk (.int I (ci V q 0)) [],.mk (.int I (ci V q 1)) [],.mk (.int I (ci V q 2)) [],.mk (.int I (ci V q 3)) [],.mk (.int I (ci V q 4)) [],.mk (.int I (ci V q 5)) [],.mk (.int I (ci V q 6)) [],.mk (.int I (ci V q 7)) [],.mk (.int I (ci V q 8)) [],.mk (.int I (ci V q 9)) [],.mk (.int I (ci V q 10)) [],.mk (.int I (ci V q 11)) [],.mk (.int I (ci V q 12)) []]]
open Classical in
noncomputable def sJ(a k c:RV)(r:Nat)(l d:Int):av:=if Ee a c r l d then k.ah.modify r λX=>ge X 0 [dw (cr 108 k r) (if d=0 then 0 else 1)] else k.ah
open Classical in
noncomputable def sK(a c:RV)(r:Nat)(l d:Int):av:=if Ee a c r l d then c.ah.modify r λX=>ge X 0 [.mk (.int I 0) []] else c.ah
def aDm{r b:Nat}(h:dU)(s:jR v x m n y)(p:mQ v x m n y)(H:Sl a)(G:Sl k)(F:Sl c)(D:∀i<Y k.ah,Sl (cr 108 k i))(f:kw m n a k c aG)(g:U5 a c r b d):TB.Ev 23 (bH v x m n y++[.r a,.i aG,.r k,.r c,.b cl,.i r,.i b,.i d]) (.ret [.r (ao a.ah),.i aG,.r (ao (sJ a k c r b d)),.r (ao (sK a c r b d)),.b cl,.i 0]):=by
 obtain⟨P,B⟩:∃P:aX->Prop,∀o,P o<->o=.ret [.r (ao a.ah),.i aG,.r (ao (sJ a k c r b d)),.r (ao (sK a c r b d)),.b cl,.i 0]:=⟨_,λ_=>Iff.rfl⟩
 suffices af:∃o,TB.Ev 23 (bH v x m n y++[.r a,.i aG,.r k,.r c,.b cl,.i r,.i b,.i d]) o/\P o by
  obtain⟨o,A,g2⟩:=af;rw[(B o).1 g2] at A;exact A
 have u:=abK (cl:=cl) h s p H G F D f;have lc:=f.calls;have c0:=f.cast;have q:=f.Ay;have l:=f.D9;have m5:=p.qf.bars;have m2:=p.qf.rl;have lO:=p.B8.len;obtain⟨⟨r0,Q⟩,⟨b0,j⟩,c1,p0,p1⟩:=g;refine eL ?_;simp only[wk,bH,cG,cX] at u;have a1:¬(r:Int)<0:=ae;have a2:¬(Y c.ah:Int)<=r:=ae;have a3:¬(b:Int)<0:=ae;have a4:¬(Y a.ah:Int)<=b:=ae;have a5:¬d<0:=ae;have a6:¬8<d:=ae;have a7:¬a.ah=[]:=λe=>by rw[e] at j;simp at j;omega
 have a8:¬c.ah=[]:=λe=>by rw[e] at Q;simp at Q;omega
 have a9:¬k.ah=[]:=λe=>by rw[e] at q;rw[<-q] at l;rw[l] at Q;simp at Q;omega
 have aa:r<Y c.ah:=ae;have ab:b<Y a.ah:=ae;have M:r<Y k.ah:=ae;have e1:be .add I 1 (b:Int)=1+b:=by simp only[be];exact iW ae ae
 have N:∀X O,X=sJ a k c r b d->O=sK a c r b d->P (.ret [.r (ao a.ah),.i aG,.r (ao X),.r (ao O),.b cl,.i 0]):=λX O hK hO=>(B _).2 (by rw[hK,hO])
 have X:=f.Gv r M;have eS:=(D r M).len;have two:bn (aQ c.ah (r:Int) 0).val=1+(b:Int)->(cr 108 k r).ah.length=2:=λe=>X.opn.2 (by simp only[ci];omega)
 simp only[cr] at eS two;simp[aje,bH,wk,aY u,H.len,G.len,F.len,s.sr.len,s.sc.len,h.rl.len,Gm,a1,a2,a3,a4,a5,a6,a7,a8,a9,aa,ab,M,c1,e1,eS];refine⟨ae,ae,ae,aU (λz=>aU (λW=>⟨by have:=two z;omega,N _ _ ?_ ?_⟩) (λW=>aU (λV=>⟨by have:=two z;omega,N _ _ ?_ ?_⟩) (λV=>N _ _ ?_ ?_))) (λz=>N _ _ ?_ ?_)⟩;rw[sJ,aH ⟨z,.inl W⟩,aH W];rfl;rw[sK,aH ⟨z,.inl W⟩];rw[sJ,aH ⟨z,.inr V⟩,aJ W];rfl;rw[sK,aH ⟨z,.inr V⟩];rw[sJ,aJ λw=>w.2.elim W V];rw[sK,aJ λw=>w.2.elim W V];rw[sJ,aJ λw=>z w.1];rw[sK,aJ λw=>z w.1]
end
section
variable{R:aX->Prop}{G:aN}{t:T}{O:aj}{L:ck}
structure Dk(ca d a:RV):Prop where
 sc:Sl ca
 sk:Sl d
 so:Sl a
 kk:∀i<Y d.ah,Sl (cr 108 d i)
 k1:∀row∈d.ah,Y row=1
 o1:∀row∈a.ah,Y row=1
variable[Inhabited cm]
variable{ca d a:RV}{aG ba pr:Int}{m:Bool}{r:Nat}
def at4{M:av}{i k:Nat}{x:RV}(W:i<Y M)(V:∀X∈M,Y X=1):aQ (M.modify i λX=>ge X 0 [x]) (k:Int) 0=if k=i then x else aQ M (k:Int) 0:=by
 simp only[aQ,rN,di,acn];by_cases e:k=i;subst e;have:=V _ (sQ W);rw[aH rfl,dv W];generalize M[k]=X at this
 match X,this with|[c],_=>simp[ge]
 have Q:¬i=k:=λq=>e q.symm
 rw[aJ e];cases M[k]?<;>simp[Q]
def at5{M:av}{i:Nat}{x:RV}(h:∀W∈M,Y W=1):∀W∈(M.modify i λW=>ge W 0 [x]),Y W=1:=λW Q=>by
 obtain⟨q,X⟩:=sP Q;rw[acn] at X;cases V:M[q]? with
 |none=>rw[V] at X;cases X
 |some r=>
  rw[V] at X;have:=h r (jD V);by_cases e:i=q;simp[e] at X;subst X
  match r,this with|[c],_=>rfl
  simp[e] at X;subst X;exact this
def abL:(sJ ca d a r ba pr).length=Y d.ah:=by
 unfold sJ;split<;>simp
def ajZ:(sK ca a r ba pr).length=Y a.ah:=by
 unfold sK;split<;>simp
open Classical in
def aDn(D:Dk ca d a)(X:r<Y a.ah)(k:Nat):ci (ao (sK ca a r ba pr)) k 0=if Ee ca a r ba pr/\k=r then 0 else ci a k 0:=by
 show bn (aQ (sK ca a r ba pr) (k:Int) 0).val=_;unfold sK;by_cases z:Ee ca a r ba pr;rw[aH z,at4 X D.o1];by_cases e:k=r;rw[aH e,aH ⟨z,e⟩];rfl;rw[aJ e,aJ λw=>e w.2];rfl;rw[aJ z,aJ λw=>z w.1];rfl
open Classical in
def at6(D:Dk ca d a)(X:r<Y d.ah)(k:Nat):cr 108 (ao (sJ ca d a r ba pr)) k=if Ee ca a r ba pr/\k=r then dw (cr 108 d r) (if pr=0 then 0 else 1) else cr 108 d k:=by
 show cJ (.sl 108) (aQ (sJ ca d a r ba pr) (k:Int) 0)=_;unfold sJ;by_cases z:Ee ca a r ba pr;rw[aH z,at4 X D.k1];by_cases e:k=r;rw[aH e,aH (c:=Ee ca a r ba pr/\k=r) ⟨z,e⟩];rfl;rw[aJ e,aJ (c:=Ee ca a r ba pr/\k=r) λw=>e w.2];rfl;rw[aJ z,aJ (c:=Ee ca a r ba pr/\k=r) λw=>z w.1];rfl
def yJ(V:RV)(q:Nat):∀j<13,ci (dw V q) 0 j=ci V q j:=λj X=>by
 have:j=0\/j=1\/j=2\/j=3\/j=4\/j=5\/j=6\/j=7\/j=8\/j=9\/j=10\/j=11\/j=12:=ae;rcases this with rfl|rfl|rfl|rfl|rfl|rfl|rfl|rfl|rfl|rfl|rfl|rfl|rfl<;>rfl
def aDo(D:Dk ca d a)(W:r<Y d.ah):Dk (ao ca.ah) (ao (sJ ca d a r ba pr)) (ao (sK ca a r ba pr)):=by
 refine⟨lJ D.sc.sm,lJ (by rw[abL];exact D.sk.sm),lJ (by rw[ajZ];exact D.so.sm),λi V=> ?_, ?_, ?_⟩;rw[at6 D W];split;exact lJ aw;exact D.kk i (by simpa[ao,abL] using V);show∀X∈sJ ca d a r ba pr,Y X=1;unfold sJ;split;exact at5 D.k1;exact D.k1;show∀X∈sK ca a r ba pr,Y X=1;unfold sK;split;exact at5 D.o1;exact D.o1
variable{n o g l p:RV}
def aDp{b:Nat}(D:Dk ca d a)(f:kw g l ca d a aG)(P:r<Y d.ah):kw g l (ao ca.ah) (ao (sJ ca d a r b pr)) (ao (sK ca a r b pr)) aG:=by
 have M:r<Y a.ah:=by rw[f.D9,<-f.Ay];exact P
 refine⟨f.calls,f.cast,by simp only[ao,RV.mX,abL];exact f.Ay,by simp only[ao,RV.mX,ajZ];exact f.D9,f.call,λi Q=> ?_⟩;have Q:i<Y d.ah:=by simpa only[ao,RV.mX,abL] using Q
 have X:=f.Gv i Q;have W:=at6 (ca:=ca) (ba:=b) (pr:=pr) D P i;have V:=aDn (ca:=ca) (ba:=b) (pr:=pr) D M i;by_cases z:Ee ca a r b pr/\i=r;rw[aH z] at W V;obtain⟨H,rfl⟩:=z;have F:(cr 108 d i).ah.length=2:=X.opn.2 (by have:=H.1;omega);refine⟨by rw[W];simp[dw,ao],by rw[W];simp[dw,ao],by rw[W,V];simp[dw,ao],by rw[W];simp[dw,ao],λq N=> ?_,λh=>bB V h⟩;rw[W] at N⊢;have G:q=0:=by simp[dw,ao] at N;omega
 subst G;have c:=X.gw (if pr=0 then 0 else 1) (by split<;>omega);simp only[QE] at c⊢;simp only[yJ _ _ _ (show 0<13 from ae),yJ _ _ _ (show 1<13 from ae),yJ _ _ _ (show 2<13 from ae),yJ _ _ _ (show 3<13 from ae),yJ _ _ _ (show 4<13 from ae),yJ _ _ _ (show 5<13 from ae),yJ _ _ _ (show 6<13 from ae),yJ _ _ _ (show 7<13 from ae),yJ _ _ _ (show 8<13 from ae),yJ _ _ _ (show 9<13 from ae),yJ _ _ _ (show 10<13 from ae),yJ _ _ _ (show 11<13 from ae),yJ _ _ _ (show 12<13 from ae)];exact c;rw[aJ z] at W V;refine⟨by rw[W];exact X.one,by rw[W];exact X.two,by rw[W,V];exact X.opn,by rw[W];exact X.ne,by rw[W];exact X.gw,by rw[V];exact X.ap⟩
end
section
variable{R:aX->Prop}{G:aN}{t:T}{O:aj}{L:ck}
variable[Inhabited cm]
variable{a c d e f ca h op:RV}{aG:Int}{k:Bool}
def aDq{O:av}{r b:Nat}{X:Int}(W:(ao O).ah.length=Y op.ah)(g:U5 ca op r b X):U5 (ao ca.ah) (ao O) r b X:=by
 unfold U5;rw[W];exact g
end
section
variable{R:aX->Prop}{P:aN}{t:T}{O σ:aj}{L:ck}
def jB(O σ:aj):Prop:=(∃a,σ.i=O.i++a)/\∃b,σ.r=O.r++b
def jB.refl:jB O O:=⟨⟨[],aw⟩,[],aw⟩
def jB.trans{X:aj}(h:jB O σ)(k:jB σ X):jB O X:=by
 obtain⟨⟨a,W⟩,b,V⟩:=h;obtain⟨⟨c,Q⟩,d,P⟩:=k;exact⟨⟨a++c,by rw[Q,W,Ci]⟩,b++d,by rw[P,V,Ci]⟩
theorem jB.add(x:XV):jB O (O.add x):=by
 cases x;exact⟨⟨_,rfl⟩,[],aw⟩;exact⟨⟨[],aw⟩,[],aw⟩;exact⟨⟨[],aw⟩,_,rfl⟩
def jB.ext:∀(X:aZ)(O:aj),jB O (O.ext X)
 |[],_=>.refl|x::X,O=>(jB.add x).trans (jB.ext X (O.add x))
def jB.iv(h:jB O σ){k:Nat}(X:k<Y O.i):σ.i.getD k 0=O.i.getD k 0:=by
 obtain⟨⟨a,W⟩,_⟩:=h
 grind
theorem jB.rv(h:jB O σ){k:Nat}(X:k<Y O.r):σ.rv k=O.rv k:=by
 obtain⟨_,b,W⟩:=h
 grind [aj.rv]
def aDr{v:RV}{l:aE}{k:Nat}(h:O.r=l++[v])(X:Y l=k):O.rv k=v:=by
 grind [aj.rv]
def Gx{v:RV}{k:Nat}(X:Y O.r=k):(O.add (.r v)).rv k=v:=aDr rfl X
def aj0:∀(n:Nat)(t:T),T.wp TB.Ev R (UH n t) O L=T.wp TB.Ev R t O L
 |0,_=>rfl|n+1,t=>by rw[UH,yG,aj0 n t];simp
def md(V:RV)(i:Nat):aE:=(dj 13).map λq=>.mk (.int I (ci V i q)) []
def iY(X:aE):RV:=cJ (.sl 108) (X.getD 0 default)
def kH:av->List av
 |[]=>[[]]|X::W=>(dj (iY X).ah.length).flatMap λi=>(kH W).map (md (iY X) i::·)
def Ef(X:aE)(W:av)(i:Nat):List av:=(dj i).flatMap λi=>(kH W).map (md (iY X) i::·)
def U6(X:aE)(W:av)(i:Nat):Ef X W (i+1)=Ef X W i++(kH W).map (md (iY X) i::·):=by
 simp[Ef,ala]
def at7(X:aE)(W:av):kH (X::W)=Ef X W (iY X).ah.length:=rfl
def abM(W:aE)(X:av):∀i,(Ef W X i).length=i*(kH X).length
 |0=>by simp[Ef]|i+1=>by rw[U6,fT,abM W X i,oW,sT];omega
structure Lvl(d:Nat)(O:aj)(p:av)(S:RV):Prop where
 li:Y O.i=12+d
 lr:Y O.r=16+3*d
 lp:Y p=d
 prev:∀j<d,∀σ,jB O σ->(I2 j).map (C.cj σ)=p.getD j []
 db:O.rv (vj d)=S
def aj1(d:Nat):vj d<16+3*d:=by cases d<;>simp only[vj]<;>omega
def aDs{d:Nat}{S:RV}{i:Nat}(X:σ.rv (vj d)=S)(W:σ.i.getD (12+d) 0=(i:Int)):(I2 d).map (C.cj σ)=md (iY (S.ah.getD 0 [])) i:=by
 simp only[I2,md,oX];refine ky λq V=> ?_
 simp only[Function.comp,C.cj,K.ai,RE.rv,X,W,iY,ci];rfl
variable[Inhabited cm]
variable{g A D G H w re s:RV}{aG ap:Int}{f:av->aE}{o:av->Int}
structure QG(g A D G H w:RV)(aG ap:Int)(O:aj):Prop where
 a26:∀σ,jB O σ->(pN [(.agg (Qm++[(.ak (.v 5)),(.ak (.v 6)),(.ak (.v 7)),(.ak (.v 8)),(.ak (.v 9))])),(.int I (.v 6))]).map (C.xv σ)=bH g A D G H++[.i aG]
 pE:∀σ,jB O σ->∀u z y,(pN [(.agg Qm),(.agg [(.ak (.v 5))]),(.ak (.v u)),(.int I (.len (.v 10))),(.ak (.v 13)),(.ak (.v z)),(.ak (.v y))]).map (C.xv σ)=wk++[.r g,.r (σ.rv u),.i ap,.r w,.r (σ.rv z),.r (σ.rv y)]
def QG.mono(h:QG g A D G H w aG ap O)(k:jB O σ):QG g A D G H w aG ap σ:=⟨λX q=>h.a26 X (k.trans q),λX q=>h.pE X (k.trans q)⟩
structure QH(g s w re:RV)(ap:Int)(f:av->aE)(o:av->Int):Prop where
 ans:∀c:av,Y c<=64->∃b M F S V B,f c=[.mk (.int I b) [],M,F,S,V,B]/\TB.Ev 54 (wk++[.r g,.r s,.i ap,.r w,.r (ao c),.r re]) (.ret [.i b,.r M,.r F,.r S,.r V,.r B,.i (o c)])
def aDt{d:Nat}{c a:av}{i:Nat}(k:QG g A D G H w aG ap σ)(al:TB.Ev 55 (bH g A D G H++[.i aG]) (.ret [.r s]))(M:QH g s w re ap f o)(hc:Y c<=64)
  (li:Y σ.i=13+d)(y:Y σ.r=21+5*d)(hz:σ.rv (20+5*d)=ao c)(j:σ.rv (17+3*d)=re)(hA:σ.rv (16+3*d)=ao a)(hi:σ.i.getD (12+d) 0=(i:Int))(hl:Y a+1<=536870912)
  (hf:∀e,e≠0->R (.ret [.r (ao []),.i e]))(x:o c=0->I5 (Bm (2+d) L) [.i (be .add I (i:Int) 1),.r (ao (a++[f c])),.r re]):T.wp TB.Ev R (acT d) σ L:=by
 obtain⟨b,Q,F,S,V,B,ha,an⟩:=M.ans c hc;unfold acT;rw[ajs,k.a26 σ .refl,aY al,ajt];refine⟨rfl, ?_⟩;have P:jB σ (σ.add (.r s)):=.add _;show T.wp TB.Ev R _ (σ.add (.r s)) L;rw[ajs,k.pE _ P,Gx y,P.rv ae,P.rv ae,hz,j,aY an,ajt];refine⟨rfl, ?_⟩;generalize u:(σ.add (.r s)).ext [.i b,.r Q,.r F,.r S,.r V,.r B,.i (o c)]=X;have e2:jB (σ.add (.r s)) X:=u▸jB.ext _ _;have p:X.i=σ.i++[b,o c]:=by rw[<-u];simp[aj.ext,aj.add]
 have h:X.r=σ.r++[s,Q,F,S,V,B]:=by rw[<-u];simp[aj.ext,aj.add]
 have a0:X.i.getD (13+d) 0=b:=by rw[p];simp[di,<-li]
 have n:X.i.getD (14+d) 0=o c:=by rw[p,show 14+d=Y σ.i+1 from ae];simp[di]
 have W:∀q v,[s,Q,F,S,V,B][q]?=U v->X.rv (21+5*d+q)=v:=λq v hq=>by
  unfold aj.rv;rw[h,<-y];simp[di,jo,hq]
 have aa:=W 1 Q rfl;have ab:=W 2 F rfl;have ac:=W 3 S rfl;have af:=W 4 V rfl;have ag:=W 5 B rfl;rw[show 21+5*d+1=22+5*d from ae] at aa;rw[show 21+5*d+2=23+5*d from ae] at ab;rw[show 21+5*d+3=24+5*d from ae] at ac;rw[show 21+5*d+4=25+5*d from ae] at af;rw[show 21+5*d+5=26+5*d from ae] at ag;have m:Y X.r=27+5*d:=by rw[h];simp[y];omega
 have l:=P.trans e2;have rA:X.rv (16+3*d)=ao a:=(l.rv ae).trans hA;have rR:X.rv (17+3*d)=re:=(l.rv ae).trans j;have iI:X.i.getD (12+d) 0=(i:Int):=(l.iv ae).trans hi;rw[Qn];refine aU (λN=> ?_) (λhn=> ?_);have N:o c≠0:=by
  simp only[BE.ai,K.ai,n,fp] at N;simpa using N
 rw[aj0,UJ];show R (.ret [.r (ao []),.i (X.i.getD (14+d) 0)]);rw[n];exact hf (o c) N;have h0:o c=0:=by
  simp only[BE.ai,K.ai,n,fp] at hn;simpa using hn
 have x:=x h0;rw[yG];refine⟨rfl, ?_⟩;rw[I6];have n1:gu (.lit [[(.int I (.v (13+d))),(.ak (.v (22+5*d))),(.ak (.v (23+5*d))),(.ak (.v (24+5*d))),(.ak (.v (25+5*d))),(.ak (.v (26+5*d)))]]) X=ao [f c]:=by
  rw[LY];simp only[LE.ah,dH,oE,C.cj,K.ai,RE.rv,a0,aa,ab,ac,af,ag,ha]
 rw[n1];have z:jB X (X.add (.r (ao [f c]))):=.add _;rw[yG];refine⟨?_, ?_⟩;simp only[BE.ai,K.ai,RE.rv,z.rv (show 16+3*d<Y X.r from ae),rA,Gx m,Qq,fp];simp only[n9,Ck,aC,dq];omega;rw[I6];have n2:gu (.iC (.ak (.v (16+3*d))) (.ak (.v (27+5*d)))) (X.add (.r (ao [f c])))=ao (a++[f c]):=by
  rw[LY];simp only[LE.ah,RE.rv,z.rv (show 16+3*d<Y X.r from ae),rA,Gx m,nz]
 rw[n2,aj0,aju];have e5:jB (X.add (.r (ao [f c]))) ((X.add (.r (ao [f c]))).add (.r (ao (a++[f c])))):=.add _;have l5:(X.add (.r (ao [f c]))).r.length=28+5*d:=by simp[aj.add,m];omega
 simp only[dH,oE,C.xv,K.ai,RE.rv,Gx l5,(z.trans e5).rv (show 17+3*d<Y X.r from ae),rR];rw[(z.trans e5).iv (show 12+d<Y X.i by rw[p];simp;omega),iI];exact x
def at9{d:Nat}{S:RV}{p x a:av}{W:aj}{i:Nat}(N:QG g A D G H w aG ap W)(F:TB.Ev 55 (bH g A D G H++[.i aG]) (.ret [.r s]))(M:QH g s w re ap f o)(X:Lvl d O p S)(B:jB O W)(hd:d<=60)(hx:Y x=d+1)(z:∀j<d,x.getD j []=p.getD j [])
  (y:Y W.i=13+d)(lr:Y W.r=19+3*d)(u:W.rv (17+3*d)=re)(q:W.rv (16+3*d)=ao a)(n:W.i.getD (12+d) 0=(i:Int))(l:Y a+1<=536870912)
  (k:∀e,e≠0->R (.ret [.r (ao []),.i e]))(h:o x=0->I5 (Bm (2+d) L) [.i (be .add I (i:Int) 1),.r (ao (a++[f x])),.r re]):
  ∀(j m:Nat)(σ:aj),m+j=d+1->j<=d->jB W σ->σ.i=W.i->Y σ.r=19+3*d+2*m->σ.rv (18+3*d+2*m)=ao (x.drop j)->T.wp TB.Ev R (UI d j m) σ L
 |0,m,σ,hm,_,e,Q,V,P=>by
  rw[UI];refine aDt (N.mono e) F M ae (by rw[Q];exact y) (by rw[V];omega) ?_ ((e.rv ae).trans u) ((e.rv ae).trans q) (by rw[Q];exact n) l k h;rw[show 20+5*d=18+3*d+2*m from ae,P];rfl
 |j+1,m,σ,hm,hj,e,Q,V,P=>by
  rw[UI,yG];refine⟨rfl, ?_⟩;have aa:x.getD j []::x.drop (j+1)=x.drop j:=by
   rw[Cg (i:=j) ae];simp[di,dv (show j<Y x from ae)]
  have n1:gu (.lit [I2 j]) σ=ao [x.getD j []]:=by
   rw[LY];simp only[LE.ah,dH,oE];rw[X.prev j ae σ (B.trans e),z j ae]
  rw[I6,n1];have c:jB σ (σ.add (.r (ao [x.getD j []]))):=.add _;have b:=Gx (v:=ao [x.getD j []]) V;have v2:=(c.rv (show 18+3*d+2*m<Y σ.r from ae)).trans P;rw[yG];refine⟨?_, ?_⟩;simp only[BE.ai,K.ai,RE.rv,b,v2,Qq,fp];simp only[n9,Ck,Cj,aC,dq];omega;rw[I6];have n2:gu (.iC (.ak (.v (19+3*d+2*m))) (.ak (.v (18+3*d+2*m)))) (σ.add (.r (ao [x.getD j []])))=ao (x.drop j):=by
   rw[LY];simp only[LE.ah,RE.rv,b,v2,nz];rw[<-aa];rfl
  rw[n2];have l5:(σ.add (.r (ao [x.getD j []]))).r.length=20+3*d+2*m:=by simp[aj.add,V];omega
  refine at9 N F M X B hd hx z y lr u q n l k h j (m+1) _ ae ae ((e.trans c).trans (.add _)) Q (by simp[aj.add,V];omega) ?_;rw[show 18+3*d+2*(m+1)=20+3*d+2*m from ae];exact Gx l5
def aua(ba:TB.Ev 55 (bH g A D G H++[.i aG]) (.ret [.r s]))(M:QH g s w re ap f o)(hf:∀e,e≠0->R (.ret [.r (ao []),.i e])):
  ∀(n d:Nat)(O:aj)(p:av)(S:RV)(V:aE)(W z:av)(L:ck),QG g A D G H w aG ap O->Lvl d O p S->Sl S->S.ah=V::W->Y S.ah<=n->d+n<=60->(∀V∈S.ah,Sl (iY V))->
   (acI d).map (C.xv O)=[.i 0,.r (ao z),.r re]->Y z+(kH S.ah).length<=536870912->
   (∀c:PC,c.ax=2+d->(∀q∈kH S.ah,o (p++q)=0)->T.wp TB.Ev R (acE d) (O.ext [.i ((iY V).ah.length:Int),.r (ao (z++(kH S.ah).map λq=>f (p++q))),.r re]) (c::L))->T.wp TB.Ev R (acL n d) O L
 |0,d,O,p,S,V,W,z,L,hB,X,hS,B,hn,b3,hV,hI,u,m=>by
  rw[B] at hn;simp at hn
 |n+1,d,O,p,S,V,W,z,L,hB,X,hS,B,hn,b3,hV,hI,u,m=>by
  have aa:Sl (iY V):=hV V (by rw[B];simp);rw[B] at u m hn;simp only[n9] at hn;rw[at7] at u m;obtain⟨N,l⟩:∃N,(iY V).ah.length=N:=⟨_,rfl⟩;rw[l] at u m;have bb:N<=140737488355328:=by rw[<-l];exact aa.sm
  rw[acL];refine bQ N (λi rs=>∃a,rs=[.r (ao a),.r re]/\a=z++(Ef V W i).map (λq=>f (p++q))/\∀q∈Ef V W i,o (p++q)=0) (by rw[hI];exact⟨0,rfl,rP _,z,rfl,by simp[Ef],by simp[Ef]⟩) ?_;rintro i _ hi ⟨a,rfl,ha,an⟩;have b4:Y a=Y z+i*(kH W).length:=by rw[ha];simp[abM]
  rw[abM] at u;have li:=X.li;have lr:=X.lr;have e1:jB O (O.ext [.i (i:Int),.r (ao a),.r re]):=jB.ext _ _;have a1:(O.ext [.i (i:Int),.r (ao a),.r re]).i=O.i++[(i:Int)]:=by simp[aj.ext,aj.add]
  have af:(O.ext [.i (i:Int),.r (ao a),.r re]).r=O.r++[ao a,re]:=by simp[aj.ext,aj.add]
  have cl:=m;generalize b5:O.ext [.i (i:Int),.r (ao a),.r re]=Q at e1 a1 af⊢;have vi:Q.i.getD (12+d) 0=(i:Int):=by rw[a1];simp[di,<-li]
  have vA:Q.rv (16+3*d)=ao a:=by
   unfold aj.rv;rw[af];simp[di,<-lr]
  have vR:Q.rv (17+3*d)=re:=by
   unfold aj.rv;rw[af,show 17+3*d=Y O.r+1 from ae];simp[di]
  have y:Q.rv (vj d)=S:=(e1.rv (by rw[lr];exact aj1 d)).trans X.db;have ag:cJ (.sl 108) (aQ S.ah 0 0)=iY V:=by rw[B];rfl
  have lS:lenOf S.val=((Y W+1:Nat):Int):=by rw[hS.len,B];rfl
  rw[Qn];refine aU (λab=> ?_) (λb6=> ?_)
  rotate_left
  simp only[BE.ai,K.ai,RE.rv,vi,y,ag,aa.len,l,fp,dq] at b6;have b7:i=N:=ae;subst b7;rw[<-b5,ha];exact m _ rfl an;simp only[BE.ai,K.ai,RE.rv,vi,y,ag,aa.len,l,fp,dq] at ab;have ab:i<N:=ae;have bf:(i+1)*(kH W).length<=N*(kH W).length:=GG _ ab;rw[sT] at bf;rw[yG];refine⟨?_, ?_⟩;simp only[BE.ai,K.ai,RE.rv,vi,y,ag,aa.len,l,fp,aC,dq];omega;rw[yG];refine⟨?_, ?_⟩;simp only[BE.ai,K.ai,RE.rv,vi,y,ag,aa.len,l,fp,aC,dq];omega;rw[yG];refine⟨?_, ?_⟩;simp only[BE.ai,K.ai,RE.rv,y,lS,fp,dq];omega;rw[I6];have n1:gu (.sub (.ak (.v (vj d))) (.c 1) (.len (.v (vj d)))) Q=ao W:=by
   rw[LY];simp only[LE.ah,K.ai,RE.rv,y,lS,B];simp
  rw[n1];have e2:jB Q (Q.add (.r (ao W))):=.add _;have a3:Y Q.r=18+3*d:=by rw[af];simp[lr];omega
  have b8:Y Q.i=13+d:=by rw[a1];simp[li];omega
  have ac:=Gx (v:=ao W) a3;have wS:(Q.add (.r (ao W))).rv (vj d)=S:=(e2.rv (by rw[a3];have:=aj1 d;omega)).trans y;have wA:(Q.add (.r (ao W))).rv (16+3*d)=ao a:=(e2.rv ae).trans vA;have wR:(Q.add (.r (ao W))).rv (17+3*d)=re:=(e2.rv ae).trans vR;have wi:(Q.add (.r (ao W))).i.getD (12+d) 0=(i:Int):=vi;have bg:(Q.add (.r (ao W))).i.length=13+d:=b8;have k:(Q.add (.r (ao W))).r.length=19+3*d:=by simp[aj.add,a3];omega
  generalize Q.add (.r (ao W))=P at e2 ac wS wA wR wi bg k⊢;have al:=e1.trans e2;have bk:∀σ,jB P σ->(I2 d).map (C.cj σ)=md (iY V) i:=λσ e=>by
   have:=aDs (σ:=σ) (d:=d) (S:=S) (i:=i) ((e.rv (by have:=aj1 d;omega)).trans wS) ((e.iv ae).trans wi);rw[B] at this;exact this
  rw[Qn];refine aU (λh=> ?_) (λbl=> ?_);simp only[BE.ai,K.ai,RE.rv,ac,Qq,fp] at h;have h:W=[]:=yS.1 (by simpa using h);subst h;rw[yG];refine⟨rfl, ?_⟩;have m1:gu (.lit [I2 d]) P=ao [md (iY V) i]:=by
   rw[LY];simp only[LE.ah,dH,oE];rw[bk P .refl]
  rw[I6,m1];have e3:jB P (P.add (.r (ao [md (iY V) i]))):=.add _;have bs:=Gx (v:=ao [md (iY V) i]) k;rw[yG];refine⟨?_, ?_⟩;simp only[BE.ai,K.ai,RE.rv,bs,Qq,fp];simp;have m2:gu (.iC (.ak (.v (19+3*d))) (.lit [])) (P.add (.r (ao [md (iY V) i])))=ao [md (iY V) i]:=by
   rw[LY];simp only[LE.ah,RE.rv,bs,nz];rfl
  rw[I6,m2];have l3:(P.add (.r (ao [md (iY V) i]))).r.length=20+3*d:=by simp[aj.add,k];omega
  have lp:=X.lp;refine at9 (x:=p++[md (iY V) i]) (a:=a) (hB.mono al) ba M X al ae (by simp[lp]) (λj hj=>by simp[di,fO (show j<Y p from ae)]) bg k wR wA wi (by simp only[kH,n9,Ck] at u b4 bf;omega) hf (λh=> ?_) d 1 _ ae (cd _) (e3.trans (.add _)) rfl (by simp[aj.add,k]) ?_;simp only[Bm,dP];rw[bD ab bb];refine⟨_,rfl, ?_, ?_⟩;rw[ha,U6];simp[kH];intro q F;rw[U6] at F;rcases fc.1 F with F|F;exact an q F;simp only[kH,dH,oE,VC] at F;subst F;exact h;rw[show 18+3*d+2*1=20+3*d from ae,Gx l3,avT ae,acj ae];rfl;simp only[BE.ai,K.ai,RE.rv,ac,Qq,fp] at bl;obtain⟨b,a4,bt⟩:∃b a4,W=b::a4:=by
   cases W with|nil=>simp at bl|cons r q=>exact⟨r,q,rfl⟩
  have bx:BE.ai P (.cmp .lss (.c 0) (.len (.v (18+3*d))))=true:=by
   simp only[BE.ai,K.ai,RE.rv,ac,Qq,fp,dq,bt,n9];omega
  rw[yG];refine⟨bx, ?_⟩;rw[yG];refine⟨bx, ?_⟩;have b0:=hS.sm;rw[B] at b0;simp only[n9] at b0;refine aua ba M hf n (d+1) P (p++[md (iY V) i]) (ao W) b a4 a _ (hB.mono al) ⟨ae,ae,by simp[X.lp],λj hj σ e=> ?_,ac⟩ (lJ ae) bt (by simp only[nz];omega) ae (λq F=>hV q (by rw[B];exact AI _ F)) ?_ (by simp only[nz];omega) ?_;by_cases b1:j<d;rw[X.prev j b1 σ (al.trans e)];simp[di,fO (show j<Y p by rw[X.lp];exact b1)];have:j=d:=ae;subst this;rw[bk σ e];simp[di,<-X.lp];simp only[acI,dH,oE,C.xv,K.ai,RE.rv,wA,wR];intro c hc b2;simp only[nz] at b2⊢;rw[acE,aju];have ca:¬c.ax=2+d:=ae;simp only[Bm,ca,jE,dP];have e3:jB P (P.ext [.i ((iY b).ah.length:Int),.r (ao (a++(kH W).map λq=>f (p++[md (iY V) i]++q))),.r re]):=jB.ext _ _;have a9:(P.ext [.i ((iY b).ah.length:Int),.r (ao (a++(kH W).map λq=>f (p++[md (iY V) i]++q))),.r re]).r=P.r++[ao (a++(kH W).map λq=>f (p++[md (iY V) i]++q)),re]:=by simp[aj.ext,aj.add]
  generalize P.ext [.i ((iY b).ah.length:Int),.r (ao (a++(kH W).map λq=>f (p++[md (iY V) i]++q))),.r re]=O3 at e3 a9⊢;have cc:O3.rv (19+3*d)=ao (a++(kH W).map λq=>f (p++[md (iY V) i]++q)):=by
   unfold aj.rv;rw[a9];simp[di,<-k]
  have cf:O3.rv (20+3*d)=re:=by
   unfold aj.rv;rw[a9,show 20+3*d=Y P.r+1 from ae];simp[di]
  simp only[dH,oE,C.xv,K.ai,RE.rv,cc,cf,(e3.iv (show 12+d<Y P.i from ae)).trans wi];rw[bD ab bb];refine⟨_,rfl, ?_, ?_⟩;rw[ha,U6];simp[Ci];intro q F;rw[U6] at F;rcases fc.1 F with F|F;exact an q F;obtain⟨q',ch,rfl⟩:=fo.1 F;have:=b2 q' ch;simpa[Ci] using this
end
section
variable{R:aX->Prop}{G:aN}{t:T}{O:aj}{L:ck}
variable[Inhabited cm]
variable{q u d a co l v w:RV}{aG k:Int}{cl:Bool}
def aDu(h:dU)(X:40<Y dh.ah):TB.Ev 30 (bH q u d a co) (.ret [.b E]):=by
 refine kq ?_;unfold I1;simp only[bH,wk,cG,cX];rw[Qn];refine Ed ?_ (by rw[UJ];rfl);show decide (_>_)=J;simp only[dq];show lenOf dh.val>40;rw[h.sg.len];omega
def aDv(h:dU)(X:TB.Ev 30 (bH q u d a co) (.ret [.b J])):Y dh.ah<=40:=Classical.byContradiction λW=>by
 have:=Od X (aDu h ae);injection this with this;injection this with this;injection this with this;cases this
def nE(a l:RV)(k:Int):Int:=if Y a.ah<=Y l.ah\/k<1\/((cr 100 a (Y l.ah)).ah.length:Int)<k then 1 else 0
def aj3(h:dU)(s:jR q u d a co)(p:mQ q u d a co)(D:Dk l v w)(f:kw d a l v w aG):TB.Ev 47 (bH q u d a co++[.r l,.i aG,.r v,.r w,.b cl,.i k]) (.ret [.i (nE a l k)]):=by
 have X:=abK (cl:=cl) h s p D.sc D.sk D.so D.kk f;refine kq ?_;simp only[wk,bH,cG,cX] at X;simp[aa1,bH,wk,aY X,D.sc.len,s.sr.len];refine aU (λQ=> ?_) (λQ=> ?_);rw[nE,aH (.inl ae)];refine aU (λW=> ?_) (λW=> ?_);rw[nE,aH (.inr (.inl W))];have P:Y l.ah<Y a.ah:=ae;have e:=(s.Aw (Y l.ah) P).len;simp only[cr] at e;simp only[e];refine⟨ae,aU (λV=> ?_) (λV=> ?_)⟩;rw[nE,aH (.inr (.inr (by simpa[cr] using V)))];rw[nE,aJ (by simp only[cr];omega)]
def aDw(h:dU)(s:jR q u d a co)(p:mQ q u d a co){c:Nat}(X:c<Y d.ah):∃o,TB.Ev 55 (bH q u d a co++[.i c]) o/\∃m:av,o=.ret [.r (ao m)]/\Y m<=12:=by
 have V:=s.ccs c X;have e:=V.len;have Q:=p.aG.len c X;have P:=p.aG.idx c X;have G:=p.qf.rl;simp only[cr] at e;refine eL ?_;simp[ajg,bH,wk,s.sc.len,X,e];refine bQ (cr 3 d c).ah.length (λi N=>∃m:av,N=[.r (ao m)]/\Y m=i) ⟨0,rfl,ae,[],rfl,rfl⟩ ?_;rintro i _ F ⟨m,rfl,M⟩;simp[s.sc.len,s.sb.len,X,e];refine aU (λW=> ?_) (λD=> ?_);have g:=P i W;simp only[ci,cr] at g;rw[bD (n:=(cr 3 d c).ah.length) (show i<(cr 3 d c).ah.length from W) V.sm];refine⟨W,g, ?_,_,rfl,by simp[M]⟩;omega;have H:=Q;simp only[cr] at H;exact⟨m,rfl,ae⟩
end
section
variable{R:aX->Prop}{Q:aN}{t:T}{O:aj}{L:ck}
variable[Inhabited cm]
variable{wg G A v H m d N:RV}{aG k:Int}{cl:Bool}
def bR(f:Nat->Bool)(n:Nat):av:=(dj n).map λi=>[RV.mk (.bool (f i)) []]
def Ma{n:Nat}:(bR V n).length=n:=by simp[bR]
def aj4{n i:Nat}(X:i<n):jw (aQ (bR V n) (i:Int) 0).val=V i:=by
 simp[aQ,bR,di,X,jw]
def vo(f:Nat->Bool)(X:RV)(n i:Nat):av:=(dj n).map λq=>[if decide (q<i)&&f q then cr 96 X q else ao []]
def aj5{X:RV}{n i:Nat}:(vo V X n i).length=n:=by simp[vo]
def aDx{X:RV}{n:Nat}:vo V X n 0=ew n [ao []]:=by
 simp[vo,List.map_const']
def aDy{X:RV}{n i:Nat}(W:V i=J):(vo V X n i).modify i (λQ=>ge Q 0 [cr 96 X i])=vo V X n (i+1):=by
 refine at2 n i _ _ _ λq _=> ?_
 by_cases e:q=i;subst e;simp[W,ge];have:(q<i+1)<->q<i:=ae;simp[e,this]
def aDz{X:RV}{n i:Nat}(W:V i=E):vo V X n (i+1)=vo V X n i:=by
 unfold vo;refine ky λq _=> ?_
 by_cases e:q=i;subst e;simp[W];have:(q<i+1)<->q<i:=ae;simp[this]
def aDA{X:RV}{n i:Nat}(W:i<n)(Q:Sl (cr 96 X i)):cr 96 (ao (vo V X n n)) i=if V i then cr 96 X i else ao []:=by
 unfold cr;simp only[nz,aQ,vo,rN,di,ep,Ep W];simp[W];split;obtain⟨a,n,c,P⟩:=Q.sl;have:cJ (.sl 96) (cr 96 X i)=cr 96 X i:=by
  simp only[cJ,P]
 simpa[cr,aQ,di] using this;rfl
def Az:av->Nat
 |[]=>1|X::W=>(iY X).ah.length*Az W
def abN:∀l:av,(kH l).length=Az l
 |[]=>rfl|W::X=>by rw[at7,abM,abN X];rfl
def aDB{l:av}{i:Nat}(X:i<Y l):Az (l.drop i)=(iY (l.getD i [])).ah.length*Az (l.drop (i+1)):=by
 rw[Cg X];simp[Az,di,dv X]
def aj6{d:RV}(i:Nat):iY (d.ah.getD i [])=cr 108 d i:=by
 simp only[iY,cr,aQ,rN]
def aDC{l:av}:∀q∈kH l,Y q=Y l:=by
 induction l with
 |nil=>simp[kH]
 |cons P N W=>
  intro q X;simp only[kH,List.mem_flatMap,fo] at X;obtain⟨i,_,V,Q,rfl⟩:=X;simp[W V Q]
def aDD(h:dU)(ap:Int){bc mv re:RV}(H:Sl bc)(G:Sl mv)(D:Sl re)(A:∀i<Y re.ah,Sl (cr 96 re i)/\(cr 96 re i).ah.length<=100):∃W P,QH wg bc mv re ap W P/\∀c:av,Y c<=64->UZ ap bc mv (ao c) re (.ret ([.i (bn ((W c).getD 0 default).val)]++((W c).drop 1).map XV.r++[.i (P c)])):=by
 have z:∀c:av,∃x:aE×Int,Y c<=64->(∃b M F S V B,x.1=[.mk (.int I b) [],M,F,S,V,B]/\TB.Ev 54 (wk++[.r wg,.r bc,.i ap,.r mv,.r (ao c),.r re]) (.ret [.i b,.r M,.r F,.r S,.r V,.r B,.i x.2]))/\UZ ap bc mv (ao c) re (.ret ([.i (bn (x.1.getD 0 default).val)]++(x.1.drop 1).map XV.r++[.i x.2])):=λc=>by
  by_cases X:Y c<=64;obtain⟨o,g,Q⟩:=t13 h ap wg bc mv (ao c) re H G (lJ ae) D A;rcases id Q with⟨e,u,rfl⟩|⟨y,w,v,rfl,s⟩;exact⟨⟨[.mk (.int I 0) [],ao [],ao [],ao [],ao [],ao []],e⟩,λ_=>⟨⟨_,_,_,_,_,_,rfl,g⟩,Q⟩⟩;exact⟨⟨[.mk (.int I ap) [],ao mv.ah,ao c,ao y,ao w,ao v],0⟩,λ_=>⟨⟨_,_,_,_,_,_,rfl,g⟩,Q⟩⟩;exact⟨⟨[],0⟩,λq=>bB q X⟩
 obtain⟨F,N⟩:=Classical.axiomOfChoice z;exact⟨λc=>(F c).1,λc=>(F c).2,⟨λc X=>(N c X).1⟩,λc X=>(N c X).2⟩
def aub(h:dU)(s:jR wg G A v H)(p:mQ wg G A v H)(D:Dk m d N)(f:kw A v m d N aG){mf:Nat->Bool}{bc:av}{act:av->aE}{fe:av->Int}(b6:Y bc<=12)
  (aa:nE v m k=0->TB.Ev 48 (bH wg G A v H++[.r m,.i aG,.r d,.r N,.b cl,.i k]) (.ret [.r (ao (bR mf (Y ay.ah)))]))(al:TB.Ev 55 (bH wg G A v H++[.i aG]) (.ret [.r (ao bc)]))
  (M:nE v m k=0->QH wg (ao bc) (ao (bR mf (Y ay.ah))) (ao (vo mf (B7 (cr 100 v (Y m.ah)) (k-1).toNat) (Y ay.ah) (Y ay.ah))) (Y m.ah) act fe):
  ∃o,TB.Ev 37 (bH wg G A v H++[.r m,.i aG,.r d,.r N,.b cl,.i k]) o/\((∃e,e≠0/\o=.ret [.r (ao []),.i e])\/(nE v m k=0/\(∀q∈kH d.ah,fe q=0)/\o=.ret [.r (ao ((kH d.ah).map act)),.i 0])):=by
 obtain⟨P,hP⟩:∃P:aX->Prop,∀o,P o<->((∃e,e≠0/\o=.ret [.r (ao []),.i e])\/(nE v m k=0/\(∀q∈kH d.ah,fe q=0)/\o=.ret [.r (ao ((kH d.ah).map act)),.i 0])):=⟨_,λ_=>Iff.rfl⟩
 suffices a9:∃o,TB.Ev 37 (bH wg G A v H++[.r m,.i aG,.r d,.r N,.b cl,.i k]) o/\P o by
  obtain⟨o,g1,g2⟩:=a9;exact⟨o,g1,(hP o).1 g2⟩
 have ab:∀e,e≠0->P (.ret [.r (ao []),.i e]):=λe he=>(hP _).2 (.inl ⟨e,he,rfl⟩)
 have a0:=aj3 (cl:=cl) (k:=k) h s p D f;have lk:=f.Ay;have b7:=p.qf.rl;have ba:∀i<Y d.ah,1<=(cr 108 d i).ah.length/\(cr 108 d i).ah.length<=2:=λi n=>⟨(f.Gv i n).one,(f.Gv i n).two⟩
 refine eL ?_;simp only[wk,bH,cG,cX] at a0;simp[ajr,bH,wk,aY a0];refine aU (λQ=> ?_) (λQ=>ab _ Q);have aa:=aa Q;have M:=M Q;have bb:Y m.ah<Y v.ah/\1<=k/\k<=(cr 100 v (Y m.ah)).ah.length:=by
  unfold nE at Q;split at Q;cases Q;omega
 obtain⟨ac,b8,cc⟩:=bb;obtain⟨X,bf⟩:∃X:Nat,k=X+1:=⟨(k-1).toNat,ae⟩;subst bf;have bg:((X:Int)+1-1).toNat=X:=ae;rw[bg] at M;have af:X<(cr 100 v (Y m.ah)).ah.length:=ae;refine bQ (Y d.ah) (λi l=>∃q:Nat,l=[.i q]/\q*Az (d.ah.drop i)=Az d.ah/\1<=q/\q<=256) ⟨0,rfl,ae,1,rfl,aw,ae,ae⟩ ?_;rintro i _ n ⟨q,rfl,hq,bk,bl⟩;simp[D.sk.len];refine aU (λW=> ?_) (λbs=> ?_);have e:=(D.kk i W).len;have el:=ba i W;have ed:=aDB W;rw[aj6] at ed;simp only[cr] at e el ed;simp only[e];obtain⟨w,hw⟩:∃w,(cJ (.sl 108) (aQ d.ah (i:Int) 0)).ah.length=w:=⟨_,rfl⟩;rw[hw] at el ed⊢;have hm:be .mul I (q:Int) (w:Int)=((q*w:Nat):Int):=by
  simp only[be];have:q*w<=256*2:=Mt bl el.2;rw[<-awk,iW ae ae]
 rw[hm];refine⟨W,aU (λg=>ab 2 ez) (λg=> ?_)⟩;rw[bD W D.sk.sm];refine⟨_,rfl, ?_, ?_,ae⟩;rw[Nat.mul_assoc,<-ed];exact hq;exact Mt bk el.1;have bt:i=Y d.ah:=ae;subst bt;have cf:Az d.ah<=256:=by
  rw[acj (cd _)] at hq;simp only[Az,alf] at hq;omega
 clear hq n bs;simp only[wk,bH,cG,cX] at aa;simp[aY aa];rw[Ma];have a1:Y ay.ah<=140737488355328:=ae;have hS:=s.Aw (Y m.ah) ac;have eS:=hS.len;have pg:=s.B6 (Y m.ah) ac X af;have pp:=p.B8.B6 (Y m.ah) ac X af;obtain⟨B,hB⟩:∃B,cr 100 v (Y m.ah)=B:=⟨_,rfl⟩;rw[hB] at hS eS pg pp af M;have bx:cJ (.sl 100) (aQ v.ah (Y m.ah:Int) 0)=B:=hB;obtain⟨RL,eR⟩:∃x,B7 B X=x:=⟨_,rfl⟩;have a3:cJ (.sl 101) (aQ B.ah (X:Int) 1)=RL:=eR;obtain⟨-,p2,p3⟩:=pg;have lr:=pp.lr;rw[eR] at lr M;simp only[a3] at p2 p3;have k2:=p2.len;have b0:be .sub I ((X:Int)+1) 1=(X:Int):=by
  simp only[be];rw[iW (by have:=hS.sm;omega) (by have:=hS.sm;omega)];omega
 refine⟨ae, ?_⟩;refine bQ (Y ay.ah) (λi l=>l=[.r (ao (vo mf RL (Y ay.ah) i))]) ⟨0,rfl,ae,by show[XV.r (ao (ew _ [ao []]))]=_;rw[aDx]⟩ ?_;rintro j _ hj rfl;simp[Ma,aj5,D.sc.len,s.sr.len,bx,eS,a3,k2,lr,b0];refine aU (λW=> ?_) (λch=> ?_);rw[aj4 W];refine⟨W,aU (λhm=> ?_) (λhm=> ?_)⟩;refine⟨ac,af,W, ?_⟩;rw[bD W a1,show cJ (.sl 96) (aQ RL.ah (j:Int) 0)=cr 96 RL j from rfl,aDy hm];rw[bD W a1,aDz (by simpa using hm)];have b1:j=Y ay.ah:=ae;subst b1;have ag:(∀q∈kH d.ah,fe q=0)->P (.ret [.r (ao ((kH d.ah).map act)),.i 0]):=λq=>(hP _).2 (.inr ⟨Q,q,rfl⟩)
 have b2:=D.sk.len;by_cases hz:d.ah=[];have b3:lenOf d.val=0:=by rw[b2,hz];rfl
 refine Ed b3 ?_;obtain⟨b,Mm,F,S,V,Bx,ha,a4⟩:=M.ans [] aw;rw[hz] at ag;simp only[kH,VC,dH,oE,ha] at ag;simp only[wk,bH,cG,cX] at al a4;simp[aY al,D.sc.len,aY a4];refine aU (λhe=> ?_) (λhe=>ab _ he);exact ag λq hq=>by rw[hq];exact he
 have cn:0<Y d.ah:=av4.2 hz;refine Jn ae ?_;refine⟨ae, ?_⟩;obtain⟨an,l,hr⟩:∃an l,d.ah=an::l:=by
  cases hk:d.ah with|nil=>exact bB hk hz|cons r q=>exact⟨r,q,rfl⟩
 refine aua (re:=ao (vo mf RL (Y ay.ah) (Y ay.ah))) al M ab 12 0 _ [] d an l [] _ ⟨λσ e=> ?_,λσ e u z y=> ?_⟩ ⟨rfl,rfl,rfl,λj hj=>bB hj (awp j),rfl⟩ D.sk hr ae ae (λcp b4=> ?_) rfl (by rw[abN];simp only[Ck];omega) (λc _ b5=> ?_);obtain⟨⟨a,ha⟩,b,g⟩:=e;obtain⟨si,sb,sr,sy⟩:=σ;simp only at ha g;subst ha;subst g;simp[pN,KG,Qm,C.xv,K.ai,RE.rv,aj.rv,bH,wk];obtain⟨⟨a,ha⟩,b,g⟩:=e;obtain⟨si,sb,sr,sy⟩:=σ;simp only at ha g;subst ha;subst g;simp[pN,KG,Qm,C.xv,K.ai,RE.rv,aj.rv,wk,D.sc.len];obtain⟨i,n,rfl⟩:=av5 b4;have:=D.kk i n;rw[<-aj6] at this;simpa[di,dv n] using this;rw[acE,UJ];exact ag b5
end
section
variable{R:aX->Prop}{H:aN}{t:T}{O:aj}{L:ck}
variable[Inhabited cm]
variable{y F w g G c v u:RV}{aG k:Int}{cl:Bool}
def Jo(X:nE g c k=0):Y c.ah<Y g.ah/\1<=k/\k<=(cr 100 g (Y c.ah)).ah.length:=by
 grind [nE]
theorem auc{n:Nat}{b:Bool}:bR V n++[[RV.mk (.bool b) []]]=bR (λq=>if q=n then b else V q) (n+1):=by
 simp only[bR,ala,GJ,dH,oE,dP];congr 1;refine ky λq X=> ?_
 grind
def aj7(h:dU)(s:jR y F w g G)(p:mQ y F w g G)(D:Dk c v u)(f:kw w g c v u aG)(h0:nE g c k=0):∃o,TB.Ev 48 (bH y F w g G++[.r c,.i aG,.r v,.r u,.b cl,.i k]) o/\∃W,o=.ret [.r (ao (bR W (Y ay.ah)))]/\∀i<Y ay.ah,W i=J->cb (QF (cr 100 g (Y c.ah)) (k-1).toNat) i 0=true:=by
 obtain⟨V,ag,al⟩:=Jo h0;obtain⟨X,rfl⟩:∃X:Nat,k=X+1:=⟨(k-1).toNat,ae⟩;have aa:((X:Int)+1-1).toNat=X:=ae;rw[aa];have Q:X<(cr 100 g (Y c.ah)).ah.length:=ae;have lO:=p.B8.len;have m2:=p.qf.rl;have lk:=f.Ay;obtain⟨o,n,m,rfl,gk⟩:=x63 h p.wk (show Y ay.ah<=1000 from ae) (Y c.ah) bS;have l:Y m=Y ay.ah:=gk.1;have ab:Y ay.ah<=140737488355328:=ae;have N:=s.Aw (Y c.ah) V;have d:=N.len;have a:=s.B6 (Y c.ah) V X Q;have pp:=p.B8.B6 (Y c.ah) V X Q;obtain⟨B,hB⟩:∃B,cr 100 g (Y c.ah)=B:=⟨_,rfl⟩;rw[hB] at N d a pp Q;have ac:cJ (.sl 100) (aQ g.ah (Y c.ah:Int) 0)=B:=hB;obtain⟨M,A⟩:∃M,cJ (.sl 4) (aQ B.ah X 0)=M:=⟨_,rfl⟩;have P:abJ M (B7 B X):=by rw[<-A];exact pp
 have p1:=a.1;rw[A] at p1;have k1:=p1.len;have lm:=P.lm;have af:be .sub I ((X:Int)+1) 1=(X:Int):=by
  simp only[be];rw[iW (by have:=N.sm;omega) (by have:=N.sm;omega)];omega
 refine eL ?_;simp only[wk,cG,cX] at n;simp[aji,bH,wk,D.sc.len,aY n];refine bQ (Y ay.ah) (λi z=>∃x,z=[.r (ao x)]) ⟨0,rfl,ae,[],rfl⟩ ?_;rintro i _ hi ⟨x,rfl⟩;simp[l,D.sk.len];refine aU (λH=> ?_) (λan=> ?_)
 grind [cr,bD]
 refine bQ (Y ay.ah) (λi z=>∃W,z=[.r (ao (bR W i))]/\∀q<i,W q=J->cb M q 0=J) ⟨0,rfl,ae,λ_=>E,rfl,ae⟩ ?_;rintro j _ hj ⟨W,rfl,a0⟩;simp[l,D.sc.len,s.sr.len,ac,d,A,k1,lm,af,Ma];refine aU (λH=> ?_) (λa1=> ?_);refine⟨H,V,Q,H,aU (λhm=>⟨ae, ?_⟩) (λhm=>⟨ae, ?_⟩)⟩;rw[bD H ab,auc];refine⟨_,rfl,λq hq a3=> ?_⟩;by_cases e:q=j;subst e;exact hm
 grind
 grind [bD,auc]
 have:j=Y ay.ah:=ae;subst this
 grind [QF]
def aud(h:dU)(s:jR y F w g G)(p:mQ y F w g G)(D:Dk c v u)(f:kw w g c v u aG):∃a b d q,TB.Ev 22 (bH y F w g G++[.r c,.i aG,.r v,.r u,.b cl,.i 0]) (.ret [.r a,.i (if Y g.ah<=Y c.ah then 0 else aG),.r b,.r d,.b (if Y g.ah<=Y c.ah then E else cl),.r q,.i (if Y g.ah<=Y c.ah then 1 else 0)])/\(Y c.ah<Y g.ah->a=ao (c.ah++[[.mk (.int I 0) []]])/\b=ao v.ah/\d=ao u.ah/\q=ao []):=by
 have V:=abK (cl:=cl) h s p D.sc D.sk D.so D.kk f;have m5:=p.qf.bars;have m2:=p.qf.rl;have lO:=p.B8.len;have lc:=f.calls;have lk:=f.Ay;have lo:=f.D9;simp only[wk,bH,cG,cX] at V;by_cases Q:Y g.ah<=Y c.ah;refine⟨ao [],ao [],ao [],ao [], ?_,λq=>ae⟩;refine kq ?_;simp[UG,bH,wk,aY V,D.sc.len,s.sr.len,Q]
 ·refine⟨ao (c.ah++[[.mk (.int I 0) []]]),ao v.ah,ao u.ah,ao [], ?_,λ_=>⟨rfl,rfl,rfl,rfl⟩⟩;simp only[aJ Q];obtain⟨P,W⟩:∃P:aX->Prop,∀o,P o<->o=.ret [.r (ao (c.ah++[[.mk (.int I 0) []]])),.i aG,.r (ao v.ah),.r (ao u.ah),.b cl,.r (ao []),.i 0]:=⟨_,λ_=>Iff.rfl⟩
  suffices M:∃o,TB.Ev 22 (bH y F w g G++[.r c,.i aG,.r v,.r u,.b cl,.i 0]) o/\P o by
   obtain⟨o,N,H⟩:=M;rw[(W o).1 H] at N;exact N
  have B:∀A X O,A=c.ah++[[RV.mk (.int I 0) []]]->X=v.ah->O=u.ah->P (.ret [.r (ao A),.i aG,.r (ao X),.r (ao O),.b cl,.r (ao []),.i 0]):=λA X O z x n=>(W _).2 (by rw[z,x,n])
  have m:KL P:=λa b j e=>by
   rw[(W a).1 j,(W b).1 e];exact⟨rfl,HA _⟩
  have nl:∀{l:av},Y l<=0->l=[]:=λh=>yS.1 ae
  refine eL ?_;simp[UG,bH,wk,aY V,D.sc.len,D.sk.len,D.so.len,s.sr.len,Q,Gm,m];have b1:(Y c.ah:Int)<=536870912:=ae;have b2:(Y v.ah:Int)<=536870912:=ae;have b3:(Y u.ah:Int)<=536870912:=ae
  repeat'(first|exact b1|exact b2|exact b3|apply And.intro|intro _)
  all_goals(refine B _ _ _ ?_ ?_ ?_<;>first|rfl|exact Eq.symm mh|(rw[show c.ah=[] from mh];rfl))
def aDE(D:Dk c v u)(X:Y c.ah<=1000):Dk (ao (c.ah++[[.mk (.int I 0) []]])) (ao v.ah) (ao u.ah):=⟨lJ bS,lJ D.sk.sm,lJ D.so.sm,D.kk,D.k1,D.o1⟩
def aDF(D:Dk c v u)(f:kw w g c v u aG)(F:Y c.ah<Y g.ah):kw w g (ao (c.ah++[[.mk (.int I 0) []]])) (ao v.ah) (ao u.ah) aG:=by
 have V:∀i<Y c.ah,aQ (c.ah++[[RV.mk (.int I 0) []]]) (i:Int) 0=aQ c.ah (i:Int) 0:=λi X=>by
  grind [aQ]
 refine⟨bS,f.cast,f.Ay,f.D9,λi X=> ?_,λi X=> ?_⟩;simp at X;by_cases e:i<Y c.ah;have:=f.call i e
 grind [ci,nz]
 have:i=Y c.ah:=ae;subst this;have:ci (ao (c.ah++[[RV.mk (.int I 0) []]])) (Y c.ah) 0=0:=by
  simp[ci,aQ,bn]
 omega;obtain⟨Q,P,N,M,H,G⟩:=f.Gv i X;refine⟨Q,P,N,M,H,λh=> ?_⟩;obtain⟨W,B,A⟩:=G h;refine⟨W, ?_, ?_⟩;show _<(((c.ah++[[RV.mk (.int I 0) []]]).length:Nat):Int);have:ci (ao u.ah) i 0=ci u i 0:=rfl
 grind
 have e:=V (be .sub I (ci u i 0) 1).toNat ae;rw[aJe W] at e;show bn (aQ (c.ah++[[RV.mk (.int I 0) []]]) (be .sub I (ci u i 0) 1) 0).val≠0
 grind
end
section
variable{R:aX->Prop}{G:aN}{t:T}{O:aj}{L:ck}{a b:RV}
end
section
variable{R:aX->Prop}{G:aN}{t:T}{O:aj}{L:ck}
variable[Inhabited cm]
variable{c e d g m a o u:RV}{aG k:Int}{v:Bool}
def sL(X:Nat->Bool)(n:Nat):List Nat:=(dj n).filter X
def yK(X:Nat->Bool)(n:Nat):av:=(sL X n).map λi:Nat=>[RV.mk (.int I (i:Int)) []]
def aue{n:Nat}:yK V (n+1)=if V n then yK V n++[[RV.mk (.int I (n:Int)) []]] else yK V n:=by
 simp only[yK,sL,ala,av7,GJ];cases h:V n<;>simp[List.filter_cons,h]
def aj8{mf:Nat->Bool}{n:Nat}:(sL mf n).length<=n:=by
 have:=aI7 mf (dj n);simpa[sL] using this
def auf(h:dU)(s:jR c e d g m)(p:mQ c e d g m)(D:Dk a o u)(f:kw d g a o u aG)(M:nE g a k=0)
  (P:TB.Ev 48 (bH c e d g m++[.r a,.i aG,.r o,.r u,.b v,.i k]) (.ret [.r (ao (bR V (Y ay.ah)))])):TB.Ev 28 (bH c e d g m++[.r a,.i aG,.r o,.r u,.b v,.i k]) (.ret [.r (ao (yK V (Y ay.ah))),.i 0]):=by
 have W:=aj3 (cl:=v) (k:=k) h s p D f;have G:=p.qf.rl;have N:Y ay.ah<=140737488355328:=ae;refine kq ?_;simp only[wk,bH,cG,cX] at W P;rw[M] at W;simp[aa0,bH,wk,aY W,aY P];refine bQ (Y ay.ah) (λi H=>H=[.r (ao (yK V i))]) ⟨0,rfl,ae,rfl⟩ ?_;rintro i _ F rfl;simp[Ma];refine aU (λX=> ?_) (λB=> ?_);rw[aj4 X];refine⟨X,aU (λQ=>⟨?_, ?_⟩) (λQ=> ?_)⟩;have:=aj8 (mf:=V) (n:=i);simp only[yK,oW];omega;rw[bD X N,aue,aH Q];rw[bD X N,aue,aJ Q];have:i=Y ay.ah:=ae;subst this;rfl
def aug:∀{l:av},(∀X∈l,1<=(iY X).ah.length)->1<=Az l
 |[],_=>cd 1|X::V,h=>Mt (h X aw) (aug λr W=>h r (by simp[W]))
def auh:∀{l:av},(∀X∈l,(iY X).ah.length<=2)->Az l<=2^Y l
 |[],_=>cd 1
 |X::W,h=>by
  have:=Mt (h X aw) (auh (l:=W) λr V=>h r (by simp[V]));simp only[Az,n9,awt];omega
def aui{mf:Nat->Bool}{n q:Nat}:q∈sL mf n<->q<n/\mf q=true:=by simp[sL]
def aDG{n j:Nat}(X:j<(sL V n).length):bn (aQ (yK V n) (j:Int) 0).val=((sL V n)[j]:Int):=by
 simp[aQ,yK,di,dv X,bn]
end
section
def aDH{a:RV}(X:Sl a)(n:Int):∃o,TB.Ev 42 [.r a,.i n] o/\∃b,o=.ret [.b b]/\(b=J->∀j<Y a.ah,0<=ci a j 0/\ci a j 0<n):=by
 refine eL ?_;simp[ajd];refine bQ (Y a.ah) (λi R=>∃m,R=[.r (ao m)]/\∀j<i,0<=ci a j 0/\ci a j 0<n) ⟨0,rfl,ae,[],rfl,λj h=>ae⟩ ?_;rintro i _ O ⟨m,rfl,W⟩;simp[X.len];refine aU (λV=>⟨V, ?_⟩) (λN=>λj M=>W j ae);intro Q P _;rw[bD V X.sm];exact⟨⟨_,rfl⟩,Ax W ⟨Q,P⟩⟩
def aDI[Inhabited cm](h:dU){bw ap:Int}{r:RV}(R:Sl r){e:Int}(g:TB.Ev 45 (wk++[.i bw,.i ap,.r r]) (.ret [.i e]))(Q:e=0):Y r.ah<=Y dh.ah:=by
 have P:(dV bw ap).length<=Y dh.ah:=by
  unfold dV;split;rw[pM];exact UL _;simp
 by_cases O:(dV bw ap).length=Y r.ah;omega;have V:=Jb oV h bw ap;have:TB.Ev 45 (wk++[.i bw,.i ap,.r r]) (.ret [.i (if mc bw ap=0 then 270 else mc bw ap)]):=by
  refine kq ?_;simp only[wk,cG,cX] at V;simp[UE,wk,aY V,R.len];exact aU (λX=>Jn ae λW=>bB X W) (λX W=>bB W X)
 have:=Od g this;simp[Q] at this;split at this<;>simp_all
variable[Inhabited cm]
variable{p l d c t:RV}
def aDJ(h:dU)(s:jR p l d c t):∃o,TB.Ev 26 (bH p l d c t) o/\∃e,o=.ret [.i e]/\(e=0->jY=0/\Mny p l d c/\CsQ l d/\ajX c):=by
 have aa:=(yH oV h).1;refine Qo rfl rfl (.inr λv=>nofun) ?_;simp only[wk,bH,cG,cX] at aa;simp[ajf,bH,wk,aY aa,s.sw.len,s.sb.len,s.sc.len,s.sr.len,s.so.len,h.rl.len];refine aU (λL=> ?_) (λL q=>bB q L);intro m1 m2 m3 m4 m5;refine bQ (Y c.ah) (λn X=>X=[]/\∀i<n,(cr 100 c i).ah.length<=8) ⟨0,rfl,ae,rfl,λi Q=>ae⟩ ?_;rintro i _ Q ⟨rfl,hb⟩;simp[s.sr.len];refine aU (λW=> ?_) (λa1=> ?_);have e:=(s.Aw i W).len;simp only[cr] at e;simp only[e];refine⟨W,λh8=> ?_⟩;rw[bD W s.sr.sm];exact⟨rfl,Ax hb (by simp only[cr];omega)⟩;have mn:Mny p l d c:=⟨ae,ae,ae,ae,m5,λq y=>hb q ae⟩;refine bQ (Y l.ah) (λn X=>X=[]) ⟨0,rfl,ae,rfl⟩ ?_;rintro i2 _ a3 rfl;simp[s.sb.len,s.sc.len,s.sr.len];refine aU (λW=> ?_) (λa4=> ?_);simp[W];refine aU (λe=> ?_) (λe q=>bB q e);rw[bD W s.sb.sm];intro c0 lO;refine bQ (Y d.ah) (λn X=>X=[]/\∀i<n,(cr 3 d i).ah.length=Y ay.ah/\∀j<(cr 3 d i).ah.length,0<=ci (cr 3 d i) j 0/\ci (cr 3 d i) j 0<Y l.ah) ⟨0,rfl,ae,rfl,λi Q=>ae⟩ ?_;rintro i3 _ a9 ⟨rfl,x⟩;simp[s.sb.len,s.sc.len,s.sr.len,h.rl.len];refine aU (λW=> ?_) (λba=> ?_);have O:=s.ccs i3 W;have e4:=O.len;obtain⟨o,g,b,rfl,an⟩:=aDH O (Y l.ah);simp only[cr] at g e4;simp only[e4];refine⟨W,λel=> ?_⟩;simp[aY g];intro fh;rw[bD W s.sc.sm];exact⟨rfl,Ax x ⟨by simp only[cr];omega,an fh⟩⟩;have CS:CsQ l d:=⟨λq y=>(x q ae).1,λq y=>(x q ae).2⟩;refine bQ (Y c.ah) (λn X=>X=[]/\∀k<n,∀i<(cr 100 c k).ah.length,abJ (QF (cr 100 c k) i) (B7 (cr 100 c k) i)) ⟨0,rfl,ae,rfl,λi Q=>ae⟩ ?_;rintro k _ hk ⟨rfl,ab⟩;simp[s.sr.len];refine aU (λN=>⟨N, ?_⟩) (λbb=> ?_)
 ·have O:=s.Aw k N;have w:=O.len;have pg:=s.B6 k N;obtain⟨B,u⟩:∃B,cr 100 c k=B:=⟨_,rfl⟩;rw[u] at O w pg;have ac:cJ (.sl 100) (aQ c.ah k 0)=B:=u;refine bQ (Y p.ah) (λn X=>X=[]) ⟨0,rfl,ae,rfl⟩ ?_;rintro i4 _ bc rfl;simp[s.sw.len];refine aU (λW=> ?_) (λbf=> ?_);have af:=f25 (ci p i4) k;simp only[LZ,ci,cG,cX] at af;simp[W,aY af];intro H;rw[bD W s.sw.sm];obtain⟨o,ag,m,rfl,ml,gk⟩:=x63 h L ae k (by simp[jf];omega);simp only[wk,cG,cX] at ag;simp[aY ag];refine bQ (Y B.ah) (λn X=>X=[]/\∀i<n,abJ (QF B i) (B7 B i)) ⟨0,rfl,ae,rfl,λi Q=>ae⟩ ?_;rintro a _ bg ⟨rfl,al⟩;simp[s.sr.len,N,ac,w,h.rl.len];refine aU (λR=> ?_) (λbk=> ?_)
  rotate_left
  rw[bD N s.sr.sm];exact⟨rfl,Ax ab (by rw[u];exact λi Q=>al i ae)⟩;obtain⟨mv,G⟩:∃mv,cJ (.sl 4) (aQ B.ah a 0)=mv:=⟨_,rfl⟩;obtain⟨M,F⟩:∃M,cJ (.sl 101) (aQ B.ah a 1)=M:=⟨_,rfl⟩;obtain⟨p1,p2,D⟩:=pg a R;rw[G] at p1;rw[F] at p2 D;simp only[G,F];have k1:=p1.len;have k2:=p2.len;refine⟨R,λq1 q2=> ?_⟩;have lm:Y mv.ah=Y ay.ah:=ae;have lr:Y M.ah=Y ay.ah:=ae;refine bQ (Y ay.ah) (λn X=>X=[]/\∀i<n,(cr 96 M i).ah.length<=Y dh.ah) ⟨0,rfl,ae,rfl,λi Q=>ae⟩ ?_;rintro V _ bl ⟨rfl,h6⟩;simp[s.sr.len,N,ac,R,G,F,k1,k2,w,lm,lr];refine aU (λP=> ?_) (λbs=> ?_)
  rotate_left
  rw[bD R O.sm];exact⟨rfl,Ax al (by
   simp only[QF,B7,G,F];exact⟨lm,lr,λi Q=>h6 i ae⟩)⟩
  have nn:bn (aQ m (V:Int) 0).val=(gQ m V:Int):=U0 gk V ae;have le:=L9 gk V;obtain⟨o,f,bt,rfl,-⟩:=t85 oV h V k (cr 96 M V) (D V ae);have f0:=aDI h (D V ae) f;have q3:=(D V ae).len;simp only[wk,cG,cX,cr] at f;simp only[cr] at q3;rw[nn];refine⟨ae,ae,⟨ae,ae⟩, ?_⟩;intro eq;refine aU (λz=> ?_) (λz=> ?_);refine Ed z ⟨P, ?_⟩;simp[aY f];intro H;rw[bD P (show Y ay.ah<=140737488355328 from ae)];exact⟨rfl,Ax h6 (f0 H)⟩;refine⟨P, ?_⟩;simp[q3];intro H;refine Jn z ?_;rw[bD P (show Y ay.ah<=140737488355328 from ae)];exact⟨rfl,Ax h6 (by rw[cr,H];simp)⟩
 have PG:ajX c:=⟨lO,λq y=>ab q ae⟩;refine bQ (Y dh.ah) (λn X=>∃m,X=[.r (ao m)]) ⟨0,rfl,ae,[],rfl⟩ ?_;rintro j _ hj ⟨m,rfl⟩;simp[h.sg.len];refine aU (λP=>⟨P, ?_⟩) (λbx=> ?_);rw[bD P h.sg.sm];exact⟨_,rfl⟩;refine bQ (Y t.ah) (λn X=>X=[]) ⟨0,rfl,ae,rfl⟩ ?_;rintro A _ b0 rfl;simp[s.so.len];refine aU (λR=>⟨R, ?_⟩) (λb1=>⟨L,mn,CS,PG⟩);intro _;refine aU (λz=> ?_) (λb2=> ?_);rw[bD R s.so.sm];have a0:be .sub I (A:Int) 1=((A-1:Nat):Int):=by
  rw[show be .sub I (A:Int) 1=(A:Int)-1 by simp only[be];exact iW (by have:=s.so.sm;omega) (by have:=s.so.sm;omega)];omega
 rw[a0];refine⟨ae, ?_⟩;intro _;rw[bD R s.so.sm]
def aDK(h:dU)(s:jR p l d c t):∃o,TB.Ev 26 (bH p l d c t) o/\∃e,o=.ret [.i e]/\(e=0->mQ p l d c t):=by
 obtain⟨o,g,e,rfl,k⟩:=aDJ h s;refine⟨_,g,e,rfl,λX=> ?_⟩;subst X;obtain⟨W,V,R,Q⟩:=k rfl;exact⟨W,V,R,Q,g⟩
variable{w u x:RV}{aG:Int}{cl:Bool}
def auj(h:dU)(s:jR p l d c t)(Q:Sl w)(P:Sl u)(G:Sl x)(ac:∀i<Y u.ah,Sl (cr 108 u i)):∃o,TB.Ev 15 (bH p l d c t++[.r w,.i aG,.r u,.r x,.b cl]) o/\∃e,o=.ret [.i e]/\(e=0->mQ p l d c t/\kw d c w u x aG):=by
 obtain⟨o,f,e,rfl,af⟩:=aDK h s;refine Qo rfl rfl (.inr λv=>nofun) ?_;simp only[wk,bH,cG,cX] at f;simp[aaZ,bH,wk,aY f,Q.len,P.len,G.len,s.sr.len,s.sc.len,h.rl.len];refine aU (λz=> ?_) (λz q=>bB q z);have SP:=af z;intro g1 g2 g3 g4 g5;refine bQ (Y w.ah) (λn R=>R=[]/\∀i<n,0<=ci w i 0/\ci w i 0<=(cr 100 c i).ah.length) ⟨0,rfl,ae,rfl,λi F=>ae⟩ ?_;rintro i _ F ⟨rfl,a⟩;simp[Q.len,s.sr.len];refine aU (λaa=> ?_) (λab=> ?_);have e:=(s.Aw i ae).len;simp only[cr] at e;simp only[e];refine⟨aa,λq1=>⟨ae,λq2=> ?_⟩⟩;rw[bD aa Q.sm];exact⟨rfl,Ax a ⟨q1,q2⟩⟩;refine bQ (Y u.ah) (λn R=>R=[]/\∀i<n,Kno w u x i) ⟨0,rfl,ae,rfl,λi F=>ae⟩ ?_;rintro j _ hj ⟨rfl,y⟩;simp[Q.len,P.len,G.len];refine aU (λO=> ?_) (λan=> ?_)
 rotate_left
 exact⟨SP,ae,⟨g2,g3⟩,ae,ae,λr N=>a r ae,λr N=>y r ae⟩;have D:=ac j O;have B:=D.len;obtain⟨V,W⟩:∃V,cr 108 u j=V:=⟨_,rfl⟩;have m:cJ (.sl 108) (aQ u.ah j 0)=V:=W;rw[W] at D B;simp only[m,B];refine⟨O, ?_⟩;by_cases h1:Y V.ah=1
 ·refine Ed ae ⟨ae, ?_⟩;refine aU (λk=> ?_) (λk=> ?_)
  rotate_left
  intro A;omega;refine bQ (Y V.ah) (λn R=>R=[]/\∀q<n,QE V q=0) ⟨0,rfl,ae,rfl,λi F=>ae⟩ ?_;rintro q _ ag ⟨rfl,M⟩;simp[Q.len,P.len,G.len,m,B,O];refine aU (λL=> ?_) (λab=> ?_);simp[L];intro e;rw[bD L D.sm];exact⟨rfl,Ax M e⟩;refine⟨ae,Ed ae ?_⟩;rw[bD O P.sm];refine⟨rfl,Ax y ⟨by rw[W];omega,by rw[W];omega, ?_,λA=> ?_,λr N=> ?_,λH=>bB k H⟩⟩;rw[W];exact⟨λA=>ae,λH=>bB k H⟩;rw[W] at A;omega;rw[W] at N⊢;exact M r ae
 refine Jn ae ?_;intro A;have al:Y V.ah=2:=ae;refine⟨ae,ae,λH=> ?_⟩;have ne:∃j<13,ci V 0 j≠ci V 1 j:=by
  refine Classical.byContradiction λhn=> ?_
  have X:∀j<13,ci V 0 j=ci V 1 j:=λj hj=>Classical.byContradiction λq=>hn ⟨j,hj,q⟩
  exact H (X 0 ae) (X 1 ae) (X 2 ae) (X 3 ae) (X 4 ae) (X 5 ae) (X 6 ae) (X 7 ae) (X 8 ae) (X 9 ae) (X 10 ae) (X 11 ae) (X 12 ae)
 refine bQ (Y V.ah) (λn R=>R=[]/\∀q<n,QE V q=0) ⟨0,rfl,ae,rfl,λi F=>ae⟩ ?_;rintro q _ ag ⟨rfl,M⟩;simp[Q.len,P.len,G.len,m,B,O];refine aU (λL=> ?_) (λab=> ?_);simp[L];intro e;rw[bD L D.sm];exact⟨rfl,Ax M e⟩;refine⟨ae,Jn ae ?_⟩;intro g b2;refine⟨⟨g,b2⟩,λb3=> ?_⟩;rw[bD O P.sm];refine⟨rfl,Ax y ⟨by rw[W];omega,by rw[W];omega, ?_,λ_=>by rw[W];exact ne,λr N=> ?_,λ_=>⟨g,b2,b3⟩⟩⟩;rw[W];refine⟨λ_ hz=> ?_,λ_=>al⟩;simp only[ci] at hz;rw[hz,show be .sub I (0:Int) 1=(0:Int)-1 by simp only[be];exact iW ae ae] at g;omega;rw[W] at N⊢;exact M r ae
end
section
variable{R:aX->Prop}{G:aN}{t:T}{O:aj}{L:ck}
def aDL{a:RV}(W:Sl a)(x:Int):∃o,TB.Ev 29 [.r a,.i x] o/\∃i b,o=.ret [.i i,.b b]:=by
 refine eL ?_;simp[ajk];have N:=W.sm;refine As (λX=>∃i j:Nat,X=[.i i,.i j]/\i<=j/\j<=Y a.ah) (λX=>(xi X 1-xi X 0).toNat) ⟨0,Y a.ah,by simp[W.len],ae,ae⟩ ?_;rintro _ ⟨i,j,rfl,V,M⟩;simp[xi,BR,W.len,ajx (show j<=140737488355328 from ae) V];refine aU (λH=> ?_) (λG=> ?_);refine⟨ae, ?_⟩;have Q:((i:Int)+j)/2=(((i+j)/2:Nat):Int):=ae;rw[Q,wV (i:=(i+j)/2) ae];refine aU (λP=> ?_) (λP=> ?_);exact⟨⟨(i+j)/2+1,j,⟨rfl,rfl⟩,ae,ae⟩,ae⟩
 grind
 omega
variable[Inhabited cm]
variable{l u d g v c kn op:RV}{aG k:Int}{cl:Bool}
def aDM(s:jR l u d g v)(W:Sl c):∃o,TB.Ev 16 (bH l u d g v++[.r c,.i aG,.r kn,.r op,.b cl]) o/\∃n,o=.ret [.i n]:=by
 refine eL ?_;simp[aa4,bH,wk];have Q:=s.sr.sm;refine As (λX=>∃(i:Nat)(n:Int),X=[.i i,.i n]) (λX=>(Y g.ah-xi X 0).toNat) ⟨Y c.ah,1,by simp[W.len]⟩ ?_;rintro _ ⟨i,n,rfl⟩;simp[xi,BR,s.sr.len];intro V P;refine⟨V, ?_⟩;rw[wV ae];exact⟨⟨_,rfl⟩,ae⟩
def aDN(W:Sl c)(X:Sl kn)(V:Sl op)(P:∀i<Y kn.ah,Sl (cr 108 kn i)):∃o,TB.Ev 31 [.r c,.i aG,.r kn,.r op,.b cl] o/\∃b,o=.ret [.b b]:=by
 refine eL ?_;simp[ajj,W.len,X.len,V.len];intro _ _ _;refine bQ (Y kn.ah) (λn Q=>Q=[]) ⟨0,rfl,ae,rfl⟩ ?_;rintro i _ N rfl;simp[X.len]
 grind [cr,bD]
def aDO(h:dU)(s:jR l u d g v)(X:Sl c)(Q:Sl kn)(P:Sl op)(N:∀i<Y kn.ah,Sl (cr 108 kn i)):∃o,TB.Ev 14 (bH l u d g v++[.r c,.i aG,.r kn,.r op,.b cl]) o/\∃b,o=.ret [.b b]:=by
 obtain⟨o,W,x,rfl⟩:=atX h s;obtain⟨o,M,y,rfl⟩:=aDN (aG:=aG) (cl:=cl) X Q P N;obtain⟨o,V,n,rfl⟩:=aDM (aG:=aG) (cl:=cl) (kn:=kn) (op:=op) s X;refine eL ?_;simp only[wk,bH,cG,cX] at W V;simp[aa2,bH,wk,aY W];cases x;simp;simp[aY M];cases y;simp;simp[aY V];omega
def aDP(h:dU)(s:jR l u d g v)(D:Dk c kn op):∃o,TB.Ev 47 (bH l u d g v++[.r c,.i aG,.r kn,.r op,.b cl,.i k]) o/\∃e,o=.ret [.i e]/\(e=0->(mQ l u d g v/\kw d g c kn op aG)/\nE g c k=0):=by
 obtain⟨o,X,e,rfl,V⟩:=auj (cl:=cl) (aG:=aG) h s D.sc D.sk D.so D.kk;by_cases W:e=0;obtain⟨p,f⟩:=V W;exact⟨_,aj3 h s p D f,_,rfl,λq=>⟨⟨p,f⟩,q⟩⟩;refine eL ?_;simp only[wk,bH,cG,cX] at X;simp[aa1,bH,wk,aY X,W]
def aDQ(h:dU)(s:jR l u d g v)(D:Dk c kn op):∃o,TB.Ev 28 (bH l u d g v++[.r c,.i aG,.r kn,.r op,.b cl,.i k]) o/\((∃r e,o=.ret [.r r,.i e]/\e≠0)\/((mQ l u d g v/\kw d g c kn op aG)/\nE g c k=0)/\∃X,o=.ret [.r (ao (yK X (Y ay.ah))),.i 0]):=by
 obtain⟨o,V,e,rfl,P⟩:=aDP (k:=k) (cl:=cl) (aG:=aG) h s D;by_cases Q:e=0;obtain⟨⟨p,f⟩,W⟩:=P Q;obtain⟨o,N,X,rfl,-⟩:=aj7 (cl:=cl) h s p D f W;exact⟨_,auf h s p D f W N,.inr ⟨⟨⟨p,f⟩,W⟩,X,rfl⟩⟩;have:∃o,TB.Ev 28 (bH l u d g v++[.r c,.i aG,.r kn,.r op,.b cl,.i k]) o/\∃r e,o=.ret [.r r,.i e]/\e≠0:=by
  refine eL ?_;simp only[wk,bH,cG,cX] at V;simp[aa0,bH,wk,aY V,Q]
  grind
 grind
def aDR(h:dU)(s:jR l u d g v)(p:mQ l u d g v)(D:Dk c kn op)(f:kw d g c kn op aG)(h0:nE g c k=0)
  (a:TB.Ev 28 (bH l u d g v++[.r c,.i aG,.r kn,.r op,.b cl,.i k]) (.ret [.r (ao (yK V (Y ay.ah))),.i 0])):
  ∃o,TB.Ev 12 (bH l u d g v++[.r c,.i aG,.r kn,.r op,.b cl,.i k]) o/\∃n,o=.ret [.i n,.i 0]:=by
 have m2:=p.qf.rl;obtain⟨M,a1,ag⟩:=Jo h0;obtain⟨W,rfl⟩:∃W:Nat,k=W+1:=⟨(k-1).toNat,ae⟩;have a3:((W:Int)+1-1).toNat=W:=ae;have F:W<(cr 100 g (Y c.ah)).ah.length:=ae;have H:=s.Aw (Y c.ah) M;have eS:=H.len;have pg:=s.B6 (Y c.ah) M W F;have pp:=p.B8.B6 (Y c.ah) M W F;obtain⟨B,hB⟩:∃B,cr 100 g (Y c.ah)=B:=⟨_,rfl⟩;rw[hB] at H eS pg pp F ag;have A:cJ (.sl 100) (aQ g.ah (Y c.ah:Int) 0)=B:=hB;obtain⟨G,eR⟩:∃x,B7 B W=x:=⟨_,rfl⟩;have z:cJ (.sl 101) (aQ B.ah (W:Int) 1)=G:=eR;obtain⟨-,q2,q3⟩:=pg;have y:=pp.lr;rw[eR] at y;simp only[z] at q2 q3;have kR:=q2.len;have w:be .sub I ((W:Int)+1) 1=(W:Int):=by
  simp only[be];rw[iW (by have:=H.sm;omega) (by have:=H.sm;omega)];omega
 refine eL ?_;simp only[wk,bH,cG,cX] at a;simp[aa3,bH,wk,aY a];refine bQ (Y dh.ah) (λn N=>∃m,N=[.r (ao m)]) ⟨0,rfl,ae,[],rfl⟩ ?_;rintro i _ hi ⟨m,rfl⟩;simp[h.sg.len];refine aU (λQ=>⟨Q, ?_⟩) (λa4=> ?_)
 ·obtain⟨o,aa,a9,b,rfl⟩:=aDL s.so (ci dh i 0);simp only[ci] at aa;simp[aY aa];refine aU (λ_=> ?_) (λ_=> ?_)
  all_goals
   rw[bD Q h.sg.sm]
   grind
 simp[D.sc.len,s.sr.len,A,eS,w];refine⟨M,ae, ?_⟩;have al:(yK V (Y ay.ah)).length=(sL V (Y ay.ah)).length:=by simp[yK]
 have ba:=aj8 (mf:=V) (n:=Y ay.ah);refine bQ (sL V (Y ay.ah)).length (λj N=>∃n,N=[.i n]) ⟨0,rfl,ae,_,rfl⟩ ?_;rintro j _ hj ⟨n,rfl⟩;simp[al,D.sc.len,A,z,kR,w,y];intro Q;refine⟨Q, ?_⟩;have hr:=aDG Q;have ab:=(aui (mf:=V) (n:=Y ay.ah)).1 (sQ Q);have an:(sL V (Y ay.ah)).getD j 0=(sL V (Y ay.ah))[j]:=by simp[dv Q]
 rw[hr];obtain⟨P,ac⟩:∃P,(sL V (Y ay.ah))[j]=P:=⟨_,rfl⟩;rw[ac] at ab an⊢;have e:Sl (cr 96 G P):=q3 P (by rw[y];exact ab.1);have e9:=e.len;obtain⟨X,hX⟩:∃X,cr 96 G P=X:=⟨_,rfl⟩;have a0:cJ (.sl 96) (aQ G.ah (P:Int) 0)=X:=hX;rw[hX] at e e9;refine⟨⟨ae,ae⟩, ?_⟩;refine bQ (Y X.ah) (λq N=>∃n,N=[.i n]) ⟨0,rfl,ae,_,rfl⟩ ?_;rintro q _ hq ⟨n,rfl⟩;simp[D.sc.len,A,z,w,hr,ac,a0,e9];refine aU (λaf=>⟨af, ?_⟩) (λbb=> ?_)
 rotate_left
 grind [bD]
 refine aU (λ_=>aU (λ_=> ?_) (λ_=> ?_)) (λ_=> ?_)
 all_goals
  rw[bD af e.sm];simp
def aDS(h:dU){r:RV}{e:Int}(W:e≠0)(X:TB.Ev 28 (bH l u d g v++[.r c,.i aG,.r kn,.r op,.b cl,.i k]) (.ret [.r r,.i e])):TB.Ev 12 (bH l u d g v++[.r c,.i aG,.r kn,.r op,.b cl,.i k]) (.ret [.i 0,.i e]):=by
 refine kq ?_;simp only[wk,bH,cG,cX] at X;simp[aa3,bH,wk,aY X,W]
end
section
variable{R:aX->Prop}{G:aN}{t:T}{O:aj}{L:ck}
variable[Inhabited cm]
variable{d w u l m ca kn op:RV}{aG k:Int}{cl:Bool}
def QI{e:TypeId}{v:RV}(h:Sl v):cJ (.sl e) v=v:=by
 obtain⟨a,n,c,X⟩:=h.sl;simp only[cJ,X]
def aDT{ap:Int}{Q X P:RV}{W:av->aE}{N:av->Int}(M:QH d Q X P ap W N)(y:∀c:av,Y c<=64->UZ ap Q X (ao c) P (.ret ([.i (bn ((W c).getD 0 default).val)]++((W c).drop 1).map XV.r++[.i (N c)]))){c:av}(A:Y c<=64)(x:N c=0):∃H G D,W c=[.mk (.int I ap) [],ao X.ah,ao c,ao H,ao G,ao D]/\Md ap Q X (ao c) P H G D:=by
 obtain⟨b,v,F,S,V,B,w,-⟩:=M.ans c A;have z:=y c A;rw[w,x] at z;rcases z with⟨e,u,q⟩|⟨H,G,D,q,s⟩
 grind
 simp[bn] at q
 grind
def aDU(h:dU)(s:jR d w u l m)(p:mQ d w u l m)(D:Dk ca kn op)(f:kw u l ca kn op aG)(fH:Y dh.ah<=40):∃o,TB.Ev 37 (bH d w u l m++[.r ca,.i aG,.r kn,.r op,.b cl,.i k]) o/\((∃e,e≠0/\o=.ret [.r (ao []),.i e])\/(nE l ca k=0/\∃(Q:Nat->Bool)(H:av)(A:List av)(z:av->aE),TB.Ev 55 (bH d w u l m++[.i aG]) (.ret [.r (ao H)])/\A≠[]/\Y A<=4096/\o=.ret [.r (ao (A.map z)),.i 0]/\∀c∈A,∃F S V B,z c=[.mk (.int I (Y ca.ah)) [],ao (bR Q (Y ay.ah)),F,S,V,B]/\Gq ay d (ao H) (ao (bR Q (Y ay.ah))) F S V B)):=by
 obtain⟨c,hc⟩:=akY f.cast.1;have bq:=f.cast.2;subst hc;obtain⟨o,x,H,rfl,jh⟩:=aDw (co:=m) h s p (c:=c) ae;by_cases P:nE l ca k=0
 rotate_left
 obtain⟨o,g,v⟩:=aub (k:=k) (cl:=cl) (mf:=λ_=>E) (act:=λ_=>[]) (fe:=λ_=>0) h s p D f jh (λq=>bB q P) x (λq=>bB q P);exact⟨o,g,v.imp id λq=>bB q.1 P⟩;obtain⟨j,a3,a4⟩:=Jo P;obtain⟨o,ag,Q,rfl,a9⟩:=aj7 (cl:=cl) h s p D f P;have a:(k-1).toNat<(cr 100 l (Y ca.ah)).ah.length:=ae;have pg:=s.B6 (Y ca.ah) j _ a;have pp:=p.B8.B6 (Y ca.ah) j _ a;have m2:=p.qf.rl;have al:=pp.few;have lr:=pp.lr;have lk:=f.Ay;obtain⟨N,y⟩:∃N,N=ao (vo Q (B7 (cr 100 l (Y ca.ah)) (k-1).toNat) (Y ay.ah) (Y ay.ah)):=⟨_,rfl⟩;have aa:∀i<Y N.ah,Sl (cr 96 N i)/\(cr 96 N i).ah.length<=100:=λi X=>by
  rw[y,nz,aj5] at X;have ab:Sl (cr 96 (B7 (cr 100 l (Y ca.ah)) (k-1).toNat) i):=pg.2.2 i (by rw[<-B7,lr];exact X);rw[y,aDA X ab];split;exact⟨ab,by have:=al i X;omega⟩;exact⟨lJ aw,aw⟩
 obtain⟨z,fe,M,an⟩:=aDD (wg:=d) h (Y ca.ah) (bc:=ao H) (mv:=ao (bR Q (Y ay.ah))) (re:=N) (lJ ae) (lJ (by rw[Ma];omega)) (by rw[y];exact lJ (by rw[aj5];omega)) aa;obtain⟨o,g,v⟩:=aub (k:=k) (cl:=cl) h s p D f jh (λ_=>ag) x (λ_=>y▸M);refine⟨o,g,v.imp id ?_⟩;rintro⟨-,a0,rfl⟩;have ac:∀W∈kn.ah,1<=(iY W).ah.length/\(iY W).ah.length<=2:=λW a1=>by
  obtain⟨i,X,rfl⟩:=av5 a1;have:=f.Gv i X;have e:iY kn.ah[i]=cr 108 kn i:=by rw[<-aj6];simp[di,dv X]
  rw[e];exact⟨this.one,this.two⟩
 refine⟨P,Q,H,kH kn.ah,z,x, ?_, ?_,rfl,λc af=> ?_⟩;have h1:=abN kn.ah;have h2:=aug λW n=>(ac W n).1
 intro e;rw[e] at h1;simp only[Ck] at h1;omega;rw[abN];have h2:=auh λW n=>(ac W n).2
 have h3:2^Y kn.ah<=2^12:=Nat.pow_le_pow_right ae ae;omega;have bq:=aDC c af;obtain⟨vs,vr,vb,e,G⟩:=aDT M an ae (a0 c af);have l1:=G.ls;have l2:=G.lr;have l3:=G.lb;refine⟨_,_,_,_,e,⟨s.sw,lJ ae,lJ (by rw[Ma];omega),lJ ae,lJ ae,lJ ae,lJ ae,λi X=> ?_⟩⟩;have X:i<Y ay.ah:=by simpa[l2] using X
 have:=aa i (by rw[G.Gr];exact X);rw[G.cr X];exact⟨lJ this.1.sm,this.2⟩
def aDV{Q:av}{W:List av}{N:av->aE}{ap:Int}{X:RV}(h:dU)(M:TB.Ev 55 (bH d w u l m++[.i aG]) (.ret [.r (ao Q)]))(s:Y W<=4096)(z:∀c∈W,∃F S V B,N c=[.mk (.int I ap) [],X,F,S,V,B]/\Gq ay d (ao Q) X F S V B):
  ∃o,TB.Ev 38 (bH d w u l m++[.r ca,.i aG,.r kn,.r op,.b cl,.r (ao (W.map N))]) o/\∃A,o=.ret [.b A]/\(A=J->∀c∈W,∃F S V B,N c=[.mk (.int I ap) [],X,F,S,V,B]/\Gq ay d (ao Q) X F S V B/\Ji ap d (ao Q) X F S V B):=by
 simp only[wk,bH,cG,cX] at M;refine eL ?_;simp[ajh,bH,wk];refine bQ (Y W) (λi y=>y=[]/\∀(j:Nat)(H:j<Y W),j<i->∃F S V B,N W[j]=[.mk (.int I ap) [],X,F,S,V,B]/\Gq ay d (ao Q) X F S V B/\Ji ap d (ao Q) X F S V B) ⟨0,rfl,ae,rfl,λj _ H=>ae⟩ ?_;rintro i _ q ⟨rfl,p⟩;simp;refine aU (λG=> ?_) (λn=> ?_)
 rotate_left
 intro c x;obtain⟨j,H,rfl⟩:=av5 x
 grind
 obtain⟨F,S,V,B,e,P⟩:=z W[i] (sQ G);have v:∀j:Nat,aQ (W.map N) (i:Int) j=[.mk (.int I ap) [],X,F,S,V,B].getD j default:=λj=>by
  grind [aQ]
 obtain⟨o,D,b,g,rfl,f,a⟩:=t18 h ap d (ao Q) X F S V B P;simp only[wk,cG,cX] at D;simp[G,aY M,v,QI P.mv,QI P.bf,QI P.af,QI P.Qz,QI P.bx,bn,aY D]
 grind [bD]
end
section
variable{R:aX->Prop}{X:aN}{t:T}{O:aj}{L:ck}
open Classical in
noncomputable def vp(P:Nat->Prop)(w:Nat->aE)(M:av)(i:Nat):av:=(dj (Y M)).map λq=>if q<i/\P q then w q else M.getD q []
variable{P:Nat->Prop}{w:Nat->aE}{M:av}{i:Nat}
def Eg:(vp P w M i).length=Y M:=by simp[vp]
def auk:vp P w M 0=M:=by
 refine awg Eg λq W X=> ?_
 simp[vp,X]
def abO(h:¬P i):vp P w M (i+1)=vp P w M i:=by
 unfold vp
 grind
def aul{x:RV}(W:i<Y M)(h:P i)(V:∀X∈M,Y X=1)(Q:w i=[x]):(vp P w M i).modify i (λX=>ge X 0 [x])=vp P w M (i+1):=by
 refine at2 (Y M) i _ _ _ λq N=> ?_
 by_cases e:q=i;subst e;have:=V _ (sQ W);rw[aH rfl,aH ⟨ae,h⟩,aJ ae,Q];simp only[di,dv W,yV];generalize M[q]=X at this
 match X,this with|[c],_=>rfl
 grind
open Classical in
def aum{q:Nat}(X:q<Y M):aQ (vp P w M i) (q:Int) 0=if q<i/\P q then(w q).getD 0 default else aQ M (q:Int) 0:=by
 simp only[aQ,vp,rN,di,ep,Ep X,ga,yV]
 grind
def aun(V:∀X∈M,Y X=1)(Q:∀q,(w q).length=1):∀X∈vp P w M i,Y X=1:=λX W=>by
 simp only[vp,fo,rO] at W
 grind
variable[Inhabited cm]
def ud(X:Nat->Bool)(ap k:Int)(i:Nat):av:=(sL X i).map λq:Nat=>[.mk (.int I ap) [],.mk (.int I (q:Int)) [],.mk (.int I ap) [],.mk (.int I k) []]
def aj9{ap k:Int}{n:Nat}:ud V ap k (n+1)=if V n then ud V ap k n++[[.mk (.int I ap) [],.mk (.int I (n:Int)) [],.mk (.int I ap) [],.mk (.int I k) []]] else ud V ap k n:=by
 grind [ud,sL,ala]
def auo{mf:Nat->Bool}{ap k:Int}{n:Nat}:(ud mf ap k n).length<=n:=by
 rw[ud,oW];exact aj8
def aDW{ap k:Int}{n j:Nat}(X:j<(ud V ap k n).length):∃r<n,ci (ao (ud V ap k n)) j 1=(r:Int)/\ci (ao (ud V ap k n)) j 2=ap/\ci (ao (ud V ap k n)) j 3=k:=by
 have W:j<(sL V n).length:=by rw[ud,oW] at X;exact X
 refine⟨(sL V n)[j],(aui.1 (sQ W)).1, ?_⟩;simp[ci,aQ,ud,W,bn]
variable{N Q H G W u d y:RV}{aG k:Int}{cl:Bool}
def Df(d S:RV)(q:Nat):Prop:=∃j<13,ci (cr 108 d q) 0 j≠ci S q j
def Jp(X:Nat->Bool)(d S:RV)(q:Nat):Prop:=X q=J/\Df d S q
def knW(d S:RV)(q:Nat):aE:=[ao [md (cr 108 d q) 0,md S q]]
noncomputable def pF(X:Nat->Bool)(d S:RV)(i:Nat):av:=vp (Jp X d S) (knW d S) d.ah i
noncomputable def qg(X:Nat->Bool)(d y S:RV)(v:Int)(i:Nat):av:=vp (Jp X d S) (λ_=>[.mk (.int I v) []]) y.ah i
def aDX(f g:Nat->Int):(∃j<13,f j≠g j)<->(¬f 0=g 0\/¬f 1=g 1\/¬f 2=g 2\/¬f 3=g 3\/¬f 4=g 4\/¬f 5=g 5\/¬f 6=g 6\/¬f 7=g 7\/¬f 8=g 8\/¬f 9=g 9\/¬f 10=g 10\/¬f 11=g 11\/¬f 12=g 12):=by
 constructor
 ·rintro⟨j,X,h⟩;have:j=0\/j=1\/j=2\/j=3\/j=4\/j=5\/j=6\/j=7\/j=8\/j=9\/j=10\/j=11\/j=12:=ae;rcases this with rfl|rfl|rfl|rfl|rfl|rfl|rfl|rfl|rfl|rfl|rfl|rfl|rfl
  all_goals simp[h]
 grind
def aDY{S:RV}{i:Nat}:(pF V d S i).length=Y d.ah:=Eg
def aDZ{S:RV}{v:Int}{i:Nat}:(qg V d y S v i).length=Y y.ah:=Eg
def aD0{mf:Nat->Bool}{S:RV}{m:Nat}(D:Dk u d y)(f:kw H G u d y aG)(p:nE G u k=0)(hl:Y u.ah<=1000)(cS:∀i<Y ay.ah,L5 S i=0):Dk (ao (u.ah++[[.mk (.int I k) []]])) (ao (pF mf d S m)) (ao (qg mf d y S (1+Y u.ah) m))/\kw H G (ao (u.ah++[[.mk (.int I k) []]])) (ao (pF mf d S m)) (ao (qg mf d y S (1+Y u.ah) m)) aG:=by
 obtain⟨aa,ab,ac⟩:=Jo p;have o:=f.Ay;have n:=f.D9;have B:∀q<Y d.ah,(Jp mf d S q/\q<m/\cr 108 (ao (pF mf d S m)) q=ao [md (cr 108 d q) 0,md S q]/\ci (ao (qg mf d y S (1+Y u.ah) m)) q 0=1+Y u.ah)\/(cr 108 (ao (pF mf d S m)) q=cr 108 d q/\ci (ao (qg mf d y S (1+Y u.ah) m)) q 0=ci y q 0):=λq Q=>by
  have X:cr 108 (ao (pF mf d S m)) q=cJ (.sl 108) _:=j7 (cJ (.sl 108)) (aum (P:=Jp mf d S) (w:=knW d S) (i:=m) Q);have V:ci (ao (qg mf d y S (1+Y u.ah) m)) q 0=bn (RV.val _):=j7 (λx=>bn (RV.val x)) (aum (P:=Jp mf d S) (w:=λ_=>[.mk (.int I (1+Y u.ah)) []]) (M:=y.ah) (i:=m) ae);by_cases c:q<m/\Jp mf d S q;rw[aH c] at X V;exact .inl ⟨c.2,c.1,X,V⟩;rw[aJ c] at X V;exact .inr ⟨X,V⟩
 have A:∀i<Y u.ah,aQ (u.ah++[[RV.mk (.int I k) []]]) (i:Int) 0=aQ u.ah (i:Int) 0:=λi W=>by
  simp[aQ,di,fO W]
 have z:aQ (u.ah++[[RV.mk (.int I k) []]]) (Y u.ah:Int) 0=.mk (.int I k) []:=by
  simp[aQ,di]
 refine⟨⟨lJ bS,lJ (by rw[pF,Eg];exact D.sk.sm),lJ (by rw[qg,Eg];exact D.so.sm),λi W=> ?_,aun D.k1 λ_=>rfl,aun D.o1 λ_=>rfl⟩,bS,f.cast,by rw[nz,pF,Eg];exact o,by rw[nz,qg,Eg];exact n,λi W=> ?_,λi W=> ?_⟩;rw[nz,pF,Eg] at W;rcases B i W with⟨-,-,e,-⟩|⟨e,-⟩;rw[e];exact lJ aw;rw[e];exact D.kk i W;simp only[nz,fT,Vy] at W;by_cases e:i<Y u.ah;have:=f.call i e;simp only[ci,nz,A i e] at this⊢;exact this;have:i=Y u.ah:=ae;subst this;have e:ci (ao (u.ah++[[.mk (.int I k) []]])) (Y u.ah) 0=k:=by simp only[ci,nz,z];rfl
 rw[e];omega;rw[nz,pF,Eg] at W;obtain⟨l,h,g,b,v,a⟩:=f.Gv i W;rcases B i W with⟨⟨-,c⟩,-,X,V⟩|⟨X,V⟩;have s:∀j<13,ci (ao [md (cr 108 d i) 0,md S i]) 0 j=ci (cr 108 d i) 0 j/\ci (ao [md (cr 108 d i) 0,md S i]) 1 j=ci S i j:=atG ⟨rfl,rfl⟩ ⟨rfl,rfl⟩ ⟨rfl,rfl⟩ ⟨rfl,rfl⟩ ⟨rfl,rfl⟩ ⟨rfl,rfl⟩ ⟨rfl,rfl⟩ ⟨rfl,rfl⟩ ⟨rfl,rfl⟩ ⟨rfl,rfl⟩ ⟨rfl,rfl⟩ ⟨rfl,rfl⟩ ⟨rfl,rfl⟩;have sb:be .sub I (1+(Y u.ah:Int)) 1=Y u.ah:=by
  simp only[be];rw[iW ae ae];omega
 refine⟨?_, ?_, ?_,λ_=> ?_,λq Q=> ?_,λ_=> ?_⟩;rw[X];simp;rw[X];simp;rw[X,V];simp;omega;obtain⟨j,N,F⟩:=c;rw[X];exact⟨j,N,by rw[(s j N).1,(s j N).2];exact F⟩;rw[X] at Q⊢;have Q:q<2:=by simpa using Q
 have:q=0\/q=1:=ae;rcases this with rfl|rfl;exact v 0 ae;exact cS i ae;rw[V,sb];refine⟨ae,bS, ?_⟩;rw[nz,z];show k≠0;omega;refine⟨by rw[X];exact l,by rw[X];exact h,by rw[X,V];exact g,by rw[X];exact b,by rw[X];exact v, ?_⟩;rw[V];intro F;obtain⟨r,g2,g3⟩:=a F;refine⟨r,bS, ?_⟩;have e:=A (be .sub I (ci y i 0) 1).toNat ae;rw[aJe r] at e;rw[nz,e];exact g3
def aD1(h:dU)(s:jR N Q H G W)(p:mQ N Q H G W)(D:Dk u d y)(f:kw H G u d y aG){mf:Nat->Bool}{l rest:av}{F S V B:RV}(g:l=[.mk (.int I (Y u.ah)) [],ao (bR mf (Y ay.ah)),F,S,V,B]::rest)(ll:Y l<=4096)(h0:nE G u k=0)(ab:TB.Ev 37 (bH N Q H G W++[.r u,.i aG,.r d,.r y,.b E,.i k]) (.ret [.r (ao l),.i 0]))(ac:TB.Ev 38 (bH N Q H G W++[.r u,.i aG,.r d,.r y,.b E,.r (ao l)]) (.ret [.b J]))(sS:Sl S)(lS:Y S.ah=Y ay.ah):
  TB.Ev 22 (bH N Q H G W++[.r u,.i aG,.r d,.r y,.b E,.i k]) (.ret [.r (ao (u.ah++[[.mk (.int I k) []]])),.i aG,.r (ao (pF mf d S (Y ay.ah))),.r (ao (qg mf d y S (1+Y u.ah) (Y ay.ah))),.b E,.r (ao (ud mf (Y u.ah) k (Y ay.ah))),.i 0]):=by
 obtain⟨P,v⟩:∃P:aX->Prop,∀o,P o<->o=.ret [.r (ao (u.ah++[[.mk (.int I k) []]])),.i aG,.r (ao (pF mf d S (Y ay.ah))),.r (ao (qg mf d y S (1+Y u.ah) (Y ay.ah))),.b E,.r (ao (ud mf (Y u.ah) k (Y ay.ah))),.i 0]:=⟨_,λ_=>Iff.rfl⟩
 suffices al:∃o,TB.Ev 22 (bH N Q H G W++[.r u,.i aG,.r d,.r y,.b E,.i k]) o/\P o by
  obtain⟨o,m,c⟩:=al;rw[(v o).1 c] at m;exact m
 have an:∀A,A=u.ah++[[RV.mk (.int I k) []]]->P (.ret [.r (ao A),.i aG,.r (ao (pF mf d S (Y ay.ah))),.r (ao (qg mf d y S (1+Y u.ah) (Y ay.ah))),.b E,.r (ao (ud mf (Y u.ah) k (Y ay.ah))),.i 0]):=λA e=>(v _).2 (by rw[e])
 have a0:KL P:=λa b ha a1=>by
  rw[(v a).1 ha,(v b).1 a1];exact⟨rfl,HA _⟩
 obtain⟨a9,ba,bb⟩:=Jo h0;have a3:k≠0:=ae;have m5:=p.qf.bars;have m2:=p.qf.rl;have lO:=p.B8.len;have lc:=f.calls;have lk:=f.Ay;have lo:=f.D9;have b1:(Y u.ah:Int)<=536870912:=ae;have b2:(Y d.ah:Int)<=536870912:=ae;have b3:(Y y.ah:Int)<=536870912:=ae;have a4:l≠[]:=by rw[g];simp
 have aa:Y ay.ah<=140737488355328:=ae;have c1:cJ (.sl 4) (aQ l 0 1)=ao (bR mf (Y ay.ah)):=by rw[g];rfl
 have c3:cJ (.sl 108) (aQ l 0 3)=S:=by rw[g];exact QI sS
 have wV:be .add I 1 (Y u.ah:Int)=1+Y u.ah:=by simp only[be];exact iW ae ae
 refine eL ?_;simp only[wk,bH,cG,cX] at ab ac;simp[UG,bH,wk,a3,aY ab,aY ac,D.sc.len,D.sk.len,D.so.len,Gm,a0];have af:0<Y l:=av4.2 a4
 repeat'(first|exact b1|exact b2|exact b3|exact af|apply And.intro|intro _)
 all_goals refine bQ (Y ay.ah) (λi rest=>rest=[.r (ao (ud mf (Y u.ah) k i)),.r (ao (pF mf d S i)),.r (ao (qg mf d y S (1+Y u.ah) i))]) ⟨0,rfl,ae, ?_⟩ ?_
 all_goals try(show[XV.r _,XV.r _,XV.r _]=_;rw[pF,qg,auk,auk];(first|rfl|(rw[show d.ah=[] from mh];rfl)|(rw[show y.ah=[] from mh];rfl)|(rw[show d.ah=[] from mh,show y.ah=[] from mh];rfl)))
 all_goals
  rintro i _ hi rfl;simp[af,c1,c3,Ma,aDY,aDZ,D.sc.len,D.sk.len,wV]
 all_goals
  refine aU (λz=>⟨z, ?_⟩) (λbc=> ?_)
  rotate_left
  have e:i=Y ay.ah:=ae;rw[e];exact an _ (by first|rfl|(rw[show u.ah=[] from mh];rfl));rw[aj4 z];refine aU (λX=> ?_) (λX=> ?_)
  rotate_left
  rw[bD z aa,aj9,aJ X,pF,pF,qg,qg,abO (λq=>X q.1),abO (λq=>X q.1)];have e:=(D.kk i ae).len;have e1:=(f.Gv i ae).one;have e2:=auo (mf:=mf) (ap:=Y u.ah) (k:=k) (n:=i);simp only[cr] at e e1;refine⟨ae,ae,by rw[e];omega,by rw[sS.len];omega, ?_⟩;have ag:=aDX (λj=>ci (cr 108 d i) 0 j) λj=>ci S i j
  refine aU (λhd=>⟨ae,ae, ?_⟩) (λhd=> ?_);have x:Jp mf d S i:=⟨X,ag.2 hd⟩;have m:(pF mf d S i).modify i _=pF mf d S (i+1):=aul ae x D.k1 rfl;have c:(qg mf d y S (1+Y u.ah) i).modify i _=qg mf d y S (1+Y u.ah) (i+1):=aul ae x D.o1 rfl;rw[bD z aa,aj9,aH X,<-m,<-c];rfl;have x:¬Jp mf d S i:=λq=>hd (ag.1 q.2)
  rw[bD z aa,aj9,aH X,pF,pF,qg,qg,abO x,abO x]
def QJ(A O X:av):Prop:=Y X<=4096/\∀j<Y X,U5 (ao A) (ao O) (ci (ao X) j 1) (ci (ao X) j 2) (ci (ao X) j 3)
def aD2(h:dU)(s:jR N Q H G W)(p:mQ N Q H G W)(D:Dk u d y)(f:kw H G u d y aG)(fH:Y dh.ah<=40):∃o,TB.Ev 21 (bH N Q H G W++[.r u,.i aG,.r d,.r y,.b cl,.i k]) o/\∃b e,o=.ret [.b b,.i e]/\(b=J->e=0/\nE G u k=0/\(cl=E->∃X O g,TB.Ev 22 (bH N Q H G W++[.r u,.i aG,.r d,.r y,.b cl,.i k]) (.ret [.r (ao (u.ah++[[.mk (.int I k) []]])),.i aG,.r (ao X),.r (ao O),.b cl,.r (ao g),.i 0])/\Dk (ao (u.ah++[[.mk (.int I k) []]])) (ao X) (ao O)/\kw H G (ao (u.ah++[[.mk (.int I k) []]])) (ao X) (ao O) aG/\QJ (u.ah++[[.mk (.int I k) []]]) O g)):=by
 obtain⟨o,z,hR⟩:=aDU (k:=k) (cl:=cl) h s p D f fH;rcases hR with⟨e,he,rfl⟩|⟨x,v,bc,CC,c,aa,ab,bq,rfl,hA⟩;refine⟨_, ?_,E,e,rfl,nofun⟩;simp only[wk,bH,cG,cX] at z;refine kq ?_;simp[aa6,bH,wk,aY z,he];obtain⟨o,q,A,rfl,ac⟩:=aDV (ca:=u) (kn:=d) (op:=y) (cl:=cl) h aa bq hA;refine⟨_, ?_,A,0,rfl,λag=>⟨rfl,x,λhc=> ?_⟩⟩;simp only[wk,bH,cG,cX] at z q;refine kq ?_;simp[aa6,bH,wk,aY z,aY q];subst hc ag;obtain⟨al,a1,a3⟩:=Jo x;have m5:=p.qf.bars;have m2:=p.qf.rl;have lO:=p.B8.len;have k8:=p.qf.br _ al;have lo:=f.D9;obtain⟨c0,an,a⟩:=List.exists_cons_of_ne_nil ab;obtain⟨F,S,V,B,ea,hS,hO⟩:=ac rfl c0 (by rw[a];simp);have a0:=aD1 (mf:=v) (F:=F) (S:=S) (V:=V) (B:=B) (l:=CC.map c) (rest:=an.map c) h s p D f (by rw[a];simp[ea]) bS x z q hS.af hO.ex.Jg;obtain⟨D2,f2⟩:=aD0 (mf:=v) (S:=S) (m:=Y ay.ah) D f x ae λi hi=>(hO.ex.box i hi).2
 refine⟨_,_,_,a0,D2,f2,by have:=auo (mf:=v) (ap:=Y u.ah) (k:=k) (n:=Y ay.ah);omega,λj hj=> ?_⟩;obtain⟨r,hr,e1,e2,e3⟩:=aDW hj;rw[e1,e2,e3];refine⟨⟨ae,by rw[nz,qg,Eg];omega⟩,⟨ae,bS⟩, ?_,ae,ae⟩;rw[nz];simp[aQ,bn];omega
end
structure Sr where
 st:Int
 pl:List Int
 kb:Int
section
variable{a:Type}
def AA(bud:Int)(cl:Bool)(sf:Int->Bool)(g:Int->Sr->Sr)(z:Sr->Sr):Nat->Int->Sr->Sr
 |0,_,s=>z s|r+1,k,s=>if s.st<bud/\cl=E then AA bud cl sf g z r (k+1) (if sf k then g k ⟨s.st+1,s.pl,s.kb⟩ else⟨s.st+1,s.pl,s.kb⟩) else z s
def rK(cl:Bool)(lim:a->Nat)(sf:a->Int->Bool)(kp:a->Int->Int)(nx:a->Int->a)(add:Int->Int->Int)(bud:Int):Nat->a->List Int->Int->Sr->Sr
 |0,_,c,X,s=>if s.kb<X then⟨s.st,c,X⟩ else s|m+1,x,c,X,s=>AA bud cl (sf x) (λk=>rK cl lim sf kp nx add bud m (nx x k) (c++[k]) (add X (kp x k))) (rK cl lim sf kp nx add bud m (nx x 0) (c++[0]) X) (lim x) 1 s
def AB(cl:Bool)(sf:a->Int->Bool)(kp:a->Int->Int)(nx:a->Int->a)(add:Int->Int->Int):List Int->Nat->a->Int->Option Int
 |[],m,_,X=>if m=0 then U X else Z|_::_,0,_,_=>Z|k::p,m+1,x,X=>if k=0 then AB cl sf kp nx add p m (nx x 0) X else if cl=E/\sf x k=J then AB cl sf kp nx add p m (nx x k) (add X (kp x k)) else Z
variable{cl:Bool}{lim:a->Nat}{sf:a->Int->Bool}{kp:a->Int->Int}{nx:a->Int->a}{add:Int->Int->Int}{bud d:Int}{f:Int->Bool}{g i:Int->Sr->Sr}{z l:Sr->Sr}
def Sr.Le(s t:Sr):Prop:=s.st<=t.st/\s.kb<=t.kb
def Sr.Le.trans{s t u:Sr}(h:s.Le t)(k:t.Le u):s.Le u:=⟨awA h.1 k.1,awA h.2 k.2⟩
def aka(Q:Sr->Prop)(X:∀s,Q s->Q (z s))(W:∀k s,0<k->cl=E->f k=J->Q s->Q (g k s))(V:∀s,s.st<bud->Q s->Q ⟨s.st+1,s.pl,s.kb⟩):∀r k s,0<k->Q s->Q (AA bud cl f g z r k s)
 |0,_,s,_,h=>X s h
 |r+1,k,s,R,h=>by
  rw[AA];split;rename_i q;refine aka Q X W V r (k+1) _ ae ?_
  grind
  grind
def auq(X:∀(k:Int)(s:Sr),s.Le (g k s)):∀r k(s:Sr),∃t,s.Le t/\AA bud cl f g z r k s=z t
 |0,_,s=>⟨s,⟨JF _,JF _⟩,rfl⟩
 |r+1,k,s=>by
  rw[AA];have W:s.Le ⟨s.st+1,s.pl,s.kb⟩:=⟨by show s.st<=s.st+1;omega,JF _⟩;split;obtain⟨t,h,e⟩:=auq X r (k+1) (if f k then g k ⟨s.st+1,s.pl,s.kb⟩ else⟨s.st+1,s.pl,s.kb⟩);refine⟨t,Sr.Le.trans ?_ h,e⟩;split;exact W.trans (X _ _);exact W;exact⟨s,⟨JF _,JF _⟩,rfl⟩
def U7:∀m x c X(s:Sr),s.Le (rK cl lim sf kp nx add bud m x c X s)/\X<=(rK cl lim sf kp nx add bud m x c X s).kb
 |0,x,c,X,s=>by
  rw[rK];split;exact⟨⟨JF _,Int.le_of_lt mh⟩,JF _⟩;exact⟨⟨JF _,JF _⟩,ae⟩
 |m+1,x,c,X,s=>by
  rw[rK];obtain⟨t,h,e⟩:=auq (bud:=bud) (cl:=cl) (f:=sf x) (z:=rK cl lim sf kp nx add bud m (nx x 0) (c++[0]) X) (λk s=>(U7 m (nx x k) (c++[k]) (add X (kp x k)) s).1) (lim x) 1 s;rw[e];exact⟨h.trans (U7 m _ _ _ t).1,(U7 m _ _ _ t).2⟩
def abP:∀m x c X(s:Sr),s.st<=bud->(rK cl lim sf kp nx add bud m x c X s).st<=bud
 |0,x,c,X,s,h=>by
  grind [rK]
 |m+1,x,c,X,s,h=>by
  rw[rK];exact aka (λq=>q.st<=bud) (λq h=>abP m _ _ _ q h) (λk q _ _ _ h=>abP m _ _ _ q h) (λq h _=>by show q.st+1<=bud;omega) _ _ s ez h
def akb:∀m x c X(s:Sr),((rK cl lim sf kp nx add bud m x c X s).pl=s.pl/\(rK cl lim sf kp nx add bud m x c X s).kb=s.kb)\/∃p,Y p=m/\AB cl sf kp nx add p m x X=U (rK cl lim sf kp nx add bud m x c X s).kb/\(rK cl lim sf kp nx add bud m x c X s).pl=c++p
 |0,x,c,X,s=>by
  rw[rK];split;exact .inr ⟨[],rfl,by simp[AB],aw⟩;simp
 |m+1,x,c,X,s=>by
  rw[rK];refine aka (λt=>(t.pl=s.pl/\t.kb=s.kb)\/∃p:List Int,Y p=m+1/\AB cl sf kp nx add p (m+1) x X=U t.kb/\t.pl=c++p) (λt W=> ?_) (λk t P O N W=> ?_) (λt _ W=>W) (lim x) 1 s ez (.inl ⟨rfl,rfl⟩);rcases akb m (nx x 0) (c++[0]) X t with⟨V,R⟩|⟨p,V,R,Q⟩
  grind
  grind [AB]
  rcases akb m (nx x k) (c++[k]) (add X (kp x k)) t with⟨V,R⟩|⟨p,V,R,Q⟩
  grind
  grind [AB]
end
section
variable{R:aX->Prop}{G:aN}{t:T}{O:aj}{L:ck}
variable[Inhabited cm]
variable{e l d c n o u q:RV}{aG k:Int}{cl:Bool}
noncomputable def jZ(o:RV)(a Q O:av):Nat->av×av
 |0=>(Q,O)|i+1=>(sJ o (ao (jZ o a Q O i).1) (ao (jZ o a Q O i).2) (ci (ao a) i 1).toNat (ci (ao a) i 2) (ci (ao a) i 3),sK o (ao (jZ o a Q O i).2) (ci (ao a) i 1).toNat (ci (ao a) i 2) (ci (ao a) i 3))
variable{A Q O a:av}
def U8(h:dU)(s:jR e l d c n)(p:mQ e l d c n)(D:Dk (ao A) (ao Q) (ao O))(f:kw d c (ao A) (ao Q) (ao O) aG)(M:QJ A O a):∀i≤Y a,Dk (ao A) (ao (jZ (ao A) a Q O i).1) (ao (jZ (ao A) a Q O i).2)/\kw d c (ao A) (ao (jZ (ao A) a Q O i).1) (ao (jZ (ao A) a Q O i).2) aG/\(jZ (ao A) a Q O i).2.length=Y O/\
  (i<Y a->TB.Ev 23 (bH e l d c n++[.r (ao A),.i aG,.r (ao (jZ (ao A) a Q O i).1),.r (ao (jZ (ao A) a Q O i).2),.b cl,.i (ci (ao a) i 1),.i (ci (ao a) i 2),.i (ci (ao a) i 3)]) (.ret [.r (ao A),.i aG,.r (ao (jZ (ao A) a Q O (i+1)).1),.r (ao (jZ (ao A) a Q O (i+1)).2),.b cl,.i 0]))
 |i,H=>by
  have G:Dk (ao A) (ao (jZ (ao A) a Q O i).1) (ao (jZ (ao A) a Q O i).2)/\kw d c (ao A) (ao (jZ (ao A) a Q O i).1) (ao (jZ (ao A) a Q O i).2) aG/\(jZ (ao A) a Q O i).2.length=Y O:=by
   match i,H with
   |0,_=>exact⟨D,f,rfl⟩
   |i+1,H=>
    obtain⟨X,W,P,-⟩:=U8 h s p D f M i ae;have g:=M.2 i H;have V:(ci (ao a) i 1).toNat<(ao (jZ (ao A) a Q O i).1).ah.length:=by
     have:=g.1;have z:=W.Ay;have y:=W.D9
     grind [nz]
    obtain⟨b,N⟩:=akY g.2.1.1;rw[jZ,N];exact⟨aDo X V,aDp X W V,(ajZ).trans P⟩
  obtain⟨X,W,P⟩:=G;refine⟨X,W,P,λF=> ?_⟩;have g:=M.2 i F;have B:(ao (jZ (ao A) a Q O i).2).ah.length=(ao O).ah.length:=P;obtain⟨r,V⟩:=akY g.1.1;obtain⟨b,N⟩:=akY g.2.1.1;rw[jZ,N,V];rw[N,V] at g;exact aDm (cl:=cl) h s p X.sc X.sk X.so X.kk W (aDq (ca:=ao A) (op:=ao O) B g)
def aD3(h:dU)(s:jR e l d c n)(p:mQ e l d c n)(W:TB.Ev 22 (bH e l d c n++[.r o,.i aG,.r u,.r q,.b cl,.i k]) (.ret [.r (ao A),.i aG,.r (ao Q),.r (ao O),.b cl,.r (ao a),.i 0]))(D:Dk (ao A) (ao Q) (ao O))(f:kw d c (ao A) (ao Q) (ao O) aG)(V:QJ A O a):
  TB.Ev 20 (bH e l d c n++[.r o,.i aG,.r u,.r q,.b cl,.i k]) (.ret [.r (ao A),.i aG,.r (ao (jZ (ao A) a Q O (Y a)).1),.r (ao (jZ (ao A) a Q O (Y a)).2),.b cl]):=by
 refine kq ?_;simp only[wk,bH,cG,cX] at W;simp[ajl,bH,wk,aY W];refine bQ (Y a) (λi P=>P=[.r (ao A),.i aG,.r (ao (jZ (ao A) a Q O i).1),.r (ao (jZ (ao A) a Q O i).2),.b cl]) ⟨0,rfl,ae,rfl⟩ ?_;rintro i _ N rfl;simp;refine aU (λX=>⟨X, ?_⟩) (λM=> ?_);have g:=(U8 (cl:=cl) h s p D f V i N).2.2.2 X;simp only[wk,bH,ci,cG,cX,nz] at g;simp[aY g];rw[bD X (by have:=V.1;omega)]
 grind
abbrev DS:=RV×RV×RV
structure Gd(d c:RV)(aG:Int)(x:DS)(m:Nat):Prop where
 D:Dk x.1 x.2.1 x.2.2
 f:kw d c x.1 x.2.1 x.2.2 aG
 m:Y x.1.ah+m=Y c.ah
def pG(e l d c n:RV)(aG:Int)(cl:Bool)(x:DS)(k:Int):aZ:=bH e l d c n++[.r x.1,.i aG,.r x.2.1,.r x.2.2,.b cl,.i k]
def yL(c:RV)(x:DS):Nat:=(cr 100 c (Y x.1.ah)).ah.length
noncomputable def yM(e l d c n:RV)(aG:Int)(cl:Bool)(x:DS)(k:Int):Bool:=decide (1<=k/\k<=yL c x)&&ob 21 (pG e l d c n aG cl x k) 0
noncomputable def Eh(e l d c n:RV)(aG:Int)(cl:Bool)(x:DS)(k:Int):Int:=oi 12 (pG e l d c n aG cl x k) 0
noncomputable def sM(e l d c n:RV)(aG:Int)(cl:Bool)(x:DS)(k:Int):DS:=(or 20 (pG e l d c n aG cl x k) 0,or 20 (pG e l d c n aG cl x k) 2,or 20 (pG e l d c n aG cl x k) 3)
end
section
variable{R:aX->Prop}{G:aN}{t:T}{O:aj}{L:ck}
variable[Inhabited cm]
variable{B H y w M ca kn op:RV}{aG k:Int}{cl:Bool}{x:DS}{m:Nat}
def akc(h:dU)(s:jR B H y w M)(p:mQ B H y w M)(fH:Y dh.ah<=40)(G:Gd y w aG x m)(k:Int):∃e,TB.Ev 21 (pG B H y w M aG cl x k) (.ret [.b (yM B H y w M aG cl x k),.i e])/\(yM B H y w M aG cl x k=J->e=0/\nE w x.1 k=0/\(cl=E->∃X O W,TB.Ev 22 (pG B H y w M aG cl x k) (.ret [.r (ao (x.1.ah++[[.mk (.int I k) []]])),.i aG,.r (ao X),.r (ao O),.b cl,.r (ao W),.i 0])/\Dk (ao (x.1.ah++[[.mk (.int I k) []]])) (ao X) (ao O)/\kw y w (ao (x.1.ah++[[.mk (.int I k) []]])) (ao X) (ao O) aG/\QJ (x.1.ah++[[.mk (.int I k) []]]) O W)):=by
 obtain⟨o,g,b,e,rfl,V⟩:=aD2 (cl:=cl) (k:=k) h s p G.D G.f fH;have Q:ob 21 (pG B H y w M aG cl x k) 0=b:=by simp only[ob,pG,DW g];rfl
 have P:yM B H y w M aG cl x k=b:=by
  rw[yM,Q];cases b;simp;obtain⟨-,N,-⟩:=V rfl;obtain⟨z,F,A⟩:=Jo N;simp[yL,F,A]
 rw[P];exact⟨e,g,V⟩
def aur(h:dU)(s:jR B H y w M)(p:mQ B H y w M)(G:Gd y w aG x m)(k:Int):∃e,TB.Ev 12 (pG B H y w M aG cl x k) (.ret [.i (Eh B H y w M aG cl x k),.i e])/\(nE w x.1 k=0->e=0):=by
 have Q:∃n e,TB.Ev 12 (pG B H y w M aG cl x k) (.ret [.i n,.i e])/\(nE w x.1 k=0->e=0):=by
  obtain⟨o,W,P⟩:=aDQ (aG:=aG) (cl:=cl) (k:=k) h s G.D;rcases P with⟨r,e,rfl,V⟩|⟨⟨⟨p,f⟩,X⟩,N,rfl⟩;refine⟨0,e,aDS h V W,λX=>bB ?_ V⟩;obtain⟨o,F,N,rfl,-⟩:=aj7 (cl:=cl) h s p G.D G.f X;have:=Od W (auf h s p G.D G.f X F)
  grind
  obtain⟨o,g,m,-,rfl⟩:=aDR h s p G.D f X W;exact⟨_,0,g,λ_=>rfl⟩
 obtain⟨n,e,g,V⟩:=Q;have:Eh B H y w M aG cl x k=n:=by simp only[Eh,oi,DW g];rfl
 grind
def abQ(h:dU)(s:jR B H y w M)(p:mQ B H y w M)(fH:Y dh.ah<=40)(G:Gd y w aG x (m+1))(N:k=0\/cl=E/\yM B H y w M aG cl x k=J):∃A X O W,TB.Ev 22 (pG B H y w M aG cl x k) (.ret [.r (ao A),.i aG,.r (ao X),.r (ao O),.b cl,.r (ao W),.i 0])/\Dk (ao A) (ao X) (ao O)/\kw y w (ao A) (ao X) (ao O) aG/\QJ A O W/\sM B H y w M aG cl x k=(ao A,ao (jZ (ao A) W X O (Y W)).1,ao (jZ (ao A) W X O (Y W)).2)/\
  TB.Ev 20 (pG B H y w M aG cl x k) (.ret [.r (sM B H y w M aG cl x k).1,.i aG,.r (sM B H y w M aG cl x k).2.1,.r (sM B H y w M aG cl x k).2.2,.b cl])/\Gd y w aG (sM B H y w M aG cl x k) m:=by
 have l:=G.m;have c:=p.B8.len;have m5:=p.qf.bars
 suffices F:∃A X O W,TB.Ev 22 (pG B H y w M aG cl x k) (.ret [.r (ao A),.i aG,.r (ao X),.r (ao O),.b cl,.r (ao W),.i 0])/\Dk (ao A) (ao X) (ao O)/\kw y w (ao A) (ao X) (ao O) aG/\QJ A O W/\Y A=Y x.1.ah+1 by
  obtain⟨A,X,O,W,g,D,f,V,hA⟩:=F;have Q:=aD3 h s p g D f V;have e:sM B H y w M aG cl x k=(ao A,ao (jZ (ao A) W X O (Y W)).1,ao (jZ (ao A) W X O (Y W)).2):=by
   simp only[sM,or,pG,DW Q];rfl
  obtain⟨z,v,-,-⟩:=U8 (cl:=cl) h s p D f V (Y W) (cd _);refine⟨A,X,O,W,g,D,f,V,e, ?_, ?_⟩;rw[e];exact Q;rw[e];exact⟨z,v,bS⟩
 rcases N with rfl|⟨V,hs⟩;obtain⟨a,b,d,q,g,u⟩:=aud (cl:=cl) h s p G.D G.f;have P:Y x.1.ah<Y w.ah:=ae;obtain⟨rfl,rfl,rfl,rfl⟩:=u P;have o:¬Y w.ah<=Y x.1.ah:=ae;simp only[aJ o] at g;exact⟨_,_,_,[],g,aDE G.D ae,aDF G.D G.f P,⟨aw,λj n=>by simp at n⟩,aw⟩;obtain⟨e,-,hf⟩:=akc (cl:=cl) h s p fH G k
 grind
def qh(l:List Int):RV:=ao (l.map λk=>[.mk (.int I k) []])
def akd(l:List Int):lenOf (qh l).val=Y l:=by simp[qh]
def aus(l:List Int)(k:Int):ao ((qh l).ah++[[.mk (.int I k) []]])=qh (l++[k]):=by simp[qh]
def aD4(l:List Int)(X:Y l<=4096):TB.Ev 35 [.r (qh l)] (.ret [.r (qh l)]):=by
 refine kq ?_;simp[ajc,qh,Gm];refine⟨ae,λe=>by rw[e];rfl,λ_=>single (HA _)⟩
noncomputable def w7(B H y w M:RV)(aG:Int)(cl:Bool)(X:Int):Nat->DS->List Int->Int->Sr->Sr:=rK cl (yL w) (yM B H y w M aG cl) (Eh B H y w M aG cl) (sM B H y w M aG cl) (be .add I) X
def aD5{a b:Int}:be .add I (be .add I a b) 0=be .add I a b:=by
 simp only[be,Int.add_zero,IntKind.wrap_i64];omega
def aD6{cl0:Bool}{W:Int}(h:dU)(s:jR B H y w M)(p:mQ B H y w M)(fH:Y dh.ah<=40)(hb:W<=4096):∀(m:Nat)(x:DS)(c:List Int)(X:Int)(q:Sr),Gd y w aG x m->be .add I X 0=X->0<=q.st->q.st<=W->Y c+m<=4096->
  TB.Ev 308 ([.r x.1,.i aG,.r x.2.1,.r x.2.2,.b cl,.r (qh c),.i X]++bH B H y w M++[.r ca,.i aG,.r kn,.r op,.b cl0,.i W,.i q.st,.r (qh q.pl),.i q.kb]) (.ret [.i (w7 B H y w M aG cl W m x c X q).st,.r (qh (w7 B H y w M aG cl W m x c X q).pl),.i (w7 B H y w M aG cl W m x c X q).kb]):=by
 intro m;induction m with
 |zero=>
  intro x c X q G n h1 h2 hc;have e:Y x.1.ah=Y w.ah:=G.m;have a0:=aD4 c ae;have hl:w7 B H y w M aG cl W 0 x c X q=if q.kb<X then⟨q.st,c,X⟩ else q:=rfl;rw[hl];refine evo rfl rfl (.inr λv=>nofun) ?_;simp[aa5,bH,wk,G.D.sc.len,s.sr.len,e];refine aU (λaa=> ?_) (λab=> ?_);simp[aY a0,aa];simp[ab]
 |succ m ih=>
  intro x c X q G n h1 h2 hc;obtain⟨F,l⟩:∃F,w7 B H y w M aG cl W (m+1) x c X q=F:=⟨_,rfl⟩;obtain⟨g,j⟩:∃g:Int->Sr->Sr,(λk=>w7 B H y w M aG cl W m (sM B H y w M aG cl x k) (c++[k]) (be .add I X (Eh B H y w M aG cl x k)))=g:=⟨_,rfl⟩;obtain⟨z,hz⟩:∃z:Sr->Sr,w7 B H y w M aG cl W m (sM B H y w M aG cl x 0) (c++[0]) X=z:=⟨_,rfl⟩;have a1:AA W cl (yM B H y w M aG cl x) g z (yL w x) 1 q=F:=by rw[<-l,<-j,<-hz];rfl
  rw[l];clear l;have f:Y x.1.ah<Y w.ah:=by have:=G.m;omega
  have s3:=(s.Aw _ f).len;have b8:=p.qf.br _ f;have a3:(cr 100 w (Y x.1.ah)).ah.length=yL w x:=rfl;rw[a3] at s3 b8;simp only[cr] at s3;obtain⟨A0,K0,O0,bc,-,-,-,-,-,ac,G0⟩:=abQ (cl:=cl) (k:=0) h s p fH G (.inl rfl);refine evo rfl rfl (.inr λv=>nofun) ?_;simp[aa5,bH,wk,G.D.sc.len,s.sr.len];refine Jn ae ?_;refine As (λV=>∃(r k:Nat)(u:Sr),V=[.i k,.i u.st,.r (qh u.pl),.i u.kb]/\k+r=yL w x+1/\1<=k/\0<=u.st/\u.st<=W/\AA W cl (yM B H y w M aG cl x) g z r k u=F) (λV=>(yL w x+1-xi V 0).toNat) ⟨yL w x,1,q,aw,ae,ae,h1,h2,a1⟩ ?_;rintro _ ⟨r,k,u,rfl,bf,bg,a4,a9,P⟩;simp[xi,G.D.sc.len,s.sr.len,s3];refine⟨f, ?_⟩;have ba:∀k(v:Sr),0<=v.st->v.st<=W->0<=(g k v).st/\(g k v).st<=W:=λk v a b=>by
   rw[<-j];exact⟨awA a (U7 m _ _ _ v).1.1,abP m _ _ _ v b⟩
  refine aU (λab=>aU (λaf=>aU (λbq=> ?a) (λbq=> ?b)) (λaf=> ?c)) (λaa=> ?d)
  case b=>
   have bq:cl=false:=by simpa using bq
   obtain⟨r,rfl⟩:∃r',r=r'+1:=⟨r-1,ae⟩;rw[AA,aH ⟨af,bq⟩] at P;have ek:((k+1:Nat):Int)=(k:Int)+1:=ae;have es:be .add I u.st 1=u.st+1:=by simp only[be];exact iW ae ae
   obtain⟨e,ag,hs⟩:=akc (cl:=cl) h s p fH G k;simp only[pG,wk,bH,cG,cX] at ag;simp[aY ag,es,wV (show k<=140737488355328 from ae)];have bk:∀v:Sr,0<=v.st->v.st<=W->AA W cl (yM B H y w M aG cl x) g z r ((k:Int)+1) v=F->I5 (U ⟨0,λV=>∃(r k:Nat)(u:Sr),V=[.i k,.i u.st,.r (qh u.pl),.i u.kb]/\k+r=yL w x+1/\1<=k/\0<=u.st/\u.st<=W/\AA W cl (yM B H y w M aG cl x) g z r k u=F,λV=>(yL w x+1-xi V 0).toNat,yL w x+1-k⟩) [.i ((k:Int)+1),.i v.st,.r (qh v.pl),.i v.kb]:=λv v1 v2 o=>by
    refine⟨⟨r,k+1,v,by rw[ek],ae,ae,v1,v2,by rw[ek];exact o⟩, ?_⟩;show((yL w x:Int)+1-((k:Int)+1)).toNat<yL w x+1-k;omega
   by_cases N:yM B H y w M aG cl x k=J;obtain⟨he,ha,-⟩:=hs N;obtain⟨A,K',O,cu,-,-,-,-,-,al,G1⟩:=abQ (cl:=cl) (k:=k) h s p fH G (.inr ⟨bq,N⟩);obtain⟨e',an,-⟩:=aur (cl:=cl) h s p G k;have Q:=ih (sM B H y w M aG cl x k) (c++[(k:Int)]) (be .add I X (Eh B H y w M aG cl x k)) ⟨u.st+1,u.pl,u.kb⟩ G1 aD5 (by show 0<=u.st+1;omega) (by show u.st+1<=W;omega) bS;rw[show w7 B H y w M aG cl W m (sM B H y w M aG cl x k) (c++[(k:Int)]) (be .add I X (Eh B H y w M aG cl x k))=g k by rw[<-j],<-aus] at Q;rw[aH N] at P;simp only[pG,wk,bH,cG,cX] at an al Q;simp[N,he,aY an,aY al,akd,es,aY Q,wV (show k<=140737488355328 from ae)];have o:=ba k ⟨u.st+1,u.pl,u.kb⟩ (by show 0<=u.st+1;omega) (by show u.st+1<=W;omega);exact⟨ae,bk _ o.1 o.2 P⟩;rw[aJ N] at P;simp[N];exact bk ⟨u.st+1,u.pl,u.kb⟩ (by show 0<=u.st+1;omega) (by show u.st+1<=W;omega) P
  all_goals
   have bb:z u=F:=by
    rw[<-P];cases r with
    |zero=>rfl
    |succ r=>
     rw[AA,aJ];rintro⟨q1,q2⟩
     first|omega|(rw[bq] at q2;cases q2)
   have Q:=ih (sM B H y w M aG cl x 0) (c++[0]) X u G0 n a4 a9 bS;rw[show w7 B H y w M aG cl W m (sM B H y w M aG cl x 0) (c++[0]) X u=F by rw[hz,bb],<-aus] at Q;simp only[pG,wk,bH,cG,cX] at ac Q;simp[aY ac,akd,n,aY Q];omega
end
section
variable{R:aX->Prop}{G:aN}{t:T}{O:aj}{L:ck}
variable[Inhabited cm]
variable{v w u br B H M N:RV}{aG k bud:Int}{cl:Bool}{x:DS}{m:Nat}
def B9(br:RV)(c:Nat):Nat->Nat
 |0=>1|i+1=>B9 br c i*(1+(cr 100 br (c+i)).ah.length)
def ake{c:Nat}:∀{i j:Nat},i<=j->B9 br c i<=B9 br c j
 |i,0,h=>by rw[show i=0 from ae];exact cd _
 |i,j+1,h=>by
  by_cases e:i=j+1
  grind
  refine mg (ake (show i<=j from ae)) ?_;exact aI1 _ ae
theorem aut{a b:Nat}(X:a<=4096)(W:b<=8):be .mul I (a:Int) (be .add I 1 (b:Int))=((a*(1+b):Nat):Int):=by
 have V:be .add I 1 (b:Int)=((1+b:Nat):Int):=by simp only[be];rw[iW ae ae];omega
 have Q:a*(1+b)<=4096*9:=Mt X ae
 grind [be,awk,iW]
def aD7(s:jR v w u br B)(p:mQ v w u br B)(D:Dk H M N)(f:kw u br H M N aG):∃o,TB.Ev 16 (bH v w u br B++[.r H,.i aG,.r M,.r N,.b cl]) o/\∃n,o=.ret [.i n]/\(n<=4096->B9 br (Y H.ah) (Y br.ah-Y H.ah)<=4096):=by
 refine eL ?_;simp[aa4,bH,wk];have G:=s.sr.sm;have F:=f.calls;have Q:=p.qf.br;refine As (λX=>∃i:Nat,X=[.i ((Y H.ah+i:Nat):Int),.i (B9 br (Y H.ah) i)]/\Y H.ah+i<=Y br.ah) (λX=>(Y br.ah-xi X 0).toNat) ⟨0,by simp[D.sc.len,B9],ae⟩ ?_;rintro _ ⟨i,rfl,A⟩;simp[xi,BR,s.sr.len];refine aU (λz=> ?_) (λy=> ?_);have W:Y H.ah+i<Y br.ah:=ae;refine aU (λP=> ?_) (λP=> ?_);have e:=(s.Aw _ W).len;have V:=Q _ W;simp only[cr] at e V;rw[show(Y H.ah:Int)+(i:Int)=((Y H.ah+i:Nat):Int) from ae,e,aut ae V,wV ae];exact⟨ae,⟨i+1,⟨ae,rfl⟩,ae⟩,ae⟩;intro h;omega;intro h;have:i=Y br.ah-Y H.ah:=ae;subst this;omega
def aD8(h:dU)(s:jR v w u br B)(p:mQ v w u br B)(fH:Y dh.ah<=40)(G:Gd u br aG x m)(W:0<=bud)(V:bud<=4096)(o:B9 br (Y x.1.ah) m<=4096):TB.Ev 8 (bH v w u br B++[.r x.1,.i aG,.r x.2.1,.r x.2.2,.b cl,.i bud]) (.ret [.r (qh (w7 v w u br B aG cl bud m x [] 0 ⟨0,[],-1⟩).pl),.i (w7 v w u br B aG cl bud m x [] 0 ⟨0,[],-1⟩).kb,.i (w7 v w u br B aG cl bud m x [] 0 ⟨0,[],-1⟩).st,.i 0]):=by
 have n:=G.m;have Q:=abK (cl:=cl) h s p G.D.sc G.D.sk G.D.so G.D.kk G.f;have l:=s.sr.sm;refine kq ?_;simp only[wk,bH,cG,cX] at Q;simp[ajm,bH,wk,aY Q,G.D.sc.len,s.sr.len];refine⟨W,V,ae, ?_⟩;refine bQ m (λi A=>A=[.i (B9 br (Y x.1.ah) i)]) ⟨0,rfl,ae,rfl⟩ ?_;rintro i _ j rfl;simp;have z:aQ (br.ah.drop (Y x.1.ah)) (i:Int) 0=aQ br.ah ((Y x.1.ah+i:Nat):Int) 0:=by
  grind [aQ,rN]
 rw[z];refine aU (λy=>⟨y, ?_⟩) (λg=> ?_);have P:Y x.1.ah+i<Y br.ah:=ae;have e:=(s.Aw _ P).len;have F:=p.qf.br _ P;have d:=ake (br:=br) (c:=Y x.1.ah) (show i<=m from ae);have a:=ake (br:=br) (c:=Y x.1.ah) (show i+1<=m from ae);simp only[cr] at e F;rw[e,aut ae F,bD ae ae];have q:B9 br (Y x.1.ah) (i+1)=B9 br (Y x.1.ah) i*(1+(cJ (.sl 100) (aQ br.ah ((Y x.1.ah+i:Nat):Int) 0)).ah.length):=rfl;rw[<-q]
 grind
 have m5:=p.qf.bars;have lO:=p.B8.len;have X:=aD6 (ca:=x.1) (kn:=x.2.1) (op:=x.2.2) (cl:=cl) (cl0:=cl) h s p fH V m x [] 0 ⟨0,[],-1⟩ G rfl ez W bS;rw[show qh []=ao [] from rfl] at X;simp only[wk,bH,cG,cX] at X;simp[aY X]
def sN(X:RV):List Int:=(dj (Y X.ah)).map λi=>ci X i 0
def aD9{X:RV}{i:Nat}(W:i<Y X.ah):(sN X).drop i=ci X i 0::(sN X).drop (i+1):=by
 grind [sN,Cg]
def aEa(l:List Int):sN (qh l)=l:=by
 refine awg (by simp[sN,qh]) λi W X=> ?_
 simp[sN,qh,ci,aQ,X,bn]
noncomputable def w8(v w u br B:RV)(aG:Int)(cl:Bool):List Int->Nat->DS->Int->Option Int:=AB cl (yM v w u br B aG cl) (Eh v w u br B aG cl) (sM v w u br B aG cl) (be .add I)
def aEb{pv:RV}(h:dU)(s:jR v w u br B)(p:mQ v w u br B)(fH:Y dh.ah<=40)(G:Gd u br aG x m)(hv:Sl pv):∃o,TB.Ev 9 (bH v w u br B++[.r x.1,.i aG,.r x.2.1,.r x.2.2,.b cl,.r pv]) o/\∃n H,o=.ret [.i n,.b H]/\w8 v w u br B aG cl (sN pv) m x 0=if H=J then U n else none:=by
 obtain⟨P,hP⟩:∃P:aX->Prop,∀o,P o<->∃n H,o=.ret [.i n,.b H]/\w8 v w u br B aG cl (sN pv) m x 0=if H=J then U n else none:=⟨_,λ_=>Iff.rfl⟩
 suffices a9:∃o,TB.Ev 9 (bH v w u br B++[.r x.1,.i aG,.r x.2.1,.r x.2.2,.b cl,.r pv]) o/\P o by
  grind
 refine eL ?_;simp[ajn,bH,wk];refine bQ (Y pv.ah) (λi F=>∃(y:DS)(q:Nat)(X:Int),F=[.i X,.r y.1,.i aG,.r y.2.1,.r y.2.2,.b cl]/\Gd u br aG y q/\w8 v w u br B aG cl (sN pv) m x 0=w8 v w u br B aG cl ((sN pv).drop i) q y X) ⟨0,rfl,ae,x,m,0,rfl,G,rfl⟩ ?_;rintro i _ hi ⟨y,q,X,rfl,W,V⟩;simp[hv.len,W.D.sc.len,s.sr.len];have hm:=W.m;refine aU (λag=>⟨ag, ?_⟩) (λba=> ?_)
 rotate_left
 have e:i=Y pv.ah:=ae;rw[e,acj (by simp[sN])] at V;refine(hP _).2 ⟨_,_,rfl,V.trans ?_⟩;by_cases h0:q=0;subst h0;rw[aH bS];rfl;rw[aJ bS];exact aJ h0;have bb:=hv.sm;rw[aD9 ag] at V;obtain⟨k,hk⟩:∃k,ci pv i 0=k:=⟨_,rfl⟩;have al:bn (aQ pv.ah (i:Int) 0).val=k:=hk;rw[hk] at V;simp only[al];have af:∀n:Int,w8 v w u br B aG cl (k::(sN pv).drop (i+1)) q y X=Z->P (.ret [.i n,.b E]):=λn e=>(hP _).2 ⟨n,E,rfl,by rw[V,e];rfl⟩
 refine aU (λac=> ?_) (λac=> ?_);subst ac
 match q,W with
 |0,W=>
  obtain⟨a,b,d,r,g,-⟩:=aud (cl:=cl) h s p W.D W.f;have hm:=W.m;have a1:Y br.ah<=Y y.1.ah:=ae;simp only[aH a1,wk,bH,cG,cX] at g;simp[aY g];exact af _ rfl
 |q+1,W=>
  obtain⟨A,l,O,Q,g,D,f,c,aa,-,G'⟩:=abQ (cl:=cl) (k:=0) h s p fH W (.inl rfl);rw[show w8 v w u br B aG cl (0::(sN pv).drop (i+1)) (q+1) y X=w8 v w u br B aG cl ((sN pv).drop (i+1)) q (sM v w u br B aG cl y 0) X by simp only[w8,AB,dP],aa] at V;rw[aa] at G';simp only[pG,wk,bH,cG,cX] at g;simp[aY g];refine bQ (Y Q) (λj F=>F=[.i X,.r (ao A),.i aG,.r (ao (jZ (ao A) Q l O j).1),.r (ao (jZ (ao A) Q l O j).2),.b cl]) ⟨0,rfl,ae,rfl⟩ ?_;rintro j _ hj rfl;simp;refine aU (λN=>⟨N, ?_⟩) (λa3=> ?_);have g:=(U8 (cl:=cl) h s p D f c j hj).2.2.2 N;simp only[wk,bH,ci,cG,cX,nz] at g;simp[aY g];rw[bD N (by have:=c.1;omega)]
  grind [bD]
 obtain⟨e,an,hs⟩:=akc (cl:=cl) h s p fH W k;obtain⟨e',a0,a4⟩:=aur (cl:=cl) h s p W k;simp only[pG,wk,bH,cG,cX] at an a0;simp[aY an,al,aY a0];have no:¬(cl=E/\yM v w u br B aG cl y k=J)->w8 v w u br B aG cl (k::(sN pv).drop (i+1)) q y X=none:=λhn=>by
  cases q;rfl;simp only[w8,AB,aJ ac,aJ hn]
 refine aU (λM=>af _ (no λz=>by rw[M] at z;cases z.1)) (λM=>aU (λab=> ?_) (λab=>af _ (no λz=>ab z.2)));have M:cl=false:=by simpa using M
 obtain⟨he,ha,-⟩:=hs ab;refine Ed he (Ed (a4 ha) ?_);obtain⟨bc,-,-⟩:=Jo ha
 match q,W with
 |0,W=>have:=W.m;omega
 |q+1,W=>
  obtain⟨A,l,O,Q,g,D,f,c,aa,-,G'⟩:=abQ (cl:=cl) (k:=k) h s p fH W (.inr ⟨M,ab⟩);rw[show w8 v w u br B aG cl (k::(sN pv).drop (i+1)) (q+1) y X=w8 v w u br B aG cl ((sN pv).drop (i+1)) q (sM v w u br B aG cl y k) (be .add I X (Eh v w u br B aG cl y k)) by simp only[w8,AB,aJ ac,aH (And.intro M ab)],aa] at V;rw[aa] at G';simp only[pG,wk,bH,cG,cX] at g;simp[aY g];refine bQ (Y Q) (λj F=>F=[.i (be .add I X (Eh v w u br B aG cl y k)),.r (ao A),.i aG,.r (ao (jZ (ao A) Q l O j).1),.r (ao (jZ (ao A) Q l O j).2),.b cl]) ⟨0,rfl,ae,rfl⟩ ?_;rintro j _ hj rfl;simp;refine aU (λN=>⟨N, ?_⟩) (λa3=> ?_);have g:=(U8 (cl:=cl) h s p D f c j hj).2.2.2 N;simp only[wk,bH,ci,cG,cX,nz] at g;simp[aY g];rw[bD N (by have:=c.1;omega)]
  grind [bD]
def aEc(h:dU)(s:jR v w u br B)(V:Sl H)(Q:Sl M)(P:Sl N)(G:∀i<Y M.ah,Sl (cr 108 M i)):∃o,TB.Ev 14 (bH v w u br B++[.r H,.i aG,.r M,.r N,.b cl]) o/\∃b,o=.ret [.b b]/\(b=J->Y dh.ah<=40):=by
 obtain⟨o,W,b,rfl⟩:=aDO (aG:=aG) (cl:=cl) h s V Q P G;refine⟨_,W,b,rfl,λF=> ?_⟩;subst F;obtain⟨o,X,y,rfl⟩:=atX h s;cases y;exfalso;have:TB.Ev 14 (bH v w u br B++[.r H,.i aG,.r M,.r N,.b cl]) (.ret [.b E]):=by
  refine kq ?_;simp only[wk,bH,cG,cX] at X;simp[aa2,bH,wk,aY X]
 have:=Od W this;simp at this;exact aDv h X
def aEd(h:dU)(s:jR v w u br B)(D:Dk H M N):∃o,TB.Ev 7 (bH v w u br B++[.r H,.i aG,.r M,.r N,.b cl,.i bud]) o/\∃b,o=.ret [.b b]/\(b=J->Y dh.ah<=40/\(mQ v w u br B/\kw u br H M N aG)/\0<=bud/\bud<=4096/\B9 br (Y H.ah) (Y br.ah-Y H.ah)<=4096):=by
 obtain⟨o,X,b,rfl,P⟩:=aEc (aG:=aG) (cl:=cl) h s D.sc D.sk D.so D.kk;obtain⟨o,W,e,rfl,G⟩:=auj (aG:=aG) (cl:=cl) h s D.sc D.sk D.so D.kk;refine eL ?_;simp only[wk,bH,cG,cX] at X W;simp[ajo,bH,wk,aY X];cases b;simp;simp[aY W];intro F;obtain⟨p,f⟩:=G F;obtain⟨o,V,n,rfl,A⟩:=aD7 (cl:=cl) s p D f;simp only[wk,bH,cG,cX] at V;intro z y;simp[aY V];by_cases Q:n<=4096;exact .inr ⟨Q,P rfl,⟨p,f⟩,z,y,A Q⟩;exact .inl ae
def aEe{X:Type}{N:X->Nat}{W:X->Int->Bool}{V:X->Int->Int}{Q:X->Int->X}{P:Int->Int->Int}{y:X}{F:Sr}(H:rK cl N W V Q P bud m y [] 0 ⟨0,[],-1⟩=F)(G:0<=bud):Y F.pl=m/\AB cl W V Q P F.pl m y 0=U F.kb/\0<=F.kb/\0<=F.st/\F.st<=bud:=by
 subst H;have M:=U7 (cl:=cl) (lim:=N) (sf:=W) (kp:=V) (nx:=Q) (add:=P) (bud:=bud) m y [] 0 ⟨0,[],-1⟩;have D:=abP (cl:=cl) (lim:=N) (sf:=W) (kp:=V) (nx:=Q) (add:=P) (bud:=bud) m y [] 0 ⟨0,[],-1⟩ G;refine⟨?_, ?_,M.2,M.1.1,D⟩
 all_goals
  rcases akb (cl:=cl) (lim:=N) (sf:=W) (kp:=V) (nx:=Q) (add:=P) (bud:=bud) m y [] 0 ⟨0,[],-1⟩ with⟨-,e⟩|⟨p,B,A,z⟩
  grind
  grind
def aEf(X:0<=bud){F:Sr}(W:w7 v w u br B aG cl bud m x [] 0 ⟨0,[],-1⟩=F):Y F.pl=m/\w8 v w u br B aG cl F.pl m x 0=U F.kb/\0<=F.kb/\0<=F.st/\F.st<=bud:=aEe W X
def aEg(D:Dk H M N)(f:kw u br H M N aG):Gd u br aG (H,M,N) (Y br.ah-Y H.ah):=⟨D,f,by have:=f.calls;show Y H.ah+_=_;omega⟩
theorem aEh(A:TB.Ev 6 [] (.ret [.b J]))(h:dU)(s:jR v w u br B)(D:Dk H M N)(bud:Int):TB.Ev 3 (bH v w u br B++[.r H,.i aG,.r M,.r N,.b cl,.i bud]) (.ret [.b J]):=by
 obtain⟨o,W,b,rfl,z⟩:=aEd (aG:=aG) (cl:=cl) (bud:=bud) h s D;simp only[wk,bH,cG,cX] at W;refine kq ?_;simp[ajp,bH,wk,aY A,aY W];cases b;simp;obtain⟨fH,⟨p,f⟩,V,y,q⟩:=z rfl;have G:=aEg D f;have X:=aD8 (cl:=cl) h s p fH G V y q;obtain⟨F,Q⟩:∃F,w7 v w u br B aG cl bud (Y br.ah-Y H.ah) (H,M,N) [] 0 ⟨0,[],-1⟩=F:=⟨_,rfl⟩;obtain⟨a,l,f3,j,g⟩:=aEf V Q;rw[Q] at X;obtain⟨o,P,n,e,rfl,d⟩:=aEb (cl:=cl) (pv:=qh F.pl) h s p fH G (lJ (by have:=s.sr.sm;simp;omega));rw[aEa,l] at d;have c:e=J/\n=F.kb:=by
  grind
 obtain⟨rfl,rfl⟩:=c;simp only[wk,bH,cG,cX] at X P;simp[aY X,aY P,akd,s.sr.len,D.sc.len];refine⟨?_,j,g⟩;have hc:=f.calls;have hs:=s.sr.sm
 grind [be,iW]
end
section
variable{R:aX->Prop}{G:aN}{t:T}{O:aj}{L:ck}
variable[Inhabited cm]
variable{a c d g b e f h:RV}{aG k i:Int}{l:Bool}{x:DS}{m:Nat}
end
