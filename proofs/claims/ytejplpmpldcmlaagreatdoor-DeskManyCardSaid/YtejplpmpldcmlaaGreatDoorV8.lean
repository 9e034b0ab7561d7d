/- Part 8 of the proof. -/
import Derived.Test.YtejplpmpldcmlaaGreatDoorV7
set_option linter.all false
set_option maxRecDepth 100000
set_option maxHeartbeats 100000000
open Bool renaming and_eq_true->aw,not_eq_true'->iw,or_eq_true->jL,eq_iff_iff->sx,true->J,false->E
open List renaming getD_eq_getElem?_getD->cw,getElem?_eq_getElem->cP,getElem?_append_left->dN,getElem?_map->dS,getElem?_append_right->iJ,cons_append->ef,nil_append->eK,mem_append->eW,map_cons->dU,mem_cons->dV,replicate->eF,length_append->gP,mem_of_getElem?->jK,map_congr_left->jA,getElem?_eq_none->km,range->e8,mem_map->iD,ext_getElem?->kU,length_cons->kV,getElem?_set_ne->ss,getElem_mem->pM,length_map->pN,drop_eq_getElem_cons->Bj,mem_filter->qE,map_map->oJ,getElem?_set->wc,map_nil->pP,mem_or_eq_of_mem_set->E0,getElem?_range->zH,mem_of_mem_drop->Bl,length_eq_zero_iff->E1,mem_range->uO,mem_cons_of_mem->Dd,append_assoc->Bn,take_of_length_le->Hj,getElem?_set_self->Hk,length_drop->Df,mem_singleton->Hm,length_nil->E6,map_append->Hq,length_pos_iff->Og,find?_cons->Ka,getElem_of_mem->SQ,drop_of_length_le->ZB,length_singleton->ZC,map->Bp,drop_append_of_le_length->avm,getElem?_modify->ai9,range_succ->ZO,filter_cons->ajf,take_length->ajj,take_succ_eq_append_getElem->aIQ,length_range->avC,take_add_one->avD,length_set->avF,length_filter_le->aJa,length->Y
open Nat renaming le_refl->bY,zero_add->jf,add_mul->nE,mul_le_mul_right->zG,le_trans->pO,add_zero->wh,mul_le_mul->Dg,min_eq_left->Hp,add_sub_cancel_left->ZA,zero_le->Hx,min_eq_right->ZM,le_of_not_lt->aji,mul_one->ZV,mul_assoc->ajn,le_total->ajq,not_lt_zero->avJ,pow_succ->avQ
open Option renaming map_some->eh,getD_some->oI,some->U
open Int renaming toNat_natCast->su,natCast_mul->ajl,eq_ofNat_of_zero_le->aI1
open Prod.mk renaming injEq->Dh
open Go.IntKind renaming i64->I
namespace Go.Proofs.YtejplpmpldcmlaaGreatDoor.Y
open Go.RowKit
noncomputable section
variable{X V q:Nat}{x:Nat→Nat}{Q:ar}{M:RV}{B:Int}{p:Bool}{W:Nat→Bool}{F:List Nat}
def iC(L:Nat->Nat->Prop):Nat->Nat->Nat->Prop
 |0,i,j=>i=j
 |r+1,i,j=>i=j\/∃k,(L i k\/L k i)/\iC L r k j
def Cn(L:Nat->Nat->Prop)(i j:Nat):Prop:=∃r,iC L r i j
section
variable{L:Nat->Nat->Prop}
def iC.refl(r i:Nat):iC L r i i:=by
 cases r with
 |zero=>rfl
 |succ r=>exact .inl rfl
def iC.succ{r:Nat}:∀{i j:Nat},iC L r i j->iC L (r+1) i j:=by
 induction r with
 |zero=>intro i j h;exact .inl h
 |succ r X=>
  intro i j h;rcases h with h|⟨k,e,h⟩;exact .inl h;exact .inr ⟨k,e,X h⟩
def iC.mono(h:X<=V){j:Nat}(k:iC L X q j):iC L V q j:=by
 induction h with
 |refl=>exact k
 |step _ W=>exact W.succ
def iC.trans:∀{i j k s:Nat},iC L X i j->iC L s j k->iC L (X+s) i k:=by
 induction X with
 |zero=>intro i j k s W V;cases W;rw[jf];exact V
 |succ X R=>
  intro i j k s W V;rcases W with W|⟨q,e,W⟩;subst W;exact V.mono aa;rw[Nat.add_right_comm];exact .inr ⟨q,e,R W V⟩
def Cn.refl(i:Nat):Cn L i i:=⟨0,rfl⟩
def Cn.trans{i j k:Nat}(X:Cn L i j)(W:Cn L j k):Cn L i k:=by
 obtain⟨r,X⟩:=X;obtain⟨s,W⟩:=W;exact⟨_,X.trans W⟩
def Cn.one(h:L X V\/L V X):Cn L X V:=⟨1,.inr ⟨V,h,rfl⟩⟩
def iC.symm{r:Nat}:∀{i j:Nat},iC L r i j->Cn L j i:=by
 induction r with
 |zero=>intro i j h;cases h;exact Cn.refl _
 |succ r X=>
  intro i j h;rcases h with h|⟨k,e,h⟩;subst h;exact Cn.refl _;exact(X h).trans (Cn.one e.symm)
def Cn.symm{i j:Nat}(h:Cn L i j):Cn L j i:=by
 obtain⟨r,h⟩:=h;exact h.symm
def iC.back:∀{i j:Nat},iC L (X+1) i j->iC L X i j\/∃k,iC L X i k/\(L k j\/L j k):=by
 induction X with
 |zero=>
  intro i j h;rcases h with h|⟨k,e,h⟩;exact .inl h;cases h;exact .inr ⟨i,rfl,e⟩
 |succ X W=>
  intro i j h;rcases h with h|⟨k,e,h⟩;exact .inl (.inl h);rcases W h with h|⟨q,h,V⟩;exact .inl (.inr ⟨k,e,h⟩);exact .inr ⟨q,.inr ⟨k,e,h⟩,V⟩
def aCU(h:∀j,iC L (V+1) X j->iC L V X j):∀r j,iC L r X j->iC L V X j:=by
 intro r;induction r with
 |zero=>intro j k;cases k;exact iC.refl _ _
 |succ r W=>
  intro j k;rcases k.back with k|⟨p,k,e⟩;exact W j k;have:=W p k;exact h j (this.trans (show iC L 1 p j from .inr ⟨j,e,rfl⟩))
open Classical in
def G7(L:Nat->Nat->Prop)(n i r:Nat):Nat:=((e8 n).filter λj=>decide (iC L r i j)).length
def atr{W:Type}{p q:W->Bool}:∀{l:List W},(∀x∈l,p x=J->q x=J)->(l.filter p).length<=(l.filter q).length
 |[],_=>av
 |a::l,h=>by
  have Q:=atr (l:=l) λx V=>h x (by simp[V])
  have R:=h a av;simp only[ajf];by_cases X:p a=J;rw[aL X,aL (R X)];simp only[kV];omega
  ·rw[aT X];split<;>(try simp only[kV])<;>omega
def ah9{Q:Type}{p q:Q->Bool}:∀{l:List Q},(∀x∈l,p x=J->q x=J)->(∃x∈l,q x=J/\p x=E)->(l.filter p).length<(l.filter q).length
 |[],_,h=>by obtain⟨x,X,_⟩:=h;cases X
 |a::l,h,X=>by
  have N:=atr (l:=l) λx X=>h x (by simp[X])
  have O:=h a av;simp only[ajf];by_cases R:p a=J;rw[aL R,aL (O R)];obtain⟨x,X,W,V⟩:=X;rcases dV.1 X with rfl|X;rw[R] at V;cases V;have:=ah9 (l:=l) (λx X=>h x (by simp[X])) ⟨x,X,W,V⟩;simp only[kV];omega;rw[aT R];by_cases W:q a=J;rw[aL W];simp only[kV];omega;rw[aT W];obtain⟨x,X,P,V⟩:=X;rcases dV.1 X with rfl|X;exact(W P).elim;exact ah9 (l:=l) (λx X=>h x (by simp[X])) ⟨x,X,P,V⟩
open Classical in
def ats(P:∀a b,L a b->a<X/\b<X)(O:V<X)(h:Cn L V q):iC L X V q:=by
 have H:∀r q,iC L r V q->q<X:=by
  intro r;induction r with
  |zero=>intro q k;cases k;exact O
  |succ r Q=>
   intro q k;rcases k.back with k|⟨p,k,e⟩;exact Q q k;rcases e with e|e;exact(P _ _ e).2;exact(P _ _ e).1
 have G:∀r,(∃W≤r,∀q,iC L (W+1) V q->iC L W V q)\/r+1<G7 L X V (r+1)+1:=by
  intro r;induction r with
  |zero=>
   by_cases R:∀q,iC L 1 V q->iC L 0 V q;exact .inl ⟨0,bY _,R⟩;refine .inr ?_;have:0<G7 L X V 1:=by
    unfold G7;rw[List.length_pos_iff_exists_mem];exact⟨V,qE.2 ⟨uO.2 O,decide_eq_true (iC.refl _ _)⟩⟩
   show 0+1<G7 L X V 1+1;omega
  |succ r Q=>
   rcases Q with⟨W,N,R⟩|Q;exact .inl ⟨W,aa,R⟩;by_cases R:∀q,iC L (r+2) V q->iC L (r+1) V q;exact .inl ⟨r+1,bY _,R⟩;refine .inr ?_;have:∃q,iC L (r+2) V q/\¬iC L (r+1) V q:=Classical.byContradiction λc=>R λq k=>Classical.byContradiction λF=>c ⟨q,k,F⟩
   obtain⟨q,M,D⟩:=this;have:G7 L X V (r+1)<G7 L X V (r+2):=ah9 (λx _ B=>decide_eq_true (iC.succ (tP B))) ⟨q,uO.2 (H _ q M),decide_eq_true M,decide_eq_false D⟩;show r+1+1<G7 L X V (r+2)+1;omega
 obtain⟨r,h⟩:=h;rcases G X with⟨W,N,R⟩|A;exact(aCU R r q h).mono N;have:G7 L X V (X+1)<=X:=by
  have:=aJa (λq=>(@decide (iC L (X+1) V q) (Classical.propDecidable _))) (e8 X);rw[avC] at this;exact this
 omega
end
def vU(g:Nat->Nat)(a b:Nat):Nat->Nat:=λq=>if q=a\/q=b then min (g a) (g b) else g q
def aia(g:Nat->Nat)(a b q:Nat):vU g a b q<=g q:=by
 simp only[vU];split;rename_i h;rcases h with h|h<;>subst h<;>omega;exact bY _
def zw:List (Nat×Nat)->(Nat->Nat)->Nat->Nat
 |[],g=>g
 |p::l,g=>zw l (vU g p.1 p.2)
def Y6:∀(l:List (Nat×Nat))(g:Nat->Nat)(q:Nat),zw l g q<=g q
 |[],g,q=>bY _
 |p::l,g,q=>pO (Y6 l _ q) (aia g _ _ q)
def aib:∀(l:List (Nat×Nat))(g:Nat->Nat)(p:Nat×Nat),p∈l->zw l g p.1<=g p.2/\zw l g p.2<=g p.1
 |[],_,_,h=>by cases h
 |a::l,g,p,h=>by
  rcases dV.1 h with rfl|h;have X:=Y6 l (vU g p.1 p.2) p.1;have W:=Y6 l (vU g p.1 p.2) p.2;have V:vU g p.1 p.2 p.1=min (g p.1) (g p.2):=by simp[vU]
  have R:vU g p.1 p.2 p.2=min (g p.1) (g p.2):=by simp[vU]
  simp only[zw];omega;have Q:=aib l (vU g a.1 a.2) p h;have X:=aia g a.1 a.2 p.1;have W:=aia g a.1 a.2 p.2;simp only[zw];omega
def G8(l:List (Nat×Nat))(a b:Nat):Prop:=(a,b)∈l
def aCV{L:Nat->Nat->Prop}(h:∀q,Cn L q (x q))(e:L X V)(q:Nat):Cn L q (vU x X V q):=by
 simp only[vU];split;rename_i k;have W:Cn L X V:=Cn.one (.inl e);rcases ajq (x X) (x V) with z|z;rw[Hp z];rcases k with rfl|rfl;exact h q;exact W.symm.trans (h X);rw[ZM z];rcases k with rfl|rfl;exact W.trans (h V);exact h q;exact h q
def att{L:Nat->Nat->Prop}:∀(l:List (Nat×Nat)){g:Nat->Nat},(∀p∈l,L p.1 p.2)->(∀q,Cn L q (g q))->∀q,Cn L q (zw l g q)
 |[],_,_,h,q=>h q
 |p::l,_,X,h,q=>att l (λx W=>X x (by simp[W])) (aCV h (X p av)) q
def tH(l:List (Nat×Nat)):Nat->Nat->Nat
 |0=>λq=>q
 |r+1=>zw l (tH l r)
def N0(l:List (Nat×Nat)):∀r q,Cn (G8 l) q (tH l r q)
 |0,q=>Cn.refl q
 |r+1,q=>att l (λ_ h=>h) (N0 l r) q
def Y7{l:List (Nat×Nat)}:∀{r i j:Nat},iC (G8 l) r i j->tH l r i<=j
 |0,i,j,h=>by cases h;exact bY _
 |r+1,i,j,h=>by
  rcases h with h|⟨k,e,h⟩;subst h;exact pO (Y6 l _ _) (Y7 (iC.refl r i));have:=Y7 h;simp only[tH];rcases e with e|e;have:=(aib l (tH l r) _ e).1;exact pO this qF;have:=(aib l (tH l r) _ e).2;exact pO this qF
def aCW{l:List (Nat×Nat)}(Q:∀p∈l,p.1<X/\p.2<X){i k:Nat}(W:i<X)(P:k<X):tH l X i=tH l X k<->Cn (G8 l) i k:=by
 have O:∀a b,G8 l a b->a<X/\b<X:=λa b h=>Q (a,b) h
 have least:∀{i j},i<X->Cn (G8 l) i j->tH l X i<=j:=λW h=>Y7 (ats O W h)
 constructor;intro e;have V:=N0 l X i;have R:=N0 l X k;rw[e] at V;exact V.trans R.symm;intro h;have V:=least W (h.trans (N0 l X k));have R:=least P (h.symm.trans (N0 l X i));omega
section
variable[Inhabited dh]
def N1(v:ar)(a b:Nat):Prop:=∃x∈v,(aM 0 x).toNat=a/\(aM 1 x).toNat=b
def aic{W:Nat->Nat->Prop}(Q:∀R,x R<=R)(h:∀R<X,Cn W R (x R))(P:Rt x V q):V<X->Cn W V q:=by
 induction P with
 |here _=>exact λ_=>Cn.refl _
 |up _ _ O=>
  rename_i V q _ _;exact λN=>(h V N).trans (O (by have:=Q V;omega))
def aid{W:Nat->Nat->Prop}{V:Nat->Nat}(Q:∀q,x q<=q)(h:∀q<X,Cn W q (x q))(s:∀q,V q=x q\/Rt x q (V q)):∀q<X,Cn W q (V q):=λq R=>by
 rcases s q with e|e;rw[e];exact h q R;exact aic Q h e R
structure aCX(n:Nat)(v m:ar):Prop where
 len:Y m=n
 ok:mB m=J
 pr:∀x∈v,aM 0 (m.getD (aM 0 x).toNat [])=aM 0 (m.getD (aM 1 x).toNat [])
 cn:∀q<n,Cn (N1 v) q (gY m q)
def R63(n:Nat)(v:ar)(e:Int)(o:bq):Prop:=(e≠0/\o=.ret [.r (aI []),.i e])\/(e=0/\∃m,o=.ret [.r (aI m),.i 0]/\aCX n v m)
def aCZ(m:ar)(k:Nat)(x:Int)(W:k<Y m)(R:∀X∈m,Y X=1):(m.modify k λX=>gT X 0 [iV x])=m.set k [iV x]:=by
 apply kU;intro q;rw[ai9,wc];by_cases V:k=q;subst V;rw[aL rfl,aL W,cP W];have:=R _ (pM W);generalize m[k]=X at this
 match X,this with
 |[c],_=>simp[gT]
 rw[aT V];simp[V]
def aC0(h:mB Q=J)(V:Y Q=X):mB (Q++[[iV X]])=true:=by
 refine ah8 λk R=> ?_
 simp only[gP,ZC] at R;rw[cw];by_cases W:k<Y Q;rw[dN W,<-cw];exact FD h W;have:k=Y Q:=aa;subst this;rw[iJ (bY _)];simp[aM,bn,iV,V]
def aC1(W:Y Q=X)(h:∀q<X,gY Q q=q):∀q<X+1,gY (Q++[[iV X]]) q=q:=λq V=>by
 simp only[gY,cw];by_cases e:q=X;subst e;rw[iJ aa];simp[W,aM,bn,iV];rw[dN aa,<-cw];exact h q aa
def aC2(h:∀W∈Q,Y W=1):∀W∈Q++[[M]],Y W=1:=λW X=>by
 rcases eW.1 X with X|X;exact h W X;simp at X;subst X;rfl
def aie{R:bq->Prop}{O:ai}{L:db}{t:T}{m:ar}{r:RE}{e:TypeId}{P:bz}{i:K}(N:r.rv O=aI m)(M:i.ab O=B)(H:∀W∈m,Y W=1)(h:mB m=J)(x:Y m<=1000)(G:0<=B)(F:B<Y m)
  (k:∀X,Y X=Y m->(∀W∈X,Y W=1)->mB X=J->(∀q,gY X q=gY m q\/Rt (gY m) q (gY X q))->Rt (gY m) B.toNat (gY X B.toNat)->t.wp TB.Ev R (O.add (.r (aI X))) L):
  T.wp TB.Ev R (.eL 91 91 e (.dD 0 (.lex [] E) [i]) J r P t) O L:=by
 obtain⟨X,V,Q,D,A,z⟩:=aCT h aa G F;rw[az9,N];refine⟨X, ?_, ?_⟩;show wv (i.ab O) m=U X;rw[M];exact V;have:=k X Q (λW y=>H W (Ua V W y)) D A z;have e:(RV.mk (aI m).val X)=aI X:=by
  simp only[aI,RV.nM,Q]
 rw[e];exact this
def t63(h:fD)(ak:Int)(aC:TB.Ev 90 (wk++[.i ak]) (.ret [.r (aI Q),.i B]))(hv:∀x∈Q,0<=aM 0 x/\aM 0 x<aM 1 x/\aM 1 x<Y aK.ac)(bs:Y Q<=4096)(hn:Y aK.ac<=1000):
  ∃o,TB.Ev 52 (wk++[.i ak]) o/\R63 (Y aK.ac) Q B o:=by
 refine dZ ?_;simp only[wk,ef,eK] at aC;simp[T63,wk,bh aC];refine ay (λb=> ?_) (λb=>.inl ⟨b,rfl⟩);subst b;have a0:Y aK.ac<=140737488355328:=aa;have bb:Y Q<=140737488355328:=aa;refine bW (Y aK.ac) (λi A=>∃m,A=[.r (aI m)]/\Y m=i/\(∀H∈m,Y H=1)/\mB m=J/\∀q<i,gY m q=q) ⟨0,rfl,aa,[],rfl,rfl,av,rfl,aa⟩ ?_;rintro i _ hi ⟨m0,rfl,G,y,F,a3⟩;simp[h.rl.len];refine ay (λhi=> ?_) (λbt=> ?_);simp[bK hi a0];exact⟨aa,_,rfl,dl,aC2 y,aC0 F G,aC1 G a3⟩;have bc:i=Y aK.ac:=aa;subst bc;refine bW (Y Q) (λj A=>∃m,A=[.r (aI m)]/\Y m=Y aK.ac/\(∀H∈m,Y H=1)/\mB m=J/\(∀x∈Q.take j,G6 (gY m) (aM 0 x).toNat (aM 1 x).toNat)/\∀q<Y aK.ac,Cn (N1 Q) q (gY m q)) ⟨0,rfl,aa,m0,rfl,G,y,F,av,λq l=>by rw[a3 q l];exact Cn.refl _⟩ ?_;rintro j _ L ⟨m,rfl,G,y,F,a,hc⟩;simp;refine ay (λL=> ?_) (λbx=> ?_);simp[L];obtain⟨va,bd,vb⟩:=hv _ (pM L);have ea:bn (aQ Q (j:Int) 0).val=aM 0 Q[j]:=by simp[aQ,aM,L]
 have eb:bn (aQ Q (j:Int) 1).val=aM 1 Q[j]:=by simp[aQ,aM,L]
 refine aie (m:=m) rfl ea y F aa aa aa ?_;intro D l1 r1 w R g;refine aie (m:=D) rfl eb r1 w aa aa aa ?_;intro P l2 r2 o2 f a2;simp[bK L bb];have na:bn (aQ D (bn (aQ Q (j:Int) 0).val) 0).val=((gY D (aM 0 Q[j]).toNat:Nat):Int):=by rw[ea];exact Sc w _ aa
 have nb:bn (aQ P (bn (aQ Q (j:Int) 1).val) 0).val=((gY P (aM 1 Q[j]).toNat:Nat):Int):=by rw[eb];exact Sc o2 _ aa
 simp only[na,nb];have M:=JT F;have d:=JT w;have c:=JT o2;have af:=aid d (aid M hc R) f;have bf:Cn (N1 Q) (aM 0 Q[j]).toNat (aM 1 Q[j]).toNat:=Cn.one (.inl ⟨_,pM L,rfl,rfl⟩);have u:=(g.short M R).short d f;have t:=a2.short d f;have fa:=u.fix;have fb:=t.fix;have la:=u.le c;have lb:=t.le c;have cA:=aic c af u aa;have cB:=aic c af t aa;generalize gY D (aM 0 Q[j]).toNat=O at u fa la cA⊢;generalize gY P (aM 1 Q[j]).toNat=N at t fb lb cB⊢;obtain⟨X,ag⟩:∃X:Nat,X=max O N:=⟨_,rfl⟩;obtain⟨W,al⟩:∃W:Nat,W=min O N:=⟨_,rfl⟩;have e1:max (O:Int) (N:Int)=(X:Int):=aa;have e2:min (O:Int) (N:Int)=(W:Int):=aa;rw[e1,e2];have an:X<Y P:=aa;have fx:gY P X=X:=by rcases ajq O N with q|q<;>simp only[ag,Nat.max_eq_left,Nat.max_eq_right,q]<;>assumption
 have fn:gY P W=W:=by rcases ajq O N with q|q<;>simp only[al,Hp,ZM,q]<;>assumption
 have ek:gY (P.set X [iV (W:Int)])=tG (gY P) X W:=by rw[atp an];rfl
 refine⟨aa,P.set X [iV (W:Int)], ?_,dl,λH s=> ?_, ?_,λx V=> ?_,λq l=> ?_⟩;rw[<-aCZ P X W an r2];rfl;rcases E0 s with s|s;exact r2 H s;subst s;rfl;refine ah8 λk p=> ?_
 rw[avF] at p;rw[cw];by_cases a4:k=X;subst a4;rw[Hk an];show(0:Int)<=(W:Int)/\(W:Int)<=(k:Int);omega;rw[ss (Ne.symm a4),<-cw];exact FD o2 p;rw[ek];rw[avD,cP L] at V;rcases eW.1 V with V|V;exact(((a x V).short M R).short d f).join fx fn;simp at V;subst V;refine⟨W, ?_, ?_⟩;have:=u.join fx fn;by_cases q:O=X
 rwa [aL q] at this
 rw[aT q] at this;have:O=W:=aa;subst this;assumption;have:=t.join fx fn;by_cases q:N=X
 rwa [aL q] at this
 rw[aT q] at this;have:N=W:=aa;subst this;assumption;rw[ek];simp only[tG];have cR:Cn (N1 Q) O N:=(cA.symm.trans bf).trans cB;by_cases B:q=X;rw[aL B,B];rcases ajq O N with z|z;rw[ag,al,Nat.max_eq_right z,Hp z];exact cR.symm;rw[ag,al,Nat.max_eq_left z,ZM z];exact cR;rw[aT B];exact af q l;have bg:j=Y Q:=aa;subst bg;rw[ajj] at a;refine bW (Y aK.ac) (λk A=>∃m,A=[.r (aI m)]/\Y m=Y aK.ac/\(∀H∈m,Y H=1)/\mB m=J/\(∀x∈Q,G6 (gY m) (aM 0 x).toNat (aM 1 x).toNat)/\(∀q<Y aK.ac,Cn (N1 Q) q (gY m q))/\∀q<k,Rt (gY m) q (gY m q)) ⟨0,rfl,aa,m,rfl,G,y,F,a,hc,av⟩ ?_;rintro k _ p ⟨m',rfl,bk,bl,n,a9,ba,aA⟩;simp[G];refine ay (λp=> ?_) (λb0=> ?_);refine aie (m:=m') rfl rfl bl n aa av dl ?_;intro D l1 r1 w R g;have M:=JT n;simp[bK p a0] at g⊢;refine⟨D,rfl,aa,r1,w,λx V=>(a9 x V).short M R,aid M ba R,λq l=> ?_⟩;by_cases br:q=k;subst br;exact g.short M R;have:=aA q aa;rcases R q with B|B;rw[B];exact this.short M R;exact B.short M R;refine .inr ⟨rfl,m',rfl,bk,n,λx V=> ?_,ba⟩;obtain⟨va,bd,vb⟩:=hv x V;obtain⟨r,q1,q2⟩:=a9 x V;rw[Sc n _ aa,Sc n _ aa,(aA _ aa).RW q1,(aA _ aa).RW q2]
end
section
variable{R:bq->Prop}{G:aU}{t:T}{O:ai}{L:db}
variable[Inhabited dh]
structure Ab(n:Nat)(ak:Int)(bd mv bf re:RV)(vs vr vb:ar):Prop where
 ls:Y vs=n
 lr:Y vr=n
 lb:Y vb=n
 al:∀k<n,aQ vr (k:Int) 0=aI (cr 134 re k).ac/\Ba vs k=13/\Ba vb k=4/\JO ak mv bf bd re k/\(∀j<13,bn (aQ vs (k:Int) j).val=gS ak mv bf re k j)/\∀j<4,bn (aQ vb (k:Int) j).val=gB ak mv bf bd re k j
end
def Y8{X:Type}(n i:Nat)(f V:Nat->X)(g:X->X)(h:∀k<n,V k=if k=i then g (f k) else f k):((e8 n).map f).modify i g=(e8 n).map V:=by
 apply kU;intro q;rw[ai9];simp only[dS];by_cases W:q<n;rw[zH W];simp only[eh,h q W];by_cases e:i=q;subst e;simp;rw[aT (Ne.symm e)];simp[e];rw[km (by simpa using aji W)];simp
def C6(X:ar)(g:Int):Bool:=match jb 1 [g,0,0] X with
 |U W=>gA (W.getD 1 default).val
 |none=>E
def N2(g:Int)(X:aF):kZ 1 [g,0,0] X=decide ((X.take 1).map (λc=>bn c.val)=[g]):=rfl
section
open Classical in
section
variable{m:ar}{a d l:RV}{n:Nat}
def aC3{f:Nat->aF}(W:X<n):aQ ((e8 n).map f) (X:Int) V=(f X).getD V default:=by
 simp[aQ,zH W]
end
section
variable[Inhabited dh]
end
end
def uI(n:Nat)(g:Nat->Nat):ar:=(e8 n).map λk=>[RV.mk (.int I (g k:Int)) []]
def N3(n:Nat)(g:Nat->Nat):(uI n g).length=n:=by simp[uI]
def aif{n:Nat}{g:Nat->Nat}{a:Int}(X:0<=a)(h:a<n):bn (aQ (uI n g) a 0).val=(g a.toNat:Int):=by
 have e:a=(a.toNat:Int):=aa;rw[e];simp only[uI];rw[aC3 aa];rfl
def aC4{n:Nat}{g:Nat->Nat}{a:Int}{x:Nat}:((uI n g).modify a.toNat λX=>gT X 0 [RV.mk (.int I (x:Int)) []])=uI n λq=>if q=a.toNat then x else g q:=by
 simp only[uI];refine Y8 n a.toNat _ _ _ λk _=> ?_
 by_cases e:k=a.toNat;rw[aL e,aL e];rfl;rw[aT e,aT e]
def aC5{W:Nat->Nat}(h:∀q,x q=W q):uI X x=uI X W:=by
 have:x=W:=funext h;rw[this]
def rp(v:ar):List (Nat×Nat):=v.map λx=>((aM 0 x).toNat,(aM 1 x).toNat)
def atv(p:Nat×Nat):∀(l:List (Nat×Nat))(g:Nat->Nat),zw (l++[p]) g=vU (zw l g) p.1 p.2
 |[],_=>rfl
 |a::l,g=>atv p l _
def aC6(W:X<Y Q):(rp Q).take (X+1)=(rp Q).take X++[((aM 0 Q[X]).toNat,(aM 1 Q[X]).toNat)]:=by
 rw[avD];simp[rp,W]
section
variable{R:bq->Prop}{G:aU}{t:T}{O:ai}{L:db}
def r64(n:Nat)(m:n<=64)(v:ar)(l:Y v<=4096)(A:∀x∈v,(0<=aM 0 x/\aM 0 x<n)/\0<=aM 1 x/\aM 1 x<n):TB.Ev 188 [.i n,.r (aI v)] (.ret [.r (aI (uI n (tH (rp v) n)))]):=by
 refine fC ?_;simp[T64];have P:n<=140737488355328:=aa;refine bW n (λi W=>W=[.r (aI (uI i λq=>q))]) ⟨0,rfl,aa,rfl⟩ ?_;rintro i _ N rfl;simp[N3];refine ay (λN=> ?_) (λj=> ?_);simp[bK N P];refine⟨aa, ?_⟩;simp only[uI];rw[ZO,Hq];rfl;have z:i=n:=aa;subst z;refine bW i (λr W=>W=[.r (aI (uI i (tH (rp v) r)))]) ⟨0,rfl,aa,rfl⟩ ?_;rintro r _ M rfl;simp[N3];refine ay (λM=> ?_) (λh=> ?_);refine bW (Y v) (λk W=>W=[.r (aI (uI i (zw ((rp v).take k) (tH (rp v) r))))]) ⟨0,rfl,aa,rfl⟩ ?_;rintro k _ X rfl;simp[N3];refine ay (λX=> ?_) (λf=> ?_);obtain⟨⟨H,G⟩,F,D⟩:=A _ (pM X);have w:bn (aQ v (k:Int) 0).val=aM 0 v[k]:=by simp[aQ,aM,X]
 have u:bn (aQ v (k:Int) 1).val=aM 1 v[k]:=by simp[aQ,aM,X]
 simp only[w,u];rw[aif H G,aif F D];simp[X,H,G,F,D,N3,bK X (show Y v<=140737488355328 from aa)];rw[aC6 X,atv];generalize zw ((rp v).take k) (tH (rp v) r)=g;generalize(aM 0 v[k]).toNat=a;generalize(aM 1 v[k]).toNat=b;have s:∀x y:Nat,min (x:Int) (y:Int)=((min x y:Nat):Int):=λx y=>aa
 rw[s];have Q:=λ(g:Nat->Nat)(a x:Nat)=>aC4 (n:=i) (g:=g) (a:=(a:Int)) (x:=x)
 simp only[su] at Q;rw[Q,Q];rw[aC5 λq=> ?_];simp only[vU];by_cases B:q=a;subst B;by_cases V:q=b;subst V;simp;simp[V];by_cases V:q=b;subst V;simp;simp[B,V];have p:k=Y v:=aa;subst p;simp[bK M P];rw[Hj (by simp[rp])];rfl;have o:r=i:=aa;subst o;rfl

variable[Inhabited dh]
variable{wg bd cs br co:RV}
def WgP(wg:RV):Prop:=∀i<Y wg.ac,∀ak:Nat,(ak:Int)<fy->rk (ci wg i) ak 4=0
def aC8(X:Sl wg)(F:fy<=64):∃o,TB.Ev 61 (ee wg bd cs br co) o/\∃b,o=.ret [.b b]/\(b=J->WgP wg):=by
 refine dZ ?_;simp[agQ,ee,wk];refine bW (Y wg.ac) (λn W=>W=[]/\∀i<n,∀ak:Nat,(ak:Int)<fy->rk (ci wg i) ak 4=0) ⟨0,rfl,aa,rfl,λi Q=>aa⟩ ?_;rintro i _ Q ⟨rfl,P⟩;simp[X.len];refine ay (λN=> ?_) (λD=> ?_);refine bW fy.toNat (λn W=>W=[]/\∀ak<n,rk (ci wg i) ak 4=0) ⟨0,rfl,aa,rfl,λi Q=>aa⟩ ?_;rintro j _ B ⟨rfl,V⟩;simp[X.len,N];refine ay (λA=> ?_) (λz=> ?_);obtain⟨o,H,y,rfl,M⟩:=aCM (ci wg i) j;have G:=f25 (ci wg i) j;have d:=Qd H G;injection d with d;subst d;simp only[pK,ci,ef,eK] at M;simp[bh M];intro e;rw[bK (n:=fy.toNat) (show j<fy.toNat from aa) aa];exact⟨rfl,mM V e⟩;rw[bK N X.sm];exact⟨rfl,mM P λak x=>V ak aa⟩;exact λq V=>P q aa
def atx(W:rn Q (tF B)):G8 (rp Q)=tF B:=by
 funext a b;refine propext ((Iff.trans ?_ (W.iff a b)));simp only[G8,rp,iD,Dh];constructor;rintro⟨x,X,V,P⟩;have:=W.ok x X;exact⟨x,X,aa,aa⟩;rintro⟨x,X,V,P⟩;exact⟨x,X,aa,aa⟩
def aC9(X:rn Q (tF B)):∀p∈rp Q,p.1<Y aK.ac/\p.2<Y aK.ac:=λp W=>by
 obtain⟨x,V,rfl⟩:=iD.1 W;have:=X.ok x V;exact⟨by simp only;omega,by simp only;omega⟩
structure JU(ak:Int)(mv re:RV):Prop where
 lm:Y mv.ac=Y aK.ac
 lr:Y re.ac=Y aK.ac
 grp:∀i<Y aK.ac,∀k<Y aK.ac,Cn (tF ak) i k->cb mv i 0=cb mv k 0
 els:∀i<Y aK.ac,cb mv i 0=E->(cr 134 re i).ac=[]
 iF:∀i<Y aK.ac,cb mv i 0=J->NS i ak (cr 134 re i)=0
def aDb(h:fD)(B:Y aK.ac<=64)(ak:Int){X:RV}(A:Sl M)(z:Sl X)(e:∀i<Y X.ac,Sl (cr 134 X i)):∃o,TB.Ev 105 (wk++[.i ak,.r M,.r X]) o/\∃b,o=.ret [.b b]/\(b=J->JU ak M X):=by
 obtain⟨o,y,v,rfl,d,P⟩:=r56 h ak B;have af:=r64 (Y aK.ac) B v d λx hx=>by have:=P.ok x hx;omega
 have N:TB.Ev 154 (wk++[.i ak]) (.ret [.r (aI (uI (Y aK.ac) (tH (rp v) (Y aK.ac))))]):=by
  refine fC ?_;simp only[wk,ef,eK] at y;simp[agW,wk,bh y,h.rl.len,bh af]
 have w:=aC9 P;have H:=λi k V hk=>aCW (i:=i) (k:=k) w V hk
 have u:=N0 (rp v) (Y aK.ac);rw[atx P] at u;simp only[atx P] at H;have s:∀i<Y aK.ac,tH (rp v) (Y aK.ac) i<=i:=λi V=>Y7 (ats (λa b (h:G8 (rp v) a b)=>w (a,b) h) V (Cn.refl _))
 generalize tH (rp v) (Y aK.ac)=G at N H u s;have ag:Y aK.ac<=140737488355328:=aa;refine dZ ?_;simp only[wk,ef,eK] at N;simp[agU,wk,A.len,z.len,h.rl.len,bh N,N3];intro lm lr;refine bW (Y aK.ac) (λn al=>al=[]/\∀i<n,cb M i 0=cb M (G i) 0/\(cb M i 0=E->(cr 134 X i).ac=[])/\(cb M i 0=J->NS i ak (cr 134 X i)=0)) ⟨0,rfl,aa,rfl,λi V=>aa⟩ ?_;rintro i _ V ⟨rfl,W⟩;simp[A.len,z.len,h.rl.len];refine ay (λF=> ?_) (λhg=> ?_);have p:=aif (g:=G) (n:=Y aK.ac) (a:=(i:Int)) aa aa;have e2:=s i F;have m:=e i aa;have l:=m.len;have f:=f95 h i ak (cr 134 X i) m;simp only[wk,ef,eK,cr] at f;simp only[cr] at l;simp only[su] at p;simp[p,l,bh f,bK F ag];refine⟨aa,by rw[N3];exact F,aa,λj=>⟨aa,ay (λQ=>⟨aa,ay (λ_=>⟨aa,λq3=> ?_⟩) (λq=>aZ Q q)⟩) (λQ=> ?_)⟩⟩;exact mM W ⟨j,λq=>aZ (show cb M i 0=J from Q) (by rw[q];simp),λ_=>q3⟩;have an:cb M i 0=false:=by simp only[cb];simpa using Q
 refine⟨aa,λq4=>⟨aa,ay (λq=>aZ q Q) (λ_=> ?_)⟩⟩;exact mM W ⟨j,λ_=>q4,λq=>aZ q (by rw[an];simp)⟩;exact⟨aa,aa,λa D b hb c=>by rw[(W a aa).1,(W b aa).1,(H a b D hb).2 c],λa D=>(W a aa).2.1,λa D=>(W a aa).2.2⟩

def Sd(b:RV)(i:Nat):RV:=cg (.sl 4) (aQ b.ac i 0)
def JV(b:RV)(i:Nat):RV:=cg (.sl 67) (aQ b.ac i 1)
structure atz(br:RV):Prop where
 len:(Y br.ac:Int)=fy
 A7:∀k<Y br.ac,∀i<(cr 69 br k).ac.length,JU k (Sd (cr 69 br k) i) (JV (cr 69 br k) i)
def aDc(h:fD)(F:Y aK.ac<=64)(s:tE wg bd cs br co):∃o,TB.Ev 63 (ee wg bd cs br co) o/\∃b,o=.ret [.b b]/\(b=J->atz br):=by
 refine dZ ?_;simp[agS,ee,wk,s.sr.len];intro D;refine bW (Y br.ac) (λn V=>V=[]/\∀k<n,∀i<(cr 69 br k).ac.length,JU k (Sd (cr 69 br k) i) (JV (cr 69 br k) i)) ⟨0,rfl,aa,rfl,λi Q=>aa⟩ ?_;rintro k _ u ⟨rfl,M⟩;simp[s.sr.len];refine ay (λX=> ?_) (λA=>⟨D,λq P=>M q aa⟩);have N:=s.A6 k X;have e:=N.len;have H:=s.A7 k X;generalize G:cr 69 br k=B at N e H;have z:cg (.sl 69) (aQ br.ac k 0)=B:=G;refine bW (Y B.ac) (λn V=>V=[]/\∀i<n,JU k (Sd B i) (JV B i)) ⟨0,rfl,aa,rfl,λi Q=>aa⟩ ?_;rintro i _ Q ⟨rfl,P⟩;simp[s.sr.len,X,z,e];refine ay (λW=> ?_) (λA=> ?_);obtain⟨y,x,w⟩:=H i W;obtain⟨o,g,b,rfl,v⟩:=aDb h F k y x w;simp only[wk,ef,eK] at g;cases b;simp[bh g,W];simp[bh g,W,bK W N.sm];exact mM P (v rfl);rw[bK X s.sr.sm];refine⟨rfl,mM M ?_⟩;rw[G];exact λi Q=>P i aa
structure C7(wg bd cs br co:RV):Prop where
 wk:lB=0
 JW:Mny wg bd cs br
 bds:∀i<Y bd.ac,NW bd i=0
 wgs:WgP wg
 dM:Cst bd cs
 JX:atz br
 cns:Cns co
def aDe(h:fD)(s:tE wg bd cs br co):∃o,TB.Ev 27 (ee wg bd cs br co) o/\∃e,o=.ret [.i e]/\(e=0->C7 wg bd cs br co):=by
 refine dZ ?_;have V:=r40 h;obtain⟨o,Q,b,rfl,F⟩:=aBm (wg:=wg) (bd:=bd) (cs:=cs) (br:=br) (co:=co) h s.sw s.sb s.sc s.sr s.A6;simp only[wk,ee,ef,eK] at V Q;simp[agN,ee,wk,bh V];refine ay (λX=> ?_) (λX q=>aZ q X);simp[bh Q];cases b
 rotate_left
 simp;have W:=F rfl;simp;refine bW (Y bd.ac) (λn D=>D=[]/\∀i<n,NW bd i=0) ⟨0,rfl,aa,rfl,λi B=>aa⟩ ?_;rintro i _ B ⟨rfl,P⟩;simp[s.sb.len];refine ay (λN=> ?_) (λp=> ?_);have f:=aCw (cg .str (aQ bd.ac (i:Int) 0)) (YF _) (ci bd i 1) (ci bd i 2) (ci bd i 3) (ci bd i 4) (ci bd i 5) (ci bd i 6) (ci bd i 7) (ci bd i 8) (ci bd i 9) (ci bd i 10) (ci bd i 11) (ci bd i 12) (ci bd i 13) (ci bd i 14) (ci bd i 15) (ci bd i 16);simp only[ci] at f;simp[bh f,N];refine ay (λe=> ?_) (λe q=>aZ q e);rw[bK N s.sb.sm];exact⟨rfl,mM P e⟩;obtain⟨o,f33,A,rfl,z⟩:=aC8 (wg:=wg) (bd:=bd) (cs:=cs) (br:=br) (co:=co) s.sw W.bars;obtain⟨o,M,y,rfl,x⟩:=aBo (wg:=wg) (bd:=bd) (cs:=cs) (br:=br) (co:=co) h s.sb s.sc s.YM;obtain⟨o,H,w,rfl,v⟩:=aDc (wg:=wg) (bd:=bd) (cs:=cs) (br:=br) (co:=co) h (by have:=W.rl;omega) s;obtain⟨o,G,u,rfl,r⟩:=aBA (wg:=wg) (bd:=bd) (cs:=cs) (br:=br) (co:=co) h s.so;simp only[wk,ee,ef,eK] at f33 M H G;rw[bh f33];cases A<;>simp;rw[bh M];cases y<;>simp;rw[bh H];cases w<;>simp;rw[bh G];cases u<;>simp;exact⟨X,W,λq m=>P q aa,z rfl,x rfl,v rfl,r rfl⟩
def aDf(h:fD)(s:tE wg bd cs br co){X W:RV}{dM:Int}{cl:Bool}(N:Sl M)(H:Sl X)(G:Sl W)(F:∀i<Y X.ac,Sl (cr 76 X i)):∃o,TB.Ev 8 (ee wg bd cs br co++[.r M,.i dM,.r X,.r W,.b cl]) o/\∃e,o=.ret [.i e]/\(e=0->C7 wg bd cs br co/\JL cs br M X W dM):=by
 refine dZ ?_;obtain⟨o,Q,e,rfl,D⟩:=aDe h s;obtain⟨o,P,b,rfl,B⟩:=aCl (dM:=dM) (cl:=cl) h s N H G F;simp only[wk,ee,ef,eK] at Q P;simp[agX,ee,wk,bh Q];refine ay (λV=> ?_) (λV q=>aZ q V);rw[bh P];cases b<;>simp;exact⟨D V,B rfl⟩
end
section
variable{R:bq->Prop}{G:aU}{t:T}{O:ai}{L:db}
def atC(x g:Int)(b:Bool):∀P:ar,C6 (gq 1 [RV.mk (.int I x) [],RV.mk (.bool b) []] P) g=if g=x then b else C6 P g
 |[]=>by
  by_cases h:g=x;subst h;simp[C6,gq,jb,N2,bn,gA];have V:¬x=g:=λe=>h e.symm
  simp[C6,gq,jb,N2,bn,h,V]
 |r::X=>by
  have N:=atC x g b X;have M:(Bp (λc:RV=>bn c.val) (List.take 1 [RV.mk (.int I x) [],RV.mk (.bool b) []]))=[x]:=rfl;by_cases W:(r.take 1).map (λc=>bn c.val)=[x];have Q:gq 1 [RV.mk (.int I x) [],RV.mk (.bool b) []] (r::X)=[RV.mk (.int I x) [],RV.mk (.bool b) []]::X:=by
   simp only[gq,M,kZ];rw[aL (by simpa using W)]
  rw[Q];by_cases h:g=x;subst h;simp[C6,jb,N2,bn,gA];have V:¬x=g:=λe=>h e.symm
  simp only[C6,jb,Ka,N2,W,h];simp[bn,V];have Q:gq 1 [RV.mk (.int I x) [],RV.mk (.bool b) []] (r::X)=r::gq 1 [RV.mk (.int I x) [],RV.mk (.bool b) []] X:=by
   simp only[gq,M,kZ];rw[aT (by simpa using W)]
  rw[Q];by_cases h:(r.take 1).map (λc=>bn c.val)=[g];have H:¬g=x:=λe=>W (by rw[h,e])
  simp only[C6,jb,Ka,N2,h,H];simp;simp only[C6,jb,Ka,N2,h] at N⊢;simpa using N
def mN{c:Prop}[Decidable c]{a b:Prop}(h:c)(k:a):if c then a else b:=by rw[aL h];exact k
def vV{c:Prop}[Decidable c]{a b:Prop}(h:¬c)(k:b):if c then a else b:=by rw[aT h];exact k
def aig(e:Int):TB.Ev 34 [.b J,.i e] (.ret []):=by
 refine fC ?_;simp[agZ]
variable[Inhabited dh]
variable{l u w d y:RV}
def aDg(h:rn Q (tF B)):N1 Q=tF B:=by
 funext a b;refine propext ((Iff.trans ?_ (h.iff a b)));constructor;rintro⟨x,X,W,V⟩;have:=h.ok x X;exact⟨x,X,aa,aa⟩;rintro⟨x,X,W,V⟩;exact⟨x,X,aa,aa⟩
def atD(h:fD)(s:tE l u w d y)(p:C7 l u w d y):TB.Ev 23 (ee l u w d y) (.ret [.i 0]):=by
 have hw:=(xI tD h).2 p.wk;have af:=(xI tD h).1;rw[p.wk] at af;have M:=p.JW;have ms:=M.wg;have m2:=M.rl;have m3:=M.bd;have m4:=M.cs;have m5:=M.bars;refine evo rfl rfl (.inr λv=>nofun) ?_;simp only[wk,ee,ef,eK] at af;simp[ag1,ee,wk,bh af,s.sw.len,s.sb.len,s.sc.len,s.sr.len,s.so.len,h.rl.len];refine mN aa (mN aa (mN aa (mN aa (vV aa ?_))));have lO:=p.JX.len;refine bW (Y d.ac) (λn W=>W=[]) ⟨0,rfl,aa,rfl⟩ ?_;rintro i _ hi rfl;simp[s.sr.len];refine ay (λX=> ?_) (λa3=> ?_);have e:=(s.A6 i X).len;have e2:=M.br i X;simp only[cr] at e e2;simp only[e];refine⟨X,vV aa ?_⟩;rw[bK X s.sr.sm];refine bW (Y u.ac) (λn W=>W=[]) ⟨0,rfl,aa,rfl⟩ ?_;rintro i2 _ a4 rfl;simp[s.sb.len,s.sc.len,s.sr.len];refine ay (λX=> ?_) (λa9=> ?_);have e:=p.bds i2 X;simp only[NW,ci] at e;simp[X,e,bK X s.sb.sm];have c0:=p.dM.aBn;refine mN aa ?_;refine mN aa ?_;refine bW (Y w.ac) (λn W=>W=[]) ⟨0,rfl,aa,rfl⟩ ?_;rintro c _ ba rfl;simp[s.sb.len,s.sc.len,s.sr.len,h.rl.len];refine ay (λX=> ?_) (λbb=> ?_);have G:=s.YM c X;have e:=p.dM.len c X;have g:=aBw G (Y u.ac) (p.dM.idx c X) (p.dM.apart c X);have e4:=G.len;simp only[cr] at g e4 e;simp[X,e4,e,bh g,bK X s.sc.sm];refine bW (Y d.ac) (λn W=>W=[]) ⟨0,rfl,aa,rfl⟩ ?_;rintro k _ hk rfl;simp[s.sr.len];refine ay (λH=>⟨H, ?_⟩) (λbc=> ?_);have G:=s.A6 k H;have eS:=G.len;have pg:=s.A7 k H;have pp:=p.JX.A7 k H;generalize hB:cr 69 d k=B at G eS pg pp;have ag:cg (.sl 69) (aQ d.ac k 0)=B:=hB;refine bW (Y l.ac) (λn W=>W=[]) ⟨0,rfl,aa,rfl⟩ ?_;rintro i4 _ bf rfl;simp[s.sw.len];refine ay (λX=> ?_) (λbg=> ?_);have al:=f25 (ci l i4) k;have e:=p.wgs i4 X k aa;rw[e] at al;simp only[pK,ci,ef,eK] at al;simp[X,bh al,bK X s.sw.sm];obtain⟨v,aA,hv,hU⟩:=atn h k p.wk (by simp[jm];omega);obtain⟨o,an,hr⟩:=t63 h k aA (λx hx=>by have:=hU.ok x hx;omega) hv aa;rcases hr with⟨b,-⟩|⟨-,m,rfl,a⟩;exact aZ rfl b;simp only[wk,ef,eK] at an;simp[bh an];refine bW (Y B.ac) (λn W=>W=[]) ⟨0,rfl,aa,rfl⟩ ?_;rintro i5 _ bk rfl;simp[s.sr.len,H,ag,eS,h.rl.len];refine ay (λN=> ?_) (λbl=>by rw[bK H s.sr.sm]);obtain⟨mv,D⟩:∃mv,cg (.sl 4) (aQ B.ac i5 0)=mv:=⟨_,rfl⟩;obtain⟨re,eR⟩:∃re,cg (.sl 67) (aQ B.ac i5 1)=re:=⟨_,rfl⟩;have P:JU k mv re:=by rw[<-D,<-eR];exact pp i5 N
 obtain⟨p1,p2,p3⟩:=pg i5 N;rw[D] at p1;rw[eR] at p2 p3;simp only[D,eR];have k1:=p1.len;have k2:=p2.len;have lm:=P.lm;have lr:=P.lr;have ml:Y m=Y aK.ac:=a.len;refine⟨N,mN aa (mN aa ?_)⟩;refine bW (Y aK.ac) (λn W=>W=[]) ⟨0,rfl,aa,rfl⟩ ?_;rintro V _ bs rfl;simp[s.sr.len,H,ag,N,D,eR,k1,k2,eS,lm,lr];refine ay (λQ=> ?_) (λbt=>by rw[bK N G.sm]);have cn:=a.cn V Q;rw[aDg hU] at cn;have nn:bn (aQ m (V:Int) 0).val=(gY m V:Int):=Sc a.ok V aa;have le:=JT a.ok V;have eq:=P.grp V Q (gY m V) aa cn;have f:=(ahN h V k (cr 134 re V) (p3 V aa)).1;have f0:=P.iF V Q;have A:=P.els V Q;have q3:=(p3 V aa).len;simp only[wk,ef,eK,cr] at f f0;simp only[cr] at q3 A;simp only[cb] at eq f0 A;rw[nn];refine⟨aa,aa,⟨aa,aa⟩, ?_⟩;rw[aL eq];refine ay (λz=>mN z ⟨aa, ?_⟩) (λz=>⟨aa, ?_⟩);rw[f0 z] at f;simp[bh f,bh (aig 500),bK Q (show Y aK.ac<=140737488355328 from aa)];have A:=A (by simpa using z);simp[q3,A,bh (aig 500),bK Q (show Y aK.ac<=140737488355328 from aa)];intro b;rw[ag,D] at b;exact aZ b z;refine bW (Y bw.ac) (λn W=>∃m,W=[.r (aI m)]/\∀j<n,C6 m (ci bw j 0)=decide (ci bw j 3≠1)) ⟨0,rfl,aa,[],rfl,λi hi=>aa⟩ ?_;rintro j _ hj ⟨m,rfl,hm⟩;simp[h.sg.len];refine ay (λQ=>⟨Q, ?_⟩) (λbx=> ?_);rw[bK Q h.sg.sm];refine⟨_,rfl,λq hq=> ?_⟩;rw[atC];by_cases aC:q=j;subst aC;simp only[ci,cS,bne];rfl;have:=hw.ids q j aa Q;rw[aT (by simp only[ci] at this⊢;omega),hm q aa];simp;have a0:j=Y bw.ac:=aa;subst a0;refine bW (Y y.ac) (λn W=>W=[]) ⟨0,rfl,aa,rfl⟩ ?_;rintro F _ b0 rfl;simp[s.so.len];refine λN=>⟨N, ?_⟩
 obtain⟨j,Q,j1,j2⟩:=p.cns.fnd F N;have hl:=hm j Q;have ho:=p.cns.ord F N;rw[j1,decide_eq_true j2] at hl;simp only[C6,cw,ci] at hl;refine mN hl ?_;refine ay (λ_=>by rw[bK N s.so.sm]) (λb1=> ?_);have hs:=s.so.sm;have a1:aH .sub I (F:Int) 1=((F-1:Nat):Int):=by
  rw[show aH .sub I (F:Int) 1=(F:Int)-1 by simp only[aH];exact cG aa aa];omega
 have ho:=ho aa;simp only[ci] at ho;rw[a1];refine⟨aa,vV aa ?_⟩;rw[bK N s.so.sm]
end
section
variable{R:bq->Prop}{G:aU}{t:T}{O:ai}{L:db}
variable[Inhabited dh]
variable{l m d g o c a k:RV}{dM:Int}{cl:Bool}
def dem(h:p=J):iY TB.Ev R 34 [.b p,.i 500] G t O L=iZ TB.Ev R (.ret []) G t O L:=by
 subst h;exact bh (aig 500)
def aDi(h:fD)(s:tE l m d g o)(p:C7 l m d g o)(N:Sl c)(M:Sl a)(H:Sl k)(af:∀i<Y a.ac,Sl (cr 76 a i))(f:JL d g c a k dM):TB.Ev 12 (ee l m d g o++[.r c,.i dM,.r a,.r k,.b cl]) (.ret [.i 0]):=by
 have w:=atD h s p;have lc:=f.calls;have c0:=f.cast;have lk:=f.YU;have lo:=f.opl;refine evo rfl rfl (.inr λv=>nofun) ?_;simp only[wk,ee,ef,eK] at w;simp[ag0,ee,wk,bh w,N.len,M.len,H.len,s.sr.len,s.sc.len,h.rl.len];refine mN aa (mN aa (mN aa (mN aa (mN aa ?_))));refine bW (Y c.ac) (λn W=>W=[]) ⟨0,rfl,aa,rfl⟩ ?_;rintro i _ hi rfl;simp[N.len,s.sr.len];refine ay (λD=> ?_) (λu=> ?_);have e:=(s.A6 i aa).len;have e2:=f.call i D;simp only[cr,ci] at e e2;simp only[e];refine⟨D,mN aa ⟨aa,vV aa ?_⟩⟩;rw[bK D N.sm];refine bW (Y a.ac) (λn W=>W=[]) ⟨0,rfl,aa,rfl⟩ ?_;rintro j _ hj rfl;simp[N.len,M.len,H.len];intro Q;have G:=af j Q;have F:=G.len;have X:=f.NT j Q;obtain⟨V,hV⟩:∃V,cr 76 a j=V:=⟨_,rfl⟩;have B:cg (.sl 76) (aQ a.ac j 0)=V:=hV;obtain⟨k1,k2,A,k4,z,k6⟩:=X;rw[hV] at G F k1 k2 A k4 z;simp only[B,F];refine⟨Q, ?_⟩;by_cases h1:Y V.ac=1;have h0:ci k j 0=0:=Classical.byContradiction λq=>by have:=A.2 q;omega
 simp only[ci] at h0;refine mN aa ⟨aa,mN h0 ?_⟩;refine bW (Y V.ac) (λn W=>W=[]) ⟨0,rfl,aa,rfl⟩ ?_;rintro q _ hq rfl;simp[N.len,M.len,H.len,B,F,Q];refine ay (λP=> ?_) (λu=> ?_);have e:=z q P;simp only[R8,ci] at e;simp[P,e,bK P G.sm];refine⟨aa,mN aa ?_⟩;rw[bK Q M.sm]
 ·have h2:Y V.ac=2:=aa;have o0:=A.1 h2;obtain⟨y,x,b3⟩:=k6 o0;have ne:=k4 h2;simp only[ci] at o0 y x b3 ne;refine vV aa (mN aa ⟨aa,aa, ?_⟩);rw[dem ?hb]
  rotate_left
  ·obtain⟨q,hq,ag⟩:=ne;simp only[jL,iw,beq_eq_false_iff_ne];refine Classical.byContradiction λhn=> ?_
   simp only[not_or,Classical.not_not] at hn;obtain⟨z0,z1,z2,z3,z4,z5,z6,z7,z8,z9,za,zb,zc⟩:=hn;have:q=0\/q=1\/q=2\/q=3\/q=4\/q=5\/q=6\/q=7\/q=8\/q=9\/q=10\/q=11\/q=12:=aa;rcases this with rfl|rfl|rfl|rfl|rfl|rfl|rfl|rfl|rfl|rfl|rfl|rfl|rfl
   all_goals exact ag qF
  simp;refine bW (Y V.ac) (λn W=>W=[]) ⟨0,rfl,aa,rfl⟩ ?_;rintro q _ hq rfl;simp[N.len,M.len,H.len,B,F,Q];refine ay (λP=> ?_) (λu=> ?_);have e:=z q P;simp only[R8,ci] at e;simp[P,e,bK P G.sm];refine⟨aa,vV aa ?_⟩;refine mN y (mN x ⟨⟨y,x⟩,vV b3 ?_⟩);rw[bK Q M.sm]
end
section
variable{R:bq->Prop}{G:aU}{t:T}{O:ai}{L:db}
variable[Inhabited dh]
variable{a c d g k b e f:RV}{dM i h j:Int}{l:Bool}
open Classical in
open Classical in
end
section
variable{R:bq->Prop}{G:aU}{t:T}{O:ai}{L:db}
structure Dk(c a k:RV):Prop where
 sc:Sl c
 sk:Sl a
 so:Sl k
 kk:∀i<Y a.ac,Sl (cr 76 a i)
 k1:∀row∈a.ac,Y row=1
 o1:∀row∈k.ac,Y row=1
variable[Inhabited dh]
variable{c a k:RV}{dM h j:Int}{l:Bool}{r:Nat}
open Classical in
open Classical in
variable{b d e g f:RV}
end
section
variable{R:bq->Prop}{G:aU}{t:T}{O:ai}{L:db}
variable[Inhabited dh]
variable{a c d g k b e f:RV}{dM:Int}{l:Bool}
end
section
variable{R:bq->Prop}{P:aU}{t:T}{O σ:ai}{L:db}
def jz(O σ:ai):Prop:=(∃a,σ.i=O.i++a)/\∃b,σ.r=O.r++b
def jz.refl:jz O O:=⟨⟨[],av⟩,[],av⟩
def jz.trans{X:ai}(h:jz O σ)(k:jz σ X):jz O X:=by
 obtain⟨⟨a,W⟩,b,V⟩:=h;obtain⟨⟨c,Q⟩,d,P⟩:=k;exact⟨⟨a++c,by rw[Q,W,Bn]⟩,b++d,by rw[P,V,Bn]⟩
def jz.add(x:XV):jz O (O.add x):=by
 cases x;exact⟨⟨_,rfl⟩,[],by simp[ai.add]⟩;exact⟨⟨[],by simp[ai.add]⟩,[],by simp[ai.add]⟩;exact⟨⟨[],by simp[ai.add]⟩,_,rfl⟩
def jz.ext:∀(X:bv)(O:ai),jz O (O.ext X)
 |[],_=>.refl
 |x::X,O=>(jz.add x).trans (jz.ext X (O.add x))
def jz.iv(h:jz O σ)(W:X<Y O.i):σ.i.getD X 0=O.i.getD X 0:=by
 obtain⟨⟨a,V⟩,_⟩:=h;rw[V];simp[cw,dN W]
def jz.rv(h:jz O σ){k:Nat}(X:k<Y O.r):σ.rv k=O.rv k:=by
 obtain⟨_,b,W⟩:=h;unfold ai.rv;rw[W];simp[cw,dN X]
def aDj{l:aF}(h:O.r=l++[M])(W:Y l=X):O.rv X=M:=by
 unfold ai.rv;rw[h];simp[cw,<-W]
def aaj{v:RV}(W:Y O.r=X):(O.add (.r v)).rv X=v:=aDj rfl W
def aih:∀(n:Nat)(t:T),T.wp TB.Ev R (RD n t) O L=T.wp TB.Ev R t O L
 |0,_=>rfl
 |n+1,t=>by rw[RD,xG,aih n t];simp[BE.ab]
def mO(V:RV)(i:Nat):aF:=(e8 13).map λq=>.mk (.int I (ci V i q)) []
def iu(X:aF):RV:=cg (.sl 76) (X.getD 0 default)
def kE:ar->List ar
 |[]=>[[]]
 |X::W=>(e8 (iu X).ac.length).flatMap λi=>(kE W).map (mO (iu X) i::·)
def zx(X:aF)(W:ar)(i:Nat):List ar:=(e8 i).flatMap λi=>(kE W).map (mO (iu X) i::·)
def N4(X:aF)(W:ar)(i:Nat):zx X W (i+1)=zx X W i++(kE W).map (mO (iu X) i::·):=by
 simp[zx,ZO]
def aii(X:aF)(W:ar):kE (X::W)=zx X W (iu X).ac.length:=rfl
def Se(W:aF)(X:ar):∀i,(zx W X i).length=i*(kE X).length
 |0=>by simp[zx]
 |i+1=>by rw[N4,gP,Se W X i,pN,nE];omega
structure Lvl(d:Nat)(O:ai)(p:ar)(S:RV):Prop where
 li:Y O.i=12+d
 lr:Y O.r=16+3*d
 lp:Y p=d
 prev:∀j<d,∀σ,jz O σ->(GR j).map (C.cj σ)=p.getD j []
 di:O.rv (uB d)=S
def aij(d:Nat):uB d<16+3*d:=by cases d<;>simp only[uB]<;>omega
def aDk{d:Nat}{S:RV}{i:Nat}(X:σ.rv (uB d)=S)(W:σ.i.getD (12+d) 0=(i:Int)):(GR d).map (C.cj σ)=mO (iu (S.ac.getD 0 [])) i:=by
 simp only[GR,mO,oJ];refine jA λq V=> ?_
 simp only[Function.comp,C.cj,K.ab,RE.rv,X,W,iu,ci];rfl
variable[Inhabited dh]
variable{g A D G H w re s:RV}{dM ak:Int}{f:ar->aF}{o:ar->Int}
structure N5(g A D G H w:RV)(dM ak:Int)(O:ai):Prop where
 a26:∀σ,jz O σ->(pe [(.agg (NH++[(.ah (.v 5)),(.ah (.v 6)),(.ah (.v 7)),(.ah (.v 8)),(.ah (.v 9))])),(.int I (.v 6))]).map (C.xv σ)=ee g A D G H++[.i dM]
 gO:∀σ,jz O σ->∀u z y,(pe [(.agg NH),(.agg [(.ah (.v 5))]),(.ah (.v u)),(.int I (.len (.v 10))),(.ah (.v 13)),(.ah (.v z)),(.ah (.v y))]).map (C.xv σ)=wk++[.r g,.r (σ.rv u),.i ak,.r w,.r (σ.rv z),.r (σ.rv y)]
def N5.mono(h:N5 g A D G H w dM ak O)(k:jz O σ):N5 g A D G H w dM ak σ:=⟨λX q=>h.a26 X (k.trans q),λX q=>h.gO X (k.trans q)⟩
structure Sf(g s w re:RV)(ak:Int)(f:ar->aF)(o:ar->Int):Prop where
 ans:∀c:ar,Y c<=64->∃b M F S V B,f c=[.mk (.int I b) [],M,F,S,V,B]/\TB.Ev 17 (wk++[.r g,.r s,.i ak,.r w,.r (aI c),.r re]) (.ret [.i b,.r M,.r F,.r S,.r V,.r B,.i (o c)])
def aDl{a:ar}(hB:N5 g A D G H w dM ak σ)(a1:TB.Ev 39 (ee g A D G H++[.i dM]) (.ret [.r s]))(M:Sf g s w re ak f o)(hc:Y Q<=64)
  (li:Y σ.i=13+X)(p:Y σ.r=21+5*X)(hz:σ.rv (20+5*X)=aI Q)(af:σ.rv (17+3*X)=re)(hA:σ.rv (16+3*X)=aI a)(hi:σ.i.getD (12+X) 0=(V:Int))(hl:Y a+1<=536870912)
  (hf:∀e,e≠0->R (.ret [.r (aI []),.i e]))(n:o Q=0->JH (As (2+X) L) [.i (aH .add I (V:Int) 1),.r (aI (a++[f Q])),.r re]):T.wp TB.Ev R (acT X) σ L:=by
 obtain⟨b,z,F,S,W,B,ha,a3⟩:=M.ans Q hc;unfold acT;rw[ahc,hB.a26 σ .refl,bh a1,ahd];refine⟨rfl, ?_⟩;have y:jz σ (σ.add (.r s)):=.add _;show T.wp TB.Ev R _ (σ.add (.r s)) L;rw[ahc,hB.gO _ y,aaj p,y.rv aa,y.rv aa,hz,af,bh a3,ahd];refine⟨rfl, ?_⟩;generalize m:(σ.add (.r s)).ext [.i b,.r z,.r F,.r S,.r W,.r B,.i (o Q)]=P;have e2:jz (σ.add (.r s)) P:=m▸jz.ext _ _;have l:P.i=σ.i++[b,o Q]:=by rw[<-m];simp[ai.ext,ai.add]
 have ag:P.r=σ.r++[s,z,F,S,W,B]:=by rw[<-m];simp[ai.ext,ai.add]
 have a4:P.i.getD (13+X) 0=b:=by rw[l];simp[cw,<-li]
 have k:P.i.getD (14+X) 0=o Q:=by rw[l,show 14+X=Y σ.i+1 from aa];simp[cw]
 have N:∀q v,[s,z,F,S,W,B][q]?=U v->P.rv (21+5*X+q)=v:=λq v hq=>by
  unfold ai.rv;rw[ag,<-p];simp[cw,iJ,hq]
 have al:=N 1 z rfl;have an:=N 2 F rfl;have aA:=N 3 S rfl;have aC:=N 4 W rfl;have a0:=N 5 B rfl;rw[show 21+5*X+1=22+5*X from aa] at al;rw[show 21+5*X+2=23+5*X from aa] at an;rw[show 21+5*X+3=24+5*X from aa] at aA;rw[show 21+5*X+4=25+5*X from aa] at aC;rw[show 21+5*X+5=26+5*X from aa] at a0;have j:Y P.r=27+5*X:=by rw[ag];simp[p];omega
 have h:=y.trans e2;have rA:P.rv (16+3*X)=aI a:=(h.rv aa).trans hA;have rR:P.rv (17+3*X)=re:=(h.rv aa).trans af;have iI:P.i.getD (12+X) 0=(V:Int):=(h.iv aa).trans hi;rw[NJ];refine ay (λx=> ?_) (λhn=> ?_);have x:o Q≠0:=by
  simp only[BE.ab,K.ab,k,fA] at x;simpa using x
 rw[aih,RG];show R (.ret [.r (aI []),.i (P.i.getD (14+X) 0)]);rw[k];exact hf (o Q) x;have h0:o Q=0:=by
  simp only[BE.ab,K.ab,k,fA] at hn;simpa using hn
 have n:=n h0;rw[xG];refine⟨rfl, ?_⟩;rw[GV];have n1:gI (.lit [[(.int I (.v (13+X))),(.ah (.v (22+5*X))),(.ah (.v (23+5*X))),(.ah (.v (24+5*X))),(.ah (.v (25+5*X))),(.ah (.v (26+5*X)))]]) P=aI [f Q]:=by
  rw[JJ];simp only[LE.ac,dU,pP,C.cj,K.ab,RE.rv,a4,al,an,aA,aC,a0,ha]
 rw[n1];have u:jz P (P.add (.r (aI [f Q]))):=.add _;rw[xG];refine⟨?_, ?_⟩;simp only[BE.ab,K.ab,RE.rv,u.rv (show 16+3*X<Y P.r from aa),rA,aaj j,NO,fA];simp only[kV,E6,aw,ce];omega;rw[GV];have n2:gI (.kq (.ah (.v (16+3*X))) (.ah (.v (27+5*X)))) (P.add (.r (aI [f Q])))=aI (a++[f Q]):=by
  rw[JJ];simp only[LE.ac,RE.rv,u.rv (show 16+3*X<Y P.r from aa),rA,aaj j,zq]
 rw[n2,aih,ahe];have e5:jz (P.add (.r (aI [f Q]))) ((P.add (.r (aI [f Q]))).add (.r (aI (a++[f Q])))):=.add _;have l5:(P.add (.r (aI [f Q]))).r.length=28+5*X:=by simp[ai.add,j];omega
 simp only[dU,pP,C.xv,K.ab,RE.rv,aaj l5,(u.trans e5).rv (show 17+3*X<Y P.r from aa),rR];rw[(u.trans e5).iv (show 12+X<Y P.i by rw[l];simp;omega),iI];exact n
def atF{d:Nat}{S:RV}{p x a:ar}{W:ai}{i:Nat}(N:N5 g A D G H w dM ak W)(F:TB.Ev 39 (ee g A D G H++[.i dM]) (.ret [.r s]))(M:Sf g s w re ak f o)(X:Lvl d O p S)(B:jz O W)(hd:d<=60)(hx:Y x=d+1)(z:∀j<d,x.getD j []=p.getD j [])
  (y:Y W.i=13+d)(lr:Y W.r=19+3*d)(u:W.rv (17+3*d)=re)(q:W.rv (16+3*d)=aI a)(n:W.i.getD (12+d) 0=(i:Int))(l:Y a+1<=536870912)
  (k:∀e,e≠0->R (.ret [.r (aI []),.i e]))(h:o x=0->JH (As (2+d) L) [.i (aH .add I (i:Int) 1),.r (aI (a++[f x])),.r re]):
  ∀(j m:Nat)(σ:ai),m+j=d+1->j<=d->jz W σ->σ.i=W.i->Y σ.r=19+3*d+2*m->σ.rv (18+3*d+2*m)=aI (x.drop j)->T.wp TB.Ev R (RF d j m) σ L
 |0,m,σ,hm,_,e,Q,V,P=>by
  rw[RF];refine aDl (N.mono e) F M aa (by rw[Q];exact y) (by rw[V];omega) ?_ ((e.rv aa).trans u) ((e.rv aa).trans q) (by rw[Q];exact n) l k h;rw[show 20+5*d=18+3*d+2*m from aa,P];rfl
 |j+1,m,σ,hm,hj,e,Q,V,P=>by
  rw[RF,xG];refine⟨rfl, ?_⟩;have af:x.getD j []::x.drop (j+1)=x.drop j:=by
   rw[Bj (i:=j) aa];simp[cw,cP (show j<Y x from aa)]
  have n1:gI (.lit [GR j]) σ=aI [x.getD j []]:=by
   rw[JJ];simp only[LE.ac,dU,pP];rw[X.prev j aa σ (B.trans e),z j aa]
  rw[GV,n1];have c:jz σ (σ.add (.r (aI [x.getD j []]))):=.add _;have b:=aaj (v:=aI [x.getD j []]) V;have v2:=(c.rv (show 18+3*d+2*m<Y σ.r from aa)).trans P;rw[xG];refine⟨?_, ?_⟩;simp only[BE.ab,K.ab,RE.rv,b,v2,NO,fA];simp only[kV,E6,Df,aw,ce];omega;rw[GV];have n2:gI (.kq (.ah (.v (19+3*d+2*m))) (.ah (.v (18+3*d+2*m)))) (σ.add (.r (aI [x.getD j []])))=aI (x.drop j):=by
   rw[JJ];simp only[LE.ac,RE.rv,b,v2,zq];rw[<-af];rfl
  rw[n2];have l5:(σ.add (.r (aI [x.getD j []]))).r.length=20+3*d+2*m:=by simp[ai.add,V];omega
  refine atF N F M X B hd hx z y lr u q n l k h j (m+1) _ aa aa ((e.trans c).trans (.add _)) Q (by simp[ai.add,V];omega) ?_;rw[show 18+3*d+2*(m+1)=20+3*d+2*m from aa];exact aaj l5
def atG(bb:TB.Ev 39 (ee g A D G H++[.i dM]) (.ret [.r s]))(M:Sf g s w re ak f o)(hf:∀e,e≠0->R (.ret [.r (aI []),.i e])):
  ∀(n d:Nat)(O:ai)(p:ar)(S:RV)(V:aF)(W z:ar)(L:db),N5 g A D G H w dM ak O->Lvl d O p S->Sl S->S.ac=V::W->Y S.ac<=n->d+n<=60->(∀V∈S.ac,Sl (iu V))->
   (Yw d).map (C.xv O)=[.i 0,.r (aI z),.r re]->Y z+(kE S.ac).length<=536870912->
   (∀c:PC,c.ax=2+d->(∀q∈kE S.ac,o (p++q)=0)->T.wp TB.Ev R (Yx d) (O.ext [.i ((iu V).ac.length:Int),.r (aI (z++(kE S.ac).map λq=>f (p++q))),.r re]) (c::L))->T.wp TB.Ev R (Yy n d) O L
 |0,d,O,p,S,V,W,z,L,hB,X,hS,B,hn,b4,hV,hI,u,m=>by
  rw[B] at hn;simp at hn
 |n+1,d,O,p,S,V,W,z,L,hB,X,hS,B,hn,b4,hV,hI,u,m=>by
  have af:Sl (iu V):=hV V (by rw[B];simp);rw[B] at u m hn;simp only[kV] at hn;rw[aii] at u m;obtain⟨N,l⟩:∃N,(iu V).ac.length=N:=⟨_,rfl⟩;rw[l] at u m;have bf:N<=140737488355328:=by rw[<-l];exact af.sm
  rw[Yy];refine bW N (λi rs=>∃a,rs=[.r (aI a),.r re]/\a=z++(zx V W i).map (λq=>f (p++q))/\∀q∈zx V W i,o (p++q)=0) (by rw[hI];exact⟨0,rfl,Hx _,z,rfl,by simp[zx],by simp[zx]⟩) ?_;rintro i _ hi ⟨a,rfl,ha,a1⟩;have b5:Y a=Y z+i*(kE W).length:=by rw[ha];simp[Se]
  rw[Se] at u;have li:=X.li;have lr:=X.lr;have e1:jz O (O.ext [.i (i:Int),.r (aI a),.r re]):=jz.ext _ _;have a3:(O.ext [.i (i:Int),.r (aI a),.r re]).i=O.i++[(i:Int)]:=by simp[ai.ext,ai.add]
  have an:(O.ext [.i (i:Int),.r (aI a),.r re]).r=O.r++[aI a,re]:=by simp[ai.ext,ai.add]
  have cn:=m;generalize b6:O.ext [.i (i:Int),.r (aI a),.r re]=Q at e1 a3 an⊢;have vi:Q.i.getD (12+d) 0=(i:Int):=by rw[a3];simp[cw,<-li]
  have vA:Q.rv (16+3*d)=aI a:=by
   unfold ai.rv;rw[an];simp[cw,<-lr]
  have vR:Q.rv (17+3*d)=re:=by
   unfold ai.rv;rw[an,show 17+3*d=Y O.r+1 from aa];simp[cw]
  have y:Q.rv (uB d)=S:=(e1.rv (by rw[lr];exact aij d)).trans X.di;have aA:cg (.sl 76) (aQ S.ac 0 0)=iu V:=by rw[B];rfl
  have lS:lenOf S.val=((Y W+1:Nat):Int):=by rw[hS.len,B];rfl
  rw[NJ];refine ay (λag=> ?_) (λb7=> ?_)
  rotate_left
  simp only[BE.ab,K.ab,RE.rv,vi,y,aA,af.len,l,fA,ce] at b7;have b8:i=N:=aa;subst b8;rw[<-b6,ha];exact m _ rfl a1;simp only[BE.ab,K.ab,RE.rv,vi,y,aA,af.len,l,fA,ce] at ag;have ag:i<N:=aa;have bg:(i+1)*(kE W).length<=N*(kE W).length:=zG _ ag;rw[nE] at bg;rw[xG];refine⟨?_, ?_⟩;simp only[BE.ab,K.ab,RE.rv,vi,y,aA,af.len,l,fA,aw,ce];omega;rw[xG];refine⟨?_, ?_⟩;simp only[BE.ab,K.ab,RE.rv,vi,y,aA,af.len,l,fA,aw,ce];omega;rw[xG];refine⟨?_, ?_⟩;simp only[BE.ab,K.ab,RE.rv,y,lS,fA,ce];omega;rw[GV];have n1:gI (.sub (.ah (.v (uB d))) (.c 1) (.len (.v (uB d)))) Q=aI W:=by
   rw[JJ];simp only[LE.ac,K.ab,RE.rv,y,lS,B];simp
  rw[n1];have e2:jz Q (Q.add (.r (aI W))):=.add _;have a4:Y Q.r=18+3*d:=by rw[an];simp[lr];omega
  have ca:Y Q.i=13+d:=by rw[a3];simp[li];omega
  have al:=aaj (v:=aI W) a4;have wS:(Q.add (.r (aI W))).rv (uB d)=S:=(e2.rv (by rw[a4];have:=aij d;omega)).trans y;have wA:(Q.add (.r (aI W))).rv (16+3*d)=aI a:=(e2.rv aa).trans vA;have wR:(Q.add (.r (aI W))).rv (17+3*d)=re:=(e2.rv aa).trans vR;have wi:(Q.add (.r (aI W))).i.getD (12+d) 0=(i:Int):=vi;have bk:(Q.add (.r (aI W))).i.length=13+d:=ca;have k:(Q.add (.r (aI W))).r.length=19+3*d:=by simp[ai.add,a4];omega
  generalize Q.add (.r (aI W))=P at e2 al wS wA wR wi bk k⊢;have aC:=e1.trans e2;have bl:∀σ,jz P σ->(GR d).map (C.cj σ)=mO (iu V) i:=λσ e=>by
   have:=aDk (σ:=σ) (d:=d) (S:=S) (i:=i) ((e.rv (by have:=aij d;omega)).trans wS) ((e.iv aa).trans wi);rw[B] at this;exact this
  rw[NJ];refine ay (λh=> ?_) (λbs=> ?_);simp only[BE.ab,K.ab,RE.rv,al,NO,fA] at h;have h:W=[]:=E1.1 (by simpa using h);subst h;rw[xG];refine⟨rfl, ?_⟩;have m1:gI (.lit [GR d]) P=aI [mO (iu V) i]:=by
   rw[JJ];simp only[LE.ac,dU,pP];rw[bl P .refl]
  rw[GV,m1];have e3:jz P (P.add (.r (aI [mO (iu V) i]))):=.add _;have bt:=aaj (v:=aI [mO (iu V) i]) k;rw[xG];refine⟨?_, ?_⟩;simp only[BE.ab,K.ab,RE.rv,bt,NO,fA];simp;have m2:gI (.kq (.ah (.v (19+3*d))) (.lit [])) (P.add (.r (aI [mO (iu V) i])))=aI [mO (iu V) i]:=by
   rw[JJ];simp only[LE.ac,RE.rv,bt,zq];rfl
  rw[GV,m2];have l3:(P.add (.r (aI [mO (iu V) i]))).r.length=20+3*d:=by simp[ai.add,k];omega
  have lp:=X.lp;refine atF (x:=p++[mO (iu V) i]) (a:=a) (hB.mono aC) bb M X aC aa (by simp[lp]) (λj hj=>by simp[cw,dN (show j<Y p from aa)]) bk k wR wA wi (by simp only[kE,kV,E6] at u b5 bg;omega) hf (λh=> ?_) d 1 _ aa (bY _) (e3.trans (.add _)) rfl (by simp[ai.add,k]) ?_;simp only[As,cS];rw[bK ag bf];refine⟨_,rfl, ?_, ?_⟩;rw[ha,N4];simp[kE];intro q F;rw[N4] at F;rcases eW.1 F with F|F;exact a1 q F;simp only[kE,dU,pP,Hm] at F;subst F;exact h;rw[show 18+3*d+2*1=20+3*d from aa,aaj l3,avm aa,ZB aa];rfl;simp only[BE.ab,K.ab,RE.rv,al,NO,fA] at bs;obtain⟨b,a9,bx⟩:∃b a9,W=b::a9:=by
   cases W with
   |nil=>simp at bs
   |cons r q=>exact⟨r,q,rfl⟩
  have b0:BE.ab P (.cmp .lss (.c 0) (.len (.v (18+3*d))))=true:=by
   simp only[BE.ab,K.ab,RE.rv,al,NO,fA,ce,bx,kV];omega
  rw[xG];refine⟨b0, ?_⟩;rw[xG];refine⟨b0, ?_⟩;have b1:=hS.sm;rw[B] at b1;simp only[kV] at b1;refine atG bb M hf n (d+1) P (p++[mO (iu V) i]) (aI W) b a9 a _ (hB.mono aC) ⟨aa,aa,by simp[X.lp],λj hj σ e=> ?_,al⟩ (sf aa) bx (by simp only[zq];omega) aa (λq F=>hV q (by rw[B];exact Dd _ F)) ?_ (by simp only[zq];omega) ?_;by_cases b2:j<d;rw[X.prev j b2 σ (aC.trans e)];simp[cw,dN (show j<Y p by rw[X.lp];exact b2)];have:j=d:=aa;subst this;rw[bl σ e];simp[cw,<-X.lp];simp only[Yw,dU,pP,C.xv,K.ab,RE.rv,wA,wR];intro c hc b3;simp only[zq] at b3⊢;rw[Yx,ahe];have cc:¬c.ax=2+d:=aa;simp only[As,cc,gw,cS];have e3:jz P (P.ext [.i ((iu b).ac.length:Int),.r (aI (a++(kE W).map λq=>f (p++[mO (iu V) i]++q))),.r re]):=jz.ext _ _;have ba:(P.ext [.i ((iu b).ac.length:Int),.r (aI (a++(kE W).map λq=>f (p++[mO (iu V) i]++q))),.r re]).r=P.r++[aI (a++(kE W).map λq=>f (p++[mO (iu V) i]++q)),re]:=by simp[ai.ext,ai.add]
  generalize P.ext [.i ((iu b).ac.length:Int),.r (aI (a++(kE W).map λq=>f (p++[mO (iu V) i]++q))),.r re]=O3 at e3 ba⊢;have cf:O3.rv (19+3*d)=aI (a++(kE W).map λq=>f (p++[mO (iu V) i]++q)):=by
   unfold ai.rv;rw[ba];simp[cw,<-k]
  have ch:O3.rv (20+3*d)=re:=by
   unfold ai.rv;rw[ba,show 20+3*d=Y P.r+1 from aa];simp[cw]
  simp only[dU,pP,C.xv,K.ab,RE.rv,cf,ch,(e3.iv (show 12+d<Y P.i from aa)).trans wi];rw[bK ag bf];refine⟨_,rfl, ?_, ?_⟩;rw[ha,N4];simp[Bn];intro q F;rw[N4] at F;rcases eW.1 F with F|F;exact a1 q F;obtain⟨q',cl,rfl⟩:=iD.1 F;have:=b3 q' cl;simpa[Bn] using this
end
section
variable{R:bq->Prop}{G:aU}{t:T}{O:ai}{L:db}
variable[Inhabited dh]
variable{j l d a co u v w:RV}{dM k:Int}{cl:Bool}
def aDm(h:fD)(X:40<Y bw.ac):TB.Ev 6 (ee j l d a co) (.ret [.b E]):=by
 refine fC ?_;unfold GQ;simp only[ee,wk,ef,eK];rw[NJ];refine mN ?_ (by rw[RG];rfl);show decide (_>_)=J;simp only[ce];show lenOf bw.val>40;rw[h.sg.len];omega
def aDn(h:fD)(X:TB.Ev 6 (ee j l d a co) (.ret [.b J])):Y bw.ac<=40:=Classical.byContradiction λW=>by
 have:=Qd X (aDm h aa);injection this with this;injection this with this;injection this with this;cases this
def aDo(h:fD){X:RV}(P:JU B M X)(H:∀i<Y X.ac,Sl (cr 134 X i)):∀i<Y aK.ac,(cr 134 X i).ac.length<=Y bw.ac:=λi W=>by
 by_cases Q:cb M i 0=J;have G:=P.iF i W Q;have V:=(ahN h i B (cr 134 X i) (H i (by rw[P.lr];exact W))).2;rw[G] at V;have N:gm i B=0:=Classical.byContradiction λq=>q (V.c q).symm
 have F:vQ (dW i B) (cr 134 X i):=Classical.byContradiction λq=>by have:=(V.k N).2 q;omega
 rw[<-F.1,dW,aL N,mZ];exact NP _;rw[P.els i W (by simpa using Q)];simp
def uJ(a u:RV)(k:Int):Int:=if Y a.ac<=Y u.ac\/k<1\/((cr 69 a (Y u.ac)).ac.length:Int)<k then 1 else 0
def atH(h:fD)(s:tE j l d a co)(p:C7 j l d a co)(D:Dk u v w)(f:JL d a u v w dM):TB.Ev 36 (ee j l d a co++[.r u,.i dM,.r v,.r w,.b cl,.i k]) (.ret [.i (uJ a u k)]):=by
 have X:=aDi (cl:=cl) h s p D.sc D.sk D.so D.kk f;refine fC ?_;simp only[wk,ee,ef,eK] at X;simp[ag5,ee,wk,bh X,D.sc.len,s.sr.len];refine ay (λQ=> ?_) (λQ=> ?_);rw[uJ,aL (.inl aa)];refine ay (λW=> ?_) (λW=> ?_);rw[uJ,aL (.inr (.inl W))];have P:Y u.ac<Y a.ac:=aa;have e:=(s.A6 (Y u.ac) P).len;simp only[cr] at e;simp only[e];refine⟨aa,ay (λV=> ?_) (λV=> ?_)⟩;rw[uJ,aL (.inr (.inr (by simpa[cr] using V)))];rw[uJ,aT (by simp only[cr];omega)]
def aDp(h:fD)(s:tE j l d a co)(p:C7 j l d a co){c:Nat}(X:c<Y d.ac):∃o,TB.Ev 39 (ee j l d a co++[.i c]) o/\∃m:ar,o=.ret [.r (aI m)]/\Y m<=12:=by
 have V:=s.YM c X;have e:=V.len;have Q:=p.dM.len c X;have P:=p.dM.idx c X;have G:=p.JW.rl;simp only[cr] at e;refine dZ ?_;simp[ag4,ee,wk,s.sc.len,X,e];refine bW (cr 3 d c).ac.length (λi N=>∃m:ar,N=[.r (aI m)]/\Y m=i) ⟨0,rfl,aa,[],rfl,rfl⟩ ?_;rintro i _ F ⟨m,rfl,M⟩;simp[s.sc.len,s.sb.len,X,e];refine ay (λW=> ?_) (λD=> ?_);have g:=P i W;simp only[ci,cr] at g;rw[bK (n:=(cr 3 d c).ac.length) (show i<(cr 3 d c).ac.length from W) V.sm];refine⟨W,g, ?_,_,rfl,by simp[M]⟩;omega;have H:=Q;simp only[cr] at H;exact⟨m,rfl,aa⟩
def aDq(h:fD)(s:tE j l d a co)(p:C7 j l d a co)(P:X<Y d.ac)(W:TB.Ev 39 (ee j l d a co++[.i X]) (.ret [.r (aI Q)])):TB.Ev 15 (ee j l d a co++[.i X]) (.ret [.r (aI Q),.i 0]):=by
 have V:=atD h s p;refine fC ?_;simp only[wk,ee,ef,eK] at V W;simp[ag2,ee,wk,bh V,s.sc.len];refine⟨P, ?_⟩;simp[bh W]
end
section
variable{R:bq->Prop}{N:aU}{t:T}{O:ai}{L:db}
variable[Inhabited dh]
variable{wg A v m G d kn H:RV}{dM k:Int}{cl:Bool}
def bR(f:Nat->Bool)(n:Nat):ar:=(e8 n).map λi=>[RV.mk (.bool (f i)) []]
def Sg:(bR W X).length=X:=by simp[bR]
def atI(Q:V<X):gA (aQ (bR W X) (V:Int) 0).val=W V:=by
 simp[aQ,bR,cw,Q,gA]
def qC(f:Nat->Bool)(X:RV)(n i:Nat):ar:=(e8 n).map λq=>[if decide (q<i)&&f q then cr 134 X q else aI []]
def ail:(qC W M X V).length=X:=by simp[qC]
def aDr:qC W M X 0=eF X [aI []]:=by
 simp[qC,List.map_const']
def aDs(Q:W V=J):(qC W M X V).modify V (λP=>gT P 0 [cr 134 M V])=qC W M X (V+1):=by
 refine Y8 X V _ _ _ λq _=> ?_
 by_cases e:q=V;subst e;simp[Q,gT];have:(q<V+1)<->q<V:=aa;simp[e,this]
def aDt(Q:W V=E):qC W M X (V+1)=qC W M X V:=by
 unfold qC;refine jA λq _=> ?_
 by_cases e:q=V;subst e;simp[Q];have:(q<V+1)<->q<V:=aa;simp[this]
def aDu(Q:V<X)(P:Sl (cr 134 M V)):cr 134 (aI (qC W M X X)) V=if W V then cr 134 M V else aI []:=by
 unfold cr;simp only[zq,aQ,qC,su,cw,dS,zH Q];simp[Q];split;obtain⟨a,X,c,N⟩:=P.sl;have:cg (.sl 134) (cr 134 M V)=cr 134 M V:=by
  simp only[cg,N]
 simpa[cr,aQ,cw] using this;rfl
def jJ:ar->Nat
 |[]=>1
 |X::W=>(iu X).ac.length*jJ W
def Si:∀l:ar,(kE l).length=jJ l
 |[]=>rfl
 |W::X=>by rw[aii,Se,Si X];rfl
def atJ(W:X<Y Q):jJ (Q.drop X)=(iu (Q.getD X [])).ac.length*jJ (Q.drop (X+1)):=by
 rw[Bj W];simp[jJ,cw,cP W]
def N6{kn:RV}(i:Nat):iu (kn.ac.getD i [])=cr 76 kn i:=by
 simp only[iu,cr,aQ,su]
def aDv(h:fD)(ak:Int){bc mv re:RV}(H:Sl bc)(G:Sl mv)(D:Sl re)(A:∀i<Y re.ac,Sl (cr 134 re i)/\(cr 134 re i).ac.length<=100):∃W P,Sf wg bc mv re ak W P/\∀c:ar,Y c<=64->Y3 ak bc mv (aI c) re (.ret ([.i (bn ((W c).getD 0 default).val)]++((W c).drop 1).map XV.r++[.i (P c)])):=by
 have z:∀c:ar,∃x:aF×Int,Y c<=64->(∃b M F S V B,x.1=[.mk (.int I b) [],M,F,S,V,B]/\TB.Ev 17 (wk++[.r wg,.r bc,.i ak,.r mv,.r (aI c),.r re]) (.ret [.i b,.r M,.r F,.r S,.r V,.r B,.i x.2]))/\Y3 ak bc mv (aI c) re (.ret ([.i (bn (x.1.getD 0 default).val)]++(x.1.drop 1).map XV.r++[.i x.2])):=λc=>by
  by_cases X:Y c<=64;obtain⟨o,g,Q⟩:=t13 h ak wg bc mv (aI c) re H G (sf aa) D A;rcases id Q with⟨e,u,rfl⟩|⟨y,w,v,rfl,s⟩;exact⟨⟨[.mk (.int I 0) [],aI [],aI [],aI [],aI [],aI []],e⟩,λ_=>⟨⟨_,_,_,_,_,_,rfl,g⟩,Q⟩⟩;exact⟨⟨[.mk (.int I ak) [],aI mv.ac,aI c,aI y,aI w,aI v],0⟩,λ_=>⟨⟨_,_,_,_,_,_,rfl,g⟩,Q⟩⟩;exact⟨⟨[],0⟩,λq=>aZ q X⟩
 obtain⟨F,N⟩:=Classical.axiomOfChoice z;exact⟨λc=>(F c).1,λc=>(F c).2,⟨λc X=>(N c X).1⟩,λc X=>(N c X).2⟩
def atK(h:fD)(s:tE wg A v m G)(p:C7 wg A v m G)(D:Dk d kn H)(f:JL v m d kn H dM){mf:Nat->Bool}{act:ar->aF}{fe:ar->Int}(b7:Y Q<=12)
  (af:uJ m d k=0->TB.Ev 37 (ee wg A v m G++[.r d,.i dM,.r kn,.r H,.b cl,.i k]) (.ret [.r (aI (bR mf (Y aK.ac)))]))(aC:TB.Ev 39 (ee wg A v m G++[.i dM]) (.ret [.r (aI Q)]))
  (M:uJ m d k=0->Sf wg (aI Q) (aI (bR mf (Y aK.ac))) (aI (qC mf (JV (cr 69 m (Y d.ac)) (k-1).toNat) (Y aK.ac) (Y aK.ac))) (Y d.ac) act fe):
  ∃o,TB.Ev 13 (ee wg A v m G++[.r d,.i dM,.r kn,.r H,.b cl,.i k]) o/\((∃e,e≠0/\o=.ret [.r (aI []),.i e])\/(uJ m d k=0/\(∀q∈kE kn.ac,fe q=0)/\o=.ret [.r (aI ((kE kn.ac).map act)),.i 0])):=by
 obtain⟨P,hP⟩:∃P:bq->Prop,∀o,P o<->((∃e,e≠0/\o=.ret [.r (aI []),.i e])\/(uJ m d k=0/\(∀q∈kE kn.ac,fe q=0)/\o=.ret [.r (aI ((kE kn.ac).map act)),.i 0])):=⟨_,λ_=>Iff.rfl⟩
 suffices ba:∃o,TB.Ev 13 (ee wg A v m G++[.r d,.i dM,.r kn,.r H,.b cl,.i k]) o/\P o by
  obtain⟨o,g1,g2⟩:=ba;exact⟨o,g1,(hP o).1 g2⟩
 have ag:∀e,e≠0->P (.ret [.r (aI []),.i e]):=λe he=>(hP _).2 (.inl ⟨e,he,rfl⟩)
 have a1:=atH (cl:=cl) (k:=k) h s p D f;have lk:=f.YU;have b8:=p.JW.rl;have bb:∀i<Y kn.ac,1<=(cr 76 kn i).ac.length/\(cr 76 kn i).ac.length<=2:=λi n=>⟨(f.NT i n).one,(f.NT i n).two⟩
 refine dZ ?_;simp only[wk,ee,ef,eK] at a1;simp[aha,ee,wk,bh a1];refine ay (λN=> ?_) (λN=>ag _ N);have af:=af N;have M:=M N;have bf:Y d.ac<Y m.ac/\1<=k/\k<=(cr 69 m (Y d.ac)).ac.length:=by
  unfold uJ at N;split at N;cases N;omega
 obtain⟨al,cc,cf⟩:=bf;obtain⟨X,bg⟩:∃X:Nat,k=X+1:=⟨(k-1).toNat,aa⟩;subst bg;have bk:((X:Int)+1-1).toNat=X:=aa;rw[bk] at M;have an:X<(cr 69 m (Y d.ac)).ac.length:=aa;refine bW (Y kn.ac) (λi l=>∃q:Nat,l=[.i q]/\q*jJ (kn.ac.drop i)=jJ kn.ac/\1<=q/\q<=256) ⟨0,rfl,aa,1,rfl,av,aa,aa⟩ ?_;rintro i _ n ⟨q,rfl,hq,bl,bs⟩;simp[D.sk.len];refine ay (λW=> ?_) (λbt=> ?_);have e:=(D.kk i W).len;have el:=bb i W;have ed:=atJ W;rw[N6] at ed;simp only[cr] at e el ed;simp only[e];obtain⟨w,hw⟩:∃w,(cg (.sl 76) (aQ kn.ac (i:Int) 0)).ac.length=w:=⟨_,rfl⟩;rw[hw] at el ed⊢;have hm:aH .mul I (q:Int) (w:Int)=((q*w:Nat):Int):=by
  simp only[aH];have:q*w<=256*2:=Dg bs el.2;rw[<-ajl,cG aa aa]
 rw[hm];refine⟨W,ay (λg=>ag 2 dX) (λg=> ?_)⟩;rw[bK W D.sk.sm];refine⟨_,rfl, ?_, ?_,aa⟩;rw[ajn,<-ed];exact hq;exact Dg bl el.1;have bx:i=Y kn.ac:=aa;subst bx;have ch:jJ kn.ac<=256:=by
  rw[ZB (bY _)] at hq;simp only[jJ,ZV] at hq;omega
 clear hq n bt;simp only[wk,ee,ef,eK] at af;simp[bh af];rw[Sg];have a3:Y aK.ac<=140737488355328:=aa;have hS:=s.A6 (Y d.ac) al;have eS:=hS.len;have pg:=s.A7 (Y d.ac) al X an;have pp:=p.JX.A7 (Y d.ac) al X an;obtain⟨B,hB⟩:∃B,cr 69 m (Y d.ac)=B:=⟨_,rfl⟩;rw[hB] at hS eS pg pp an M;have b0:cg (.sl 69) (aQ m.ac (Y d.ac:Int) 0)=B:=hB;obtain⟨RL,eR⟩:∃x,JV B X=x:=⟨_,rfl⟩;have a4:cg (.sl 67) (aQ B.ac (X:Int) 1)=RL:=eR;obtain⟨-,p2,p3⟩:=pg;have lr:=pp.lr;rw[eR] at lr M;simp only[a4] at p2 p3;have k2:=p2.len;have b1:aH .sub I ((X:Int)+1) 1=(X:Int):=by
  simp only[aH];rw[cG (by have:=hS.sm;omega) (by have:=hS.sm;omega)];omega
 refine⟨aa, ?_⟩;refine bW (Y aK.ac) (λi l=>l=[.r (aI (qC mf RL (Y aK.ac) i))]) ⟨0,rfl,aa,by show[XV.r (aI (eF _ [aI []]))]=_;rw[aDr]⟩ ?_;rintro j _ hj rfl;simp[Sg,ail,D.sc.len,s.sr.len,b0,eS,a4,k2,lr,b1];refine ay (λW=> ?_) (λcn=> ?_);rw[atI W];refine⟨W,ay (λhm=> ?_) (λhm=> ?_)⟩;refine⟨al,an,W, ?_⟩;rw[bK W a3,show cg (.sl 134) (aQ RL.ac (j:Int) 0)=cr 134 RL j from rfl,aDs hm];rw[bK W a3,aDt (by simpa using hm)];have b2:j=Y aK.ac:=aa;subst b2;have aA:(∀q∈kE kn.ac,fe q=0)->P (.ret [.r (aI ((kE kn.ac).map act)),.i 0]):=λq=>(hP _).2 (.inr ⟨N,q,rfl⟩)
 have b3:=D.sk.len;by_cases hz:kn.ac=[];have b4:lenOf kn.val=0:=by rw[b3,hz];rfl
 refine mN b4 ?_;obtain⟨b,Mm,F,S,V,Bx,ha,a9⟩:=M.ans [] av;rw[hz] at aA;simp only[kE,Hm,dU,pP,ha] at aA;simp only[wk,ee,ef,eK] at aC a9;simp[bh aC,D.sc.len,bh a9];refine ay (λhe=> ?_) (λhe=>ag _ he);exact aA λq hq=>by rw[hq];exact he
 have cp:0<Y kn.ac:=Og.2 hz;refine vV aa ?_;refine⟨aa, ?_⟩;obtain⟨a0,l,hr⟩:∃a0 l,kn.ac=a0::l:=by
  cases hk:kn.ac with
  |nil=>exact aZ hk hz
  |cons r q=>exact⟨r,q,rfl⟩
 refine atG (re:=aI (qC mf RL (Y aK.ac) (Y aK.ac))) aC M ag 12 0 _ [] kn a0 l [] _ ⟨λσ e=> ?_,λσ e u z y=> ?_⟩ ⟨rfl,rfl,rfl,λj hj=>aZ hj (avJ j),rfl⟩ D.sk hr aa aa (λct b5=> ?_) rfl (by rw[Si];simp only[E6];omega) (λc _ b6=> ?_);obtain⟨⟨a,ha⟩,b,g⟩:=e;obtain⟨si,sb,sr,sy⟩:=σ;simp only at ha g;subst ha;subst g;simp[pe,Iz,NH,C.xv,K.ab,RE.rv,ai.rv,ee,wk];obtain⟨⟨a,ha⟩,b,g⟩:=e;obtain⟨si,sb,sr,sy⟩:=σ;simp only at ha g;subst ha;subst g;simp[pe,Iz,NH,C.xv,K.ab,RE.rv,ai.rv,wk,D.sc.len];obtain⟨i,n,rfl⟩:=SQ b5;have:=D.kk i n;rw[<-N6] at this;simpa[cw,cP n] using this;rw[Yx,RG];exact aA b6
end
section
variable{R:bq->Prop}{G:aU}{t:T}{O:ai}{L:db}
variable[Inhabited dh]
variable{a l d g u c w y:RV}{dM k:Int}{cl:Bool}
def atL(X:uJ g c k=0):Y c.ac<Y g.ac/\1<=k/\k<=(cr 69 g (Y c.ac)).ac.length:=by
 unfold uJ at X;split at X;cases X;omega
def atM:bR W X++[[RV.mk (.bool p) []]]=bR (λq=>if q=X then p else W q) (X+1):=by
 simp only[bR,ZO,Hq,dU,pP,cS];congr 1;refine jA λq V=> ?_
 have:=uO.1 V;rw[aT aa]
def aDw(h:fD)(s:tE a l d g u)(p:C7 a l d g u)(D:Dk c w y)(f:JL d g c w y dM)(h0:uJ g c k=0):∃o,TB.Ev 37 (ee a l d g u++[.r c,.i dM,.r w,.r y,.b cl,.i k]) o/\∃Q,o=.ret [.r (aI (bR Q (Y aK.ac)))]/\∀i<Y aK.ac,Q i=J->cb (Sd (cr 69 g (Y c.ac)) (k-1).toNat) i 0=true:=by
 obtain⟨N,a0,a1⟩:=atL h0;obtain⟨X,rfl⟩:∃X:Nat,k=X+1:=⟨(k-1).toNat,aa⟩;have al:((X:Int)+1-1).toNat=X:=aa;rw[al];have M:X<(cr 69 g (Y c.ac)).ac.length:=aa;have lO:=p.JX.len;have m2:=p.JW.rl;have lk:=f.YU;obtain⟨v,an,hv,hU⟩:=atn h (Y c.ac) p.wk (by simp[jm];omega);obtain⟨o,ag,hr⟩:=t63 h (Y c.ac) an (λx hx=>by have:=hU.ok x hx;omega) hv aa;rcases hr with⟨hz,-⟩|⟨-,m,rfl,gk⟩;exact aZ rfl hz;have ml:Y m=Y aK.ac:=gk.len;have H:Y aK.ac<=140737488355328:=aa;have G:=s.A6 (Y c.ac) N;have eS:=G.len;have pg:=s.A7 (Y c.ac) N X M;have pp:=p.JX.A7 (Y c.ac) N X M;obtain⟨B,z⟩:∃B,cr 69 g (Y c.ac)=B:=⟨_,rfl⟩;rw[z] at G eS pg pp M;have aA:cg (.sl 69) (aQ g.ac (Y c.ac:Int) 0)=B:=z;obtain⟨F,A⟩:∃F,cg (.sl 4) (aQ B.ac X 0)=F:=⟨_,rfl⟩;have P:JU (Y c.ac) F (JV B X):=by rw[<-A];exact pp
 have p1:=pg.1;rw[A] at p1;have k1:=p1.len;have lm:=P.lm;have aC:aH .sub I ((X:Int)+1) 1=(X:Int):=by
  simp only[aH];rw[cG (by have:=G.sm;omega) (by have:=G.sm;omega)];omega
 refine dZ ?_;simp only[wk,ef,eK] at ag;simp[ag6,ee,wk,D.sc.len,bh ag];refine bW (Y aK.ac) (λi n=>∃x,n=[.r (aI x)]) ⟨0,rfl,aa,[],rfl⟩ ?_;rintro i _ hi ⟨x,rfl⟩;simp[ml,D.sk.len];refine ay (λW=> ?_) (λa3=> ?_);have e:=(D.kk i aa).len;simp only[cr] at e;simp only[e];refine⟨aa,ay (λhd=> ?_) (λhd=> ?_)⟩;rw[bK W H];exact⟨W,_,rfl⟩;rw[bK W H];exact⟨_,rfl⟩;refine bW (Y aK.ac) (λi n=>∃Q,n=[.r (aI (bR Q i))]/\∀q<i,Q q=J->cb F q 0=J) ⟨0,rfl,aa,λ_=>E,rfl,aa⟩ ?_;rintro j _ hj ⟨Q,rfl,af⟩;simp[ml,D.sc.len,s.sr.len,aA,eS,A,k1,lm,aC,Sg];refine ay (λW=> ?_) (λa4=> ?_);refine⟨W,N,M,W,ay (λhm=>⟨aa, ?_⟩) (λhm=>⟨aa, ?_⟩)⟩;rw[bK W H,atM];refine⟨_,rfl,λq hq V=> ?_⟩;by_cases e:q=j;subst e;exact hm;rw[aT e] at V;exact af q aa V;rw[bK W H,atM];refine⟨_,rfl,λq hq V=> ?_⟩;by_cases e:q=j;subst e;simp at V;rw[aT e] at V;exact af q aa V;have:j=Y aK.ac:=aa;subst this;exact⟨Q,rfl,λq hq V=>by rw[z,Sd,A];exact af q hq V⟩
end
section
variable{R:bq->Prop}{G:aU}{t:T}{O:ai}{L:db}{a b:RV}
def cE(h:cU a b)(i:Int)(j:Nat):bn (aQ b.ac i j).val=bn (aQ a.ac i j).val:=((h.aQ i j).bn).1.symm
def cF(h:cU a b)(i:Int)(j:Nat):gA (aQ b.ac i j).val=gA (aQ a.ac i j).val:=((h.aQ i j).bn).2.1.symm
def lE(h:cU a b):lenOf b.val=lenOf a.val:=(h.bn).2.2.1.symm
def rE(h:cU a b)(X:Sl a)(W:Sl b):Y b.ac=Y a.ac:=by
 have:=lE h;rw[X.len,W.len] at this;omega
def aDx(h:cU a b)(X:Sl a)(W:Sl b):TB.Ev 45 [.r a,.r b] (.ret [.b J]):=by
 refine fC ?_;have Q:=rE h X W;simp[T43,X.len,W.len,Q];refine bW (Y a.ac) (λ_ P=>P=[]) ⟨0,rfl,aa,rfl⟩ ?_;rintro i _ V rfl;simp[X.len,W.len,Q,cF h];intro V;simp[bK V X.sm,V]
def atN(h:cU a b)(X:Sl a)(W:Sl b):TB.Ev 32 [.r a,.r b] (.ret [.b J]):=by
 refine fC ?_;have Q:=rE h X W;simp[T44,X.len,W.len,Q];refine bW (Y a.ac) (λ_ P=>P=[]) ⟨0,rfl,aa,rfl⟩ ?_;rintro i _ V rfl;simp[X.len,W.len,Q,cE h];intro V;simp[bK V X.sm,V]
def aDy(h:cU a b)(X:Sl a)(W:Sl b):TB.Ev 82 [.r a,.r b] (.ret [.b J]):=by
 refine fC ?_;have Q:=rE h X W;simp[T98,X.len,W.len,Q];refine bW (Y a.ac) (λ_ P=>P=[]) ⟨0,rfl,aa,rfl⟩ ?_;rintro i _ V rfl;simp[X.len,W.len,Q,cE h,cF h];intro V;simp[bK V X.sm,V]
def aDz(h:cU a b)(W:Sl a)(V:Sl b)(P:∀i<Y a.ac,Sl (cr 134 a i))(cb:∀i<Y a.ac,Sl (cr 134 b i)):TB.Ev 46 [.r a,.r b] (.ret [.b J]):=by
 refine fC ?_;have Q:=rE h W V;simp[T45,W.len,V.len,Q];refine bW (Y a.ac) (λ_ N=>N=[]) ⟨0,rfl,aa,rfl⟩ ?_;rintro i _ X rfl;simp[W.len,V.len,Q];intro X;have g:=aDy ((h.aQ i 0).cg (.sl 134)) (P i X) (cb i X);simp[X,bh g,bK X W.sm]
def aDA{P F N S H V W X G:RV}(x:cU M P)(w:cU F N)(v:cU S H)(u:cU V W)(z:cU X G)(s:Sl M)(q:Sl P)(p:Sl F)(o:Sl N)(m:Sl S)(l:Sl H)(k:Sl V)(j:Sl W)(Q:Sl X)(D:Sl G)(h:∀i<Y V.ac,Sl (cr 134 V i))(g:∀i<Y V.ac,Sl (cr 134 W i)):
  TB.Ev 18 [.i B,.r M,.r F,.r S,.r V,.r X,.i B,.r P,.r N,.r H,.r W,.r G] (.ret [.b J]):=by
 refine fC ?_;have y:=rE z Q D;simp[T15,bh (aDx x s q),bh (atN w p o),bh (atN v m l),bh (aDz u k j h g),Q.len,D.len,y];refine bW (Y X.ac) (λ_ f=>f=[]) ⟨0,rfl,aa,rfl⟩ ?_;rintro i _ A rfl;simp[Q.len,D.len,y,cE z];intro A;simp[bK A Q.sm,A]
end
section
variable{R:bq->Prop}{G:aU}{t:T}{O:ai}{L:db}
variable[Inhabited dh]
variable{u v m g w a kn d:RV}{dM k:Int}{cl:Bool}
def oW(X:Nat->Bool)(n:Nat):List Nat:=(e8 n).filter X
def Bb(X:Nat->Bool)(n:Nat):ar:=(oW X n).map λi:Nat=>[RV.mk (.int I (i:Int)) []]
def atO:Bb W (X+1)=if W X then Bb W X++[[RV.mk (.int I (X:Int)) []]] else Bb W X:=by
 simp only[Bb,oW,ZO,List.filter_append,Hq];cases h:W X<;>simp[ajf,h]
def atP{mf:Nat->Bool}{n:Nat}:(oW mf n).length<=n:=by
 have:=aJa mf (e8 n);simpa[oW] using this
def aDB(h:fD)(s:tE u v m g w)(p:C7 u v m g w)(D:Dk a kn d)(f:JL m g a kn d dM)(M:uJ g a k=0)
  (P:TB.Ev 37 (ee u v m g w++[.r a,.i dM,.r kn,.r d,.b cl,.i k]) (.ret [.r (aI (bR W (Y aK.ac)))])):TB.Ev 14 (ee u v m g w++[.r a,.i dM,.r kn,.r d,.b cl,.i k]) (.ret [.r (aI (Bb W (Y aK.ac))),.i 0]):=by
 have V:=atH (cl:=cl) (k:=k) h s p D f;have G:=p.JW.rl;have N:Y aK.ac<=140737488355328:=aa;refine fC ?_;simp only[wk,ee,ef,eK] at V P;rw[M] at V;simp[ag3,ee,wk,bh V,bh P];refine bW (Y aK.ac) (λi H=>H=[.r (aI (Bb W i))]) ⟨0,rfl,aa,rfl⟩ ?_;rintro i _ F rfl;simp[Sg];refine ay (λX=> ?_) (λB=> ?_);rw[atI X];refine⟨X,ay (λQ=>⟨?_, ?_⟩) (λQ=> ?_)⟩;have:=atP (mf:=W) (n:=i);simp only[Bb,pN];omega;rw[bK X N,atO,aL Q];rw[bK X N,atO,aT Q];have:i=Y aK.ac:=aa;subst this;rfl
def Sj(X:Int)(i:Nat)(n:Int):Int:=aH .rem I (IntKind.i64.wrap (aH .and .u16 (aH .shr .u16 X i) 1)) n
def aDC(n:Int):0<=IntKind.u16.wrap n/\IntKind.u16.wrap n<=65535:=by
 simp[IntKind.wrap,IntKind.signed,IntKind.bits];omega
def atQ{ch:Int}{i:Nat}{n:Nat}(W:0<n):0<=Sj ch i n/\Sj ch i n<n:=by
 have X:0<=aH .and .u16 (aH .shr .u16 ch i) 1/\aH .and .u16 (aH .shr .u16 ch i) 1<=65535:=by
  first
   |exact aDC _
   |(simp[aH];done)
 simp only[Sj];rw[cG aa aa];simp only[aH] at X⊢;exact⟨Int.tmod_nonneg _ X.1,Int.tmod_lt_of_pos _ aa⟩
def dg(X:Int)(kn:RV)(i:Nat):Nat:=(Sj X i (cr 76 kn i).ac.length).toNat
def zy(X:Int)(kn:RV)(n:Nat):ar:=(e8 n).map λi=>mO (cr 76 kn i) (dg X kn i)
def aDD{ch:Int}(D:Dk a kn d)(F:Y kn.ac<=1000)(P:∀i<Y kn.ac,1<=(cr 76 kn i).ac.length):∃o,TB.Ev 16 [.r a,.i dM,.r kn,.r d,.b cl,.i ch] o/\o=.ret [.r (aI (zy ch kn (Y kn.ac)))]:=by
 refine dZ ?_;simp[ag8];refine bW (Y kn.ac) (λi N=>N=[.r (aI (zy ch kn i))]) ⟨0,rfl,aa,rfl⟩ ?_;rintro i _ B rfl;simp[D.sk.len];refine ay (λX=> ?_) (λA=> ?_);have M:=D.kk i X;have e:=M.len;have H:=P i X;have W:=atQ (ch:=ch) (i:=i) (n:=(cr 76 kn i).ac.length) aa;simp only[cr,Sj] at e H W;simp only[e];have V:dg ch kn i=(aH .rem I (IntKind.i64.wrap (aH .and .u16 (aH .shr .u16 ch i) 1)) (cg (.sl 76) (aQ kn.ac (i:Int) 0)).ac.length).toNat:=rfl;obtain⟨c,Q⟩:=aI1 W.1;rw[Q] at W V;refine⟨X,vV aa ?_⟩;rw[Q];refine⟨aa,⟨aa,aa⟩,by simp only[zy,pN,avC];omega, ?_⟩;rw[bK X D.sk.sm];have G:zy ch kn (i+1)=zy ch kn i++[mO (cr 76 kn i) c]:=by
  simp only[zy,ZO,Hq,dU,pP];rw[V,su]
 rw[G];rfl;have:i=Y kn.ac:=aa;subst this;rfl
def vZ:ar->(Nat->Nat)->Nat
 |[],_=>0
 |_::X,c=>c 0*jJ X+vZ X λi=>c (i+1)
def JY:ar->(Nat->Nat)->ar
 |[],_=>[]
 |X::W,c=>mO (iu X) (c 0)::JY W λi=>c (i+1)
def atS{W:aF}{X:ar}:∀{N i j:Nat},i<N->j<jJ X->(zx W X N)[i*jJ X+j]?=((kE X).map (mO (iu W) i::·))[j]?
 |0,_,_,h,_=>aa
 |N+1,i,j,h,Q=>by
  have P:(zx W X N).length=N*jJ X:=by rw[Se,Si]
  rw[N4];by_cases V:i<N;have:(i+1)*jJ X<=N*jJ X:=zG _ V;rw[nE] at this;rw[dN aa];exact atS V Q;have:i=N:=aa;subst this;rw[iJ aa,P,ZA]
def atT:∀(l:ar)(c:Nat->Nat),(∀i<Y l,c i<(iu (l.getD i [])).ac.length)->(kE l)[vZ l c]?=U (JY l c)/\vZ l c<jJ l
 |[],c,_=>⟨rfl,by simp[vZ,jJ]⟩
 |V::W,c,h=>by
  obtain⟨Q,P⟩:=atT W (λi=>c (i+1)) λi M=>h (i+1) dl
  have X:=h 0 av;have X:c 0<(iu V).ac.length:=X;have N:(c 0+1)*jJ W<=(iu V).ac.length*jJ W:=zG _ X;rw[nE] at N;simp only[vZ,JY,jJ];refine⟨?_,aa⟩;rw[aii,atS X P,dS,Q];rfl
def atU:∀(l:ar)(c:Nat->Nat),JY l c=(e8 (Y l)).map λi=>mO (iu (l.getD i [])) (c i)
 |[],_=>rfl
 |W::X,c=>by
  rw[JY,atU X,kV,List.range_succ_eq_map];simp[cw,Function.comp_def]
def aDE{c:Nat->Nat}(W:X<Y Q):vZ (Q.drop X) (λj=>c (X+j))=c X*jJ (Q.drop (X+1))+vZ (Q.drop (X+1)) λj=>c (X+1+j):=by
 rw[Bj W,vZ];simp only[wh];congr 2;funext j;rw[show X+(j+1)=X+1+j from aa]
def atV:∀{l:ar},(∀X∈l,1<=(iu X).ac.length)->1<=jJ l
 |[],_=>bY 1
 |X::V,h=>Dg (h X av) (atV λr W=>h r (by simp[W]))
def atW:∀{l:ar},(∀X∈l,(iu X).ac.length<=2)->jJ l<=2^Y l
 |[],_=>bY 1
 |X::W,h=>by
  have:=Dg (h X av) (atW (l:=W) λr V=>h r (by simp[V]));simp only[jJ,kV,avQ];omega
def G9(X:List Nat)(n j:Nat):ar:=(e8 n).map λq=>[RV.mk (.bool (decide (q∈X.take j))) []]
def Hd(X:List Nat)(W:RV)(n j:Nat):ar:=(e8 n).map λq=>[if decide (q∈X.take j) then cr 134 W q else aI []]
def Y9(W:X<Y F):V∈F.take (X+1)<->V∈F.take X\/V=F[X]:=by
 rw[aIQ W,eW,Hm]
def aDF(W:V<Y F):(G9 F X V).modify F[V] (λQ=>gT Q 0 [.mk (.bool J) []])=G9 F X (V+1):=by
 refine Y8 X _ _ _ _ λq _=> ?_
 by_cases e:q=F[V];rw[aL e,decide_eq_true ((Y9 W).2 (.inr e))];rfl;rw[aT e];have:(q∈F.take (V+1))<->q∈F.take V:=(Y9 W).trans ⟨λh=>h.resolve_right e,.inl⟩;simp only[this]
def aDG(W:V<Y F):(Hd F M X V).modify F[V] (λQ=>gT Q 0 [cr 134 M F[V]])=Hd F M X (V+1):=by
 refine Y8 X _ _ _ _ λq _=> ?_
 by_cases e:q=F[V];rw[aL e,aL (decide_eq_true ((Y9 W).2 (.inr e))),e];rfl;rw[aT e];have:(q∈F.take (V+1))<->q∈F.take V:=(Y9 W).trans ⟨λh=>h.resolve_right e,.inl⟩;simp only[this]
def aim{mf:Nat->Bool}{n:Nat}:X∈oW mf n<->X<n/\mf X=true:=by simp[oW]
def aDH:G9 (oW W X) X (oW W X).length=bR W X:=by
 unfold G9 bR;refine jA λq V=> ?_
 have:=uO.1 V;rw[ajj];have e:decide (q∈oW W X)=W q:=by
  rw[sx,ce,aim];simp[this]
 rw[e]
def aDI:Hd (oW W X) M X (oW W X).length=qC W M X X:=by
 unfold Hd qC;refine jA λq V=> ?_
 have:=uO.1 V;rw[ajj];have e:decide (q∈oW W X)=(decide (q<X)&&W q):=by
  rw[sx,ce,aim];simp
 rw[e]
def aDJ:(G9 F X V).length=X:=by simp[G9]
def aDK:(Hd F M X V).length=X:=by simp[Hd]
def aDL(Q:V<(oW W X).length):bn (aQ (Bb W X) (V:Int) 0).val=((oW W X)[V]:Int):=by
 simp[aQ,Bb,cw,cP Q,bn]
def aDM{ch:Int}{kn:RV}{n i q:Nat}(X:i<n)(W:q<13):bn (aQ (zy ch kn n) (i:Int) q).val=ci (cr 76 kn i) (dg ch kn i) q:=by
 simp only[aQ,zy,su,cw,dS,zH X,eh,oI,mO,zH W];rfl
end
section
variable{R:bq->Prop}{H:aU}{t:T}{O:ai}{L:db}
variable[Inhabited dh]
variable{u v A g z d a G:RV}{dM k:Int}{cl:Bool}
def aDN{P N V:RV}{W H:ar}(X:Md B M P N V Q W H)(z:Y aK.ac<=64)(D:∀i<Y aK.ac,(cr 134 V i).ac.length<=100)(n:Int):
  TB.Ev 18 [.i n,.r (aI P.ac),.r (aI N.ac),.r (aI Q),.r (aI W),.r (aI H),.i n,.r (aI P.ac),.r (aI N.ac),.r (aI Q),.r (aI W),.r (aI H)] (.ret [.b J]):=by
 have y:=X.YX;have x:=X.YY;have w:=X.ls;have A:=X.lr;have u:=X.lb;have F:∀i<(aI W).ac.length,Sl (cr 134 (aI W) i):=λi G=>by
  rw[zq,A] at G;have e:aQ W (i:Int) 0=aI (cr 134 V i).ac:=(X.al i G).1;have:cr 134 (aI W) i=aI (cr 134 V i).ac:=by
   unfold cr;rw[zq,e];rfl
  rw[this];exact sf (by have:=D i G;omega)
 exact aDA (cU.refl _) (cU.refl _) (cU.refl _) (cU.refl _) (cU.refl _) (sf aa) (sf aa) (sf aa) (sf aa) (sf aa) (sf aa) (sf aa) (sf aa) (sf aa) (sf aa) F F
def N7(h:X*V<=1000000):aH .mul I (X:Int) (V:Int)=((X*V:Nat):Int):=by
 simp only[aH];rw[<-ajl,cG aa aa]
def aDO(h:X*V+1<=1000000):aH .add I (aH .mul I (X:Int) (V:Int)) 1=((X*V+1:Nat):Int):=by
 rw[N7 aa];simp only[aH];rw[cG aa aa];omega
def aDP(hS:TB.Ev 5 [] (.ret [.b J]))(h:fD)(s:tE u v A g z)(D:Dk d a G)(k X:Int):TB.Ev 4 (ee u v A g z++[.r d,.i dM,.r a,.r G,.b cl,.i k,.i X]) (.ret [.b J]):=by
 obtain⟨P,hP⟩:∃P:bq->Prop,∀o,P o<->o=.ret [.b J]:=⟨_,λ_=>Iff.rfl⟩
 suffices cI:∃o,TB.Ev 4 (ee u v A g z++[.r d,.i dM,.r a,.r G,.b cl,.i k,.i X]) o/\P o by
  obtain⟨o,g1,g2⟩:=cI;rw[(hP o).1 g2] at g1;exact g1
 have al:P (.ret [.b J]):=(hP _).2 rfl;obtain⟨o,g2,x,rfl⟩:=aBu h s;obtain⟨o,g3,y,rfl⟩:=aBq (dM:=dM) (cl:=cl) D.sc D.sk D.so D.kk;obtain⟨o,g4,e,rfl,h4⟩:=aDf (dM:=dM) (cl:=cl) h s D.sc D.sk D.so D.kk;have b1:x=J->Y bw.ac<=40:=λe=>aDn h (by rw[<-e];exact g2)
 refine dZ ?_;simp only[wk,ee,ef,eK] at g2 g4;simp[ag7,ee,wk,bh hS,bh g2];cases x;simp[al];have b1:=b1 rfl;simp[bh g3];cases y;simp[al];simp[bh g4];refine ay (λe0=> ?_) (λ_=>al);obtain⟨p,f⟩:=h4 e0;have m5:=p.JW.bars;have m2:=p.JW.rl;have lO:=p.JX.len;have lc:=f.calls;have lk:=f.YU;have lo:=f.opl;obtain⟨c0,cO⟩:=aI1 f.cast.1;have bg:=f.cast.2;subst cO;have bg:c0<Y A.ac:=aa;obtain⟨o,bk,bc,rfl,b2⟩:=aDp (co:=z) h s p (c:=c0) bg;by_cases h0:uJ g d k=0
 rotate_left
 obtain⟨o,af,hR⟩:=atK (k:=k) (cl:=cl) (mf:=λ_=>E) (act:=λ_=>[]) (fe:=λ_=>0) h s p D f b2 (λq=>aZ q h0) bk (λq=>aZ q h0);rcases hR with⟨e,he,rfl⟩|⟨q,_⟩;simp only[wk,ee,ef,eK] at af;simp[bh af,he,al];exact aZ q h0;obtain⟨an,d0,cR⟩:=atL h0;obtain⟨o,b3,N,rfl,d1⟩:=aDw (cl:=cl) h s p D f h0;obtain⟨kk,rfl⟩:∃kk:Nat,k=kk+1:=⟨(k-1).toNat,aa⟩;have cW:((kk:Int)+1-1).toNat=kk:=aa;have ba:kk<(cr 69 g (Y d.ac)).ac.length:=aa;have bb:=s.A6 (Y d.ac) an;have eS:=bb.len;have pg:=s.A7 (Y d.ac) an kk ba;have pp:=p.JX.A7 (Y d.ac) an kk ba;obtain⟨B,hB⟩:∃B,cr 69 g (Y d.ac)=B:=⟨_,rfl⟩;rw[hB] at bb eS pg pp ba cR;have b4:cg (.sl 69) (aQ g.ac (Y d.ac:Int) 0)=B:=hB;obtain⟨RL,eR⟩:∃x,JV B kk=x:=⟨_,rfl⟩;have bl:cg (.sl 67) (aQ B.ac (kk:Int) 1)=RL:=eR;obtain⟨-,q2,q3⟩:=pg;have lr:=pp.lr;have b5:=aDo h pp (by rw[eR];simp only[bl] at q3;exact q3);rw[eR] at lr b5;simp only[bl] at q2 q3;have kR:=q2.len;have c1:aH .sub I ((kk:Int)+1) 1=(kk:Int):=by
  simp only[aH];rw[cG (by have:=bb.sm;omega) (by have:=bb.sm;omega)];omega
 have b6:∀i<Y aK.ac,Sl (cr 134 (aI (qC N RL (Y aK.ac) (Y aK.ac))) i)/\(cr 134 (aI (qC N RL (Y aK.ac) (Y aK.ac))) i).ac.length<=100:=λi W=>by
  have b7:Sl (cr 134 RL i):=q3 i (by rw[lr];exact W);rw[aDu W b7];split;exact⟨b7,by have:=b5 i W;omega⟩;exact⟨sf av,av⟩
 obtain⟨b8,fe,M,hM⟩:=aDv (wg:=u) h (Y d.ac) (bc:=aI bc) (mv:=aI (bR N (Y aK.ac))) (re:=aI (qC N RL (Y aK.ac) (Y aK.ac))) (sf aa) (sf (by rw[Sg];omega)) (sf (by rw[ail];omega)) (λi W=>b6 i (by rw[zq,ail] at W;exact W));obtain⟨o,af,hR⟩:=atK (k:=(kk:Int)+1) (cl:=cl) h s p D f b2 (λ_=>b3) bk (λ_=>by rw[hB,cW,eR];exact M);rcases hR with⟨e,he,rfl⟩|⟨-,c2,rfl⟩;simp only[wk,ee,ef,eK] at af;simp[bh af,he,al];have cc:=aDB (cl:=cl) h s p D f h0 b3;have cf:=aDq h s p bg bk;simp only[wk,ee,ef,eK] at af cc cf;simp[bh af,bh cc,bh cf,D.sc.len,D.sk.len,D.so.len,s.sr.len];have d2:Y aK.ac<=140737488355328:=aa;have bf:∀i<Y a.ac,1<=(cr 76 a i).ac.length:=λi W=>(f.NT i W).one
 have cn:∀i<Y a.ac,(cr 76 a i).ac.length<=2:=λi W=>(f.NT i W).two
 refine⟨aa,vV aa (vV aa ?_)⟩;rw[b4,eS];refine⟨aa,vV aa ?_⟩;have d3:=atP (mf:=N) (n:=Y aK.ac);have c3:(Bb N (Y aK.ac)).length=(oW N (Y aK.ac)).length:=by simp[Bb]
 simp only[lk];refine bW (oW N (Y aK.ac)).length (λj bs=>bs=[.r (aI (G9 (oW N (Y aK.ac)) (Y aK.ac) j)),.r (aI (Hd (oW N (Y aK.ac)) RL (Y aK.ac) j))]) ⟨0,rfl,aa, ?_⟩ ?_;show[XV.r (aI (eF (Y aK.ac) [RV.mk (.bool E) []])),XV.r (aI (eF (Y aK.ac) [aI []]))]=_;simp[G9,Hd,List.map_const'];rintro j _ hj rfl;simp[aDJ,aDK,c3,D.sc.len,s.sr.len,b4,eS,bl,kR,c1,lr];refine ay (λQ=>⟨Q, ?_⟩) (λc4=> ?_);have hr:=aDL Q;have d4:=(aim (mf:=N) (n:=Y aK.ac)).1 (pM Q);rw[hr];refine vV aa (vV aa ⟨an,ba,aa, ?_⟩);rw[su,bK Q aa,show cg (.sl 134) (aQ RL.ac ((oW N (Y aK.ac))[j]:Int) 0)=cr 134 RL (oW N (Y aK.ac))[j] from rfl,aDF Q,aDG Q];have c5:j=(oW N (Y aK.ac)).length:=aa;subst c5;rw[aDH,aDI];obtain⟨o,c6,rfl⟩:=aDD (ch:=X) (dM:=c0) (cl:=cl) D aa bf;have cp:∀i<Y a.ac,dg X a i<(cr 76 a i).ac.length:=λi W=>by
  have h1:=bf i W;have:=atQ (ch:=X) (i:=i) (n:=(cr 76 a i).ac.length) aa;simp only[dg];omega
 obtain⟨bt,c7⟩:=atT a.ac (dg X a) λi W=>by rw[N6];exact cp i W
 have ct:∀ag∈a.ac,1<=(iu ag).ac.length/\(iu ag).ac.length<=2:=λag hr=>by
  obtain⟨i,W,rfl⟩:=SQ hr;have e:=N6 (kn:=a) i;rw[cw,cP W] at e;simp only[oI] at e;rw[e];exact⟨bf i W,cn i W⟩
 have d5:jJ a.ac<=4096:=by
  have h1:=atW (l:=a.ac) λag hr=>(ct ag hr).2
  have h2:2^Y a.ac<=2^12:=Nat.pow_le_pow_right aa aa;omega
 have c8:∀i,1<=jJ (a.ac.drop i):=λi=>atV λag hr=>(ct ag (Bl hr)).1
 have bx:JY a.ac (dg X a)=zy X a (Y a.ac):=by
  rw[atU];unfold zy;refine jA λi W=> ?_
  rw[N6]
 simp[bh c6];refine bW (Y a.ac) (λi bs=>∃q x:Nat,bs=[.i q,.i x]/\q*jJ (a.ac.drop i)=jJ a.ac/\1<=q/\x*jJ (a.ac.drop i)+vZ (a.ac.drop i) (λj=>dg X a (i+j))=vZ a.ac (dg X a)/\x<q) ⟨0,rfl,aa,1,0,rfl,av,aa,av,aa⟩ ?_;rintro i _ W ⟨q,x,rfl,hq,c9,hx,dc⟩;have sl:(zy X a (Y a.ac)).length=Y a.ac:=by simp[zy]
 simp[D.sk.len,sl];refine ay (λQ=>⟨Q, ?_⟩) (λc4=> ?_);have hS:=D.kk i Q;have e:=hS.len;have l1:=bf i Q;have l2:=cn i Q;have ed:=atJ Q;have ep:=aDE (c:=dg X a) Q;have cv:=cp i Q;have dd:=c8 (i+1);rw[N6] at ed;have H:=λm(hm:m<13)=>aDM (ch:=X) (kn:=a) (n:=Y a.ac) (i:=i) (q:=m) Q hm
 obtain⟨V,hV⟩:∃V,cr 76 a i=V:=⟨_,rfl⟩;have df:cg (.sl 76) (aQ a.ac (i:Int) 0)=V:=hV;rw[hV] at e l1 l2 ed cv H;simp only[df,e];obtain⟨w,hw⟩:∃w,Y V.ac=w:=⟨_,rfl⟩;rw[hw] at l1 l2 ed cv⊢;rw[ed] at hq hx;rw[ep] at hx;have d6:q*w<=4096:=by
  have:q*w*1<=q*w*jJ (a.ac.drop (i+1)):=Nat.mul_le_mul_left _ dd;rw[<-ajn] at hq;omega
 have dk:(x+1)*w<=q*w:=zG _ dc;rw[nE] at dk;have step:∀c,dg X a i=c->∃q' x':Nat,[XV.i ((q*w:Nat):Int),XV.i ((x*w+c:Nat):Int)]=[.i q',.i x']/\q'*jJ (a.ac.drop (i+1))=jJ a.ac/\1<=q'/\x'*jJ (a.ac.drop (i+1))+vZ (a.ac.drop (i+1)) (λj=>dg X a (i+1+j))=vZ a.ac (dg X a)/\x'<q':=λc hc=>by
  refine⟨q*w,x*w+c,rfl,by rw[ajn];exact hq,Dg c9 l1, ?_,aa⟩;rw[hc] at hx;rw[<-hx,nE,ajn];omega
 refine ay (λh2=> ?_) (λh2=> ?_);have h2:w=2:=aa;have cx:dg X a i=0\/dg X a i=1:=aa;refine⟨aa,aa, ?_⟩;rw[H 0 aa,H 1 aa,H 2 aa,H 3 aa,H 4 aa,H 5 aa,H 6 aa,H 7 aa,H 8 aa,H 9 aa,H 10 aa,H 11 aa,H 12 aa];refine ay (λhe=> ?_) (λhn=> ?_);have dn:dg X a i=1:=by
  rcases cx with h0|h1
  ·exfalso;obtain⟨j,hj,cy⟩:=(f.NT i Q).ne (by rw[hV,hw];exact h2);rw[hV] at cy;rw[h0] at he;obtain⟨a0,a1,a2,a3,a4,a5,a6,a7,a8,a9,aA,aB,aC⟩:=he;have:j=0\/j=1\/j=2\/j=3\/j=4\/j=5\/j=6\/j=7\/j=8\/j=9\/j=10\/j=11\/j=12:=aa;rcases this with rfl|rfl|rfl|rfl|rfl|rfl|rfl|rfl|rfl|rfl|rfl|rfl|rfl
   all_goals exact cy qF
  exact h1
 rw[N7 aa,aDO aa,bK Q D.sk.sm];exact step 1 dn;have dr:dg X a i=0:=by
  rcases cx with h0|h1;exact h0;exfalso;rw[h1] at hn;exact hn ⟨rfl,rfl,rfl,rfl,rfl,rfl,rfl,rfl,rfl,rfl,rfl,rfl,rfl⟩
 rw[N7 aa,N7 aa,bK Q D.sk.sm];exact step 0 dr;have h1:w=1:=aa;rw[N7 aa,N7 aa,bK Q D.sk.sm];exact step 0 aa;have ds:i=Y a.ac:=aa;subst ds;rw[ZB (bY _)] at hq hx;simp only[jJ,vZ,ZV,wh] at hq hx;subst hx;refine mN (by rw[Si,hq]) ?_;obtain⟨c,dx⟩:∃c,JY a.ac (dg X a)=c:=⟨_,rfl⟩;rw[dx] at bt bx;have cA:Y c<=64:=by rw[bx,sl];omega
 have cB:=hM c cA;obtain⟨b,Mm,F,S,V,Bx,ha,b0⟩:=M.ans c cA;have cC:=c2 c (jK bt);have dy:∀q,aQ ((kE a.ac).map b8) (vZ a.ac (dg X a):Int) q=(b8 c).getD q default:=λq=>by
  simp[aQ,cw,bt]
 rw[ha,cC] at cB;rw[cC] at b0;simp only[<-bx];simp only[wk,ee,ef,eK] at b0;rcases cB with⟨e',d7,hE⟩|⟨vs,vr,vb,hE,dz⟩;simp at hE;omega;simp[bn] at hE;obtain⟨rfl,rfl,rfl,rfl,rfl,rfl⟩:=hE;have cD:=aDN dz aa (λi W=>(b6 i W).2) (Y d.ac);simp only[zq] at cD;have dT:∀(e:TypeId)(r:ar),cg (.sl e) (aI r)=aI r:=λ_ _=>rfl
 simp[D.sc.len,bh b0,dy,ha,bn,dT];refine⟨by rw[Si];exact c7, ?_⟩;simp[bh cD,al]
end
