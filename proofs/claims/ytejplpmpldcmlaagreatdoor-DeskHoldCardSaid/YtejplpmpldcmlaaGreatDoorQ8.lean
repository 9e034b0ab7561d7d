/- Part 8 of the proof. -/
import Derived.Test.YtejplpmpldcmlaaGreatDoorQ7
set_option linter.all false
set_option maxRecDepth 100000
set_option maxHeartbeats 100000000
open Bool renaming and_eq_true->aw,not_eq_true'->ik,or_eq_true->jy,true->J,false->E
open Nat renaming le_refl->b9,zero_add->iX,le_trans->pw,add_mul->pz,mul_le_mul_right->EV,min_eq_left->Hd,zero_le->Hh,mul_le_mul->J5,strongRecOn->SP,min_eq_right->Zt,le_of_not_lt->aiX,le_total->ai2,mul_one->ai6,lt_of_le_of_ne->au4,not_lt_zero->avg
open List renaming getElem?_eq_some_iff->ck,getD_eq_getElem?_getD->cz,getElem?_eq_getElem->cS,getElem?_append_left->dH,mem_cons->dP,map_cons->dU,getElem?_map->dW,cons_append->ez,replicate->eN,mem_append->eV,nil_append->eW,range->fw,all_eq_true->fO,length_append->gc,mem_map->iq,getElem?_append_right->iE,map_congr_left->jT,getElem?_eq_none->kg,ext_getElem?->kG,length_cons->lH,map_map->ov,getElem_mem->ql,mem_filter->qm,map_nil->qn,length_map->qX,getElem?_set_ne->rX,getElem?_of_mem->tB,getElem?_set->v6,mem_range->xI,append_assoc->A6,map->A8,drop_eq_getElem_cons->CU,length_eq_zero_iff->CW,mem_cons_of_mem->CX,getElem?_range->CZ,length_drop->C1,mem_or_eq_of_mem_set->EU,length_nil->E0,take_of_length_le->G5,getElem?_set_self->G6,mem_singleton->J1,find?_cons->J2,length_singleton->N0,length_pos_iff->N2,map_append->N5,getElem_of_mem->Zm,drop_of_length_le->aiL,getElem?_modify->aiO,drop_append_of_le_length->auT,take_add_one->au8,filter_cons->ava,length_set->avc,range_succ->avh,length_range->aIG,length->Y
open Option renaming map_some->eh,some->U
open Int renaming toNat_natCast->v7,tmod_eq_emod_of_nonneg->SE,toNat_of_nonneg->aiR,natCast_mul->avb
open Prod.mk renaming injEq->C2
open Go.IntKind renaming i64->I
namespace Go.Proofs.YtejplpmpldcmlaaGreatDoor.Y
open Go.RowKit
noncomputable section
variable{M:Nat→Nat}{X x:Nat}{B:au}{p:Int}{q:RV}{W:Nat→Bool}
inductive Rt(g:Nat->Nat):Nat->Nat->Prop where
 |here {k:Nat} (h:g k=k):Rt g k k
 |up {k r:Nat} (h:g k≠k) (h2:Rt g (g k) r):Rt g k r
def Rt.RT(h:Rt M X x):∀{W:Nat},Rt M X W->x=W:=by
 induction h with
 |here h=>
  intro W R;cases R with
  |here=>rfl
  |up V Q=>exact(V h).elim
 |up h Q P=>
  intro W R;cases R with
  |here V=>exact(h V).elim
  |up V O=>exact P O
def Rt.fix(h:Rt M X x):M x=x:=by
 induction h with
 |here h=>exact h
 |up h V W=>exact W
def Rt.le(W:∀q,M q<=q)(h:Rt M X x):x<=X:=by
 induction h with
 |here h=>exact b9 _
 |up h R V=>exact pw V (W _)
def ta(g:Nat->Nat)(k v:Nat):Nat->Nat:=λq=>if q=k then v else g q
def GR:Nat->Nat->(Nat->Nat)->Nat->Nat
 |0,_,g=>g
 |n+1,k,g=>if g k=k then g else ta (GR n (g k) g) k (GR n (g k) g (g k))
def as3{g:Nat->Nat}(W:∀q,g q<=q):∀n k,k<n->Rt g k (GR n k g k)/\∀q,GR n k g q=g q\/Rt g q (GR n k g q)
 |0,k,h=>aZ h (avg _)
 |n+1,k,h=>by
  simp only[GR];by_cases X:g k=k;rw[aJ X];exact⟨by rw[X];exact .here X,λq=>.inl rfl⟩;rw[aQ X];have P:=au4 (W k) X;obtain⟨V,Q⟩:=as3 W n (g k) aa;refine⟨by simp only[ta,cN];exact .up X V,λq=> ?_⟩;simp only[ta];by_cases R:q=k;subst R;rw[aJ rfl];exact .inr (.up X V);rw[aQ R];exact Q q
def Rt.short{W:Nat->Nat}(R:∀q,M q<=q)(h:∀q,W q=M q\/Rt M q (W q))(x:Nat):∀{r:Nat},Rt M x r->Rt W x r:=by
 induction x using SP with
 |_ x Q=>
  intro r P;cases P with
  |here X=>
   rcases h x with e|e;exact .here (e.trans X);exact .here (e.RT (.here X))
  |up X V=>
   have O:=au4 (R x) X;rcases h x with e|e;refine .up (by rw[e];exact X) ?_;rw[e];exact Q _ O V;have N:W x=r:=e.RT (.up X V);have L:=V.le R;refine .up aa ?_;rw[N];exact Q r aa (.here V.fix)
def aCo{X:Nat->Nat}(W:∀q,M q<=q)(h:∀q,X q=M q\/Rt M q (X q))(q:Nat):X q<=q:=by
 rcases h q with e|e;rw[e];exact W q;exact e.le W
def Rt.join{W r:Nat}(P:M X=X)(O:M x=x)(h:Rt M W r):Rt (ta M X x) W (if r=X then x else r):=by
 induction h with
 |here R=>
  rename_i k;by_cases V:k=X;subst V;rw[aJ rfl];by_cases Q:x=k;subst Q;exact .here (by simp[ta]);have e:ta M k x k=x:=by simp[ta]
  refine .up (by rw[e];exact Q) ?_;rw[e];exact .here (by simp[ta,Q,O]);rw[aQ V];exact .here (by simp[ta,V,R])
 |up R L N=>
  rename_i k r;have V:k≠X:=λe=>R (by rw[e];exact P)
  have e:ta M X x k=M k:=by simp[ta,V]
  refine .up (by rw[e];exact R) ?_;rw[e];exact N
def GS(g:Nat->Nat)(a b:Nat):Prop:=∃r,Rt g a r/\Rt g b r
def GS.short{g X:Nat->Nat}{a b:Nat}(W:∀q,g q<=q)(h:∀q,X q=g q\/Rt g q (X q))(k:GS g a b):GS X a b:=by
 obtain⟨r,V,R⟩:=k;exact⟨r,V.short W h,R.short W h⟩
def GS.join{g:Nat->Nat}{X W a b:Nat}(V:g X=X)(R:g W=W)(k:GS g a b):GS (ta g X W) a b:=by
 obtain⟨r,Q,P⟩:=k;exact⟨_,Q.join V R,P.join V R⟩
def gR(m:au)(q:Nat):Nat:=(aI 0 (m.getD q [])).toNat
def as4{x:aC}(V:X<Y B):gR (B.set X x)=ta (gR B) X (aI 0 x).toNat:=by
 funext q;simp only[gR,ta,cz];by_cases W:q=X;subst W;rw[aJ rfl,G6 V];rfl;rw[aQ W,rX (Ne.symm W)]
def JO(h:md B=J)(q:Nat):gR B q<=q:=by
 unfold gR;by_cases X:q<Y B;have:=Fv h X;omega;rw[cz,kg aa];show(0:Int).toNat<=q;simp
def as5{m:au}(h:md m=J):∀(n:Nat)(i:Int),0<=i->i<Y m->gR (rj n i m)=GR n i.toNat (gR m)
 |0,_,_,_=>rfl
 |n+1,i,W,V=>by
  obtain⟨R,O,Q⟩:=aaU h W V;have P:=as5 h n _ R Q;have e:gR m i.toNat=(aI 0 (m.getD i.toNat [])).toNat:=rfl;simp only[rj,GR];by_cases X:aI 0 (m.getD i.toNat [])=i;rw[aJ X,aJ (by rw[e,X])];rw[aQ X,aQ (by rw[e];omega),as4 (by rw[T4];omega),e,<-P];rfl
def ahN(h:∀k<Y B,0<=aI 0 (B.getD k [])/\aI 0 (B.getD k [])<=k):md B=true:=by
 refine fO.2 λk X=> ?_
 simp only[aw,cm];exact h k (xI.1 X)
def Sa(h:md B=J)(k:Nat)(X:k<Y B):aI 0 (B.getD k [])=(gR B k:Int):=by
 have:=Fv h X;unfold gR;omega
def aCp{X:au}(h:md B=J)(R:∀x∈X,x∈B)(Q:∀q,gR X q<=q):md X=true:=by
 refine ahN λk P=> ?_
 have O:X.getD k []∈X:=akM P _;obtain⟨p,V⟩:=tB (R _ O);have N:p<Y B:=(ck.1 V).1;have W:=(Fv h N).1;rw[cz,V] at W;have W:0<=aI 0 (X.getD k []):=W;have:=Q k;unfold gR at this;omega
def aCq(h:md B=J)(N:Y B<=1099511627776)(R:0<=p)(Q:p<Y B):∃X,wn p B=U X/\Y X=Y B/\md X=J/\(∀q,gR X q=gR B q\/Rt (gR B) q (gR X q))/\Rt (gR B) p.toNat (gR X p.toNat):=by
 obtain⟨X,W⟩:∃X,wn p B=U X:=⟨rj (Y B) p B,by unfold wn;rw[aJ (by simp[N,R,Q,h])]⟩;obtain⟨-,-,-,-,e⟩:=Pe W;have P:=as5 h (Y B) p R Q;rw[<-e] at P;obtain⟨O,V⟩:=as3 (JO h) (Y B) p.toNat aa;rw[<-P] at O V;exact⟨X,W,aaV W,aCp h (T5 W) (aCo (JO h) V),V,O⟩
def ip(P:Nat->Nat->Prop):Nat->Nat->Nat->Prop
 |0,i,j=>i=j
 |r+1,i,j=>i=j\/∃k,(P i k\/P k i)/\ip P r k j
def Cn(P:Nat->Nat->Prop)(i j:Nat):Prop:=∃r,ip P r i j
section
variable{P:Nat->Nat->Prop}
def ip.refl(r i:Nat):ip P r i i:=by
 cases r with
 |zero=>rfl
 |succ r=>exact .inl rfl
def ip.succ{r:Nat}:∀{i j:Nat},ip P r i j->ip P (r+1) i j:=by
 induction r with
 |zero=>intro i j h;exact .inl h
 |succ r X=>
  intro i j h;rcases h with h|⟨k,e,h⟩;exact .inl h;exact .inr ⟨k,e,X h⟩
def ip.mono(h:X<=x){i j:Nat}(k:ip P X i j):ip P x i j:=by
 induction h with
 |refl=>exact k
 |step _ W=>exact W.succ
def ip.trans:∀{i j k s:Nat},ip P X i j->ip P s j k->ip P (X+s) i k:=by
 induction X with
 |zero=>intro i j k s W V;cases W;rw[iX];exact V
 |succ X R=>
  intro i j k s W V;rcases W with W|⟨q,e,W⟩;subst W;exact V.mono aa;rw[Nat.add_right_comm];exact .inr ⟨q,e,R W V⟩
def Cn.refl(i:Nat):Cn P i i:=⟨0,rfl⟩
def Cn.trans{i j k:Nat}(X:Cn P i j)(W:Cn P j k):Cn P i k:=by
 obtain⟨r,X⟩:=X;obtain⟨s,W⟩:=W;exact⟨_,X.trans W⟩
def Cn.one(h:P X x\/P x X):Cn P X x:=⟨1,.inr ⟨x,h,rfl⟩⟩
def ip.symm{r:Nat}:∀{i j:Nat},ip P r i j->Cn P j i:=by
 induction r with
 |zero=>intro i j h;cases h;exact Cn.refl _
 |succ r X=>
  intro i j h;rcases h with h|⟨k,e,h⟩;subst h;exact Cn.refl _;exact(X h).trans (Cn.one e.symm)
def Cn.symm{i j:Nat}(h:Cn P i j):Cn P j i:=by
 obtain⟨r,h⟩:=h;exact h.symm
def ip.back:∀{i j:Nat},ip P (X+1) i j->ip P X i j\/∃k,ip P X i k/\(P k j\/P j k):=by
 induction X with
 |zero=>
  intro i j h;rcases h with h|⟨k,e,h⟩;exact .inl h;cases h;exact .inr ⟨i,rfl,e⟩
 |succ X W=>
  intro i j h;rcases h with h|⟨k,e,h⟩;exact .inl (.inl h);rcases W h with h|⟨q,h,V⟩;exact .inl (.inr ⟨k,e,h⟩);exact .inr ⟨q,.inr ⟨k,e,h⟩,V⟩
def aCr(h:∀j,ip P (x+1) X j->ip P x X j):∀r j,ip P r X j->ip P x X j:=by
 intro r;induction r with
 |zero=>intro j k;cases k;exact ip.refl _ _
 |succ r W=>
  intro j k;rcases k.back with k|⟨p,k,e⟩;exact W j k;have:=W p k;exact h j (this.trans (show ip P 1 p j from .inr ⟨j,e,rfl⟩))
open Classical in
def GU(P:Nat->Nat->Prop)(n i r:Nat):Nat:=((fw n).filter λj=>decide (ip P r i j)).length
def as6{W:Type}{p q:W->Bool}:∀{l:List W},(∀x∈l,p x=J->q x=J)->(l.filter p).length<=(l.filter q).length
 |[],_=>av
 |a::l,h=>by
  have Q:=as6 (l:=l) λx V=>h x (by simp[V])
  have R:=h a av;simp only[ava];by_cases X:p a=J;rw[aJ X,aJ (R X)];simp only[lH];omega
  ·rw[aQ X];split<;>(try simp only[lH])<;>omega
def ahO{Q:Type}{p q:Q->Bool}:∀{l:List Q},(∀x∈l,p x=J->q x=J)->(∃x∈l,q x=J/\p x=E)->(l.filter p).length<(l.filter q).length
 |[],_,h=>by obtain⟨x,X,_⟩:=h;cases X
 |a::l,h,X=>by
  have N:=as6 (l:=l) λx X=>h x (by simp[X])
  have O:=h a av;simp only[ava];by_cases R:p a=J;rw[aJ R,aJ (O R)];obtain⟨x,X,W,V⟩:=X;rcases dP.1 X with rfl|X;rw[R] at V;cases V;have:=ahO (l:=l) (λx X=>h x (by simp[X])) ⟨x,X,W,V⟩;simp only[lH];omega;rw[aQ R];by_cases W:q a=J;rw[aJ W];simp only[lH];omega;rw[aQ W];obtain⟨x,X,P,V⟩:=X;rcases dP.1 X with rfl|X;exact(W P).elim;exact ahO (l:=l) (λx X=>h x (by simp[X])) ⟨x,X,P,V⟩
open Classical in
def as7(Q:∀a b,P a b->a<X/\b<X)(O:x<X){j:Nat}(h:Cn P x j):ip P X x j:=by
 have L:∀r j,ip P r x j->j<X:=by
  intro r;induction r with
  |zero=>intro j k;cases k;exact O
  |succ r R=>
   intro j k;rcases k.back with k|⟨p,k,e⟩;exact R j k;rcases e with e|e;exact(Q _ _ e).2;exact(Q _ _ e).1
 have H:∀r,(∃q≤r,∀j,ip P (q+1) x j->ip P q x j)\/r+1<GU P X x (r+1)+1:=by
  intro r;induction r with
  |zero=>
   by_cases V:∀j,ip P 1 x j->ip P 0 x j;exact .inl ⟨0,b9 _,V⟩;refine .inr ?_;have:0<GU P X x 1:=by
    unfold GU;rw[List.length_pos_iff_exists_mem];exact⟨x,qm.2 ⟨xI.2 O,decide_eq_true (ip.refl _ _)⟩⟩
   show 0+1<GU P X x 1+1;omega
  |succ r R=>
   rcases R with⟨q,N,V⟩|R;exact .inl ⟨q,aa,V⟩;by_cases V:∀j,ip P (r+2) x j->ip P (r+1) x j;exact .inl ⟨r+1,b9 _,V⟩;refine .inr ?_;have:∃j,ip P (r+2) x j/\¬ip P (r+1) x j:=Classical.byContradiction λc=>V λj k=>Classical.byContradiction λG=>c ⟨j,k,G⟩
   obtain⟨j,M,F⟩:=this;have:GU P X x (r+1)<GU P X x (r+2):=ahO (λW _ D=>decide_eq_true (ip.succ (uE D))) ⟨j,xI.2 (L _ j M),decide_eq_true M,decide_eq_false F⟩;show r+1+1<GU P X x (r+2)+1;omega
 obtain⟨r,h⟩:=h;rcases H X with⟨q,N,V⟩|B;exact(aCr V r j h).mono N;have:GU P X x (X+1)<=X:=by
  have:=List.length_filter_le (λj=>(@decide (ip P (X+1) x j) (Classical.propDecidable _))) (fw X);rw[aIG] at this;exact this
 omega
end
def vO(g:Nat->Nat)(a b:Nat):Nat->Nat:=λq=>if q=a\/q=b then min (g a) (g b) else g q
def ahP(g:Nat->Nat)(a b q:Nat):vO g a b q<=g q:=by
 simp only[vO];split;rename_i h;rcases h with h|h<;>subst h<;>omega;exact b9 _
def zd:List (Nat×Nat)->(Nat->Nat)->Nat->Nat
 |[],g=>g
 |p::l,g=>zd l (vO g p.1 p.2)
def YQ:∀(l:List (Nat×Nat))(g:Nat->Nat)(q:Nat),zd l g q<=g q
 |[],g,q=>b9 _
 |p::l,g,q=>pw (YQ l _ q) (ahP g _ _ q)
def ahQ:∀(l:List (Nat×Nat))(g:Nat->Nat)(p:Nat×Nat),p∈l->zd l g p.1<=g p.2/\zd l g p.2<=g p.1
 |[],_,_,h=>by cases h
 |a::l,g,p,h=>by
  rcases dP.1 h with rfl|h;have X:=YQ l (vO g p.1 p.2) p.1;have W:=YQ l (vO g p.1 p.2) p.2;have V:vO g p.1 p.2 p.1=min (g p.1) (g p.2):=by simp[vO]
  have R:vO g p.1 p.2 p.2=min (g p.1) (g p.2):=by simp[vO]
  simp only[zd];omega;have Q:=ahQ l (vO g a.1 a.2) p h;have X:=ahP g a.1 a.2 p.1;have W:=ahP g a.1 a.2 p.2;simp only[zd];omega
def GV(l:List (Nat×Nat))(a b:Nat):Prop:=(a,b)∈l
def aCs{P:Nat->Nat->Prop}(h:∀q,Cn P q (M q))(e:P X x)(q:Nat):Cn P q (vO M X x q):=by
 simp only[vO];split;rename_i k;have W:Cn P X x:=Cn.one (.inl e);rcases ai2 (M X) (M x) with z|z;rw[Hd z];rcases k with rfl|rfl;exact h q;exact W.symm.trans (h X);rw[Zt z];rcases k with rfl|rfl;exact W.trans (h x);exact h q;exact h q
def as8{P:Nat->Nat->Prop}:∀(l:List (Nat×Nat)){g:Nat->Nat},(∀p∈l,P p.1 p.2)->(∀q,Cn P q (g q))->∀q,Cn P q (zd l g q)
 |[],_,_,h,q=>h q
 |p::l,_,X,h,q=>as8 l (λx W=>X x (by simp[W])) (aCs h (X p av)) q
def tc(l:List (Nat×Nat)):Nat->Nat->Nat
 |0=>λq=>q
 |r+1=>zd l (tc l r)
def NO(l:List (Nat×Nat)):∀r q,Cn (GV l) q (tc l r q)
 |0,q=>Cn.refl q
 |r+1,q=>as8 l (λ_ h=>h) (NO l r) q
def YR{l:List (Nat×Nat)}:∀{r i j:Nat},ip (GV l) r i j->tc l r i<=j
 |0,i,j,h=>by cases h;exact b9 _
 |r+1,i,j,h=>by
  rcases h with h|⟨k,e,h⟩;subst h;exact pw (YQ l _ _) (YR (ip.refl r i));have:=YR h;simp only[tc];rcases e with e|e;have:=(ahQ l (tc l r) _ e).1;exact pw this pA;have:=(ahQ l (tc l r) _ e).2;exact pw this pA
def aCt{l:List (Nat×Nat)}(Q:∀p∈l,p.1<X/\p.2<X){i k:Nat}(W:i<X)(P:k<X):tc l X i=tc l X k<->Cn (GV l) i k:=by
 have O:∀a b,GV l a b->a<X/\b<X:=λa b h=>Q (a,b) h
 have least:∀{i j},i<X->Cn (GV l) i j->tc l X i<=j:=λW h=>YR (as7 O W h)
 constructor;intro e;have V:=NO l X i;have R:=NO l X k;rw[e] at V;exact V.trans R.symm;intro h;have V:=least W (h.trans (NO l X k));have R:=least P (h.symm.trans (NO l X i));omega
section
variable[Inhabited db]
def NP(v:au)(a b:Nat):Prop:=∃x∈v,(aI 0 x).toNat=a/\(aI 1 x).toNat=b
def ahR{W:Nat->Nat->Prop}(V:∀q,M q<=q)(h:∀q<X,Cn W q (M q)){r:Nat}(R:Rt M x r):x<X->Cn W x r:=by
 induction R with
 |here _=>exact λ_=>Cn.refl _
 |up _ _ Q=>
  rename_i x r _ _;exact λP=>(h x P).trans (Q (by have:=V x;omega))
def ahS{W:Nat->Nat->Prop}{V:Nat->Nat}(Q:∀q,M q<=q)(h:∀q<X,Cn W q (M q))(s:∀q,V q=M q\/Rt M q (V q)):∀q<X,Cn W q (V q):=λq R=>by
 rcases s q with e|e;rw[e];exact h q R;exact ahR Q h e R
structure aCu(n:Nat)(v m:au):Prop where
 len:Y m=n
 ok:md m=J
 pr:∀x∈v,aI 0 (m.getD (aI 0 x).toNat [])=aI 0 (m.getD (aI 1 x).toNat [])
 cn:∀q<n,Cn (NP v) q (gR m q)
def R63(n:Nat)(v:au)(e:Int)(o:bo):Prop:=(e≠0/\o=.ret [.r (aG []),.i e])\/(e=0/\∃m,o=.ret [.r (aG m),.i 0]/\aCu n v m)
def aCw(m:au)(k:Nat)(x:Int)(W:k<Y m)(R:∀X∈m,Y X=1):(m.modify k λX=>gZ X 0 [iV x])=m.set k [iV x]:=by
 apply kG;intro q;rw[aiO,v6];by_cases V:k=q;subst V;rw[aJ rfl,aJ W,cS W];have:=R _ (ql W);generalize m[k]=X at this
 match X,this with
 |[c],_=>simp[gZ]
 rw[aQ V];simp[V]
def aCx(h:md B=J)(V:Y B=X):md (B++[[iV X]])=true:=by
 refine ahN λk R=> ?_
 simp only[gc,N0] at R;rw[cz];by_cases W:k<Y B;rw[dH W,<-cz];exact Fv h W;have:k=Y B:=aa;subst this;rw[iE (b9 _)];simp[aI,bn,iV,V]
def aCy(W:Y B=X)(h:∀q<X,gR B q=q):∀q<X+1,gR (B++[[iV X]]) q=q:=λq V=>by
 simp only[gR,cz];by_cases e:q=X;subst e;rw[iE aa];simp[W,aI,bn,iV];rw[dH aa,<-cz];exact h q aa
def aCz(h:∀W∈B,Y W=1):∀W∈B++[[q]],Y W=1:=λW X=>by
 rcases eV.1 X with X|X;exact h W X;simp at X;subst X;rfl
def ahT{R:bo->Prop}{O:ai}{L:de}{t:T}{m:au}{r:RE}{e:TypeId}{P:bv}{i:K}(N:r.rv O=aG m)(M:i.ab O=p)(H:∀W∈m,Y W=1)(h:md m=J)(y:Y m<=1000)(G:0<=p)(F:p<Y m)
  (k:∀X,Y X=Y m->(∀W∈X,Y W=1)->md X=J->(∀q,gR X q=gR m q\/Rt (gR m) q (gR X q))->Rt (gR m) p.toNat (gR X p.toNat)->t.wp TB.Ev R (O.add (.r (aG X))) L):
  T.wp TB.Ev R (.eE 91 91 e (.dw 0 (.lex [] E) [i]) J r P t) O L:=by
 obtain⟨X,V,Q,D,B,A⟩:=aCq h aa G F;rw[azG,N];refine⟨X, ?_, ?_⟩;show wn (i.ab O) m=U X;rw[M];exact V;have:=k X Q (λW z=>H W (T5 V W z)) D B A;have e:(RV.mk (aG m).val X)=aG X:=by
  simp only[aG,RV.nC,Q]
 rw[e];exact this
def t63(h:fp)(ak:Int)(a3:TB.Ev 90 (wk++[.i ak]) (.ret [.r (aG B),.i p]))(hv:∀x∈B,0<=aI 0 x/\aI 0 x<aI 1 x/\aI 1 x<Y aL.ac)(bx:Y B<=4096)(hn:Y aL.ac<=1000):
  ∃o,TB.Ev 52 (wk++[.i ak]) o/\R63 (Y aL.ac) B p o:=by
 refine dV ?_;simp only[wk,ez,eW] at a3;simp[T63,wk,bi a3];refine ay (λb=> ?_) (λb=>.inl ⟨b,rfl⟩);subst b;have a4:Y aL.ac<=140737488355328:=aa;have bd:Y B<=140737488355328:=aa;refine cj (Y aL.ac) (λi D=>∃m,D=[.r (aG m)]/\Y m=i/\(∀L∈m,Y L=1)/\md m=J/\∀q<i,gR m q=q) ⟨0,rfl,aa,[],rfl,rfl,av,rfl,aa⟩ ?_;rintro i _ hi ⟨m0,rfl,H,A,G,a9⟩;simp[h.rl.len];refine ay (λhi=> ?_) (λb0=> ?_);simp[bU hi a4];exact⟨aa,_,rfl,dh,aCz A,aCx G H,aCy H a9⟩;have bf:i=Y aL.ac:=aa;subst bf;refine cj (Y B) (λj D=>∃m,D=[.r (aG m)]/\Y m=Y aL.ac/\(∀L∈m,Y L=1)/\md m=J/\(∀x∈B.take j,GS (gR m) (aI 0 x).toNat (aI 1 x).toNat)/\∀q<Y aL.ac,Cn (NP B) q (gR m q)) ⟨0,rfl,aa,m0,rfl,H,A,G,av,λq l=>by rw[a9 q l];exact Cn.refl _⟩ ?_;rintro j _ M ⟨m,rfl,H,A,G,a,hc⟩;simp;refine ay (λM=> ?_) (λb1=> ?_);simp[M];obtain⟨va,bg,vb⟩:=hv _ (ql M);have ea:bn (aU B (j:Int) 0).val=aI 0 B[j]:=by simp[aU,aI,M]
 have eb:bn (aU B (j:Int) 1).val=aI 1 B[j]:=by simp[aU,aI,M]
 refine ahT (m:=m) rfl ea A G aa aa aa ?_;intro F l1 r1 y R g;refine ahT (m:=F) rfl eb r1 y aa aa aa ?_;intro Q l2 r2 o2 f a2;simp[bU M bd];have na:bn (aU F (bn (aU B (j:Int) 0).val) 0).val=((gR F (aI 0 B[j]).toNat:Nat):Int):=by rw[ea];exact Sa y _ aa
 have nb:bn (aU Q (bn (aU B (j:Int) 1).val) 0).val=((gR Q (aI 1 B[j]).toNat:Nat):Int):=by rw[eb];exact Sa o2 _ aa
 simp only[na,nb];have N:=JO G;have d:=JO y;have c:=JO o2;have af:=ahS d (ahS N hc R) f;have bk:Cn (NP B) (aI 0 B[j]).toNat (aI 1 B[j]).toNat:=Cn.one (.inl ⟨_,ql M,rfl,rfl⟩);have w:=(g.short N R).short d f;have u:=a2.short d f;have fa:=w.fix;have fb:=u.fix;have la:=w.le c;have lb:=u.le c;have cA:=ahR c af w aa;have cB:=ahR c af u aa;generalize gR F (aI 0 B[j]).toNat=P at w fa la cA⊢;generalize gR Q (aI 1 B[j]).toNat=O at u fb lb cB⊢;obtain⟨X,ag⟩:∃X:Nat,X=max P O:=⟨_,rfl⟩;obtain⟨W,al⟩:∃W:Nat,W=min P O:=⟨_,rfl⟩;have e1:max (P:Int) (O:Int)=(X:Int):=aa;have e2:min (P:Int) (O:Int)=(W:Int):=aa;rw[e1,e2];have an:X<Y Q:=aa;have fx:gR Q X=X:=by rcases ai2 P O with q|q<;>simp only[ag,Nat.max_eq_left,Nat.max_eq_right,q]<;>assumption
 have fn:gR Q W=W:=by rcases ai2 P O with q|q<;>simp only[al,Hd,Zt,q]<;>assumption
 have ek:gR (Q.set X [iV (W:Int)])=ta (gR Q) X W:=by rw[as4 an];rfl
 refine⟨aa,Q.set X [iV (W:Int)], ?_,dh,λL t=> ?_, ?_,λx V=> ?_,λq l=> ?_⟩;rw[<-aCw Q X W an r2];rfl;rcases EU t with t|t;exact r2 L t;subst t;rfl;refine ahN λk s=> ?_
 rw[avc] at s;rw[cz];by_cases ba:k=X;subst ba;rw[G6 an];show(0:Int)<=(W:Int)/\(W:Int)<=(k:Int);omega;rw[rX (Ne.symm ba),<-cz];exact Fv o2 s;rw[ek];rw[au8,cS M] at V;rcases eV.1 V with V|V;exact(((a x V).short N R).short d f).join fx fn;simp at V;subst V;refine⟨W, ?_, ?_⟩;have:=w.join fx fn;by_cases q:P=X
 rwa [aJ q] at this
 rw[aQ q] at this;have:P=W:=aa;subst this;assumption;have:=u.join fx fn;by_cases q:O=X
 rwa [aJ q] at this
 rw[aQ q] at this;have:O=W:=aa;subst this;assumption;rw[ek];simp only[ta];have cR:Cn (NP B) P O:=(cA.symm.trans bk).trans cB;by_cases p:q=X;rw[aJ p,p];rcases ai2 P O with z|z;rw[ag,al,Nat.max_eq_right z,Hd z];exact cR.symm;rw[ag,al,Nat.max_eq_left z,Zt z];exact cR;rw[aQ p];exact af q l;have bl:j=Y B:=aa;subst bl;rw[List.take_length] at a;refine cj (Y aL.ac) (λk D=>∃m,D=[.r (aG m)]/\Y m=Y aL.ac/\(∀L∈m,Y L=1)/\md m=J/\(∀x∈B,GS (gR m) (aI 0 x).toNat (aI 1 x).toNat)/\(∀q<Y aL.ac,Cn (NP B) q (gR m q))/\∀q<k,Rt (gR m) q (gR m q)) ⟨0,rfl,aa,m,rfl,H,A,G,a,hc,av⟩ ?_;rintro k _ s ⟨m',rfl,br,bs,n,bb,bc,a0⟩;simp[H];refine ay (λs=> ?_) (λb2=> ?_);refine ahT (m:=m') rfl rfl bs n aa av dh ?_;intro F l1 r1 y R g;have N:=JO n;simp[bU s a4] at g⊢;refine⟨F,rfl,aa,r1,y,λx V=>(bb x V).short N R,ahS N bc R,λq l=> ?_⟩;by_cases bt:q=k;subst bt;exact g.short N R;have:=a0 q aa;rcases R q with p|p;rw[p];exact this.short N R;exact p.short N R;refine .inr ⟨rfl,m',rfl,br,n,λx V=> ?_,bc⟩;obtain⟨va,bg,vb⟩:=hv x V;obtain⟨r,q1,q2⟩:=bb x V;rw[Sa n _ aa,Sa n _ aa,(a0 _ aa).RT q1,(a0 _ aa).RT q2]
end
section
variable{R:bo->Prop}{G:aS}{t:T}{O:ai}{L:de}
variable[Inhabited db]
structure Ab(n:Nat)(ak:Int)(bd mv bf re:RV)(vs vr vb:au):Prop where
 ls:Y vs=n
 lr:Y vr=n
 lb:Y vb=n
 al:∀k<n,aU vr (k:Int) 0=aG (cr 134 re k).ac/\AS vs k=13/\AS vb k=4/\JJ ak mv bf bd re k/\(∀j<13,bn (aU vs (k:Int) j).val=gS ak mv bf re k j)/\∀j<4,bn (aU vb (k:Int) j).val=gB ak mv bf bd re k j
end
def ata{X:Type}(n i:Nat)(f V:Nat->X)(g:X->X)(h:∀k<n,V k=if k=i then g (f k) else f k):((fw n).map f).modify i g=(fw n).map V:=by
 apply kG;intro q;rw[aiO];simp only[dW];by_cases W:q<n;rw[CZ W];simp only[eh,h q W];by_cases e:i=q;subst e;simp;rw[aQ (Ne.symm e)];simp[e];rw[kg (by simpa using aiX W)];simp
def CN(X:au)(g:Int):Bool:=match iR 1 [g,0,0] X with
 |U W=>gH (W.getD 1 default).val
 |none=>E
def NQ(g:Int)(X:aC):kM 1 [g,0,0] X=decide ((X.take 1).map (λc=>bn c.val)=[g]):=rfl
section
open Classical in
section
variable{m:au}{a d l:RV}{n:Nat}
def aCA{f:Nat->aC}(W:X<n):aU ((fw n).map f) (X:Int) x=(f X).getD x default:=by
 simp[aU,CZ W]
end
section
variable[Inhabited db]
end
end
def ux(n:Nat)(g:Nat->Nat):au:=(fw n).map λk=>[RV.mk (.int I (g k:Int)) []]
def NR(n:Nat)(g:Nat->Nat):(ux n g).length=n:=by simp[ux]
def ahU{n:Nat}{g:Nat->Nat}{a:Int}(X:0<=a)(h:a<n):bn (aU (ux n g) a 0).val=(g a.toNat:Int):=by
 have e:a=(a.toNat:Int):=aa;rw[e];simp only[ux];rw[aCA aa];rfl
def aCB{n:Nat}{g:Nat->Nat}{a:Int}{x:Nat}:((ux n g).modify a.toNat λX=>gZ X 0 [RV.mk (.int I (x:Int)) []])=ux n λq=>if q=a.toNat then x else g q:=by
 simp only[ux];refine ata n a.toNat _ _ _ λk _=> ?_
 by_cases e:k=a.toNat;rw[aJ e,aJ e];rfl;rw[aQ e,aQ e]
def aCC{W:Nat->Nat}(h:∀q,M q=W q):ux X M=ux X W:=by
 have:M=W:=funext h;rw[this]
def qU(v:au):List (Nat×Nat):=v.map λx=>((aI 0 x).toNat,(aI 1 x).toNat)
def atb(p:Nat×Nat):∀(l:List (Nat×Nat))(g:Nat->Nat),zd (l++[p]) g=vO (zd l g) p.1 p.2
 |[],_=>rfl
 |a::l,g=>atb p l _
def aCD(W:X<Y B):(qU B).take (X+1)=(qU B).take X++[((aI 0 B[X]).toNat,(aI 1 B[X]).toNat)]:=by
 rw[au8];simp[qU,W]
section
variable{R:bo->Prop}{G:aS}{t:T}{O:ai}{L:de}
def r64(n:Nat)(m:n<=64)(v:au)(l:Y v<=4096)(A:∀x∈v,(0<=aI 0 x/\aI 0 x<n)/\0<=aI 1 x/\aI 1 x<n):TB.Ev 188 [.i n,.r (aG v)] (.ret [.r (aG (ux n (tc (qU v) n)))]):=by
 refine fF ?_;simp[T64];have P:n<=140737488355328:=aa;refine cj n (λi W=>W=[.r (aG (ux i λq=>q))]) ⟨0,rfl,aa,rfl⟩ ?_;rintro i _ N rfl;simp[NR];refine ay (λN=> ?_) (λj=> ?_);simp[bU N P];refine⟨aa, ?_⟩;simp only[ux];rw[avh,N5];rfl;have z:i=n:=aa;subst z;refine cj i (λr W=>W=[.r (aG (ux i (tc (qU v) r)))]) ⟨0,rfl,aa,rfl⟩ ?_;rintro r _ M rfl;simp[NR];refine ay (λM=> ?_) (λh=> ?_);refine cj (Y v) (λk W=>W=[.r (aG (ux i (zd ((qU v).take k) (tc (qU v) r))))]) ⟨0,rfl,aa,rfl⟩ ?_;rintro k _ X rfl;simp[NR];refine ay (λX=> ?_) (λf=> ?_);obtain⟨⟨H,G⟩,F,D⟩:=A _ (ql X);have w:bn (aU v (k:Int) 0).val=aI 0 v[k]:=by simp[aU,aI,X]
 have u:bn (aU v (k:Int) 1).val=aI 1 v[k]:=by simp[aU,aI,X]
 simp only[w,u];rw[ahU H G,ahU F D];simp[X,H,G,F,D,NR,bU X (show Y v<=140737488355328 from aa)];rw[aCD X,atb];generalize zd ((qU v).take k) (tc (qU v) r)=g;generalize(aI 0 v[k]).toNat=a;generalize(aI 1 v[k]).toNat=b;have s:∀x y:Nat,min (x:Int) (y:Int)=((min x y:Nat):Int):=λx y=>aa
 rw[s];have Q:=λ(g:Nat->Nat)(a x:Nat)=>aCB (n:=i) (g:=g) (a:=(a:Int)) (x:=x)
 simp only[v7] at Q;rw[Q,Q];rw[aCC λq=> ?_];simp only[vO];by_cases B:q=a;subst B;by_cases V:q=b;subst V;simp;simp[V];by_cases V:q=b;subst V;simp;simp[B,V];have p:k=Y v:=aa;subst p;simp[bU M P];rw[G5 (by simp[qU])];rfl;have o:r=i:=aa;subst o;rfl

variable[Inhabited db]
variable{wg bd cs br co:RV}
def WgP(wg:RV):Prop:=∀i<Y wg.ac,∀ak:Nat,(ak:Int)<fo->qR (ci wg i) ak 4=0
def aCF(X:Sl wg)(F:fo<=64):∃o,TB.Ev 61 (dZ wg bd cs br co) o/\∃b,o=.ret [.b b]/\(b=J->WgP wg):=by
 refine dV ?_;simp[agw,dZ,wk];refine cj (Y wg.ac) (λn W=>W=[]/\∀i<n,∀ak:Nat,(ak:Int)<fo->qR (ci wg i) ak 4=0) ⟨0,rfl,aa,rfl,λi Q=>aa⟩ ?_;rintro i _ Q ⟨rfl,P⟩;simp[X.len];refine ay (λN=> ?_) (λD=> ?_);refine cj fo.toNat (λn W=>W=[]/\∀ak<n,qR (ci wg i) ak 4=0) ⟨0,rfl,aa,rfl,λi Q=>aa⟩ ?_;rintro j _ B ⟨rfl,V⟩;simp[X.len,N];refine ay (λA=> ?_) (λz=> ?_);obtain⟨o,H,y,rfl,M⟩:=aCj (ci wg i) j;have G:=f25 (ci wg i) j;have d:=P2 H G;injection d with d;subst d;simp only[pn,ci,ez,eW] at M;simp[bi M];intro e;rw[bU (n:=fo.toNat) (show j<fo.toNat from aa) aa];exact⟨rfl,mF V e⟩;rw[bU N X.sm];exact⟨rfl,mF P λak x=>V ak aa⟩;exact λq V=>P q aa
def atd(W:qT B (s9 p)):GV (qU B)=s9 p:=by
 funext a b;refine propext ((Iff.trans ?_ (W.iff a b)));simp only[GV,qU,iq,C2];constructor;rintro⟨x,X,V,Q⟩;have:=W.ok x X;exact⟨x,X,aa,aa⟩;rintro⟨x,X,V,Q⟩;exact⟨x,X,aa,aa⟩
def aCG(W:qT B (s9 p)):∀X∈qU B,X.1<Y aL.ac/\X.2<Y aL.ac:=λX V=>by
 obtain⟨x,Q,rfl⟩:=iq.1 V;have:=W.ok x Q;exact⟨by simp only;omega,by simp only;omega⟩
structure JP(ak:Int)(mv re:RV):Prop where
 lm:Y mv.ac=Y aL.ac
 lr:Y re.ac=Y aL.ac
 grp:∀i<Y aL.ac,∀k<Y aL.ac,Cn (s9 ak) i k->cb mv i 0=cb mv k 0
 els:∀i<Y aL.ac,cb mv i 0=E->(cr 134 re i).ac=[]
 iw:∀i<Y aL.ac,cb mv i 0=J->NG i ak (cr 134 re i)=0
def aCI(h:fp)(B:Y aL.ac<=64)(ak:Int){W:RV}(A:Sl q)(z:Sl W)(e:∀i<Y W.ac,Sl (cr 134 W i)):∃o,TB.Ev 105 (wk++[.i ak,.r q,.r W]) o/\∃b,o=.ret [.b b]/\(b=J->JP ak q W):=by
 obtain⟨o,y,v,rfl,d,N⟩:=r56 h ak B;have af:=r64 (Y aL.ac) B v d λx hx=>by have:=N.ok x hx;omega
 have M:TB.Ev 154 (wk++[.i ak]) (.ret [.r (aG (ux (Y aL.ac) (tc (qU v) (Y aL.ac))))]):=by
  refine fF ?_;simp only[wk,ez,eW] at y;simp[agC,wk,bi y,h.rl.len,bi af]
 have w:=aCG N;have H:=λi k Q hk=>aCt (i:=i) (k:=k) w Q hk
 have u:=NO (qU v) (Y aL.ac);rw[atd N] at u;simp only[atd N] at H;have s:∀i<Y aL.ac,tc (qU v) (Y aL.ac) i<=i:=λi Q=>YR (as7 (λa b (h:GV (qU v) a b)=>w (a,b) h) Q (Cn.refl _))
 generalize tc (qU v) (Y aL.ac)=G at M H u s;have ag:Y aL.ac<=140737488355328:=aa;refine dV ?_;simp only[wk,ez,eW] at M;simp[agA,wk,A.len,z.len,h.rl.len,bi M,NR];intro lm lr;refine cj (Y aL.ac) (λn al=>al=[]/\∀i<n,cb q i 0=cb q (G i) 0/\(cb q i 0=E->(cr 134 W i).ac=[])/\(cb q i 0=J->NG i ak (cr 134 W i)=0)) ⟨0,rfl,aa,rfl,λi Q=>aa⟩ ?_;rintro i _ Q ⟨rfl,V⟩;simp[A.len,z.len,h.rl.len];refine ay (λF=> ?_) (λhg=> ?_);have p:=ahU (g:=G) (n:=Y aL.ac) (a:=(i:Int)) aa aa;have e2:=s i F;have m:=e i aa;have l:=m.len;have f:=f95 h i ak (cr 134 W i) m;simp only[wk,ez,eW,cr] at f;simp only[cr] at l;simp only[v7] at p;simp[p,l,bi f,bU F ag];refine⟨aa,by rw[NR];exact F,aa,λj=>⟨aa,ay (λP=>⟨aa,ay (λ_=>⟨aa,λq3=> ?_⟩) (λX=>aZ P X)⟩) (λP=> ?_)⟩⟩;exact mF V ⟨j,λX=>aZ (show cb q i 0=J from P) (by rw[X];simp),λ_=>q3⟩;have an:cb q i 0=false:=by simp only[cb];simpa using P
 refine⟨aa,λq4=>⟨aa,ay (λX=>aZ X P) (λ_=> ?_)⟩⟩;exact mF V ⟨j,λ_=>q4,λX=>aZ X (by rw[an];simp)⟩;exact⟨aa,aa,λa D b hb c=>by rw[(V a aa).1,(V b aa).1,(H a b D hb).2 c],λa D=>(V a aa).2.1,λa D=>(V a aa).2.2⟩

def Sb(b:RV)(i:Nat):RV:=cG (.sl 4) (aU b.ac i 0)
def EM(b:RV)(i:Nat):RV:=cG (.sl 67) (aU b.ac i 1)
structure atf(br:RV):Prop where
 len:(Y br.ac:Int)=fo
 AO:∀k<Y br.ac,∀i<(cr 69 br k).ac.length,JP k (Sb (cr 69 br k) i) (EM (cr 69 br k) i)
def aCJ(h:fp)(F:Y aL.ac<=64)(s:rV wg bd cs br co):∃o,TB.Ev 63 (dZ wg bd cs br co) o/\∃b,o=.ret [.b b]/\(b=J->atf br):=by
 refine dV ?_;simp[agy,dZ,wk,s.sr.len];intro D;refine cj (Y br.ac) (λn V=>V=[]/\∀k<n,∀i<(cr 69 br k).ac.length,JP k (Sb (cr 69 br k) i) (EM (cr 69 br k) i)) ⟨0,rfl,aa,rfl,λi Q=>aa⟩ ?_;rintro k _ u ⟨rfl,M⟩;simp[s.sr.len];refine ay (λX=> ?_) (λA=>⟨D,λq P=>M q aa⟩);have N:=s.CH k X;have e:=N.len;have H:=s.AO k X;generalize G:cr 69 br k=B at N e H;have z:cG (.sl 69) (aU br.ac k 0)=B:=G;refine cj (Y B.ac) (λn V=>V=[]/\∀i<n,JP k (Sb B i) (EM B i)) ⟨0,rfl,aa,rfl,λi Q=>aa⟩ ?_;rintro i _ Q ⟨rfl,P⟩;simp[s.sr.len,X,z,e];refine ay (λW=> ?_) (λA=> ?_);obtain⟨y,x,w⟩:=H i W;obtain⟨o,g,b,rfl,v⟩:=aCI h F k y x w;simp only[wk,ez,eW] at g;cases b;simp[bi g,W];simp[bi g,W,bU W N.sm];exact mF P (v rfl);rw[bU X s.sr.sm];refine⟨rfl,mF M ?_⟩;rw[G];exact λi Q=>P i aa
structure AT(wg bd cs br co:RV):Prop where
 wk:lg=0
 EN:Mny wg bd cs br
 bds:∀i<Y bd.ac,NK bd i=0
 wgs:WgP wg
 cZ:Cst bd cs
 GX:atf br
 cns:Cns co
def aCL(h:fp)(s:rV wg bd cs br co):∃o,TB.Ev 27 (dZ wg bd cs br co) o/\∃e,o=.ret [.i e]/\(e=0->AT wg bd cs br co):=by
 refine dV ?_;have V:=r40 h;obtain⟨o,Q,b,rfl,F⟩:=aAT (wg:=wg) (bd:=bd) (cs:=cs) (br:=br) (co:=co) h s.sw s.sb s.sc s.sr s.CH;simp only[wk,dZ,ez,eW] at V Q;simp[ags,dZ,wk,bi V];refine ay (λX=> ?_) (λX q=>aZ q X);simp[bi Q];cases b
 rotate_left
 simp;have W:=F rfl;simp;refine cj (Y bd.ac) (λn D=>D=[]/\∀i<n,NK bd i=0) ⟨0,rfl,aa,rfl,λi B=>aa⟩ ?_;rintro i _ B ⟨rfl,P⟩;simp[s.sb.len];refine ay (λN=> ?_) (λp=> ?_);have f:=aB3 (cG .str (aU bd.ac (i:Int) 0)) (Yq _) (ci bd i 1) (ci bd i 2) (ci bd i 3) (ci bd i 4) (ci bd i 5) (ci bd i 6) (ci bd i 7) (ci bd i 8) (ci bd i 9) (ci bd i 10) (ci bd i 11) (ci bd i 12) (ci bd i 13) (ci bd i 14) (ci bd i 15) (ci bd i 16);simp only[ci] at f;simp[bi f,N];refine ay (λe=> ?_) (λe q=>aZ q e);rw[bU N s.sb.sm];exact⟨rfl,mF P e⟩;obtain⟨o,f33,A,rfl,z⟩:=aCF (wg:=wg) (bd:=bd) (cs:=cs) (br:=br) (co:=co) s.sw W.bars;obtain⟨o,M,y,rfl,x⟩:=aAV (wg:=wg) (bd:=bd) (cs:=cs) (br:=br) (co:=co) h s.sb s.sc s.Yw;obtain⟨o,H,w,rfl,v⟩:=aCJ (wg:=wg) (bd:=bd) (cs:=cs) (br:=br) (co:=co) h (by have:=W.rl;omega) s;obtain⟨o,G,u,rfl,r⟩:=aA7 (wg:=wg) (bd:=bd) (cs:=cs) (br:=br) (co:=co) h s.so;simp only[wk,dZ,ez,eW] at f33 M H G;rw[bi f33];cases A<;>simp;rw[bi M];cases y<;>simp;rw[bi H];cases w<;>simp;rw[bi G];cases u<;>simp;exact⟨X,W,λq m=>P q aa,z rfl,x rfl,v rfl,r rfl⟩
def aCM(h:fp)(s:rV wg bd cs br co){W V:RV}{cZ:Int}{cl:Bool}(M:Sl q)(H:Sl W)(G:Sl V)(F:∀i<Y W.ac,Sl (cr 76 W i)):∃o,TB.Ev 8 (dZ wg bd cs br co++[.r q,.i cZ,.r W,.r V,.b cl]) o/\∃e,o=.ret [.i e]/\(e=0->AT wg bd cs br co/\AP cs br q W V cZ):=by
 refine dV ?_;obtain⟨o,P,e,rfl,D⟩:=aCL h s;obtain⟨o,N,b,rfl,B⟩:=aBS (cZ:=cZ) (cl:=cl) h s M H G F;simp only[wk,dZ,ez,eW] at P N;simp[agD,dZ,wk,bi P];refine ay (λQ=> ?_) (λQ X=>aZ X Q);rw[bi N];cases b<;>simp;exact⟨D Q,B rfl⟩
end
section
variable{R:bo->Prop}{G:aS}{t:T}{O:ai}{L:de}
def ati(x g:Int)(b:Bool):∀P:au,CN (fZ 1 [RV.mk (.int I x) [],RV.mk (.bool b) []] P) g=if g=x then b else CN P g
 |[]=>by
  by_cases h:g=x;subst h;simp[CN,fZ,iR,NQ,bn,gH];have V:¬x=g:=λe=>h e.symm
  simp[CN,fZ,iR,NQ,bn,h,V]
 |r::X=>by
  have N:=ati x g b X;have M:(A8 (λc:RV=>bn c.val) (List.take 1 [RV.mk (.int I x) [],RV.mk (.bool b) []]))=[x]:=rfl;by_cases W:(r.take 1).map (λc=>bn c.val)=[x];have Q:fZ 1 [RV.mk (.int I x) [],RV.mk (.bool b) []] (r::X)=[RV.mk (.int I x) [],RV.mk (.bool b) []]::X:=by
   simp only[fZ,M,kM];rw[aJ (by simpa using W)]
  rw[Q];by_cases h:g=x;subst h;simp[CN,iR,NQ,bn,gH];have V:¬x=g:=λe=>h e.symm
  simp only[CN,iR,J2,NQ,W,h];simp[bn,V];have Q:fZ 1 [RV.mk (.int I x) [],RV.mk (.bool b) []] (r::X)=r::fZ 1 [RV.mk (.int I x) [],RV.mk (.bool b) []] X:=by
   simp only[fZ,M,kM];rw[aQ (by simpa using W)]
  rw[Q];by_cases h:(r.take 1).map (λc=>bn c.val)=[g];have H:¬g=x:=λe=>W (by rw[h,e])
  simp only[CN,iR,J2,NQ,h,H];simp;simp only[CN,iR,J2,NQ,h] at N⊢;simpa using N
def nh{c:Prop}[Decidable c]{a b:Prop}(h:c)(k:a):if c then a else b:=by rw[aJ h];exact k
def GY{c:Prop}[Decidable c]{a b:Prop}(h:¬c)(k:b):if c then a else b:=by rw[aQ h];exact k
def ahV(e:Int):TB.Ev 34 [.b J,.i e] (.ret []):=by
 refine fF ?_;simp[agF]
variable[Inhabited db]
variable{l u w d y:RV}
def aCN(h:qT B (s9 p)):NP B=s9 p:=by
 funext a b;refine propext ((Iff.trans ?_ (h.iff a b)));constructor;rintro⟨x,X,W,V⟩;have:=h.ok x X;exact⟨x,X,aa,aa⟩;rintro⟨x,X,W,V⟩;exact⟨x,X,aa,aa⟩
def aCO(h:fp)(s:rV l u w d y)(p:AT l u w d y):TB.Ev 23 (dZ l u w d y) (.ret [.i 0]):=by
 have hw:=(xt s8 h).2 p.wk;have af:=(xt s8 h).1;rw[p.wk] at af;have M:=p.EN;have ms:=M.wg;have m2:=M.rl;have m3:=M.bd;have m4:=M.cs;have m5:=M.bars;refine evo rfl rfl (.inr λv=>nofun) ?_;simp only[wk,dZ,ez,eW] at af;simp[agH,dZ,wk,bi af,s.sw.len,s.sb.len,s.sc.len,s.sr.len,s.so.len,h.rl.len];refine nh aa (nh aa (nh aa (nh aa (GY aa ?_))));have lO:=p.GX.len;refine cj (Y d.ac) (λn W=>W=[]) ⟨0,rfl,aa,rfl⟩ ?_;rintro i _ hi rfl;simp[s.sr.len];refine ay (λX=> ?_) (λa9=> ?_);have e:=(s.CH i X).len;have e2:=M.br i X;simp only[cr] at e e2;simp only[e];refine⟨X,GY aa ?_⟩;rw[bU X s.sr.sm];refine cj (Y u.ac) (λn W=>W=[]) ⟨0,rfl,aa,rfl⟩ ?_;rintro i2 _ ba rfl;simp[s.sb.len,s.sc.len,s.sr.len];refine ay (λX=> ?_) (λbb=> ?_);have e:=p.bds i2 X;simp only[NK,ci] at e;simp[X,e,bU X s.sb.sm];have c0:=p.cZ.aAU;refine nh aa ?_;refine nh aa ?_;refine cj (Y w.ac) (λn W=>W=[]) ⟨0,rfl,aa,rfl⟩ ?_;rintro c _ bc rfl;simp[s.sb.len,s.sc.len,s.sr.len,h.rl.len];refine ay (λX=> ?_) (λbf=> ?_);have G:=s.Yw c X;have e:=p.cZ.len c X;have g:=aA3 G (Y u.ac) (p.cZ.idx c X) (p.cZ.apart c X);have e4:=G.len;simp only[cr] at g e4 e;simp[X,e4,e,bi g,bU X s.sc.sm];refine cj (Y d.ac) (λn W=>W=[]) ⟨0,rfl,aa,rfl⟩ ?_;rintro k _ hk rfl;simp[s.sr.len];refine ay (λH=>⟨H, ?_⟩) (λbg=> ?_);have G:=s.CH k H;have eS:=G.len;have pg:=s.AO k H;have pp:=p.GX.AO k H;generalize hB:cr 69 d k=B at G eS pg pp;have ag:cG (.sl 69) (aU d.ac k 0)=B:=hB;refine cj (Y l.ac) (λn W=>W=[]) ⟨0,rfl,aa,rfl⟩ ?_;rintro i4 _ bk rfl;simp[s.sw.len];refine ay (λX=> ?_) (λbl=> ?_);have al:=f25 (ci l i4) k;have e:=p.wgs i4 X k aa;rw[e] at al;simp only[pn,ci,ez,eW] at al;simp[X,bi al,bU X s.sw.sm];obtain⟨v,a0,hv,hU⟩:=as2 h k p.wk (by simp[jc];omega);obtain⟨o,an,hr⟩:=t63 h k a0 (λx hx=>by have:=hU.ok x hx;omega) hv aa;rcases hr with⟨b,-⟩|⟨-,m,rfl,a⟩;exact aZ rfl b;simp only[wk,ez,eW] at an;simp[bi an];refine cj (Y B.ac) (λn W=>W=[]) ⟨0,rfl,aa,rfl⟩ ?_;rintro i5 _ bs rfl;simp[s.sr.len,H,ag,eS,h.rl.len];refine ay (λN=> ?_) (λbt=>by rw[bU H s.sr.sm]);obtain⟨mv,D⟩:∃mv,cG (.sl 4) (aU B.ac i5 0)=mv:=⟨_,rfl⟩;obtain⟨re,eR⟩:∃re,cG (.sl 67) (aU B.ac i5 1)=re:=⟨_,rfl⟩;have P:JP k mv re:=by rw[<-D,<-eR];exact pp i5 N
 obtain⟨p1,p2,p3⟩:=pg i5 N;rw[D] at p1;rw[eR] at p2 p3;simp only[D,eR];have k1:=p1.len;have k2:=p2.len;have lm:=P.lm;have lr:=P.lr;have ml:Y m=Y aL.ac:=a.len;refine⟨N,nh aa (nh aa ?_)⟩;refine cj (Y aL.ac) (λn W=>W=[]) ⟨0,rfl,aa,rfl⟩ ?_;rintro V _ bx rfl;simp[s.sr.len,H,ag,N,D,eR,k1,k2,eS,lm,lr];refine ay (λQ=> ?_) (λb0=>by rw[bU N G.sm]);have cn:=a.cn V Q;rw[aCN hU] at cn;have nn:bn (aU m (V:Int) 0).val=(gR m V:Int):=Sa a.ok V aa;have le:=JO a.ok V;have eq:=P.grp V Q (gR m V) aa cn;have f:=(ahq h V k (cr 134 re V) (p3 V aa)).1;have f0:=P.iw V Q;have A:=P.els V Q;have q3:=(p3 V aa).len;simp only[wk,ez,eW,cr] at f f0;simp only[cr] at q3 A;simp only[cb] at eq f0 A;rw[nn];refine⟨aa,aa,⟨aa,aa⟩, ?_⟩;rw[aJ eq];refine ay (λz=>nh z ⟨aa, ?_⟩) (λz=>⟨aa, ?_⟩);rw[f0 z] at f;simp[bi f,bi (ahV 500),bU Q (show Y aL.ac<=140737488355328 from aa)];have A:=A (by simpa using z);simp[q3,A,bi (ahV 500),bU Q (show Y aL.ac<=140737488355328 from aa)];intro b;rw[ag,D] at b;exact aZ b z;refine cj (Y bu.ac) (λn W=>∃m,W=[.r (aG m)]/\∀j<n,CN m (ci bu j 0)=decide (ci bu j 3≠1)) ⟨0,rfl,aa,[],rfl,λi hi=>aa⟩ ?_;rintro j _ hj ⟨m,rfl,hm⟩;simp[h.sg.len];refine ay (λQ=>⟨Q, ?_⟩) (λb1=> ?_);rw[bU Q h.sg.sm];refine⟨_,rfl,λq hq=> ?_⟩;rw[ati];by_cases a1:q=j;subst a1;simp only[ci,cN,bne];rfl;have:=hw.ids q j aa Q;rw[aQ (by simp only[ci] at this⊢;omega),hm q aa];simp;have a3:j=Y bu.ac:=aa;subst a3;refine cj (Y y.ac) (λn W=>W=[]) ⟨0,rfl,aa,rfl⟩ ?_;rintro F _ b2 rfl;simp[s.so.len];refine λN=>⟨N, ?_⟩
 obtain⟨j,Q,j1,j2⟩:=p.cns.fnd F N;have hl:=hm j Q;have ho:=p.cns.ord F N;rw[j1,decide_eq_true j2] at hl;simp only[CN,cz,ci] at hl;refine nh hl ?_;refine ay (λ_=>by rw[bU N s.so.sm]) (λb3=> ?_);have hs:=s.so.sm;have a4:aF .sub I (F:Int) 1=((F-1:Nat):Int):=by
  rw[show aF .sub I (F:Int) 1=(F:Int)-1 by simp only[aF];exact cJ aa aa];omega
 have ho:=ho aa;simp only[ci] at ho;rw[a4];refine⟨aa,GY aa ?_⟩;rw[bU N s.so.sm]
end
section
variable{R:bo->Prop}{G:aS}{t:T}{O:ai}{L:de}
variable[Inhabited db]
variable{l m d g o c a k:RV}{cZ:Int}{cl:Bool}
def dem{b:Bool}(h:b=J):iL TB.Ev R 34 [.b b,.i 500] G t O L=iM TB.Ev R (.ret []) G t O L:=by
 subst h;exact bi (ahV 500)
def ahW(h:fp)(s:rV l m d g o)(p:AT l m d g o)(N:Sl c)(M:Sl a)(H:Sl k)(af:∀i<Y a.ac,Sl (cr 76 a i))(f:AP d g c a k cZ):TB.Ev 12 (dZ l m d g o++[.r c,.i cZ,.r a,.r k,.b cl]) (.ret [.i 0]):=by
 have w:=aCO h s p;have lc:=f.calls;have c0:=f.cast;have lk:=f.NH;have lo:=f.YE;refine evo rfl rfl (.inr λv=>nofun) ?_;simp only[wk,dZ,ez,eW] at w;simp[agG,dZ,wk,bi w,N.len,M.len,H.len,s.sr.len,s.sc.len,h.rl.len];refine nh aa (nh aa (nh aa (nh aa (nh aa ?_))));refine cj (Y c.ac) (λn W=>W=[]) ⟨0,rfl,aa,rfl⟩ ?_;rintro i _ hi rfl;simp[N.len,s.sr.len];refine ay (λD=> ?_) (λu=> ?_);have e:=(s.CH i aa).len;have e2:=f.call i D;simp only[cr,ci] at e e2;simp only[e];refine⟨D,nh aa ⟨aa,GY aa ?_⟩⟩;rw[bU D N.sm];refine cj (Y a.ac) (λn W=>W=[]) ⟨0,rfl,aa,rfl⟩ ?_;rintro j _ hj rfl;simp[N.len,M.len,H.len];intro Q;have G:=af j Q;have F:=G.len;have X:=f.YF j Q;obtain⟨V,hV⟩:∃V,cr 76 a j=V:=⟨_,rfl⟩;have B:cG (.sl 76) (aU a.ac j 0)=V:=hV;obtain⟨k1,k2,A,k4,z,k6⟩:=X;rw[hV] at G F k1 k2 A k4 z;simp only[B,F];refine⟨Q, ?_⟩;by_cases h1:Y V.ac=1;have h0:ci k j 0=0:=Classical.byContradiction λq=>by have:=A.2 q;omega
 simp only[ci] at h0;refine nh aa ⟨aa,nh h0 ?_⟩;refine cj (Y V.ac) (λn W=>W=[]) ⟨0,rfl,aa,rfl⟩ ?_;rintro q _ hq rfl;simp[N.len,M.len,H.len,B,F,Q];refine ay (λP=> ?_) (λu=> ?_);have e:=z q P;simp only[R6,ci] at e;simp[P,e,bU P G.sm];refine⟨aa,nh aa ?_⟩;rw[bU Q M.sm]
 ·have h2:Y V.ac=2:=aa;have o0:=A.1 h2;obtain⟨y,x,b3⟩:=k6 o0;have ne:=k4 h2;simp only[ci] at o0 y x b3 ne;refine GY aa (nh aa ⟨aa,aa, ?_⟩);rw[dem ?hb]
  rotate_left
  ·obtain⟨q,hq,ag⟩:=ne;simp only[jy,ik,beq_eq_false_iff_ne];refine Classical.byContradiction λhn=> ?_
   simp only[not_or,Classical.not_not] at hn;obtain⟨z0,z1,z2,z3,z4,z5,z6,z7,z8,z9,za,zb,zc⟩:=hn;have:q=0\/q=1\/q=2\/q=3\/q=4\/q=5\/q=6\/q=7\/q=8\/q=9\/q=10\/q=11\/q=12:=aa;rcases this with rfl|rfl|rfl|rfl|rfl|rfl|rfl|rfl|rfl|rfl|rfl|rfl|rfl
   all_goals exact ag pA
  simp;refine cj (Y V.ac) (λn W=>W=[]) ⟨0,rfl,aa,rfl⟩ ?_;rintro q _ hq rfl;simp[N.len,M.len,H.len,B,F,Q];refine ay (λP=> ?_) (λu=> ?_);have e:=z q P;simp only[R6,ci] at e;simp[P,e,bU P G.sm];refine⟨aa,GY aa ?_⟩;refine nh y (nh x ⟨⟨y,x⟩,GY b3 ?_⟩);rw[bU Q M.sm]
end
section
variable{R:bo->Prop}{G:aS}{t:T}{O:ai}{L:de}
variable[Inhabited db]
variable{a c d g k b e f:RV}{cZ i h j:Int}{l:Bool}
open Classical in
open Classical in
end
section
variable{R:bo->Prop}{G:aS}{t:T}{O:ai}{L:de}
def aCQ(X:Sl q):TB.Ev 32 [.r q,.r q] (.ret [.b J]):=by
 refine fF ?_;simp[T44,X.len];refine cj (Y q.ac) (λ_ V=>V=[]) ⟨0,rfl,aa,rfl⟩ ?_;rintro i _ W rfl;simp[X.len];intro W;simp[bU W X.sm,W]
structure Dk(d c k:RV):Prop where
 sc:Sl d
 sk:Sl c
 so:Sl k
 kk:∀i<Y c.ac,Sl (cr 76 c i)
 k1:∀row∈c.ac,Y row=1
 o1:∀row∈k.ac,Y row=1
variable[Inhabited db]
variable{d c k:RV}{cZ h j:Int}{cl:Bool}{r:Nat}
def aCR(D:Dk d c k):TB.Ev 11 [.r d,.i cZ,.r c,.r k,.b cl,.r d,.i cZ,.r c,.r k,.b cl] (.ret [.b J]):=by
 refine fF ?_;have W:=asx D.sc D.sc rfl λ_ _=>rfl
 have V:=asx D.so D.so rfl λ_ _=>rfl
 simp[agq,bi W,bi V,D.sk.len];refine cj (Y c.ac) (λ_ Q=>Q=[]) ⟨0,rfl,aa,rfl⟩ ?_;rintro i _ X rfl;simp[D.sk.len];intro X;have g:=aCQ (D.kk i X);simp only[cr] at g;simp[bi g,bU X D.sk.sm,X]
open Classical in
open Classical in
variable{e f l m n:RV}
end
section
variable{R:bo->Prop}{G:aS}{t:T}{O:ai}{L:de}
variable[Inhabited db]
variable{a c d g k b e f:RV}{cZ:Int}{l:Bool}
end
section
variable{R:bo->Prop}{P:aS}{t:T}{O σ:ai}{L:de}
def jo(O σ:ai):Prop:=(∃a,σ.i=O.i++a)/\∃b,σ.r=O.r++b
def jo.refl:jo O O:=⟨⟨[],av⟩,[],av⟩
def jo.trans{X:ai}(h:jo O σ)(k:jo σ X):jo O X:=by
 obtain⟨⟨a,W⟩,b,V⟩:=h;obtain⟨⟨c,Q⟩,d,P⟩:=k;exact⟨⟨a++c,by rw[Q,W,A6]⟩,b++d,by rw[P,V,A6]⟩
def jo.add(x:XV):jo O (O.add x):=by
 cases x;exact⟨⟨_,rfl⟩,[],by simp[ai.add]⟩;exact⟨⟨[],by simp[ai.add]⟩,[],by simp[ai.add]⟩;exact⟨⟨[],by simp[ai.add]⟩,_,rfl⟩
def jo.ext:∀(X:bq)(O:ai),jo O (O.ext X)
 |[],_=>.refl
 |x::X,O=>(jo.add x).trans (jo.ext X (O.add x))
def jo.iv(h:jo O σ)(W:X<Y O.i):σ.i.getD X 0=O.i.getD X 0:=by
 obtain⟨⟨a,V⟩,_⟩:=h;rw[V];simp[cz,dH W]
def jo.rv(h:jo O σ){k:Nat}(X:k<Y O.r):σ.rv k=O.rv k:=by
 obtain⟨_,b,W⟩:=h;unfold ai.rv;rw[W];simp[cz,dH X]
def aCS{l:aC}(h:O.r=l++[q])(W:Y l=X):O.rv X=q:=by
 unfold ai.rv;rw[h];simp[cz,<-W]
def vPz{v:RV}(W:Y O.r=X):(O.add (.r v)).rv X=v:=aCS rfl W
def ahX:∀(n:Nat)(t:T),T.wp TB.Ev R (RA n t) O L=T.wp TB.Ev R t O L
 |0,_=>rfl
 |n+1,t=>by rw[RA,xp,ahX n t];simp[BE.ab]
def qi(V:RV)(i:Nat):aC:=(fw 13).map λq=>.mk (.int I (ci V i q)) []
def jG(X:aC):RV:=cG (.sl 76) (X.getD 0 default)
def lF:au->List au
 |[]=>[[]]
 |X::W=>(fw (jG X).ac.length).flatMap λi=>(lF W).map (qi (jG X) i::·)
def CO(X:aC)(W:au)(i:Nat):List au:=(fw i).flatMap λi=>(lF W).map (qi (jG X) i::·)
def Sc(X:aC)(W:au)(i:Nat):CO X W (i+1)=CO X W i++(lF W).map (qi (jG X) i::·):=by
 simp[CO,avh]
def atj(X:aC)(W:au):lF (X::W)=CO X W (jG X).ac.length:=rfl
def YS(W:aC)(X:au):∀i,(CO W X i).length=i*(lF X).length
 |0=>by simp[CO]
 |i+1=>by rw[Sc,gc,YS W X i,qX,pz];omega
structure Lvl(d:Nat)(O:ai)(p:au)(S:RV):Prop where
 li:Y O.i=12+d
 lr:Y O.r=16+3*d
 lp:Y p=d
 prev:∀j<d,∀σ,jo O σ->(GF j).map (C.cd σ)=p.getD j []
 da:O.rv (uo d)=S
def ahY(d:Nat):uo d<16+3*d:=by cases d<;>simp only[uo]<;>omega
def aCT{d:Nat}{S:RV}{i:Nat}(X:σ.rv (uo d)=S)(W:σ.i.getD (12+d) 0=(i:Int)):(GF d).map (C.cd σ)=qi (jG (S.ac.getD 0 [])) i:=by
 simp only[GF,qi,ov];refine jT λq V=> ?_
 simp only[Function.comp,C.cd,K.ab,RE.rv,X,W,jG,ci];rfl
variable[Inhabited db]
variable{g A D G H w re s:RV}{cZ ak:Int}{f:au->aC}{o:au->Int}
structure NS(g A D G H w:RV)(cZ ak:Int)(O:ai):Prop where
 a26:∀σ,jo O σ->(oV [(.agg (Nw++[(.ah (.v 5)),(.ah (.v 6)),(.ah (.v 7)),(.ah (.v 8)),(.ah (.v 9))])),(.int I (.v 6))]).map (C.xv σ)=dZ g A D G H++[.i cZ]
 gE:∀σ,jo O σ->∀u z y,(oV [(.agg Nw),(.agg [(.ah (.v 5))]),(.ah (.v u)),(.int I (.len (.v 10))),(.ah (.v 13)),(.ah (.v z)),(.ah (.v y))]).map (C.xv σ)=wk++[.r g,.r (σ.rv u),.i ak,.r w,.r (σ.rv z),.r (σ.rv y)]
def NS.mono(h:NS g A D G H w cZ ak O)(k:jo O σ):NS g A D G H w cZ ak σ:=⟨λX q=>h.a26 X (k.trans q),λX q=>h.gE X (k.trans q)⟩
structure Sd(g s w re:RV)(ak:Int)(f:au->aC)(o:au->Int):Prop where
 ans:∀c:au,Y c<=64->∃b M F S V B,f c=[.mk (.int I b) [],M,F,S,V,B]/\TB.Ev 17 (wk++[.r g,.r s,.i ak,.r w,.r (aG c),.r re]) (.ret [.i b,.r M,.r F,.r S,.r V,.r B,.i (o c)])
def aCU{a:au}(hB:NS g A D G H w cZ ak σ)(a4:TB.Ev 39 (dZ g A D G H++[.i cZ]) (.ret [.r s]))(M:Sd g s w re ak f o)(hc:Y B<=64)
  (li:Y σ.i=13+X)(p:Y σ.r=21+5*X)(hz:σ.rv (20+5*X)=aG B)(af:σ.rv (17+3*X)=re)(hA:σ.rv (16+3*X)=aG a)(hi:σ.i.getD (12+X) 0=(x:Int))(hl:Y a+1<=536870912)
  (hf:∀e,e≠0->R (.ret [.r (aG []),.i e]))(n:o B=0->JC (zW (2+X) L) [.i (aF .add I (x:Int) 1),.r (aG (a++[f B])),.r re]):T.wp TB.Ev R (acT X) σ L:=by
 obtain⟨b,N,F,S,V,W,ha,a9⟩:=M.ans B hc;unfold acT;rw[agP,hB.a26 σ .refl,bi a4,agQ];refine⟨rfl, ?_⟩;have z:jo σ (σ.add (.r s)):=.add _;show T.wp TB.Ev R _ (σ.add (.r s)) L;rw[agP,hB.gE _ z,vPz p,z.rv aa,z.rv aa,hz,af,bi a9,agQ];refine⟨rfl, ?_⟩;generalize m:(σ.add (.r s)).ext [.i b,.r N,.r F,.r S,.r V,.r W,.i (o B)]=Q;have e2:jo (σ.add (.r s)) Q:=m▸jo.ext _ _;have l:Q.i=σ.i++[b,o B]:=by rw[<-m];simp[ai.ext,ai.add]
 have ag:Q.r=σ.r++[s,N,F,S,V,W]:=by rw[<-m];simp[ai.ext,ai.add]
 have ba:Q.i.getD (13+X) 0=b:=by rw[l];simp[cz,<-li]
 have k:Q.i.getD (14+X) 0=o B:=by rw[l,show 14+X=Y σ.i+1 from aa];simp[cz]
 have P:∀q v,[s,N,F,S,V,W][q]?=U v->Q.rv (21+5*X+q)=v:=λq v hq=>by
  unfold ai.rv;rw[ag,<-p];simp[cz,iE,hq]
 have al:=P 1 N rfl;have an:=P 2 F rfl;have a0:=P 3 S rfl;have a1:=P 4 V rfl;have a3:=P 5 W rfl;rw[show 21+5*X+1=22+5*X from aa] at al;rw[show 21+5*X+2=23+5*X from aa] at an;rw[show 21+5*X+3=24+5*X from aa] at a0;rw[show 21+5*X+4=25+5*X from aa] at a1;rw[show 21+5*X+5=26+5*X from aa] at a3;have j:Y Q.r=27+5*X:=by rw[ag];simp[p];omega
 have h:=z.trans e2;have rA:Q.rv (16+3*X)=aG a:=(h.rv aa).trans hA;have rR:Q.rv (17+3*X)=re:=(h.rv aa).trans af;have iI:Q.i.getD (12+X) 0=(x:Int):=(h.iv aa).trans hi;rw[Ny];refine ay (λy=> ?_) (λhn=> ?_);have y:o B≠0:=by
  simp only[BE.ab,K.ab,k,fy] at y;simpa using y
 rw[ahX,RD];show R (.ret [.r (aG []),.i (Q.i.getD (14+X) 0)]);rw[k];exact hf (o B) y;have h0:o B=0:=by
  simp only[BE.ab,K.ab,k,fy] at hn;simpa using hn
 have n:=n h0;rw[xp];refine⟨rfl, ?_⟩;rw[GI];have n1:gv (.lit [[(.int I (.v (13+X))),(.ah (.v (22+5*X))),(.ah (.v (23+5*X))),(.ah (.v (24+5*X))),(.ah (.v (25+5*X))),(.ah (.v (26+5*X)))]]) Q=aG [f B]:=by
  rw[JF];simp only[LE.ac,dU,qn,C.cd,K.ab,RE.rv,ba,al,an,a0,a1,a3,ha]
 rw[n1];have u:jo Q (Q.add (.r (aG [f B]))):=.add _;rw[xp];refine⟨?_, ?_⟩;simp only[BE.ab,K.ab,RE.rv,u.rv (show 16+3*X<Y Q.r from aa),rA,vPz j,NC,fy];simp only[lH,E0,aw,cm];omega;rw[GI];have n2:gv (.kJ (.ah (.v (16+3*X))) (.ah (.v (27+5*X)))) (Q.add (.r (aG [f B])))=aG (a++[f B]):=by
  rw[JF];simp only[LE.ac,RE.rv,u.rv (show 16+3*X<Y Q.r from aa),rA,vPz j,AM]
 rw[n2,ahX,agR];have e5:jo (Q.add (.r (aG [f B]))) ((Q.add (.r (aG [f B]))).add (.r (aG (a++[f B])))):=.add _;have l5:(Q.add (.r (aG [f B]))).r.length=28+5*X:=by simp[ai.add,j];omega
 simp only[dU,qn,C.xv,K.ab,RE.rv,vPz l5,(u.trans e5).rv (show 17+3*X<Y Q.r from aa),rR];rw[(u.trans e5).iv (show 12+X<Y Q.i by rw[l];simp;omega),iI];exact n
def atm{d:Nat}{S:RV}{p x a:au}{W:ai}{i:Nat}(N:NS g A D G H w cZ ak W)(F:TB.Ev 39 (dZ g A D G H++[.i cZ]) (.ret [.r s]))(M:Sd g s w re ak f o)(X:Lvl d O p S)(B:jo O W)(hd:d<=60)(hx:Y x=d+1)(z:∀j<d,x.getD j []=p.getD j [])
  (y:Y W.i=13+d)(lr:Y W.r=19+3*d)(u:W.rv (17+3*d)=re)(q:W.rv (16+3*d)=aG a)(n:W.i.getD (12+d) 0=(i:Int))(l:Y a+1<=536870912)
  (k:∀e,e≠0->R (.ret [.r (aG []),.i e]))(h:o x=0->JC (zW (2+d) L) [.i (aF .add I (i:Int) 1),.r (aG (a++[f x])),.r re]):
  ∀(j m:Nat)(σ:ai),m+j=d+1->j<=d->jo W σ->σ.i=W.i->Y σ.r=19+3*d+2*m->σ.rv (18+3*d+2*m)=aG (x.drop j)->T.wp TB.Ev R (RC d j m) σ L
 |0,m,σ,hm,_,e,Q,V,P=>by
  rw[RC];refine aCU (N.mono e) F M aa (by rw[Q];exact y) (by rw[V];omega) ?_ ((e.rv aa).trans u) ((e.rv aa).trans q) (by rw[Q];exact n) l k h;rw[show 20+5*d=18+3*d+2*m from aa,P];rfl
 |j+1,m,σ,hm,hj,e,Q,V,P=>by
  rw[RC,xp];refine⟨rfl, ?_⟩;have af:x.getD j []::x.drop (j+1)=x.drop j:=by
   rw[CU (i:=j) aa];simp[cz,cS (show j<Y x from aa)]
  have n1:gv (.lit [GF j]) σ=aG [x.getD j []]:=by
   rw[JF];simp only[LE.ac,dU,qn];rw[X.prev j aa σ (B.trans e),z j aa]
  rw[GI,n1];have c:jo σ (σ.add (.r (aG [x.getD j []]))):=.add _;have b:=vPz (v:=aG [x.getD j []]) V;have v2:=(c.rv (show 18+3*d+2*m<Y σ.r from aa)).trans P;rw[xp];refine⟨?_, ?_⟩;simp only[BE.ab,K.ab,RE.rv,b,v2,NC,fy];simp only[lH,E0,C1,aw,cm];omega;rw[GI];have n2:gv (.kJ (.ah (.v (19+3*d+2*m))) (.ah (.v (18+3*d+2*m)))) (σ.add (.r (aG [x.getD j []])))=aG (x.drop j):=by
   rw[JF];simp only[LE.ac,RE.rv,b,v2,AM];rw[<-af];rfl
  rw[n2];have l5:(σ.add (.r (aG [x.getD j []]))).r.length=20+3*d+2*m:=by simp[ai.add,V];omega
  refine atm N F M X B hd hx z y lr u q n l k h j (m+1) _ aa aa ((e.trans c).trans (.add _)) Q (by simp[ai.add,V];omega) ?_;rw[show 18+3*d+2*(m+1)=20+3*d+2*m from aa];exact vPz l5
def atn(bg:TB.Ev 39 (dZ g A D G H++[.i cZ]) (.ret [.r s]))(M:Sd g s w re ak f o)(hf:∀e,e≠0->R (.ret [.r (aG []),.i e])):
  ∀(n d:Nat)(O:ai)(p:au)(S:RV)(V:aC)(W z:au)(L:de),NS g A D G H w cZ ak O->Lvl d O p S->Sl S->S.ac=V::W->Y S.ac<=n->d+n<=60->(∀V∈S.ac,Sl (jG V))->
   (Yg d).map (C.xv O)=[.i 0,.r (aG z),.r re]->Y z+(lF S.ac).length<=536870912->
   (∀c:PC,c.ax=2+d->(∀q∈lF S.ac,o (p++q)=0)->T.wp TB.Ev R (Yh d) (O.ext [.i ((jG V).ac.length:Int),.r (aG (z++(lF S.ac).map λq=>f (p++q))),.r re]) (c::L))->T.wp TB.Ev R (Yi n d) O L
 |0,d,O,p,S,V,W,z,L,hB,X,hS,B,hn,b6,hV,hI,u,m=>by
  rw[B] at hn;simp at hn
 |n+1,d,O,p,S,V,W,z,L,hB,X,hS,B,hn,b6,hV,hI,u,m=>by
  have af:Sl (jG V):=hV V (by rw[B];simp);rw[B] at u m hn;simp only[lH] at hn;rw[atj] at u m;obtain⟨N,l⟩:∃N,(jG V).ac.length=N:=⟨_,rfl⟩;rw[l] at u m;have bk:N<=140737488355328:=by rw[<-l];exact af.sm
  rw[Yi];refine cj N (λi rs=>∃a,rs=[.r (aG a),.r re]/\a=z++(CO V W i).map (λq=>f (p++q))/\∀q∈CO V W i,o (p++q)=0) (by rw[hI];exact⟨0,rfl,Hh _,z,rfl,by simp[CO],by simp[CO]⟩) ?_;rintro i _ hi ⟨a,rfl,ha,a4⟩;have b7:Y a=Y z+i*(lF W).length:=by rw[ha];simp[YS]
  rw[YS] at u;have li:=X.li;have lr:=X.lr;have e1:jo O (O.ext [.i (i:Int),.r (aG a),.r re]):=jo.ext _ _;have a9:(O.ext [.i (i:Int),.r (aG a),.r re]).i=O.i++[(i:Int)]:=by simp[ai.ext,ai.add]
  have an:(O.ext [.i (i:Int),.r (aG a),.r re]).r=O.r++[aG a,re]:=by simp[ai.ext,ai.add]
  have ct:=m;generalize b8:O.ext [.i (i:Int),.r (aG a),.r re]=Q at e1 a9 an⊢;have vi:Q.i.getD (12+d) 0=(i:Int):=by rw[a9];simp[cz,<-li]
  have vA:Q.rv (16+3*d)=aG a:=by
   unfold ai.rv;rw[an];simp[cz,<-lr]
  have vR:Q.rv (17+3*d)=re:=by
   unfold ai.rv;rw[an,show 17+3*d=Y O.r+1 from aa];simp[cz]
  have y:Q.rv (uo d)=S:=(e1.rv (by rw[lr];exact ahY d)).trans X.da;have a1:cG (.sl 76) (aU S.ac 0 0)=jG V:=by rw[B];rfl
  have lS:lenOf S.val=((Y W+1:Nat):Int):=by rw[hS.len,B];rfl
  rw[Ny];refine ay (λag=> ?_) (λca=> ?_)
  rotate_left
  simp only[BE.ab,K.ab,RE.rv,vi,y,a1,af.len,l,fy,cm] at ca;have cc:i=N:=aa;subst cc;rw[<-b8,ha];exact m _ rfl a4;simp only[BE.ab,K.ab,RE.rv,vi,y,a1,af.len,l,fy,cm] at ag;have ag:i<N:=aa;have bl:(i+1)*(lF W).length<=N*(lF W).length:=EV _ ag;rw[pz] at bl;rw[xp];refine⟨?_, ?_⟩;simp only[BE.ab,K.ab,RE.rv,vi,y,a1,af.len,l,fy,aw,cm];omega;rw[xp];refine⟨?_, ?_⟩;simp only[BE.ab,K.ab,RE.rv,vi,y,a1,af.len,l,fy,aw,cm];omega;rw[xp];refine⟨?_, ?_⟩;simp only[BE.ab,K.ab,RE.rv,y,lS,fy,cm];omega;rw[GI];have n1:gv (.sub (.ah (.v (uo d))) (.c 1) (.len (.v (uo d)))) Q=aG W:=by
   rw[JF];simp only[LE.ac,K.ab,RE.rv,y,lS,B];simp
  rw[n1];have e2:jo Q (Q.add (.r (aG W))):=.add _;have ba:Y Q.r=18+3*d:=by rw[an];simp[lr];omega
  have cf:Y Q.i=13+d:=by rw[a9];simp[li];omega
  have al:=vPz (v:=aG W) ba;have wS:(Q.add (.r (aG W))).rv (uo d)=S:=(e2.rv (by rw[ba];have:=ahY d;omega)).trans y;have wA:(Q.add (.r (aG W))).rv (16+3*d)=aG a:=(e2.rv aa).trans vA;have wR:(Q.add (.r (aG W))).rv (17+3*d)=re:=(e2.rv aa).trans vR;have wi:(Q.add (.r (aG W))).i.getD (12+d) 0=(i:Int):=vi;have bs:(Q.add (.r (aG W))).i.length=13+d:=cf;have k:(Q.add (.r (aG W))).r.length=19+3*d:=by simp[ai.add,ba];omega
  generalize Q.add (.r (aG W))=P at e2 al wS wA wR wi bs k⊢;have a3:=e1.trans e2;have bt:∀σ,jo P σ->(GF d).map (C.cd σ)=qi (jG V) i:=λσ e=>by
   have:=aCT (σ:=σ) (d:=d) (S:=S) (i:=i) ((e.rv (by have:=ahY d;omega)).trans wS) ((e.iv aa).trans wi);rw[B] at this;exact this
  rw[Ny];refine ay (λh=> ?_) (λbx=> ?_);simp only[BE.ab,K.ab,RE.rv,al,NC,fy] at h;have h:W=[]:=CW.1 (by simpa using h);subst h;rw[xp];refine⟨rfl, ?_⟩;have m1:gv (.lit [GF d]) P=aG [qi (jG V) i]:=by
   rw[JF];simp only[LE.ac,dU,qn];rw[bt P .refl]
  rw[GI,m1];have e3:jo P (P.add (.r (aG [qi (jG V) i]))):=.add _;have b0:=vPz (v:=aG [qi (jG V) i]) k;rw[xp];refine⟨?_, ?_⟩;simp only[BE.ab,K.ab,RE.rv,b0,NC,fy];simp;have m2:gv (.kJ (.ah (.v (19+3*d))) (.lit [])) (P.add (.r (aG [qi (jG V) i])))=aG [qi (jG V) i]:=by
   rw[JF];simp only[LE.ac,RE.rv,b0,AM];rfl
  rw[GI,m2];have l3:(P.add (.r (aG [qi (jG V) i]))).r.length=20+3*d:=by simp[ai.add,k];omega
  have lp:=X.lp;refine atm (x:=p++[qi (jG V) i]) (a:=a) (hB.mono a3) bg M X a3 aa (by simp[lp]) (λj hj=>by simp[cz,dH (show j<Y p from aa)]) bs k wR wA wi (by simp only[lF,lH,E0] at u b7 bl;omega) hf (λh=> ?_) d 1 _ aa (b9 _) (e3.trans (.add _)) rfl (by simp[ai.add,k]) ?_;simp only[zW,cN];rw[bU ag bk];refine⟨_,rfl, ?_, ?_⟩;rw[ha,Sc];simp[lF];intro q F;rw[Sc] at F;rcases eV.1 F with F|F;exact a4 q F;simp only[lF,dU,qn,J1] at F;subst F;exact h;rw[show 18+3*d+2*1=20+3*d from aa,vPz l3,auT aa,aiL aa];rfl;simp only[BE.ab,K.ab,RE.rv,al,NC,fy] at bx;obtain⟨b,bb,b1⟩:∃b bb,W=b::bb:=by
   cases W with
   |nil=>simp at bx
   |cons r q=>exact⟨r,q,rfl⟩
  have b2:BE.ab P (.cmp .lss (.c 0) (.len (.v (18+3*d))))=true:=by
   simp only[BE.ab,K.ab,RE.rv,al,NC,fy,cm,b1,lH];omega
  rw[xp];refine⟨b2, ?_⟩;rw[xp];refine⟨b2, ?_⟩;have b3:=hS.sm;rw[B] at b3;simp only[lH] at b3;refine atn bg M hf n (d+1) P (p++[qi (jG V) i]) (aG W) b bb a _ (hB.mono a3) ⟨aa,aa,by simp[X.lp],λj hj σ e=> ?_,al⟩ (EI aa) b1 (by simp only[AM];omega) aa (λq F=>hV q (by rw[B];exact CX _ F)) ?_ (by simp only[AM];omega) ?_;by_cases b4:j<d;rw[X.prev j b4 σ (a3.trans e)];simp[cz,dH (show j<Y p by rw[X.lp];exact b4)];have:j=d:=aa;subst this;rw[bt σ e];simp[cz,<-X.lp];simp only[Yg,dU,qn,C.xv,K.ab,RE.rv,wA,wR];intro c hc b5;simp only[AM] at b5⊢;rw[Yh,agR];have ch:¬c.ax=2+d:=aa;simp only[zW,ch,gf,cN];have e3:jo P (P.ext [.i ((jG b).ac.length:Int),.r (aG (a++(lF W).map λq=>f (p++[qi (jG V) i]++q))),.r re]):=jo.ext _ _;have bf:(P.ext [.i ((jG b).ac.length:Int),.r (aG (a++(lF W).map λq=>f (p++[qi (jG V) i]++q))),.r re]).r=P.r++[aG (a++(lF W).map λq=>f (p++[qi (jG V) i]++q)),re]:=by simp[ai.ext,ai.add]
  generalize P.ext [.i ((jG b).ac.length:Int),.r (aG (a++(lF W).map λq=>f (p++[qi (jG V) i]++q))),.r re]=O3 at e3 bf⊢;have cl:O3.rv (19+3*d)=aG (a++(lF W).map λq=>f (p++[qi (jG V) i]++q)):=by
   unfold ai.rv;rw[bf];simp[cz,<-k]
  have cn:O3.rv (20+3*d)=re:=by
   unfold ai.rv;rw[bf,show 20+3*d=Y P.r+1 from aa];simp[cz]
  simp only[dU,qn,C.xv,K.ab,RE.rv,cl,cn,(e3.iv (show 12+d<Y P.i from aa)).trans wi];rw[bU ag bk];refine⟨_,rfl, ?_, ?_⟩;rw[ha,Sc];simp[A6];intro q F;rw[Sc] at F;rcases eV.1 F with F|F;exact a4 q F;obtain⟨q',cp,rfl⟩:=iq.1 F;have:=b5 q' cp;simpa[A6] using this
end
section
variable{R:bo->Prop}{G:aS}{t:T}{O:ai}{L:de}
variable[Inhabited db]
variable{l u d a co j v w:RV}{cZ k:Int}{cl:Bool}
def aCV(h:fp)(X:40<Y bu.ac):TB.Ev 6 (dZ l u d a co) (.ret [.b E]):=by
 refine fF ?_;unfold GD;simp only[dZ,wk,ez,eW];rw[Ny];refine nh ?_ (by rw[RD];rfl);show decide (_>_)=J;simp only[cm];show lenOf bu.val>40;rw[h.sg.len];omega
def aCW(h:fp)(X:TB.Ev 6 (dZ l u d a co) (.ret [.b J])):Y bu.ac<=40:=Classical.byContradiction λW=>by
 have:=P2 X (aCV h aa);injection this with this;injection this with this;injection this with this;cases this
def aCX(h:fp){W:RV}(P:JP p q W)(H:∀i<Y W.ac,Sl (cr 134 W i)):∀i<Y aL.ac,(cr 134 W i).ac.length<=Y bu.ac:=λi V=>by
 by_cases N:cb q i 0=J;have G:=P.iw i V N;have Q:=(ahq h i p (cr 134 W i) (H i (by rw[P.lr];exact V))).2;rw[G] at Q;have M:fW i p=0:=Classical.byContradiction λX=>X (Q.c X).symm
 have F:vM (dR i p) (cr 134 W i):=Classical.byContradiction λX=>by have:=(Q.k M).2 X;omega
 rw[<-F.1,dR,aJ M,mQ];exact ND _;rw[P.els i V (by simpa using N)];simp
def vQ(a j:RV)(k:Int):Int:=if Y a.ac<=Y j.ac\/k<1\/((cr 69 a (Y j.ac)).ac.length:Int)<k then 1 else 0
def aCY(h:fp)(s:rV l u d a co)(p:AT l u d a co)(D:Dk j v w)(f:AP d a j v w cZ):TB.Ev 36 (dZ l u d a co++[.r j,.i cZ,.r v,.r w,.b cl,.i k]) (.ret [.i (vQ a j k)]):=by
 have X:=ahW (cl:=cl) h s p D.sc D.sk D.so D.kk f;refine fF ?_;simp only[wk,dZ,ez,eW] at X;simp[agJ,dZ,wk,bi X,D.sc.len,s.sr.len];refine ay (λQ=> ?_) (λQ=> ?_);rw[vQ,aJ (.inl aa)];refine ay (λW=> ?_) (λW=> ?_);rw[vQ,aJ (.inr (.inl W))];have P:Y j.ac<Y a.ac:=aa;have e:=(s.CH (Y j.ac) P).len;simp only[cr] at e;simp only[e];refine⟨aa,ay (λV=> ?_) (λV=> ?_)⟩;rw[vQ,aJ (.inr (.inr (by simpa[cr] using V)))];rw[vQ,aQ (by simp only[cr];omega)]
def aCZ(h:fp)(s:rV l u d a co)(p:AT l u d a co){c:Nat}(X:c<Y d.ac):∃o,TB.Ev 39 (dZ l u d a co++[.i c]) o/\∃m:au,o=.ret [.r (aG m)]/\Y m<=12:=by
 have V:=s.Yw c X;have e:=V.len;have Q:=p.cZ.len c X;have P:=p.cZ.idx c X;have G:=p.EN.rl;simp only[cr] at e;refine dV ?_;simp[agI,dZ,wk,s.sc.len,X,e];refine cj (cr 3 d c).ac.length (λi N=>∃m:au,N=[.r (aG m)]/\Y m=i) ⟨0,rfl,aa,[],rfl,rfl⟩ ?_;rintro i _ F ⟨m,rfl,M⟩;simp[s.sc.len,s.sb.len,X,e];refine ay (λW=> ?_) (λD=> ?_);have g:=P i W;simp only[ci,cr] at g;rw[bU (n:=(cr 3 d c).ac.length) (show i<(cr 3 d c).ac.length from W) V.sm];refine⟨W,g, ?_,_,rfl,by simp[M]⟩;omega;have H:=Q;simp only[cr] at H;exact⟨m,rfl,aa⟩
end
section
variable{R:bo->Prop}{Q:aS}{t:T}{O:ai}{L:de}
variable[Inhabited db]
variable{wg G A v H m d N:RV}{cZ k:Int}{cl:Bool}
def bR(f:Nat->Bool)(n:Nat):au:=(fw n).map λi=>[RV.mk (.bool (f i)) []]
def YT:(bR W X).length=X:=by simp[bR]
def aC0(V:x<X):gH (aU (bR W X) (x:Int) 0).val=W x:=by
 simp[aU,bR,cz,V,gH]
def uy(f:Nat->Bool)(X:RV)(n i:Nat):au:=(fw n).map λq=>[if decide (q<i)&&f q then cr 134 X q else aG []]
def ahZ:(uy W q X x).length=X:=by simp[uy]
def aC1:uy W q X 0=eN X [aG []]:=by
 simp[uy,List.map_const']
def aC2(Q:W x=J):(uy W q X x).modify x (λP=>gZ P 0 [cr 134 q x])=uy W q X (x+1):=by
 refine ata X x _ _ _ λV _=> ?_
 by_cases e:V=x;subst e;simp[Q,gZ];have:(V<x+1)<->V<x:=aa;simp[e,this]
def aC3(Q:W x=E):uy W q X (x+1)=uy W q X x:=by
 unfold uy;refine jT λV _=> ?_
 by_cases e:V=x;subst e;simp[Q];have:(V<x+1)<->V<x:=aa;simp[this]
def aC4(V:x<X)(Q:Sl (cr 134 q x)):cr 134 (aG (uy W q X X)) x=if W x then cr 134 q x else aG []:=by
 unfold cr;simp only[AM,aU,uy,v7,cz,dW,CZ V];simp[V];split;obtain⟨a,X,c,P⟩:=Q.sl;have:cG (.sl 134) (cr 134 q x)=cr 134 q x:=by
  simp only[cG,P]
 simpa[cr,aU,cz] using this;rfl
def EO:au->Nat
 |[]=>1
 |X::W=>(jG X).ac.length*EO W
def ato:∀l:au,(lF l).length=EO l
 |[]=>rfl
 |W::X=>by rw[atj,YS,ato X];rfl
def aC5(W:X<Y B):EO (B.drop X)=(jG (B.getD X [])).ac.length*EO (B.drop (X+1)):=by
 rw[CU W];simp[EO,cz,cS W]
def atp(i:Nat):jG (q.ac.getD i [])=cr 76 q i:=by
 simp only[jG,cr,aU,v7]
def aC6(h:fp)(ak:Int){bc mv re:RV}(H:Sl bc)(G:Sl mv)(D:Sl re)(A:∀i<Y re.ac,Sl (cr 134 re i)/\(cr 134 re i).ac.length<=100):∃W P,Sd wg bc mv re ak W P/\∀c:au,Y c<=64->YN ak bc mv (aG c) re (.ret ([.i (bn ((W c).getD 0 default).val)]++((W c).drop 1).map XV.r++[.i (P c)])):=by
 have z:∀c:au,∃x:aC×Int,Y c<=64->(∃b M F S V B,x.1=[.mk (.int I b) [],M,F,S,V,B]/\TB.Ev 17 (wk++[.r wg,.r bc,.i ak,.r mv,.r (aG c),.r re]) (.ret [.i b,.r M,.r F,.r S,.r V,.r B,.i x.2]))/\YN ak bc mv (aG c) re (.ret ([.i (bn (x.1.getD 0 default).val)]++(x.1.drop 1).map XV.r++[.i x.2])):=λc=>by
  by_cases X:Y c<=64;obtain⟨o,g,Q⟩:=t13 h ak wg bc mv (aG c) re H G (EI aa) D A;rcases id Q with⟨e,u,rfl⟩|⟨y,w,v,rfl,s⟩;exact⟨⟨[.mk (.int I 0) [],aG [],aG [],aG [],aG [],aG []],e⟩,λ_=>⟨⟨_,_,_,_,_,_,rfl,g⟩,Q⟩⟩;exact⟨⟨[.mk (.int I ak) [],aG mv.ac,aG c,aG y,aG w,aG v],0⟩,λ_=>⟨⟨_,_,_,_,_,_,rfl,g⟩,Q⟩⟩;exact⟨⟨[],0⟩,λq=>aZ q X⟩
 obtain⟨F,N⟩:=Classical.axiomOfChoice z;exact⟨λc=>(F c).1,λc=>(F c).2,⟨λc X=>(N c X).1⟩,λc X=>(N c X).2⟩
def atq(h:fp)(s:rV wg G A v H)(p:AT wg G A v H)(D:Dk m d N)(f:AP A v m d N cZ){mf:Nat->Bool}{act:au->aC}{fe:au->Int}(cc:Y B<=12)
  (af:vQ v m k=0->TB.Ev 37 (dZ wg G A v H++[.r m,.i cZ,.r d,.r N,.b cl,.i k]) (.ret [.r (aG (bR mf (Y aL.ac)))]))(a1:TB.Ev 39 (dZ wg G A v H++[.i cZ]) (.ret [.r (aG B)]))
  (M:vQ v m k=0->Sd wg (aG B) (aG (bR mf (Y aL.ac))) (aG (uy mf (EM (cr 69 v (Y m.ac)) (k-1).toNat) (Y aL.ac) (Y aL.ac))) (Y m.ac) act fe):
  ∃o,TB.Ev 13 (dZ wg G A v H++[.r m,.i cZ,.r d,.r N,.b cl,.i k]) o/\((∃e,e≠0/\o=.ret [.r (aG []),.i e])\/(vQ v m k=0/\(∀q∈lF d.ac,fe q=0)/\o=.ret [.r (aG ((lF d.ac).map act)),.i 0])):=by
 obtain⟨P,hP⟩:∃P:bo->Prop,∀o,P o<->((∃e,e≠0/\o=.ret [.r (aG []),.i e])\/(vQ v m k=0/\(∀q∈lF d.ac,fe q=0)/\o=.ret [.r (aG ((lF d.ac).map act)),.i 0])):=⟨_,λ_=>Iff.rfl⟩
 suffices bf:∃o,TB.Ev 13 (dZ wg G A v H++[.r m,.i cZ,.r d,.r N,.b cl,.i k]) o/\P o by
  obtain⟨o,g1,g2⟩:=bf;exact⟨o,g1,(hP o).1 g2⟩
 have ag:∀e,e≠0->P (.ret [.r (aG []),.i e]):=λe he=>(hP _).2 (.inl ⟨e,he,rfl⟩)
 have a4:=aCY (cl:=cl) (k:=k) h s p D f;have lk:=f.NH;have cf:=p.EN.rl;have bg:∀i<Y d.ac,1<=(cr 76 d i).ac.length/\(cr 76 d i).ac.length<=2:=λi l=>⟨(f.YF i l).one,(f.YF i l).two⟩
 refine dV ?_;simp only[wk,dZ,ez,eW] at a4;simp[agN,dZ,wk,bi a4];refine ay (λn=> ?_) (λn=>ag _ n);have af:=af n;have M:=M n;have bk:Y m.ac<Y v.ac/\1<=k/\k<=(cr 69 v (Y m.ac)).ac.length:=by
  unfold vQ at n;split at n;cases n;omega
 obtain⟨al,ch,cn⟩:=bk;obtain⟨W,bl⟩:∃W:Nat,k=W+1:=⟨(k-1).toNat,aa⟩;subst bl;have bs:((W:Int)+1-1).toNat=W:=aa;rw[bs] at M;have an:W<(cr 69 v (Y m.ac)).ac.length:=aa;refine cj (Y d.ac) (λi g=>∃q:Nat,g=[.i q]/\q*EO (d.ac.drop i)=EO d.ac/\1<=q/\q<=256) ⟨0,rfl,aa,1,rfl,av,aa,aa⟩ ?_;rintro i _ l ⟨q,rfl,hq,bt,bx⟩;simp[D.sk.len];refine ay (λQ=> ?_) (λb0=> ?_);have e:=(D.kk i Q).len;have el:=bg i Q;have ed:=aC5 Q;rw[atp] at ed;simp only[cr] at e el ed;simp only[e];obtain⟨w,hw⟩:∃w,(cG (.sl 76) (aU d.ac (i:Int) 0)).ac.length=w:=⟨_,rfl⟩;rw[hw] at el ed⊢;have hm:aF .mul I (q:Int) (w:Int)=((q*w:Nat):Int):=by
  simp only[aF];have:q*w<=256*2:=J5 bx el.2;rw[<-avb,cJ aa aa]
 rw[hm];refine⟨Q,ay (λhb=>ag 2 dQ) (λhb=> ?_)⟩;rw[bU Q D.sk.sm];refine⟨_,rfl, ?_, ?_,aa⟩;rw[Nat.mul_assoc,<-ed];exact hq;exact J5 bt el.1;have b1:i=Y d.ac:=aa;subst b1;have cp:EO d.ac<=256:=by
  rw[aiL (b9 _)] at hq;simp only[EO,ai6] at hq;omega
 clear hq l b0;simp only[wk,dZ,ez,eW] at af;simp[bi af];rw[YT];have a9:Y aL.ac<=140737488355328:=aa;have hS:=s.CH (Y m.ac) al;have eS:=hS.len;have pg:=s.AO (Y m.ac) al W an;have pp:=p.GX.AO (Y m.ac) al W an;obtain⟨X,hB⟩:∃X,cr 69 v (Y m.ac)=X:=⟨_,rfl⟩;rw[hB] at hS eS pg pp an M;have b2:cG (.sl 69) (aU v.ac (Y m.ac:Int) 0)=X:=hB;obtain⟨RL,eR⟩:∃x,EM X W=x:=⟨_,rfl⟩;have ba:cG (.sl 67) (aU X.ac (W:Int) 1)=RL:=eR;obtain⟨-,p2,p3⟩:=pg;have lr:=pp.lr;rw[eR] at lr M;simp only[ba] at p2 p3;have k2:=p2.len;have b3:aF .sub I ((W:Int)+1) 1=(W:Int):=by
  simp only[aF];rw[cJ (by have:=hS.sm;omega) (by have:=hS.sm;omega)];omega
 refine⟨aa, ?_⟩;refine cj (Y aL.ac) (λi g=>g=[.r (aG (uy mf RL (Y aL.ac) i))]) ⟨0,rfl,aa,by show[XV.r (aG (eN _ [aG []]))]=_;rw[aC1]⟩ ?_;rintro j _ hj rfl;simp[YT,ahZ,D.sc.len,s.sr.len,b2,eS,ba,k2,lr,b3];refine ay (λQ=> ?_) (λct=> ?_);rw[aC0 Q];refine⟨Q,ay (λhm=> ?_) (λhm=> ?_)⟩;refine⟨al,an,Q, ?_⟩;rw[bU Q a9,show cG (.sl 134) (aU RL.ac (j:Int) 0)=cr 134 RL j from rfl,aC2 hm];rw[bU Q a9,aC3 (by simpa using hm)];have b4:j=Y aL.ac:=aa;subst b4;have a0:(∀q∈lF d.ac,fe q=0)->P (.ret [.r (aG ((lF d.ac).map act)),.i 0]):=λq=>(hP _).2 (.inr ⟨n,q,rfl⟩)
 have b5:=D.sk.len;by_cases hz:d.ac=[];have b6:lenOf d.val=0:=by rw[b5,hz];rfl
 refine nh b6 ?_;obtain⟨b,Mm,F,S,V,Bx,ha,bb⟩:=M.ans [] av;rw[hz] at a0;simp only[lF,J1,dU,qn,ha] at a0;simp only[wk,dZ,ez,eW] at a1 bb;simp[bi a1,D.sc.len,bi bb];refine ay (λhe=> ?_) (λhe=>ag _ he);exact a0 λq hq=>by rw[hq];exact he
 have cv:0<Y d.ac:=N2.2 hz;refine GY aa ?_;refine⟨aa, ?_⟩;obtain⟨a3,g,hr⟩:∃a3 g,d.ac=a3::g:=by
  cases hk:d.ac with
  |nil=>exact aZ hk hz
  |cons r q=>exact⟨r,q,rfl⟩
 refine atn (re:=aG (uy mf RL (Y aL.ac) (Y aL.ac))) a1 M ag 12 0 _ [] d a3 g [] _ ⟨λσ e=> ?_,λσ e u z y=> ?_⟩ ⟨rfl,rfl,rfl,λj hj=>aZ hj (avg j),rfl⟩ D.sk hr aa aa (λcx b7=> ?_) rfl (by rw[ato];simp only[E0];omega) (λc _ b8=> ?_);obtain⟨⟨a,ha⟩,b,hb⟩:=e;obtain⟨si,sb,sr,sy⟩:=σ;simp only at ha hb;subst ha;subst hb;simp[oV,Io,Nw,C.xv,K.ab,RE.rv,ai.rv,dZ,wk];obtain⟨⟨a,ha⟩,b,hb⟩:=e;obtain⟨si,sb,sr,sy⟩:=σ;simp only at ha hb;subst ha;subst hb;simp[oV,Io,Nw,C.xv,K.ab,RE.rv,ai.rv,wk,D.sc.len];obtain⟨i,l,rfl⟩:=Zm b7;have:=D.kk i l;rw[<-atp] at this;simpa[cz,cS l] using this;rw[Yh,RD];exact a0 b8
end
section
variable{R:bo->Prop}{V:aS}{t:T}{O:ai}{L:de}
variable[Inhabited db]
variable{H Q G w N u F z:RV}{cZ k:Int}{cl:Bool}
def atr(X:vQ w u k=0):Y u.ac<Y w.ac/\1<=k/\k<=(cr 69 w (Y u.ac)).ac.length:=by
 unfold vQ at X;split at X;cases X;omega
def ats{b:Bool}:bR W X++[[RV.mk (.bool b) []]]=bR (λq=>if q=X then b else W q) (X+1):=by
 simp only[bR,avh,N5,dU,qn,cN];congr 1;refine jT λq V=> ?_
 have:=xI.1 V;rw[aQ aa]
def aC7(h:fp)(s:rV H Q G w N)(p:AT H Q G w N)(D:Dk u F z)(f:AP G w u F z cZ)(h0:vQ w u k=0):∃o,TB.Ev 37 (dZ H Q G w N++[.r u,.i cZ,.r F,.r z,.b cl,.i k]) o/\∃M,o=.ret [.r (aG (bR M (Y aL.ac)))]/\∀i<Y aL.ac,M i=J->cb (Sb (cr 69 w (Y u.ac)) (k-1).toNat) i 0=true:=by
 obtain⟨A,a3,a4⟩:=atr h0;obtain⟨X,rfl⟩:∃X:Nat,k=X+1:=⟨(k-1).toNat,aa⟩;have al:((X:Int)+1-1).toNat=X:=aa;rw[al];have y:X<(cr 69 w (Y u.ac)).ac.length:=aa;have lO:=p.GX.len;have m2:=p.EN.rl;have lk:=f.NH;obtain⟨v,an,hv,hU⟩:=as2 h (Y u.ac) p.wk (by simp[jc];omega);obtain⟨o,ag,hr⟩:=t63 h (Y u.ac) an (λx hx=>by have:=hU.ok x hx;omega) hv aa;rcases hr with⟨hz,-⟩|⟨-,m,rfl,gk⟩;exact aZ rfl hz;have ml:Y m=Y aL.ac:=gk.len;have n:Y aL.ac<=140737488355328:=aa;have l:=s.CH (Y u.ac) A;have eS:=l.len;have pg:=s.AO (Y u.ac) A X y;have pp:=p.GX.AO (Y u.ac) A X y;obtain⟨B,c⟩:∃B,cr 69 w (Y u.ac)=B:=⟨_,rfl⟩;rw[c] at l eS pg pp y;have a0:cG (.sl 69) (aU w.ac (Y u.ac:Int) 0)=B:=c;obtain⟨g,d⟩:∃g,cG (.sl 4) (aU B.ac X 0)=g:=⟨_,rfl⟩;have P:JP (Y u.ac) g (EM B X):=by rw[<-d];exact pp
 have p1:=pg.1;rw[d] at p1;have k1:=p1.len;have lm:=P.lm;have a1:aF .sub I ((X:Int)+1) 1=(X:Int):=by
  simp only[aF];rw[cJ (by have:=l.sm;omega) (by have:=l.sm;omega)];omega
 refine dV ?_;simp only[wk,ez,eW] at ag;simp[agK,dZ,wk,D.sc.len,bi ag];refine cj (Y aL.ac) (λi a=>∃x,a=[.r (aG x)]) ⟨0,rfl,aa,[],rfl⟩ ?_;rintro i _ hi ⟨x,rfl⟩;simp[ml,D.sk.len];refine ay (λW=> ?_) (λa9=> ?_);have e:=(D.kk i aa).len;simp only[cr] at e;simp only[e];refine⟨aa,ay (λhd=> ?_) (λhd=> ?_)⟩;rw[bU W n];exact⟨W,_,rfl⟩;rw[bU W n];exact⟨_,rfl⟩;refine cj (Y aL.ac) (λi a=>∃M,a=[.r (aG (bR M i))]/\∀q<i,M q=J->cb g q 0=J) ⟨0,rfl,aa,λ_=>E,rfl,aa⟩ ?_;rintro j _ hj ⟨M,rfl,af⟩;simp[ml,D.sc.len,s.sr.len,a0,eS,d,k1,lm,a1,YT];refine ay (λW=> ?_) (λba=> ?_);refine⟨W,A,y,W,ay (λhm=>⟨aa, ?_⟩) (λhm=>⟨aa, ?_⟩)⟩;rw[bU W n,ats];refine⟨_,rfl,λq hq V=> ?_⟩;by_cases e:q=j;subst e;exact hm;rw[aQ e] at V;exact af q aa V;rw[bU W n,ats];refine⟨_,rfl,λq hq V=> ?_⟩;by_cases e:q=j;subst e;simp at V;rw[aQ e] at V;exact af q aa V;have:j=Y aL.ac:=aa;subst this;exact⟨M,rfl,λq hq V=>by rw[c,Sb,d];exact af q hq V⟩
def aC8(h:fp)(s:rV H Q G w N)(p:AT H Q G w N)(D:Dk u F z)(f:AP G w u F z cZ)(ag:Y bu.ac<=40):∃o,TB.Ev 13 (dZ H Q G w N++[.r u,.i cZ,.r F,.r z,.b cl,.i k]) o/\∃a e,o=.ret [.r a,.i e]:=by
 obtain⟨c,l⟩:=Int.eq_ofNat_of_zero_le f.cast.1;have al:=f.cast.2;subst l;obtain⟨o,P,j,rfl,B⟩:=aCZ (co:=N) h s p (c:=c) aa;by_cases X:vQ w u k=0;obtain⟨A,an,a0⟩:=atr X;obtain⟨o,d,y,rfl,a1⟩:=aC7 (cl:=cl) h s p D f X;have x:(k-1).toNat<(cr 69 w (Y u.ac)).ac.length:=aa;have v:=s.AO (Y u.ac) A _ x;have n:=p.GX.AO (Y u.ac) A _ x;have m2:=p.EN.rl;have af:=aCX h n v.2.2;have lr:=n.lr;obtain⟨a3,fe,M,-⟩:=aC6 (wg:=H) h (Y u.ac) (bc:=aG j) (mv:=aG (bR y (Y aL.ac))) (re:=aG (uy y (EM (cr 69 w (Y u.ac)) (k-1).toNat) (Y aL.ac) (Y aL.ac))) (EI aa) (EI (by rw[YT];omega)) (EI (by rw[ahZ];omega)) (λi W=>by
  rw[AM,ahZ] at W;have m:Sl (cr 134 (EM (cr 69 w (Y u.ac)) (k-1).toNat) i):=v.2.2 i (by rw[<-EM,lr];exact W);rw[aC4 W m];split;exact⟨m,by have:=af i W;omega⟩;exact⟨EI av,av⟩)
 obtain⟨o,g,V⟩:=atq (k:=k) (cl:=cl) h s p D f B (λ_=>d) P (λ_=>M);refine⟨o,g, ?_⟩;rcases V with⟨e,_,rfl⟩|⟨_,_,rfl⟩;exact⟨_,_,rfl⟩;exact⟨_,_,rfl⟩;obtain⟨o,g,V⟩:=atq (k:=k) (cl:=cl) (mf:=λ_=>E) (act:=λ_=>[]) (fe:=λ_=>0) h s p D f B (λq=>aZ q X) P (λq=>aZ q X);refine⟨o,g, ?_⟩;rcases V with⟨e,_,rfl⟩|⟨_,_,rfl⟩;exact⟨_,_,rfl⟩;exact⟨_,_,rfl⟩
def aC9(h:fp)(s:rV H Q G w N)(p:AT H Q G w N)(D:Dk u F z)(f:AP G w u F z cZ)(M:Y bu.ac<=40)(B:k≠0):∃o,TB.Ev 9 (dZ H Q G w N++[.r u,.i cZ,.r F,.r z,.b J,.i k]) o/\∃a c b d l q e,o=.ret [.r a,.i c,.r b,.r d,.b l,.r q,.i e]/\e≠0:=by
 obtain⟨P,X⟩:∃P:bo->Prop,∀o,P o<->∃a c b d l q e,o=.ret [.r a,.i c,.r b,.r d,.b l,.r q,.i e]/\e≠0:=⟨_,λ_=>Iff.rfl⟩
 suffices A:∃o,TB.Ev 9 (dZ H Q G w N++[.r u,.i cZ,.r F,.r z,.b J,.i k]) o/\P o by
  obtain⟨o,y,x⟩:=A;exact⟨o,y,(X o).1 x⟩
 obtain⟨o,W,a,e,rfl⟩:=aC8 (k:=k) (cl:=J) h s p D f M;refine dV ?_;simp only[wk,dZ,ez,eW] at W;simp[Ry,dZ,wk,B,bi W];refine ay (λV=>(X _).2 ⟨_,_,_,_,_,_,_,rfl,dQ⟩) (λV=>(X _).2 ⟨_,_,_,_,_,_,_,rfl,V⟩)
def aDa(h:fp)(s:rV H Q G w N)(p:AT H Q G w N)(D:Dk u F z)(f:AP G w u F z cZ):∃a b d q,TB.Ev 9 (dZ H Q G w N++[.r u,.i cZ,.r F,.r z,.b cl,.i 0]) (.ret [.r a,.i (if Y w.ac<=Y u.ac then 0 else cZ),.r b,.r d,.b (if Y w.ac<=Y u.ac then E else cl),.r q,.i (if Y w.ac<=Y u.ac then 1 else 0)])/\(Y u.ac<Y w.ac->a=aG (u.ac++[[.mk (.int I 0) []]])/\b=aG F.ac/\d=aG z.ac/\q=aG []):=by
 have V:=ahW (cl:=cl) h s p D.sc D.sk D.so D.kk f;have m5:=p.EN.bars;have m2:=p.EN.rl;have lO:=p.GX.len;have lc:=f.calls;have lk:=f.NH;have lo:=f.YE;simp only[wk,dZ,ez,eW] at V;by_cases M:Y w.ac<=Y u.ac;refine⟨aG [],aG [],aG [],aG [], ?_,λq=>aa⟩;refine fF ?_;simp[Ry,dZ,wk,bi V,D.sc.len,s.sr.len,M]
 ·refine⟨aG (u.ac++[[.mk (.int I 0) []]]),aG F.ac,aG z.ac,aG [], ?_,λ_=>⟨rfl,rfl,rfl,rfl⟩⟩;simp only[aQ M];obtain⟨P,W⟩:∃P:bo->Prop,∀o,P o<->o=.ret [.r (aG (u.ac++[[.mk (.int I 0) []]])),.i cZ,.r (aG F.ac),.r (aG z.ac),.b cl,.r (aG []),.i 0]:=⟨_,λ_=>Iff.rfl⟩
  suffices y:∃o,TB.Ev 9 (dZ H Q G w N++[.r u,.i cZ,.r F,.r z,.b cl,.i 0]) o/\P o by
   obtain⟨o,B,x⟩:=y;rw[(W o).1 x] at B;exact B
  have v:∀A X O,A=u.ac++[[RV.mk (.int I 0) []]]->X=F.ac->O=z.ac->P (.ret [.r (aG A),.i cZ,.r (aG X),.r (aG O),.b cl,.r (aG []),.i 0]):=λA X O n m j=>(W _).2 (by rw[n,m,j])
  have g:P1 P:=λa b e c=>by
   rw[(W a).1 e,(W b).1 c];exact⟨rfl,UL _⟩
  have nl:∀{l:au},Y l<=0->l=[]:=λh=>CW.1 aa
  refine dV ?_;simp[Ry,dZ,wk,bi V,D.sc.len,D.sk.len,D.so.len,s.sr.len,M,JD,g];have b1:(Y u.ac:Int)<=536870912:=aa;have b2:(Y F.ac:Int)<=536870912:=aa;have b3:(Y z.ac:Int)<=536870912:=aa
  repeat'(first|exact b1|exact b2|exact b3|apply And.intro|intro _)
  all_goals(refine v _ _ _ ?_ ?_ ?_<;>first|rfl|exact Eq.symm pA|(rw[show u.ac=[] from pA];rfl))
def aDb(D:Dk u F z)(X:Y u.ac<=1000):Dk (aG (u.ac++[[.mk (.int I 0) []]])) (aG F.ac) (aG z.ac):=⟨EI dh,EI D.sk.sm,EI D.so.sm,D.kk,D.k1,D.o1⟩
def aDc(D:Dk u F z)(f:AP G w u F z cZ)(y:Y u.ac<Y w.ac):AP G w (aG (u.ac++[[.mk (.int I 0) []]])) (aG F.ac) (aG z.ac) cZ:=by
 have W:∀i<Y u.ac,aU (u.ac++[[RV.mk (.int I 0) []]]) (i:Int) 0=aU u.ac (i:Int) 0:=λi X=>by
  simp[aU,cz,dH X]
 refine⟨dh,f.cast,f.NH,f.YE,λi X=> ?_,λi X=> ?_⟩;simp only[AM,gc,N0] at X;by_cases e:i<Y u.ac;have:=f.call i e;simp only[ci,AM,W i e] at this⊢;exact this;have:i=Y u.ac:=aa;subst this;have:ci (aG (u.ac++[[RV.mk (.int I 0) []]])) (Y u.ac) 0=0:=by
  simp[ci,aU,cz,bn]
 rw[this];omega;obtain⟨Q,P,N,M,H,B⟩:=f.YF i X;refine⟨Q,P,N,M,H,λh=> ?_⟩;obtain⟨V,x,A⟩:=B h;refine⟨V, ?_, ?_⟩;show _<(((u.ac++[[RV.mk (.int I 0) []]]).length:Nat):Int);have:ci (aG z.ac) i 0=ci z i 0:=rfl;rw[this];simp only[gc,N0];omega;have e:=W (aF .sub I (ci z i 0) 1).toNat aa;rw[aiR V] at e;show bn (aU (u.ac++[[RV.mk (.int I 0) []]]) (aF .sub I (ci z i 0) 1) 0).val≠0;rw[e];exact A
def aDd(hS:TB.Ev 5 [] (.ret [.b J]))(h:fp)(s:rV H Q G w N)(D:Dk u F z)(X:Int)(al:0<=X/\X<=255):TB.Ev 3 (dZ H Q G w N++[.r u,.i cZ,.r F,.r z,.b cl,.i X]) (.ret [.b J]):=by
 obtain⟨P,m⟩:∃P:bo->Prop,∀o,P o<->o=.ret [.b J]:=⟨_,λ_=>Iff.rfl⟩
 suffices an:∃o,TB.Ev 3 (dZ H Q G w N++[.r u,.i cZ,.r F,.r z,.b cl,.i X]) o/\P o by
  obtain⟨o,l,W⟩:=an;rw[(m o).1 W] at l;exact l
 have V:P (.ret [.b J]):=(m _).2 rfl;obtain⟨o,W,x,rfl⟩:=aA1 h s;obtain⟨o,g3,y,rfl⟩:=aAX (cZ:=cZ) (cl:=cl) D.sc D.sk D.so D.kk;obtain⟨o,j,e,rfl,h4⟩:=aCM (cZ:=cZ) (cl:=cl) h s D.sc D.sk D.so D.kk;have v:x=J->Y bu.ac<=40:=λe=>aCW h (by rw[<-e];exact W)
 refine dV ?_;simp only[wk,dZ,ez,eW] at W j;simp[agL,dZ,wk,bi hS,bi W];cases x;simp[V];have v:=v rfl;simp[bi g3];cases y;simp[V];simp[bi j];refine ay (λe0=> ?_) (λ_=>V);obtain⟨p,f⟩:=h4 e0;have m5:=p.EN.bars;have m2:=p.EN.rl;have lO:=p.GX.len;have lc:=f.calls;have lk:=f.NH;have lo:=f.YE;obtain⟨a,b,d,q,g,a0⟩:=aDa (cZ:=cZ) (cl:=cl) h s p D f;simp only[wk,dZ,ez,eW] at g;simp[bi g,D.sc.len,D.sk.len,D.so.len,s.sr.len];refine ay (λM=> ?_) (λM=> ?_);have M:Y w.ac<=Y u.ac:=aa;simp[M,V];have c:Y u.ac<Y w.ac:=aa;have M:¬Y w.ac<=Y u.ac:=aa;obtain⟨rfl,rfl,rfl,rfl⟩:=a0 c;have B:=aDb D aa;have F2:=aDc D f c;have a1:=aCR (cZ:=cZ) (cl:=cl) B;have af:=ahW (cl:=cl) h s p B.sc B.sk B.so B.kk F2;obtain⟨A,ag⟩:∃A,A=aF .add I 1 (aF .rem I (IntKind.i64.wrap X) 8):=⟨_,rfl⟩;have a3:A≠0:=by
  rw[ag];simp only[aF];rw[cJ (n:=X) aa aa];have hm:X.tmod 8=X%8:=SE al.1;rw[hm,cJ aa aa];omega
 obtain⟨o,gC,a',c',b',d',l',q',e',rfl,a4⟩:=aC9 (k:=A) h s p D f v a3;simp only[wk,dZ,ez,eW] at af gC;simp[M,bi a1,bi af,<-ag,bi gC];have ht:(e' !=0)=true:=by simpa using a4
 rw[ht];exact⟨aa,aa,aa,aa,V⟩
end
