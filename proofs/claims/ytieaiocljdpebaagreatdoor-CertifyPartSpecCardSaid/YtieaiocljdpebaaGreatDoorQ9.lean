/- Part 9 of the proof. -/
import Derived.Test.YtieaiocljdpebaaGreatDoorQ8
set_option linter.all false
set_option maxRecDepth 100000
set_option maxHeartbeats 100000000
open Bool renaming and_eq_true->aA,or_eq_true->jy,eq_iff_iff->vx,eq_false_iff->H7,true->J,false->E
open Nat renaming le_refl->cg,zero_add->jz,le_trans->qL,zero_le->FJ,min_eq_left->OF,le_of_not_lt->T6,strongRecOn->T8,min_eq_right->aa6,le_antisymm->aa9,le_total->ajX,lt_of_le_of_ne->aw7,not_lt_zero->axf
open List renaming getElem?_eq_some_iff->cj,getElem?_eq_getElem->cL,cons_append->da,nil_append->di,getD_eq_getElem?_getD->dL,mem_cons->dS,getElem?_map->dX,getElem?_append_left->dZ,replicate->eH,mem_append->fh,range->fj,all_eq_true->f9,length_append->gU,mem_map->iL,getElem?_append_right->jd,getElem?_eq_none->ke,mem_of_getElem?->ki,map_congr_left->kJ,ext_getElem?->kK,getElem_mem->pl,length_cons->qI,length_map->qJ,mem_filter->qK,getElem?_set_ne->sI,getElem?_of_mem->ue,length_eq_zero_iff->wS,getElem?_set->wU,mem_range->wV,map->BK,mem_or_eq_of_mem_set->Fv,getElem?_replicate->Fw,getElem?_range->FB,getElem?_set_self->H0,take_of_length_le->KM,find?_cons->KP,mem_append_right->OA,getElem?_modify->OC,map_append->OG,mem_singleton->T3,length_singleton->aaV,length_range->ajO,take_add_one->axa,filter_cons->axc,length_set->axd,length->Y
open Option renaming map_some->eo,some->U
open Int renaming toNat_natCast->zR,mul_le_mul_of_nonneg_left->ajG,ofNat_inj->axn
open Prod.mk renaming injEq->FH
open Go.IntKind renaming i64->I
namespace Go.Proofs.YtieaiocljdpebaaGreatDoor.Y
open Go.RowKit
noncomputable section
variable{N:Int}{X P z:Nat}{x:T}{Q D:Nat→Nat}{W:ar}{H:RV}
section
variable{R:bv->Prop}{d:aY}{t:T}{O:ai}{L:dE}
def aFc(a b:Int)(h:b≠0):∃o,TB.Ev 371 [.i a,.i b] o/\∃X,o=.ret X/\jX (kI 1) X=true:=by
 refine dR ?_;simp[agI,h]
def aFd(a b:Int)(h:b≠0):fZ TB.Ev R 371 [.i a,.i b] d t O L=f8 TB.Ev R (.ret [.i (oi 371 [.i a,.i b] 0)]) d t O L:=aT (nx _ (aFc a b h))
def aFe{b:Int}(h:ga N b=J):b≠0:=by
 simp[ga] at h;omega
def aFf(a b c:Int):∃o,TB.Ev 354 [.i a,.i b,.i c] o/\∃X,o=.ret X/\jX (kI 3) X=true:=by
 refine dR ?_;by_cases h:ga a b=J;simp[Zn,h,aFd _ _ (aFe h)];simp[Zn,h]
@[simp] def aLI (a b c:Int):fZ TB.Ev R 354 [.i a,.i b,.i c] d t O L=f8 TB.Ev R (.ret [.i (oi 354 [.i a,.i b,.i c] 0),.i (oi 354 [.i a,.i b,.i c] 1),.i (oi 354 [.i a,.i b,.i c] 2)]) d t O L:=aT (nx _ (aFf a b c))
end
section
variable[Inhabited dB]
section
def avH(id:Int)(m:Nat):aM:=[iV ((m:Int)+1),iV id]
def TG(b:Nat->Bool)(id:Int)(X:aq):ar:=(X.filter b).map (avH id)
def Fs(X:RV)(id:Int)(k:Nat):Int:=match jq 1 [id,0,0] X.ae with
 |U W=>bp (W[k]?.getD default).val
 |none=>0
def aaH(X W a2 V R q:Int):Int:=if q=0 then X else if q=1 then W else if q=2 then a2 else if q=3 then V else if q=4 then R else 0
def aFg(v w:Nat->Int):Int:=max 0 (max (ay .sub I (v 0) (w 0)) (max (ay .sub I 0 (ay .sub I (v 0) (w 0))) (max (ay .sub I (v 1) (w 1)) (max (ay .sub I 0 (ay .sub I (v 1) (w 1))) (max (ay .sub I (v 2) (w 2)) (ay .sub I 0 (ay .sub I (v 2) (w 2))))))))
def aiZ(eu:Int)(mb nq nu X:RV)(W:Nat)(x:Nat->Int)(V R q d l:Int)(k:Nat):Bool:=decide (ay .mul I (ay .mul I 841 (ci X W (k+9))) (oi 249 ([.i eu,.r mb,.r nq,.r nu]++bG x) 0)<ay .mul I (ay .mul I 1000 (ci X W (k+6))) (aFg (oi 248 [.i V,.i R,.i q]) (oi 248 [.i d,.i l,.i q])))
def brB(X:RV)(W:Nat)(V:RV)(x s:Nat->Int):Nat->Bool
 |0=>if x 4=3 then decide (ci X W 12<Fs V (x 0) 3) else if x 4=4\/x 4=9 then decide (ci X W 13<Fs V (x 0) 3) else if x 4=5 then decide (ci X W 14<Fs V (x 0) 3) else E
 |1=>if x 4=3 then aiZ eu mb nq nu X W x (Fs V (x 0) 2) (Fs V (x 0) 3) (x 5-1) (aaH (s 3) (s 5) (s 7) (s 9) (s 11) (x 5-1)) (aaH (s 4) (s 6) (s 8) (s 10) (s 12) (x 5-1)) 0 else if x 4=4 then aiZ eu mb nq nu X W x (Fs V (x 0) 2) (Fs V (x 0) 3) (x 5+1) (aaH (s 3) (s 5) (s 7) (s 9) (s 11) (x 5+1)) (aaH (s 4) (s 6) (s 8) (s 10) (s 12) (x 5+1)) 1 else if x 4=5 then aiZ eu mb nq nu X W x (Fs V (x 0) 2) (Fs V (x 0) 3) 4 (s 11) (s 12) 2 else E
 |2=>if x 4=1 then decide (ci X W 4<x 8) else if x 4=2 then decide (ci X W 5<x 8) else E
 |3=>if x 4=7 then decide (ci X W 2<ci X ((x 9).toNat-1) 1) else E
 |_=>E
def aFi(l:bw)(k:Nat):Int:=l.getD k 0
end
section
structure aLJ(k:Int)(o0:bv)(n i rn:Nat)(bd mp:RV)(rs acc:ar)(b:Nat->Bool)(s:bw):Prop where
 ho:At o0 o0=J
 h:gc
 hb:b=brB bd rn mp (bu rs i) (aFi s)
 hi:i<n
 hn:n<=4096
 cG:Y rs=n
 hac:Y acc<=100000
 hrn:rn<Y bd.ae
 cT:Sl bd
 yO:Y bd.ae=Y az.ae
 hnr:Y az.ae<=64
 HO:kh (Y az.ae) eu (bu rs i)
 hk:bu rs i 4=k
structure aLM(js:aq)(j:Nat)(z:Int)(b:Nat->Bool)(id:Int):Prop where
 z4:z=0/\j=0\/z=1/\j=1\/z=2/\j=2\/z=3/\j=3
 hlen:Y js<4
 Fk:gO 1 [RV.mk (Value.int I z) []] (ZX js)=ZX (js++[j])
 qU:(ZX (js++[j])).length=Y js+1
 har:ay BinOp.sub I ((Y js:Int)+1) 1=(Y js:Int)
 dH:bp (aZ (ZX (js++[j])) (Y js:Int) 0).val=z
 aLO:(TG b id js).length<=Y js
 jr:b j=J->TG b id (js++[j])=TG b id js++[avH id j]
 qG:b j=E->TG b id (js++[j])=TG b id js
end

section
variable{a:FuncId->bn->bv->Prop}{R:bv->Prop}{O:ai}{L:dE}
def aFj{M:aY}{N:ap}(Q:bv->Prop)(H:∀o,Q o->R o)(n:Nat)(W:Nat->bn->Prop)(G:Bl n W (N.map (C.xv O)))(h:∀(i:Nat) V,i<=n->W i V->x.wp a Q (O.ext (.i i::V)) [⟨X,Bl n W,zC n,n-i⟩]):T.wp a R (.loop X M N x) O L:=by
 refine aBy Q H (Bl n W) (zC n) G λF P=> ?_
 match F,P with
 |.i j::V,P=>
  obtain⟨i,rfl,D,B⟩:=P;have:=h i V D B;simpa[zC] using this
end
section
end
end
inductive Rt(g:Nat->Nat):Nat->Nat->Prop where
 |here {k:Nat} (h:g k=k):Rt g k k
 |up {k r:Nat} (h:g k≠k) (h2:Rt g (g k) r):Rt g k r
def Rt.SZ(h:Rt Q X P):∀{W:Nat},Rt Q X W->P=W:=by
 induction h with
 |here h=>
  intro W R;cases R with
  |here=>rfl
  |up V O=>exact(V h).elim
 |up h O N=>
  intro W R;cases R with
  |here V=>exact(h V).elim
  |up V M=>exact N M
def Rt.fix(h:Rt Q X P):Q P=P:=by
 induction h with
 |here h=>exact h
 |up h V W=>exact W
def Rt.le(W:∀q,Q q<=q)(h:Rt Q X P):P<=X:=by
 induction h with
 |here h=>exact cg _
 |up h R V=>exact qL V (W _)
def ua(g:Nat->Nat)(k v:Nat):Nat->Nat:=λq=>if q=k then v else g q
def HW:Nat->Nat->(Nat->Nat)->Nat->Nat
 |0,_,g=>g
 |n+1,k,g=>if g k=k then g else ua (HW n (g k) g) k (HW n (g k) g (g k))
def avI{g:Nat->Nat}(W:∀q,g q<=q):∀n k,k<n->Rt g k (HW n k g k)/\∀q,HW n k g q=g q\/Rt g q (HW n k g q)
 |0,k,h=>aG h (axf _)
 |n+1,k,h=>by
  simp only[HW];by_cases X:g k=k;rw[aL X];exact⟨by rw[X];exact .here X,λq=>.inl rfl⟩;rw[aP X];have P:=aw7 (W k) X;obtain⟨V,Q⟩:=avI W n (g k) aa;refine⟨by simp only[ua,cN];exact .up X V,λq=> ?_⟩;simp only[ua];by_cases R:q=k;subst R;rw[aL rfl];exact .inr (.up X V);rw[aP R];exact Q q
def Rt.short(V:∀q,Q q<=q)(h:∀q,D q=Q q\/Rt Q q (D q))(x:Nat):∀{r:Nat},Rt Q x r->Rt D x r:=by
 induction x using T8 with
 |_ x R=>
  intro r P;cases P with
  |here X=>
   rcases h x with e|e;exact .here (e.trans X);exact .here (e.SZ (.here X))
  |up X W=>
   have O:=aw7 (V x) X;rcases h x with e|e;refine .up (by rw[e];exact X) ?_;rw[e];exact R _ O W;have N:D x=r:=e.SZ (.up X W);have M:=W.le V;refine .up aa ?_;rw[N];exact R r aa (.here W.fix)
def aFk(X:∀q,Q q<=q)(h:∀q,D q=Q q\/Rt Q q (D q))(q:Nat):D q<=q:=by
 rcases h q with e|e;rw[e];exact X q;exact e.le X
def Rt.join{r:Nat}(O:Q X=X)(N:Q P=P)(h:Rt Q z r):Rt (ua Q X P) z (if r=X then P else r):=by
 induction h with
 |here V=>
  rename_i k;by_cases W:k=X;subst W;rw[aL rfl];by_cases R:P=k;subst R;exact .here (by simp[ua]);have e:ua Q k P k=P:=by simp[ua]
  refine .up (by rw[e];exact R) ?_;rw[e];exact .here (by simp[ua,R,N]);rw[aP W];exact .here (by simp[ua,W,V])
 |up V L M=>
  rename_i k r;have W:k≠X:=λe=>V (by rw[e];exact O)
  have e:ua Q X P k=Q k:=by simp[ua,W]
  refine .up (by rw[e];exact V) ?_;rw[e];exact M
def HX(g:Nat->Nat)(a b:Nat):Prop:=∃r,Rt g a r/\Rt g b r
def HX.short{g X:Nat->Nat}{a b:Nat}(W:∀q,g q<=q)(h:∀q,X q=g q\/Rt g q (X q))(k:HX g a b):HX X a b:=by
 obtain⟨r,V,R⟩:=k;exact⟨r,V.short W h,R.short W h⟩
def HX.join{g:Nat->Nat}{X W a b:Nat}(V:g X=X)(R:g W=W)(k:HX g a b):HX (ua g X W) a b:=by
 obtain⟨r,Q,P⟩:=k;exact⟨_,Q.join V R,P.join V R⟩
def fy(m:ar)(q:Nat):Nat:=(aN 0 (m.getD q [])).toNat
def avJ{x:aM}(R:X<Y W):fy (W.set X x)=ua (fy W) X (aN 0 x).toNat:=by
 funext q;simp only[fy,ua,dL];by_cases V:q=X;subst V;rw[aL rfl,H0 R];rfl;rw[aP V,sI (Ne.symm V)]
def Om(h:lc W=J)(q:Nat):fy W q<=q:=by
 unfold fy;by_cases X:q<Y W;have:=F8 h X;omega;rw[dL,ke aa];show(0:Int).toNat<=q;simp
def avK{m:ar}(h:lc m=J):∀(n:Nat)(i:Int),0<=i->i<Y m->fy (rR n i m)=HW n i.toNat (fy m)
 |0,_,_,_=>rfl
 |n+1,i,W,V=>by
  obtain⟨R,O,Q⟩:=acz h W V;have P:=avK h n _ R Q;have e:fy m i.toNat=(aN 0 (m.getD i.toNat [])).toNat:=rfl;simp only[rR,HW];by_cases X:aN 0 (m.getD i.toNat [])=i;rw[aL X,aL (by rw[e,X])];rw[aP X,aP (by rw[e];omega),avJ (by rw[Vh];omega),e,<-P];rfl
def ai0(h:∀k<Y W,0<=aN 0 (W.getD k [])/\aN 0 (W.getD k [])<=k):lc W=true:=by
 refine f9.2 λk X=> ?_
 simp only[aA,cz];exact h k (wV.1 X)
def On(h:lc W=J)(k:Nat)(X:k<Y W):aN 0 (W.getD k [])=(fy W k:Int):=by
 have:=F8 h X;unfold fy;omega
def aFl{X:ar}(h:lc W=J)(Q:∀x∈X,x∈W)(P:∀q,fy X q<=q):lc X=true:=by
 refine ai0 λk O=> ?_
 have N:X.getD k []∈X:=alG O _;obtain⟨p,R⟩:=ue (Q _ N);have M:p<Y W:=(cj.1 R).1;have V:=(F8 h M).1;rw[dL,R] at V;have V:0<=aN 0 (X.getD k []):=V;have:=P k;unfold fy at this;omega
def aFm(h:lc W=J)(L:Y W<=1099511627776)(Q:0<=N)(P:N<Y W):∃X,xj N W=U X/\Y X=Y W/\lc X=J/\(∀q,fy X q=fy W q\/Rt (fy W) q (fy X q))/\Rt (fy W) N.toNat (fy X N.toNat):=by
 obtain⟨X,V⟩:∃X,xj N W=U X:=⟨rR (Y W) N W,by unfold xj;rw[aL (by simp[L,Q,P,h])]⟩;obtain⟨-,-,-,-,e⟩:=PL V;have O:=avK h (Y W) N Q P;rw[<-e] at O;obtain⟨M,R⟩:=avI (Om h) (Y W) N.toNat aa;rw[<-O] at M R;exact⟨X,V,acA V,aFl h (Vi V) (aFk (Om h) R),R,M⟩
def iF(O:Nat->Nat->Prop):Nat->Nat->Nat->Prop
 |0,i,j=>i=j
 |r+1,i,j=>i=j\/∃k,(O i k\/O k i)/\iF O r k j
def Cn(O:Nat->Nat->Prop)(i j:Nat):Prop:=∃r,iF O r i j
section
variable{O:Nat->Nat->Prop}
def iF.refl(r i:Nat):iF O r i i:=by
 cases r with
 |zero=>rfl
 |succ r=>exact .inl rfl
def iF.succ{r:Nat}:∀{i j:Nat},iF O r i j->iF O (r+1) i j:=by
 induction r with
 |zero=>intro i j h;exact .inl h
 |succ r X=>
  intro i j h;rcases h with h|⟨k,e,h⟩;exact .inl h;exact .inr ⟨k,e,X h⟩
def iF.mono(h:X<=P){j:Nat}(k:iF O X z j):iF O P z j:=by
 induction h with
 |refl=>exact k
 |step _ W=>exact W.succ
def iF.trans:∀{i j k s:Nat},iF O X i j->iF O s j k->iF O (X+s) i k:=by
 induction X with
 |zero=>intro i j k s W V;cases W;rw[jz];exact V
 |succ X R=>
  intro i j k s W V;rcases W with W|⟨q,e,W⟩;subst W;exact V.mono aa;rw[Nat.add_right_comm];exact .inr ⟨q,e,R W V⟩
def Cn.refl(i:Nat):Cn O i i:=⟨0,rfl⟩
def Cn.trans{i j k:Nat}(X:Cn O i j)(W:Cn O j k):Cn O i k:=by
 obtain⟨r,X⟩:=X;obtain⟨s,W⟩:=W;exact⟨_,X.trans W⟩
def Cn.one(h:O X P\/O P X):Cn O X P:=⟨1,.inr ⟨P,h,rfl⟩⟩
def iF.symm{r:Nat}:∀{i j:Nat},iF O r i j->Cn O j i:=by
 induction r with
 |zero=>intro i j h;cases h;exact Cn.refl _
 |succ r X=>
  intro i j h;rcases h with h|⟨k,e,h⟩;subst h;exact Cn.refl _;exact(X h).trans (Cn.one e.symm)
def Cn.symm{i j:Nat}(h:Cn O i j):Cn O j i:=by
 obtain⟨r,h⟩:=h;exact h.symm
def iF.back:∀{i j:Nat},iF O (X+1) i j->iF O X i j\/∃k,iF O X i k/\(O k j\/O j k):=by
 induction X with
 |zero=>
  intro i j h;rcases h with h|⟨k,e,h⟩;exact .inl h;cases h;exact .inr ⟨i,rfl,e⟩
 |succ X W=>
  intro i j h;rcases h with h|⟨k,e,h⟩;exact .inl (.inl h);rcases W h with h|⟨q,h,V⟩;exact .inl (.inr ⟨k,e,h⟩);exact .inr ⟨q,.inr ⟨k,e,h⟩,V⟩
def aFn(h:∀j,iF O (P+1) X j->iF O P X j):∀r j,iF O r X j->iF O P X j:=by
 intro r;induction r with
 |zero=>intro j k;cases k;exact iF.refl _ _
 |succ r W=>
  intro j k;rcases k.back with k|⟨p,k,e⟩;exact W j k;have:=W p k;exact h j (this.trans (show iF O 1 p j from .inr ⟨j,e,rfl⟩))
open Classical in
def HY(O:Nat->Nat->Prop)(n i r:Nat):Nat:=((fj n).filter λj=>decide (iF O r i j)).length
def avL{W:Type}{p q:W->Bool}:∀{l:List W},(∀x∈l,p x=J->q x=J)->(l.filter p).length<=(l.filter q).length
 |[],_=>aw
 |a::l,h=>by
  have Q:=avL (l:=l) λx V=>h x (by simp[V])
  have R:=h a aw;simp only[axc];by_cases X:p a=J;rw[aL X,aL (R X)];simp only[qI];omega
  ·rw[aP X];split<;>(try simp only[qI])<;>omega
def ai1{Q:Type}{p q:Q->Bool}:∀{l:List Q},(∀x∈l,p x=J->q x=J)->(∃x∈l,q x=J/\p x=E)->(l.filter p).length<(l.filter q).length
 |[],_,h=>by obtain⟨x,X,_⟩:=h;cases X
 |a::l,h,X=>by
  have N:=avL (l:=l) λx X=>h x (by simp[X])
  have O:=h a aw;simp only[axc];by_cases R:p a=J;rw[aL R,aL (O R)];obtain⟨x,X,W,V⟩:=X;rcases dS.1 X with rfl|X;rw[R] at V;cases V;have:=ai1 (l:=l) (λx X=>h x (by simp[X])) ⟨x,X,W,V⟩;simp only[qI];omega;rw[aP R];by_cases W:q a=J;rw[aL W];simp only[qI];omega;rw[aP W];obtain⟨x,X,P,V⟩:=X;rcases dS.1 X with rfl|X;exact(W P).elim;exact ai1 (l:=l) (λx X=>h x (by simp[X])) ⟨x,X,P,V⟩
open Classical in
def aFo(R:∀a b,O a b->a<X/\b<X)(Q:P<X)(h:Cn O P z):iF O X P z:=by
 have L:∀r z,iF O r P z->z<X:=by
  intro r;induction r with
  |zero=>intro z k;cases k;exact Q
  |succ r V=>
   intro z k;rcases k.back with k|⟨p,k,e⟩;exact V z k;rcases e with e|e;exact(R _ _ e).2;exact(R _ _ e).1
 have H:∀r,(∃q≤r,∀z,iF O (q+1) P z->iF O q P z)\/r+1<HY O X P (r+1)+1:=by
  intro r;induction r with
  |zero=>
   by_cases W:∀z,iF O 1 P z->iF O 0 P z;exact .inl ⟨0,cg _,W⟩;refine .inr ?_;have:0<HY O X P 1:=by
    unfold HY;rw[List.length_pos_iff_exists_mem];exact⟨P,qK.2 ⟨wV.2 Q,decide_eq_true (iF.refl _ _)⟩⟩
   show 0+1<HY O X P 1+1;omega
  |succ r V=>
   rcases V with⟨q,N,W⟩|V;exact .inl ⟨q,aa,W⟩;by_cases W:∀z,iF O (r+2) P z->iF O (r+1) P z;exact .inl ⟨r+1,cg _,W⟩;refine .inr ?_;have:∃z,iF O (r+2) P z/\¬iF O (r+1) P z:=Classical.byContradiction λc=>W λz k=>Classical.byContradiction λG=>c ⟨z,k,G⟩
   obtain⟨z,M,F⟩:=this;have:HY O X P (r+1)<HY O X P (r+2):=ai1 (λx _ D=>decide_eq_true (iF.succ (wX D))) ⟨z,wV.2 (L _ z M),decide_eq_true M,decide_eq_false F⟩;show r+1+1<HY O X P (r+2)+1;omega
 obtain⟨r,h⟩:=h;rcases H X with⟨q,N,W⟩|B;exact(aFn W r z h).mono N;have:HY O X P (X+1)<=X:=by
  have:=List.length_filter_le (λz=>(@decide (iF O (X+1) P z) (Classical.propDecidable _))) (fj X);rw[ajO] at this;exact this
 omega
end
def wO(g:Nat->Nat)(a b:Nat):Nat->Nat:=λq=>if q=a\/q=b then min (g a) (g b) else g q
def ai2(g:Nat->Nat)(a b q:Nat):wO g a b q<=g q:=by
 simp only[wO];split;rename_i h;rcases h with h|h<;>subst h<;>omega;exact cg _
def zL:List (Nat×Nat)->(Nat->Nat)->Nat->Nat
 |[],g=>g
 |p::l,g=>zL l (wO g p.1 p.2)
def aaI:∀(l:List (Nat×Nat))(g:Nat->Nat)(q:Nat),zL l g q<=g q
 |[],g,q=>cg _
 |p::l,g,q=>qL (aaI l _ q) (ai2 g _ _ q)
def ai3:∀(l:List (Nat×Nat))(g:Nat->Nat)(p:Nat×Nat),p∈l->zL l g p.1<=g p.2/\zL l g p.2<=g p.1
 |[],_,_,h=>by cases h
 |a::l,g,p,h=>by
  rcases dS.1 h with rfl|h;have X:=aaI l (wO g p.1 p.2) p.1;have W:=aaI l (wO g p.1 p.2) p.2;have V:wO g p.1 p.2 p.1=min (g p.1) (g p.2):=by simp[wO]
  have R:wO g p.1 p.2 p.2=min (g p.1) (g p.2):=by simp[wO]
  simp only[zL];omega;have Q:=ai3 l (wO g a.1 a.2) p h;have X:=ai2 g a.1 a.2 p.1;have W:=ai2 g a.1 a.2 p.2;simp only[zL];omega
def KI(l:List (Nat×Nat))(a b:Nat):Prop:=(a,b)∈l
def aFp{O:Nat->Nat->Prop}(h:∀q,Cn O q (Q q))(e:O X P)(q:Nat):Cn O q (wO Q X P q):=by
 simp only[wO];split;rename_i k;have W:Cn O X P:=Cn.one (.inl e);rcases ajX (Q X) (Q P) with z|z;rw[OF z];rcases k with rfl|rfl;exact h q;exact W.symm.trans (h X);rw[aa6 z];rcases k with rfl|rfl;exact W.trans (h P);exact h q;exact h q
def avM{O:Nat->Nat->Prop}:∀(l:List (Nat×Nat)){g:Nat->Nat},(∀p∈l,O p.1 p.2)->(∀q,Cn O q (g q))->∀q,Cn O q (zL l g q)
 |[],_,_,h,q=>h q
 |p::l,_,X,h,q=>avM l (λx W=>X x (by simp[W])) (aFp h (X p aw)) q
def rF(l:List (Nat×Nat)):Nat->Nat->Nat
 |0=>λq=>q
 |r+1=>zL l (rF l r)
def TH(l:List (Nat×Nat)):∀r q,Cn (KI l) q (rF l r q)
 |0,q=>Cn.refl q
 |r+1,q=>avM l (λ_ h=>h) (TH l r) q
def ai4{l:List (Nat×Nat)}:∀{r i j:Nat},iF (KI l) r i j->rF l r i<=j
 |0,i,j,h=>by cases h;exact cg _
 |r+1,i,j,h=>by
  rcases h with h|⟨k,e,h⟩;subst h;exact qL (aaI l _ _) (ai4 (iF.refl r i));have:=ai4 h;simp only[rF];rcases e with e|e;have:=(ai3 l (rF l r) _ e).1;exact qL this eS;have:=(ai3 l (rF l r) _ e).2;exact qL this eS
def aFq{l:List (Nat×Nat)}(Q:∀p∈l,p.1<X/\p.2<X)(W:P<X)(O:z<X):rF l X P=rF l X z<->Cn (KI l) P z:=by
 have N:∀a b,KI l a b->a<X/\b<X:=λa b h=>Q (a,b) h
 have least:∀{P j},P<X->Cn (KI l) P j->rF l X P<=j:=λW h=>ai4 (aFo N W h)
 constructor;intro e;have V:=TH l X P;have R:=TH l X z;rw[e] at V;exact V.trans R.symm;intro h;have V:=least W (h.trans (TH l X z));have R:=least O (h.symm.trans (TH l X P));omega
def aFr{O:Nat->Nat->Prop}{m:Nat->Nat}(M:∀a b,O a b->a<X/\b<X)(W:∀q<X,Cn O q (m q))(V:∀a b,O a b->m a=m b)(R:P<X)(Q:z<X):m P=m z<->Cn O P z:=by
 constructor;intro e;have a:=W P R;have b:=W z Q;rw[e] at a;exact a.trans b.symm;rintro⟨r,h⟩;have:∀r P,iF O r P z->m P=m z:=by
  intro r;induction r with
  |zero=>intro P h;cases h;rfl
  |succ r N=>
   intro P h;rcases h with h|⟨q,e,h⟩;rw[h];rw[<-N q h];rcases e with e|e;exact V _ _ e;exact(V _ _ e).symm
 exact this r P h
section
variable[Inhabited dB]
def Oo(v:ar)(a b:Nat):Prop:=∃x∈v,(aN 0 x).toNat=a/\(aN 1 x).toNat=b
def ai5{W:Nat->Nat->Prop}(V:∀q,Q q<=q)(h:∀q<X,Cn W q (Q q))(R:Rt Q P z):P<X->Cn W P z:=by
 induction R with
 |here _=>exact λ_=>Cn.refl _
 |up _ _ O=>
  rename_i P z _ _;exact λN=>(h P N).trans (O (by have:=V P;omega))
def ai6{W:Nat->Nat->Prop}(R:∀q,Q q<=q)(h:∀q<X,Cn W q (Q q))(s:∀q,D q=Q q\/Rt Q q (D q)):∀q<X,Cn W q (D q):=λq V=>by
 rcases s q with e|e;rw[e];exact h q V;exact ai5 R h e V
structure avN(n:Nat)(v m:ar):Prop where
 len:Y m=n
 ok:lc m=J
 pr:∀x∈v,aN 0 (m.getD (aN 0 x).toNat [])=aN 0 (m.getD (aN 1 x).toNat [])
 cn:∀q<n,Cn (Oo v) q (fy m q)
def R63(n:Nat)(v:ar)(e:Int)(o:bv):Prop:=(e≠0/\o=.ret [.r (aI []),.i e])\/(e=0/\∃m,o=.ret [.r (aI m),.i 0]/\avN n v m)
def aFt(m:ar)(k:Nat)(x:Int)(W:k<Y m)(R:∀X∈m,Y X=1):(m.modify k λX=>fA X 0 [iV x])=m.set k [iV x]:=by
 apply kK;intro q;rw[OC,wU];by_cases V:k=q;subst V;rw[aL rfl,aL W,cL W];have:=R _ (pl W);generalize m[k]=X at this
 match X,this with
 |[c],_=>simp[fA]
 rw[aP V];simp[V]
def aFu(h:lc W=J)(R:Y W=X):lc (W++[[iV X]])=true:=by
 refine ai0 λk Q=> ?_
 simp only[gU,aaV] at Q;rw[dL];by_cases V:k<Y W;rw[dZ V,<-dL];exact F8 h V;have:k=Y W:=aa;subst this;rw[jd (cg _)];simp[aN,bp,iV,R]
def aFv(V:Y W=X)(h:∀q<X,fy W q=q):∀q<X+1,fy (W++[[iV X]]) q=q:=λq R=>by
 simp only[fy,dL];by_cases e:q=X;subst e;rw[jd aa];simp[V,aN,bp,iV];rw[dZ aa,<-dL];exact h q aa
def aFw(h:∀V∈W,Y V=1):∀V∈W++[[H]],Y V=1:=λV X=>by
 rcases fh.1 X with X|X;exact h V X;simp at X;subst X;rfl
def ai7{R:bv->Prop}{O:ai}{L:dE}{m:ar}{r:RE}{e:TypeId}{P:bz}{i:K}(M:r.rv O=aI m)(H:i.ab O=N)(G:∀W∈m,Y W=1)(h:lc m=J)(w:Y m<=1000)(F:0<=N)(D:N<Y m)
  (k:∀X,Y X=Y m->(∀W∈X,Y W=1)->lc X=J->(∀q,fy X q=fy m q\/Rt (fy m) q (fy X q))->Rt (fy m) N.toNat (fy X N.toNat)->x.wp TB.Ev R (O.add (.r (aI X))) L):
  T.wp TB.Ev R (.ez 130 130 e (.dp 0 (.lex [] E) [i]) J r P x) O L:=by
 obtain⟨X,V,Q,B,A,z⟩:=aFm h aa F D;rw[aBx,M];refine⟨X, ?_, ?_⟩;show xj (i.ab O) m=U X;rw[H];exact V;have:=k X Q (λW y=>G W (Vi V W y)) B A z;have e:(RV.mk (aI m).val X)=aI X:=by
  simp only[aI,RV.nJ,Q]
 rw[e];exact this
def t63(h:gc)(ah:Int)(a0:TB.Ev 23 (wk++[.i ah]) (.ret [.r (aI W),.i N]))(hv:∀x∈W,0<=aN 0 x/\aN 0 x<aN 1 x/\aN 1 x<Y az.ae)(b0:Y W<=4096)(hn:Y az.ae<=1000):
  ∃o,TB.Ev 63 (wk++[.i ah]) o/\R63 (Y az.ae) W N o:=by
 refine dR ?_;simp only[wk,da,di] at a0;simp[T63,wk,aT a0];refine ax (λb=> ?_) (λb=>.inl ⟨b,rfl⟩);subst b;have a3:Y az.ae<=140737488355328:=aa;have bf:Y W<=140737488355328:=aa;refine cP (Y az.ae) (λi A=>∃m,A=[.r (aI m)]/\Y m=i/\(∀G∈m,Y G=1)/\lc m=J/\∀q<i,fy m q=q) ⟨0,rfl,aa,[],rfl,rfl,aw,rfl,aa⟩ ?_;rintro i _ hi ⟨m0,rfl,F,y,D,a4⟩;simp[h.rl.len];refine ax (λhi=> ?_) (λb1=> ?_);simp[cu hi a3];exact⟨aa,_,rfl,dh,aFw y,aFu D F,aFv F a4⟩;have bg:i=Y az.ae:=aa;subst bg;refine cP (Y W) (λj A=>∃m,A=[.r (aI m)]/\Y m=Y az.ae/\(∀G∈m,Y G=1)/\lc m=J/\(∀x∈W.take j,HX (fy m) (aN 0 x).toNat (aN 1 x).toNat)/\∀q<Y az.ae,Cn (Oo W) q (fy m q)) ⟨0,rfl,aa,m0,rfl,F,y,D,aw,λq l=>by rw[a4 q l];exact Cn.refl _⟩ ?_;rintro j _ H ⟨m,rfl,F,y,D,a,hc⟩;simp;refine ax (λH=> ?_) (λb2=> ?_);simp[H];obtain⟨va,bk,vb⟩:=hv _ (pl H);have ea:bp (aZ W (j:Int) 0).val=aN 0 W[j]:=by simp[aZ,aN,H]
 have eb:bp (aZ W (j:Int) 1).val=aN 1 W[j]:=by simp[aZ,aN,H]
 refine ai7 (m:=m) rfl ea y D aa aa aa ?_;intro B l1 r1 w Q g;refine ai7 (m:=B) rfl eb r1 w aa aa aa ?_;intro P l2 r2 o2 f a2;simp[cu H bf];have na:bp (aZ B (bp (aZ W (j:Int) 0).val) 0).val=((fy B (aN 0 W[j]).toNat:Nat):Int):=by rw[ea];exact On w _ aa
 have nb:bp (aZ P (bp (aZ W (j:Int) 1).val) 0).val=((fy P (aN 1 W[j]).toNat:Nat):Int):=by rw[eb];exact On o2 _ aa
 simp only[na,nb];have L:=Om D;have d:=Om w;have c:=Om o2;have ac:=ai6 d (ai6 L hc Q) f;have bl:Cn (Oo W) (aN 0 W[j]).toNat (aN 1 W[j]).toNat:=Cn.one (.inl ⟨_,pl H,rfl,rfl⟩);have u:=(g.short L Q).short d f;have t:=a2.short d f;have fa:=u.fix;have fb:=t.fix;have la:=u.le c;have lb:=t.le c;have cA:=ai5 c ac u aa;have cB:=ai5 c ac t aa;generalize fy B (aN 0 W[j]).toNat=O at u fa la cA⊢;generalize fy P (aN 1 W[j]).toNat=M at t fb lb cB⊢;obtain⟨X,af⟩:∃X:Nat,X=max O M:=⟨_,rfl⟩;obtain⟨V,ag⟩:∃V:Nat,V=min O M:=⟨_,rfl⟩;have e1:max (O:Int) (M:Int)=(X:Int):=aa;have e2:min (O:Int) (M:Int)=(V:Int):=aa;rw[e1,e2];have al:X<Y P:=aa;have fx:fy P X=X:=by rcases ajX O M with q|q<;>simp only[af,Nat.max_eq_left,Nat.max_eq_right,q]<;>assumption
 have fn:fy P V=V:=by rcases ajX O M with q|q<;>simp only[ag,OF,aa6,q]<;>assumption
 have ek:fy (P.set X [iV (V:Int)])=ua (fy P) X V:=by rw[avJ al];rfl
 refine⟨aa,P.set X [iV (V:Int)], ?_,dh,λG s=> ?_, ?_,λx R=> ?_,λq l=> ?_⟩;rw[<-aFt P X V al r2];rfl;rcases Fv s with s|s;exact r2 G s;subst s;rfl;refine ai0 λk p=> ?_
 rw[axd] at p;rw[dL];by_cases a9:k=X;subst a9;rw[H0 al];show(0:Int)<=(V:Int)/\(V:Int)<=(k:Int);omega;rw[sI (Ne.symm a9),<-dL];exact F8 o2 p;rw[ek];rw[axa,cL H] at R;rcases fh.1 R with R|R;exact(((a x R).short L Q).short d f).join fx fn;simp at R;subst R;refine⟨V, ?_, ?_⟩;have:=u.join fx fn;by_cases q:O=X
 rwa [aL q] at this
 rw[aP q] at this;have:O=V:=aa;subst this;assumption;have:=t.join fx fn;by_cases q:M=X
 rwa [aL q] at this
 rw[aP q] at this;have:M=V:=aa;subst this;assumption;rw[ek];simp only[ua];have cR:Cn (Oo W) O M:=(cA.symm.trans bl).trans cB;by_cases N:q=X;rw[aL N,N];rcases ajX O M with z|z;rw[af,ag,Nat.max_eq_right z,OF z];exact cR.symm;rw[af,ag,Nat.max_eq_left z,aa6 z];exact cR;rw[aP N];exact ac q l;have br:j=Y W:=aa;subst br;rw[List.take_length] at a;refine cP (Y az.ae) (λk A=>∃m,A=[.r (aI m)]/\Y m=Y az.ae/\(∀G∈m,Y G=1)/\lc m=J/\(∀x∈W,HX (fy m) (aN 0 x).toNat (aN 1 x).toNat)/\(∀q<Y az.ae,Cn (Oo W) q (fy m q))/\∀q<k,Rt (fy m) q (fy m q)) ⟨0,rfl,aa,m,rfl,F,y,D,a,hc,aw⟩ ?_;rintro k _ p ⟨m',rfl,bs,bt,n,bb,bd,an⟩;simp[F];refine ax (λp=> ?_) (λb3=> ?_);refine ai7 (m:=m') rfl rfl bt n aa aw dh ?_;intro B l1 r1 w Q g;have L:=Om n;simp[cu p a3] at g⊢;refine⟨B,rfl,aa,r1,w,λx R=>(bb x R).short L Q,ai6 L bd Q,λq l=> ?_⟩;by_cases bx:q=k;subst bx;exact g.short L Q;have:=an q aa;rcases Q q with N|N;rw[N];exact this.short L Q;exact N.short L Q;refine .inr ⟨rfl,m',rfl,bs,n,λx R=> ?_,bd⟩;obtain⟨va,bk,vb⟩:=hv x R;obtain⟨r,q1,q2⟩:=bb x R;rw[On n _ aa,On n _ aa,(an _ aa).SZ q1,(an _ aa).SZ q2]
end
def ai8{X:Type}(n i:Nat)(f V:Nat->X)(g:X->X)(h:∀k<n,V k=if k=i then g (f k) else f k):((fj n).map f).modify i g=(fj n).map V:=by
 apply kK;intro q;rw[OC];simp only[dX];by_cases W:q<n;rw[FB W];simp only[eo,h q W];by_cases e:i=q;subst e;simp;rw[aP (Ne.symm e)];simp[e];rw[ke (by simpa using T6 W)];simp
def aaJ{V:Type}{f W:Nat->V}(h:∀k<X,f k=W k):(fj X).map f=(fj X).map W:=kJ λk R=>h k (wV.1 R)
def wP(X:ar)(g:Int):Bool:=match jq 1 [g,0,0] X with
 |U W=>fW (W.getD 1 default).val
 |none=>E
def Oq(g:Int)(X:aM):lD 1 [g,0,0] X=decide ((X.take 1).map (λc=>bp c.val)=[g]):=rfl
def avO(x g:Int):∀Q:ar,wP (gO 1 [RV.mk (.int I x) [],RV.mk (.bool J) []] Q) g=(decide (g=x)||wP Q g)
 |[]=>by
  by_cases h:g=x;subst h;simp[wP,gO,jq,Oq,bp,fW];have V:¬x=g:=λe=>h e.symm
  simp[wP,gO,jq,Oq,bp,h,V]
 |r::X=>by
  have P:=avO x g X;have O:(BK (λc:RV=>bp c.val) (List.take 1 [RV.mk (.int I x) [],RV.mk (.bool J) []]))=[x]:=rfl;by_cases W:(r.take 1).map (λc=>bp c.val)=[x];have R:gO 1 [RV.mk (.int I x) [],RV.mk (.bool J) []] (r::X)=[RV.mk (.int I x) [],RV.mk (.bool J) []]::X:=by
   simp only[gO,O,lD];rw[aL (by simpa using W)]
  rw[R];by_cases h:g=x;subst h;simp[wP,jq,Oq,bp,fW];have V:¬x=g:=λe=>h e.symm
  simp only[wP,jq,KP,Oq,W,h];simp[bp,V];have R:gO 1 [RV.mk (.int I x) [],RV.mk (.bool J) []] (r::X)=r::gO 1 [RV.mk (.int I x) [],RV.mk (.bool J) []] X:=by
   simp only[gO,O,lD];rw[aP (by simpa using W)]
  rw[R];by_cases h:(r.take 1).map (λc=>bp c.val)=[g];have N:¬g=x:=λe=>W (by rw[h,e])
  simp only[wP,jq,KP,Oq,h,N];simp;simp only[wP,jq,KP,Oq,h] at P⊢;simpa using P
section
def Ft(m:ar)(a d:RV)(n:Nat)(g:Int):Prop:=∃k<n,aN 0 (m.getD k [])=g/\(cb a k 0=E\/cb d k 0=E)
open Classical in
noncomputable def jK(m:ar)(a d:RV)(n k:Nat):Bool:= !decide (Ft m a d n (aN 0 (m.getD k [])))
noncomputable def pW(m:ar)(a d:RV)(n:Nat):RV:=aI ((fj n).map λk=>[RV.mk (.bool (jK m a d n k)) []])
noncomputable def BB(m:ar)(a d b:RV)(n:Nat):RV:=aI ((fj n).map λk=>[if jK m a d n k=J then cr 96 b k else aI []])
section
variable{m:ar}{a d b:RV}{n:Nat}
def TJ:jK m a d n X=E<->Ft m a d n (aN 0 (m.getD X [])):=by
 classical
 simp[jK]
def ai9(W:X<n)(V:jK m a d n X=J):cb a X 0=J/\cb d X 0=true:=by
 have h:¬Ft m a d n (aN 0 (m.getD X [])):=λq=>by rw[TJ.2 q] at V;cases V
 constructor;cases e:cb a X 0;exact(h ⟨X,W,rfl,.inl e⟩).elim;rfl;cases e:cb d X 0;exact(h ⟨X,W,rfl,.inr e⟩).elim;rfl
def aja{f:Nat->aM}(W:X<n):aZ ((fj n).map f) (X:Int) P=(f X).getD P default:=by
 simp[aZ,FB W]
def avP(W:X<n):cb (pW m a d n) X 0=jK m a d n X:=by
 simp only[cb,pW,ahN,aja W];rfl
def avQ(e:TypeId)(v:RV):db (.sl e) (db (.sl e) v)=db (.sl e) v:=by
 obtain⟨x,r⟩:=v;cases x<;>rfl
def ajb(W:X<n):cr 96 (BB m a d b n) X=if jK m a d n X=J then cr 96 b X else aI []:=by
 simp only[cr,BB,ahN,aja W];show db (.sl 96) (if jK m a d n X=J then db (.sl 96) (aZ b.ae (X:Int) 0) else aI [])=_;split;exact avQ _ _;rfl
def aFy:(pW m a d n).ae.length=n:=by simp[pW]
def aFz:(BB m a d b n).ae.length=n:=by simp[BB]
end
section
variable[Inhabited dB]
end
end
def q21:aq:=[0,1,1,0,0,0,1,0,0,0,1,0,1,0,1,0,1,0,0,0,1,1,0,1]
def oes{o:bv}:At o o=true:=V5 o
noncomputable def BC(m:ar)(d j:RV)(n i:Nat):ar:=(fj n).map λk=>[RV.mk (.bool (decide (k<i)&&jK m d j n k)) []]
noncomputable def BD(m:ar)(d j l:RV)(n i:Nat):ar:=(fj n).map λk=>[if(decide (k<i)&&jK m d j n k)=J then cr 96 l k else aI []]
def avS{V:Type}(n:Nat)(x:V){f:Nat->V}(h:∀k<n,f k=x):(fj n).map f=eH n x:=by
 rw[List.eq_replicate_iff];refine⟨aw,λb X=> ?_⟩;obtain⟨k,W,rfl⟩:=iL.1 X;exact h k (wV.1 W)
section
variable{m:ar}{d j l:RV}{n:Nat}
def ajc:BC m d j n 0=eH n [RV.mk (.bool E) []]:=avS n _ λk _=>aw
def ajd:BD m d j l n 0=eH n [aI []]:=avS n _ λk _=>aw
def aFB:(BC m d j n X).length=n:=by simp[BC]
def aFC:(BD m d j l n X).length=n:=by simp[BD]
def aFD:BC m d j n n=(fj n).map λk=>[RV.mk (.bool (jK m d j n k)) []]:=aaJ λk X=>by simp[X]
def aFE:BD m d j l n n=(fj n).map λk=>[if jK m d j n k=J then cr 96 l k else aI []]:=aaJ λk X=>by simp[X]
def aFF(h:jK m d j n X=J):(BC m d j n X).modify X (λW=>fA W 0 [RV.mk (.bool J) []])=BC m d j n (X+1):=by
 refine ai8 n X _ _ _ λk _=> ?_
 by_cases e:k=X;subst e;simp[h,fA];have:(k<X+1)<->k<X:=aa;simp[e,this]
def aFG(h:jK m d j n X=J):(BD m d j l n X).modify X (λW=>fA W 0 [cr 96 l X])=BD m d j l n (X+1):=by
 refine ai8 n X _ _ _ λk _=> ?_
 by_cases e:k=X;subst e;simp[h,fA];have:(k<X+1)<->k<X:=aa;simp[e,this]
def aFH(h:jK m d j n X=E):BC m d j n X=BC m d j n (X+1):=by
 refine aaJ λk _=> ?_
 by_cases e:k=X;subst e;simp[h];have:(k<X+1)<->k<X:=aa;simp[this]
def aFI(h:jK m d j n X=E):BD m d j l n X=BD m d j l n (X+1):=by
 refine aaJ λk _=> ?_
 by_cases e:k=X;subst e;simp[h];have:(k<X+1)<->k<X:=aa;simp[this]
def avT:Ft m d j (X+1) N<->Ft m d j X N\/(aN 0 (m.getD X [])=N/\(cb d X 0=E\/cb j X 0=E)):=by
 constructor;rintro⟨k,R,W,V⟩;by_cases e:k=X;subst e;exact .inr ⟨W,V⟩;exact .inl ⟨k,aa,W,V⟩;rintro(⟨k,R,W,V⟩|⟨W,V⟩);exact⟨k,aa,W,V⟩;exact⟨X,aa,W,V⟩
end
section
variable[Inhabited dB]
def aje(ah O N M H G F Ol:Int)(D P j V B l A d z r14 y x w u v:RV)(m t s q R:ar)(n:Nat)(L:dE)(p:ap)
  (hn:n<=1000)(hm:Y m=n)(rB:lenOf l.val=(n:Int))(k:∀g,wP R g=J<->Ft m d j n g)
  (h:TB.Ev 39 (wk++[.r P,.i ah,.r (pW m d j n),.r V,.r (BB m d j l n)]) (.ret [.i ah,.r (aI (pW m d j n).ae),.r (aI V.ae),.r (aI t),.r (aI s),.r (aI q)]))
  (c:p.map (C.xv ⟨[tX,tY,NU,NV,SQ,eu,ah,O,N,M,H,G,F,Ol],[],[az,mb,nq,nu,bE,D,P,j,V,B,l,A,d,z,r14,y,x,w,aI m,aI R,u,v],[]⟩)=[.i 0,.r (aI (BC m d j n 0)),.r (aI (BD m d j l n 0))]):
  T.wp TB.Ev (λo=>o=.ret [.i ah,.r (aI (pW m d j n).ae),.r (aI V.ae),.r (aI t),.r (aI s),.r (aI q),.i 0]) (T.loop 5 Sa p af8) ⟨[tX,tY,NU,NV,SQ,eu,ah,O,N,M,H,G,F,Ol],[],[az,mb,nq,nu,bE,D,P,j,V,B,l,A,d,z,r14,y,x,w,aI m,aI R,u,v],[]⟩ L:=by
 have f:n<=140737488355328:=aa;have b:((Y m:Nat):Int)=(n:Int):=aa;refine cP n (λi a=>a=[.r (aI (BC m d j n i)),.r (aI (BD m d j l n i))]) (by rw[c];exact⟨0,rfl,FJ _,rfl⟩) ?_;rintro i _ W rfl;simp[b,rB,aFB,aFC];refine ax (λW=>⟨W, ?_⟩) (λac=> ?_);have ag:bp (aZ m (i:Int) 0).val=aN 0 (m.getD i []):=by simp[aZ,aN]
 rw[ag,cu W f,cu W f];refine ax (λX=> ?_) (λX=>⟨W, ?_⟩);have X:wP R (aN 0 (m.getD i []))=true:=X;have Q:jK m d j n i=false:=TJ.2 ((k _).1 X);rw[aFH Q,aFI Q];have X:¬wP R (aN 0 (m.getD i []))=true:=X;have Q:jK m d j n i=true:=by
  cases e:jK m d j n i;exact(X ((k _).2 (TJ.1 e))).elim;rfl
 rw[aFF Q,<-aFG Q];rfl;have al:i=n:=aa9 W (T6 ac);subst al;have e1:aI (BC m d j i i)=pW m d j i:=by rw[aFD];rfl
 have e2:aI (BD m d j l i i)=BB m d j l i:=by rw[aFE];rfl
 simp only[wk,da,di] at h;rw[e1,e2,aT h];simp
def aFJ(R:bv->Prop)(ah y x w v u t:Int)(s A j P q l p d k r14 f ac ag:RV)(m W V Q:ar)(n:Nat)(L:dE)
  (D:n<=1000)(X:Y m=n)(rA:lenOf j.val=(n:Int))(O:lenOf d.val=(n:Int))(rB:lenOf l.val=(n:Int))
  (B:TB.Ev 39 (wk++[.r A,.i ah,.r (pW m d j n),.r P,.r (BB m d j l n)]) (.ret [.i ah,.r (aI (pW m d j n).ae),.r (aI P.ae),.r (aI W),.r (aI V),.r (aI Q)]))
  (hR:∀o,o=.ret [.i ah,.r (aI (pW m d j n).ae),.r (aI P.ae),.r (aI W),.r (aI V),.r (aI Q),.i 0]->R o):
  T.wp TB.Ev R (SI.at q21) ⟨[tX,tY,NU,NV,SQ,eu,ah,y,x,w,v,u,t],[],[az,mb,nq,nu,bE,s,A,j,P,q,l,p,d,k,r14,f,ac,ag,aI m],[]⟩ L:=by
 rw[show SI.at q21=T.loop _ _ _ _ from rfl];have al:n<=140737488355328:=aa;have F:(n:Int)<=536870912:=aa;have an:((Y m:Nat):Int)=(n:Int):=aa;refine aFj (λo=>o=.ret [.i ah,.r (aI (pW m d j n).ae),.r (aI P.ae),.r (aI W),.r (aI V),.r (aI Q),.i 0]) hR n (λi a0=>∃X,a0=[.r (aI X)]/\∀g,wP X g=J<->Ft m d j i g) ⟨0,rfl,FJ _,[],rfl,λg=>⟨λh=>by simp[wP,jq] at h,λ⟨_,hk,_⟩=>aG hk (axf _)⟩⟩ ?_;rintro i _ N ⟨M,rfl,H⟩;simp[an,O,rA];refine ax (λN=>⟨N, ?_⟩) (λa3=> ?_);have z:(cb d i 0=E\/cb j i 0=E)->∃X,aI (gO 1 [RV.mk (Value.int I (bp (aZ m (i:Int) 0).val)) [],RV.mk (Value.bool J) []] M)=aI X/\∀g,wP X g=J<->Ft m d j (i+1) g:=λa4=>⟨_,rfl,λg=>by
  rw[avO,avT,jy,H,cz];have:bp (aZ m (i:Int) 0).val=aN 0 (m.getD i []):=by simp[aZ,aN]
  rw[this];constructor;rintro(e|e);exact .inr ⟨e.symm,a4⟩;exact .inl e;rintro(e|⟨e,_⟩);exact .inr e;exact .inl e.symm⟩
 simp[cu N al];refine ax (λG=>⟨N,ax (λa2=> ?_) (λa2=>z (.inr (H7.2 a2)))⟩) (λG=>z (.inl (H7.2 G)));refine⟨M,rfl,λg=> ?_⟩;rw[H,avT];have G:cb d i 0=true:=G;have a2:cb j i 0=true:=a2;rw[G,a2];simp;have a9:i=n:=aa9 N (T6 a3);subst a9;rw[show∀{a b:T},E4 a b jk=T.gA (.c J) (.c J) a b from rfl,Fc];have HO:Qt (λo=>o=.ret [.i ah,.r (aI (pW m d j i).ae),.r (aI P.ae),.r (aI W),.r (aI V),.r (aI Q),.i 0]):=single oes;have bb:(lenOf d.val).toNat=i:=aa;refine⟨.inl rfl,λ_=> ?_,λ_=> ?_,λ_ _=>HO⟩;simp[O,F];rw[show∀{a b:T},E4 a b jk=T.gA (.c J) (.c J) a b from rfl,Fc];refine⟨.inl rfl,λ_=> ?_,λ_=> ?_,λ_ _=>HO⟩;simp[O,F];exact aje _ _ _ _ _ _ _ _ _ _ _ _ _ _ _ _ _ _ _ _ _ _ _ m W V Q M i _ _ D X rB H B (by simp[ajc,ajd]);simp[O,F];exact aje _ _ _ _ _ _ _ _ _ _ _ _ _ _ _ _ _ _ _ _ _ _ _ m W V Q M i _ _ D X rB H B (by simp[ajc,ajd]);simp[O,F];exact aje _ _ _ _ _ _ _ _ _ _ _ _ _ _ _ _ _ _ _ _ _ _ _ m W V Q M i _ _ D X rB H B (by simp[ajc,ajd])
end
def vq(X:ar)(a b:Int):Bool:=match jq 2 [a,b,0] X with
 |U W=>fW (W.getD 2 default).val
 |none=>E
def Ot(a b:Int)(X:aM):lD 2 [a,b,0] X=decide ((X.take 2).map (λc=>bp c.val)=[a,b]):=rfl
def avU(x y a b:Int):∀P:ar,vq (gO 2 [RV.mk (.int I x) [],RV.mk (.int I y) [],RV.mk (.bool J) []] P) a b=(decide (([x,y]:bw)=[a,b])||vq P a b)
 |[]=>by
  by_cases h:([x,y]:bw)=[a,b];have X:x=a/\y=b:=by simpa using h
  obtain⟨rfl,rfl⟩:=X;simp[vq,gO,jq,Ot,bp,fW];have M:lD 2 [a,b,0] [RV.mk (.int I x) [],RV.mk (.int I y) [],RV.mk (.bool J) []]=false:=by
   rw[Ot];exact decide_eq_false h
  rw[decide_eq_false h];simp[vq,gO,jq,M]
 |r::W=>by
  have N:=avU x y a b W;have V:(BK (λc:RV=>bp c.val) (List.take 2 [RV.mk (.int I x) [],RV.mk (.int I y) [],RV.mk (.bool J) []]))=[x,y]:=rfl;by_cases X:(r.take 2).map (λc=>bp c.val)=[x,y];have Q:gO 2 [RV.mk (.int I x) [],RV.mk (.int I y) [],RV.mk (.bool J) []] (r::W)=[RV.mk (.int I x) [],RV.mk (.int I y) [],RV.mk (.bool J) []]::W:=by
   simp only[gO,V,lD];rw[aL (by simpa using X)]
  rw[Q];by_cases h:([x,y]:bw)=[a,b];have H:x=a/\y=b:=by simpa using h
  obtain⟨rfl,rfl⟩:=H;simp[vq,jq,Ot,bp,fW];simp only[vq,jq,KP,Ot,X,V,h];simp;have Q:gO 2 [RV.mk (.int I x) [],RV.mk (.int I y) [],RV.mk (.bool J) []] (r::W)=r::gO 2 [RV.mk (.int I x) [],RV.mk (.int I y) [],RV.mk (.bool J) []] W:=by
   simp only[gO,V,lD];rw[aP (by simpa using X)]
  rw[Q];by_cases h:(r.take 2).map (λc=>bp c.val)=[a,b];have G:¬([x,y]:bw)=[a,b]:=λe=>X (by rw[h,e])
  simp only[vq,jq,KP,Ot,h,G];simp;simp only[vq,jq,KP,Ot,h] at N⊢;simpa using N
def aFK(x y a b:Int)(V:ar):vq (gO 2 [RV.mk (.int I x) [],RV.mk (.int I y) [],RV.mk (.bool J) []] V) a b=((decide (a=x)&&decide (b=y))||vq V a b):=by
 rw[avU];congr 1;by_cases X:a=x;subst X;by_cases W:b=y;subst W;simp;have:¬y=b:=λe=>W e.symm
 simp[W,this];have:¬x=a:=λe=>X e.symm
 simp[X,this]
section
variable{R:bv->Prop}{d:aY}{t:T}{O:ai}{L:dE}
variable[Inhabited dB]
end
section
variable{R:bv->Prop}{f:aY}{t:T}{O:ai}{L:dE}
def ajf(a b c:Int):TB.Ev 123 [.i a,.i b,.i c] (.ret [.b (decide (b<=a)&&decide (a<=c))]):=by
 refine ce ?_;simp[ahF]
 grind
def avV(a b:Int):TB.Ev 202 [.i a,.i b] (.ret [.b (decide (-1099511627776<=a/\a<=b/\b<=1099511627776))]):=by
 refine ce ?_;simp[ahD]
 grind
def avW(a b c d:Int):TB.Ev 119 [.i a,.i b,.i c,.i d] (.ret [.b (bc a b c d)]):=by
 refine ce ?_;have e:bc a b c d=(decide (-1099511627776<=a/\a<=b/\b<=1099511627776)&&decide (-1099511627776<=c/\c<=d/\d<=1099511627776)):=by
  rw[vx,aaE];simp
 rw[e];simp[ahC,aT (avV a b),aT (avV c d)]
 grind
def Ou(c:Nat->Int):Prop:=bc (c 0) (c 1) (c 2) (c 3)=J/\0<=c 4/\c 4<=c 5/\c 5<=4095/\(-1048576<=c 6/\c 6<=1048576)∧-1048576<=c 7/\c 7<=1048576
open Classical in
def aFL(c:Nat->Int):TB.Ev 193 (pT c) (.ret [.b (decide (Ou c))]):=by
 refine ce ?_;simp[ahG,pT,aT (avW (c 0) (c 1) (c 2) (c 3)),aT (ajf (c 6) _ _),aT (ajf (c 7) _ _),Ou]
 grind
def lA(c:Nat->Int)(k:Int):Int:=max 0 (min k (c 5+1)-c 4)
def ajg{c:Nat->Int}{k:Int}(Q:Ou c):(ay .mul I (lA c k) (c 6)=lA c k*c 6)/\ay .mul I (lA c k) (c 7)=lA c k*c 7:=by
 obtain⟨-,P,N,M,W,V⟩:=Q;have X:0<=lA c k:=by simp only[lA];omega
 have H:lA c k<=4096:=by simp only[lA];omega
 generalize lA c k=s at*;have G:=ajG W.1 X;have a2:=ajG W.2 X;have F:=ajG V.1 X;have D:=ajG V.2 X;simp only[ay];exact⟨bO aa aa,bO aa aa⟩
def plW(c:Nat->Int)(k:Int):bn:=[.i (jn (gv (c 0) (c 1) (c 2) (c 3) (lA c k*c 6) (lA c k*c 7)==0) (IntKind.i64.wrap (c 0+lA c k*c 6))),.i (jn (gv (c 0) (c 1) (c 2) (c 3) (lA c k*c 6) (lA c k*c 7)==0) (IntKind.i64.wrap (c 1+lA c k*c 6))),.i (jn (gv (c 0) (c 1) (c 2) (c 3) (lA c k*c 6) (lA c k*c 7)==0) (IntKind.i64.wrap (c 2+lA c k*c 7))),.i (jn (gv (c 0) (c 1) (c 2) (c 3) (lA c k*c 6) (lA c k*c 7)==0) (IntKind.i64.wrap (c 3+lA c k*c 7))),.i (gv (c 0) (c 1) (c 2) (c 3) (lA c k*c 6) (lA c k*c 7))]
def avX(c:Nat->Int)(k:Int)(X:Ou c)(H:0<=k/\k<=4096):TB.Ev 194 (pT c++[.i k]) (.ret (plW c k)):=by
 refine ce ?_;obtain⟨W,V⟩:=ajg (k:=k) X;obtain⟨-,G,F,D,-,-⟩:=X;have Q:ay .sub I k (c 4)=k-c 4:=by simp only[ay];exact bO aa aa
 have P:ay .sub I (c 5) (c 4)=c 5-c 4:=by simp only[ay];exact bO aa aa
 have N:ay .add I (c 5-c 4) 1=c 5-c 4+1:=by simp only[ay];exact bO aa aa
 have M:min (max (k-c 4) 0) (c 5-c 4+1)=lA c k:=by simp only[lA];omega
 simp[ahH,pT,Q,P,N,M,W,V,plW]
def aFM(c:Nat->Int)(ah:Int):∃o,TB.Ev 25 (pT c++[.i ah]) o/\∃G,o=.ret G/\TB.Ev 112 (pT c++[.i ah]) (.ret G):=by
 have W:=aFL c;have F:=ajf ah 0 4095;simp only[pT,da,di] at W;by_cases X:Ou c;by_cases D:0<=ah/\ah<=4095
 ·have x:=X;obtain⟨V,Q,P,w,N,M⟩:=x;obtain⟨v,u⟩:=ajg (k:=ah) X;obtain⟨s,r⟩:=ajg (k:=ah+1) X;have B:=avX c ah X aa;have A:=avX c (ah+1) X aa;simp only[pT,plW,da,di] at B A;have p:ay .add I (c 5) 1=c 5+1:=by simp only[ay];exact bO aa aa
  have z:ay .add I ah 1=ah+1:=by simp only[ay];exact bO aa aa
  have m:ay .sub I (min ah (c 5+1)) (c 4)=min ah (c 5+1)-c 4:=by simp only[ay];exact bO aa aa
  have l:ay .sub I (min ah (c 5)+1) (c 4)=min ah (c 5)+1-c 4:=by simp only[ay];exact bO aa aa
  have j:max 0 (min ah (c 5+1)-c 4)=lA c ah:=rfl;have h:max 0 (min ah (c 5)+1-c 4)=lA c (ah+1):=by simp only[lA];omega
  refine dR ?_;simp[NQ,pT,V,Q,P,D,N,M,p,z,m,l,j,h,v,u,s,r];refine ax (λq=>aa) (λ_=>ax (λy=>ax (λH=> ?_) (λH=> ?_)) (λy=> ?_))
  all_goals
   refine ce ?_;simp[SL,pT,aT W,aT F,X,D,z,aT B,aT A,y]
  exact ax (λ_=>⟨rfl,rfl,rfl,rfl,rfl⟩) (λn=>aG H n);exact λq=>aG q H
 refine⟨.ret [.i 0,.i 0,.i 0,.i 0,.i 1],ce ?_,_,rfl,ce ?_⟩;obtain⟨V,Q,P,w,N,M⟩:=X;simp[NQ,pT,V,Q,P,N,M]
 grind
 simp[SL,pT,aT W,aT F,X]
 grind
 refine⟨.ret [.i 0,.i 0,.i 0,.i 0,.i 290],ce ?_,_,rfl,ce ?_⟩;simp only[Ou] at X;simp[NQ,pT]
 grind
 simp[SL,pT,aT W,X]
end
section
variable{R:bv->Prop}{c:aY}{t:T}{O:ai}{L:dE}
variable[Inhabited dB]
def LfK(ah a b:Int)(k:Nat):Prop:=ci bE k 2=ah/\ci bE k 4=7/\ci bE k 1=a/\ci bE k 9=b+1
def Dp(ah a b:Int):Prop:=∃k<Y bE.ae,LfK ah a b k
def NoL(ah a b:Int)(i:Nat):Prop:=∀k<i,¬LfK ah a b k
def NoL.succ{a b:Int}(h:NoL N a b X)(k:¬LfK N a b X):NoL N a b (X+1):=λj W=>by
 by_cases e:j=X;subst e;exact k;exact h j aa
def oB(ah:Int)(a b:Nat):Prop:=a<b/\b<Y az.ae/\(Dp ah a b\/Dp ah b a)
structure rG(v:ar)(P:Nat->Nat->Prop):Prop where
 ok:∀x∈v,0<=aN 0 x/\aN 0 x<aN 1 x/\aN 1 x<Y az.ae
 iff:∀a b:Nat,(∃x∈v,aN 0 x=a/\aN 1 x=b)<->P a b
def rG.vn{P X:Nat->Nat->Prop}(h:rG W P)(e:∀a b,P a b<->X a b):rG W X:=⟨h.ok,λa b=>(h.iff a b).trans (e a b)⟩
def rG.add{V:Nat->Nat->Prop}(h:rG W V)(H:X<P)(G:P<Y az.ae):rG (W++[[RV.mk (.int I (X:Int)) [],RV.mk (.int I (P:Int)) []]]) (λa b=>V a b\/(a=X/\b=P)):=by
 refine⟨λx Q=> ?_,λa b=> ?_⟩;rcases fh.1 Q with Q|Q;exact h.ok x Q;simp at Q;subst Q;show 0<=(X:Int)/\(X:Int)<(P:Int)/\(P:Int)<_;omega;rw[<-h.iff];constructor;rintro⟨x,Q,N,M⟩;rcases fh.1 Q with Q|Q;exact .inl ⟨x,Q,N,M⟩;simp at Q;subst Q;exact .inr ⟨(axn.1 N).symm,(axn.1 M).symm⟩;rintro(⟨x,Q,N,M⟩|⟨rfl,rfl⟩);exact⟨x,fh.2 (.inl Q),N,M⟩;exact⟨_,OA _ (T3.2 rfl),rfl,rfl⟩
open Classical in
def avY(h:gc)(ah a b:Int)(B:-1<=b/\b<=4096):TB.Ev 121 (wk++[.i ah,.i a,.i b]) (.ret [.b (decide (Dp ah a b))]):=by
 refine ce ?_;have Q:ay .add I b 1=b+1:=by simp only[ay];exact bO aa aa
 obtain⟨D,V⟩:∃D,D=decide (Dp ah a b):=⟨_,rfl⟩;rw[<-V];simp[ahE,wk];refine cP (Y bE.ae) (λi P=>P=[]/\NoL ah a b i) ⟨0,rfl,aa,rfl,λk N=>aa⟩ ?_;rintro i _ W ⟨rfl,X⟩;simp[h.sg.len,Q];refine ax (λW=> ?_) (λA=> ?_);simp[cu W h.sg.sm,W];refine ax (λM=>ax (λH=>ax (λG=>ax (λF=> ?_) (λn=>X.succ λw=>n w.2.2.2)) (λn=>X.succ λw=>n w.2.2.1)) (λn=>X.succ λw=>n w.2.1)) (λn=>X.succ λw=>n w.1);rw[V];exact decide_eq_true (p:=Dp ah a b) ⟨i,W,M,H,G,F⟩;rw[V];exact decide_eq_false (p:=Dp ah a b) λ⟨k,N,w⟩=>X k aa w
open Classical in
def r56(h:gc)(ah:Int)(x:Y az.ae<=64):∃o,TB.Ev 56 (wk++[.i ah]) o/\∃v,o=.ret [.r (aI v)]/\Y v<=4096/\rG v (oB ah):=by
 refine dR ?_;simp[T56,wk];refine cP (Y az.ae) (λi V=>∃v,V=[.r (aI v)]/\Y v<=i*64/\rG v λa b=>oB ah a b/\a<i) ⟨0,rfl,aa,[],rfl,aw,⟨aw,λa b=>aw⟩⟩ ?_;rintro i _ N ⟨v,rfl,D,X⟩;simp[h.rl.len];refine ax (λN=> ?_) (λw=> ?_);refine cP (Y az.ae) (λj V=>i<j/\∃v,V=[.r (aI v)]/\Y v<=i*64+j/\rG v λa b=>oB ah a b/\(a<i\/a=i/\b<j)) ⟨i+1,Kg aa,aa,aa,v,rfl,aa,X.vn λa b=> ?_⟩ ?_;constructor;exact λ⟨p,q⟩=>⟨p,.inl q⟩
 exact λ⟨p,q⟩=>⟨p,by have:=p.1;omega⟩
 rintro j _ W ⟨M,v,rfl,D,X⟩;simp[h.rl.len];refine ax (λW=> ?_) (λu=> ?_);have H:=avY h ah i j aa;have G:=avY h ah j i aa;simp only[wk,da,di] at H G;have F:(Dp ah i j\/Dp ah j i)->rG (v++[[RV.mk (.int I (i:Int)) [],RV.mk (.int I (j:Int)) []]]) λa b=>oB ah a b/\(a<i\/a=i/\b<j+1):=λq=>(X.add M W).vn λa b=>by
  constructor;rintro(⟨p,q⟩|⟨rfl,rfl⟩);exact⟨p,aa⟩;exact⟨⟨M,W,q⟩,aa⟩;rintro⟨p,q⟩;by_cases e:a=i/\b=j;exact .inr e;exact .inl ⟨p,aa⟩
 have B:¬Dp ah i j->¬Dp ah j i->rG v λa b=>oB ah a b/\(a<i\/a=i/\b<j+1):=λQ P=>X.vn λa b=>by
  constructor;exact λ⟨p,q⟩=>⟨p,aa⟩
  rintro⟨p,q⟩;refine⟨p, ?_⟩;by_cases e:a=i/\b=j;obtain⟨rfl,rfl⟩:=e;exact aG p.2.2 (λz=>z.elim Q P);omega
 rw[aT H];simp;rw[aT G];simp[cu W h.rl.sm];refine ax (λq=>⟨aa,aa,_,rfl,dh,F (.inl q)⟩) (λQ=>ax (λq=>⟨aa,aa,_,rfl,dh,F (.inr q)⟩) (λP=>⟨aa,v,rfl,aa,B Q P⟩));have A:j=Y az.ae:=aa;subst A;simp[cu N h.rl.sm];refine⟨v,rfl,aa,X.vn λa b=> ?_⟩;constructor;exact λ⟨p,q⟩=>⟨p,aa⟩
 exact λ⟨p,q⟩=>⟨p,by have:=p.2.1;omega⟩
 have y:i=Y az.ae:=aa;subst y;exact⟨v,rfl,aa,X.vn λa b=>⟨λp=>p.1,λp=>⟨p,by have:=p.1;have:=p.2.1;omega⟩⟩⟩
def PrK(ah a b:Int)(k:Nat):Prop:=ci bE k 2=ah/\ci bE k 4=7/\ci bE k 9-1≠ci bE k 1/\a=min (ci bE k 1) (ci bE k 9-1)/\b=max (ci bE k 1) (ci bE k 9-1)
def KJ(ah:Int)(m:ar)(i:Nat):Prop:=∀a b:Int,vq m a b=J<->∃k<i,PrK ah a b k
def KJ.skip(h:KJ N W X)(n:¬(ci bE X 2=N/\ci bE X 4=7/\ci bE X 9-1≠ci bE X 1)):KJ N W (X+1):=λa b=>by
 rw[h a b];constructor;rintro⟨k,V,w⟩;exact⟨k,aa,w⟩;rintro⟨k,V,w⟩;by_cases e:k=X;subst e;exact aG ⟨w.1,w.2.1,w.2.2.1⟩ n;exact⟨k,aa,w⟩
def KJ.ins(h:KJ N W X)(V:ci bE X 2=N)(Q:ci bE X 4=7)(P:ci bE X 9-1≠ci bE X 1):KJ N (gO 2 [RV.mk (.int I (min (ci bE X 1) (ci bE X 9-1))) [],RV.mk (.int I (max (ci bE X 1) (ci bE X 9-1))) [],RV.mk (.bool J) []] W) (X+1):=λa b=>by
 rw[aFK,jy,h a b,aA,cz,cz];constructor;rintro(⟨M,H⟩|⟨k,G,w⟩);exact⟨X,aa,V,Q,P,M,H⟩;exact⟨k,aa,w⟩;rintro⟨k,G,w⟩;by_cases e:k=X;subst e;exact .inl ⟨w.2.2.2.1,w.2.2.2.2⟩;exact .inr ⟨k,aa,w⟩
def avZ(ah:Int)(o:bv):Prop:=∃v,o=.ret [.r (aI v),.i 0]/\Y v<=4096/\rG v (oB ah)
def aFP(h:gc)(ah:Int)(B:iD=0)(l:jm ah 0 (eu-1)=J):∃o,TB.Ev 23 (wk++[.i ah]) o/\avZ ah o:=by
 obtain⟨P,A⟩:∃P:bv->Prop,∀o,P o<->avZ ah o:=⟨_,λ_=>Iff.rfl⟩
 suffices g:∃o,TB.Ev 23 (wk++[.i ah]) o/\P o by
  obtain⟨o,f,d⟩:=g;exact⟨o,f,(A o).1 d⟩
 refine dR ?_;have F:=e65 sy h ah;obtain⟨-,c⟩:=yf sy h;simp only[wk,da,di] at F;simp[B,l] at F;have D:=c B;have hn:=D.nr;have a0:=D.ns;simp[T23,wk,aT F];refine cP (Y bE.ae) (λi M=>∃m,M=[.r (aI m)]/\KJ ah m i) ⟨0,rfl,aa,[],rfl,λa b=>by simp[vq,jq]⟩ ?_;rintro i _ X ⟨m,rfl,H⟩;simp[h.sg.len];split;rename_i X;simp[cu X h.sg.sm,X];have ac:=D.HE i X;refine ax (λq2=>ax (λy=> ?_) (λn=>⟨m,rfl,H.skip λw=>n w.2.1⟩)) (λn=>⟨m,rfl,H.skip λw=>n w.1⟩);have w9:=ac.wth;rw[aL (show ci bE i 4=7\/ci bE i 4=8 from .inl y)] at w9;have e1:ay .sub I (bp (aZ bE.ae (i:Int) 9).val) 1=ci bE i 9-1:=by
  show ay .sub I (ci bE i 9) 1=_;simp only[ay];exact bO aa aa
 rw[e1];exact ax (λn=>⟨m,rfl,H.skip λw=>w.2.2 n⟩) (λn=>⟨_,rfl,H.ins q2 y n⟩);rename_i af;have ag:i=Y bE.ae:=aa;subst ag;have x:∀a b:Nat,a<Y az.ae->b<Y az.ae->(vq m a b=J<->oB ah a b):=λa b ha hb=>by
  rw[H a b];constructor;rintro⟨k,W,V,Q,u,s,w5⟩;refine⟨aa,hb, ?_⟩;by_cases z:ci bE k 1<=ci bE k 9-1;exact .inl ⟨k,W,V,Q,aa,aa⟩;exact .inr ⟨k,W,V,Q,aa,aa⟩;rintro⟨z,-,(⟨k,W,V,Q,u,s⟩|⟨k,W,V,Q,u,s⟩)⟩;exact⟨k,W,V,Q,aa,aa,aa⟩;exact⟨k,W,V,Q,aa,aa,aa⟩
 refine cP (Y az.ae) (λi M=>∃v,M=[.r (aI v)]/\Y v<=i*64/\rG v λa b=>oB ah a b/\a<i) ⟨0,rfl,aa,[],rfl,aw,⟨aw,λa b=>aw⟩⟩ ?_;rintro i _ X ⟨v,rfl,k1,N⟩;simp[h.rl.len];split;rename_i X;refine cP (Y az.ae) (λj M=>∃v,M=[.r (aI v)]/\Y v<=i*64+j/\rG v λa b=>oB ah a b/\(a<i\/a=i/\b<j)) ⟨0,rfl,aa,v,rfl,aa,N.vn λa b=>⟨λw=>⟨w.1,.inl w.2⟩,λw=>⟨w.1,by have:=w.2;omega⟩⟩⟩ ?_;rintro j _ G ⟨v,rfl,k1,N⟩;simp[h.rl.len];split;rename_i G;simp[cu G h.rl.sm];refine ax (λq=> ?_) (λq=> ?_);have q:vq m i j=true:=q;have q:=(x i j X G).1 q;refine⟨aa,_,rfl,dh,(N.add q.1 q.2.1).vn λa b=> ?_⟩;constructor;rintro(⟨p,z⟩|⟨rfl,rfl⟩);exact⟨p,aa⟩;exact⟨q,aa⟩;rintro⟨p,z⟩;by_cases e:a=i/\b=j;exact .inr e;exact .inl ⟨p,aa⟩;have q:¬vq m i j=true:=q;have q:=λz=>q ((x i j X G).2 z)
 refine⟨v,rfl,aa,N.vn λa b=> ?_⟩;constructor;exact λ⟨p,z⟩=>⟨p,aa⟩
 rintro⟨p,z⟩;refine⟨p, ?_⟩;by_cases e:a=i/\b=j;obtain⟨rfl,rfl⟩:=e;exact aG p q;omega;rename_i a1;have al:j=Y az.ae:=aa;subst al;simp[cu X h.rl.sm];refine⟨v,rfl,aa,N.vn λa b=> ?_⟩;constructor;exact λ⟨p,z⟩=>⟨p,aa⟩
 exact λ⟨p,z⟩=>⟨p,by have:=p.2.1;omega⟩
 rename_i af;have an:i=Y az.ae:=aa;subst an;exact(A _).2 ⟨v,rfl,aa,N.vn λa b=>⟨λw=>w.1,λw=>⟨w,by have:=w.1;have:=w.2.1;omega⟩⟩⟩
def aFQ(h:gc)(ah:Int)(X:iD=0)(W:jm ah 0 (eu-1)=J):∃v,TB.Ev 23 (wk++[.i ah]) (.ret [.r (aI v),.i 0])/\Y v<=4096/\rG v (oB ah):=by
 obtain⟨o,V,w,rfl,Q,P⟩:=aFP h ah X W;exact⟨w,V,Q,P⟩
end
def wQ(n:Nat)(g:Nat->Nat):ar:=(fj n).map λk=>[RV.mk (.int I (g k:Int)) []]
def TK(n:Nat)(g:Nat->Nat):(wQ n g).length=n:=by simp[wQ]
def aaN{n:Nat}{g:Nat->Nat}{a:Int}(X:0<=a)(h:a<n):bp (aZ (wQ n g) a 0).val=(g a.toNat:Int):=by
 have e:a=(a.toNat:Int):=aa;rw[e];simp only[wQ];rw[aja aa];rfl
def aFR{n:Nat}{g:Nat->Nat}{a:Int}{x:Nat}:((wQ n g).modify a.toNat λX=>fA X 0 [RV.mk (.int I (x:Int)) []])=wQ n λq=>if q=a.toNat then x else g q:=by
 simp only[wQ];refine ai8 n a.toNat _ _ _ λk _=> ?_
 by_cases e:k=a.toNat;rw[aL e,aL e];rfl;rw[aP e,aP e]
def aFS(h:∀q,Q q=D q):wQ X Q=wQ X D:=by
 have:Q=D:=funext h;rw[this]
def rH(v:ar):List (Nat×Nat):=v.map λx=>((aN 0 x).toNat,(aN 1 x).toNat)
def av0(p:Nat×Nat):∀(l:List (Nat×Nat))(g:Nat->Nat),zL (l++[p]) g=wO (zL l g) p.1 p.2
 |[],_=>rfl
 |a::l,g=>av0 p l _
def aFT(V:X<Y W):(rH W).take (X+1)=(rH W).take X++[((aN 0 W[X]).toNat,(aN 1 W[X]).toNat)]:=by
 rw[axa];simp[rH,V]
section
variable{R:bv->Prop}{c:aY}{t:T}{O:ai}{L:dE}
def r64(n:Nat)(m:n<=64)(v:ar)(l:Y v<=4096)(A:∀x∈v,(0<=aN 0 x/\aN 0 x<n)/\0<=aN 1 x/\aN 1 x<n):TB.Ev 64 [.i n,.r (aI v)] (.ret [.r (aI (wQ n (rF (rH v) n)))]):=by
 refine ce ?_;simp[T64];have P:n<=140737488355328:=aa;refine cP n (λi W=>W=[.r (aI (wQ i λq=>q))]) ⟨0,rfl,aa,rfl⟩ ?_;rintro i _ N rfl;simp[TK];refine ax (λN=> ?_) (λj=> ?_);simp[cu N P];refine⟨aa, ?_⟩;simp only[wQ];rw[List.range_succ,OG];rfl;have z:i=n:=aa;subst z;refine cP i (λr W=>W=[.r (aI (wQ i (rF (rH v) r)))]) ⟨0,rfl,aa,rfl⟩ ?_;rintro r _ M rfl;simp[TK];refine ax (λM=> ?_) (λh=> ?_);refine cP (Y v) (λk W=>W=[.r (aI (wQ i (zL ((rH v).take k) (rF (rH v) r))))]) ⟨0,rfl,aa,rfl⟩ ?_;rintro k _ X rfl;simp[TK];refine ax (λX=> ?_) (λf=> ?_);obtain⟨⟨H,G⟩,F,D⟩:=A _ (pl X);have w:bp (aZ v (k:Int) 0).val=aN 0 v[k]:=by simp[aZ,aN,X]
 have u:bp (aZ v (k:Int) 1).val=aN 1 v[k]:=by simp[aZ,aN,X]
 simp only[w,u];rw[aaN H G,aaN F D];simp[X,H,G,F,D,TK,cu X (show Y v<=140737488355328 from aa)];rw[aFT X,av0];generalize zL ((rH v).take k) (rF (rH v) r)=g;generalize(aN 0 v[k]).toNat=a;generalize(aN 1 v[k]).toNat=b;have s:∀x y:Nat,min (x:Int) (y:Int)=((min x y:Nat):Int):=λx y=>aa
 rw[s];have Q:=λ(g:Nat->Nat)(a x:Nat)=>aFR (n:=i) (g:=g) (a:=(a:Int)) (x:=x)
 simp only[zR] at Q;rw[Q,Q];rw[aFS λq=> ?_];simp only[wO];by_cases B:q=a;subst B;by_cases V:q=b;subst V;simp;simp[V];by_cases V:q=b;subst V;simp;simp[B,V];have p:k=Y v:=aa;subst p;simp[cu M P];rw[KM (by simp[rH])];rfl;have o:r=i:=aa;subst o;rfl
end
section
variable{R:bv->Prop}{v:aY}{t:T}{O:ai}{L:dE}
variable[Inhabited dB]
structure Fu(ah:Int)(n l m u c j:RV):Prop where
 br:0<=ah/\ah<eu
 N0:Y u.ae=Y az.ae
 N1:Y j.ae=Y az.ae
 rg:t8 ah n l m c
 box:∀i<Y az.ae,vB j i=J/\Kh u i=0
def aFV(h:gc)(ah:Int)(n l m u c j:RV)(cT:Sl n)(D:Sl l)(qG:Sl m)(P:Sl u)(B:Sl c)(N:Sl j)(A:∀i<Y c.ae,Sl (cr 96 c i)):∃o,TB.Ev 111 (wk++[.r n,.i ah,.r l,.r m,.r u,.r c,.r j]) o/\∃b,o=.ret [.b b]/\(b=J<->Fu ah n l m u c j):=by
 refine dR ?_;obtain⟨o,M,b,rfl,H⟩:=r41 h ah n l m c cT D qG B A;simp only[wk,da,di] at M;simp[ahI,wk,h.rl.len,P.len,N.len];refine ax (λq p=>by have:=p.br;omega) (λw=>ax (λq p=>by have:=p.br;omega) (λv=> ?_));refine ax (λN0=> ?_) (λq p=>q (by have:=p.N0;omega));refine ax (λN1=> ?_) (λq p=>q (by have:=p.N1;omega));rw[aT M];simp;refine ax (λW=> ?_) (λW p=>W (H.2 p.rg));have z:=H.1 W;refine cP (Y az.ae) (λi y=>y=[]/\∀k<i,vB j k=J/\Kh u k=0) ⟨0,rfl,aa,rfl,aa⟩ ?_;rintro i _ X ⟨rfl,G⟩;simp[h.rl.len,P.len,N.len];refine ax (λX=> ?_) (λs=> ?_);have F:=avW (ci j i 0) (ci j i 1) (ci j i 2) (ci j i 3);simp only[ci] at F;simp[aT F,cu X h.rl.sm];refine⟨aa,ax (λV=>⟨aa,ax (λQ=>jc G ⟨Q,V⟩) (λQ p=>Q (p.box i X).1)⟩) (λV p=>V (p.box i X).2)⟩;have x:i=Y az.ae:=aa;subst x;exact⟨aa,aa,aa,z,G⟩
open Classical in
noncomputable def pg(ah:Int)(a n l m u c j:RV):Int:=
 if iD=0 then if 8<Y a.ae then 2 else if Fu ah n l m u c j then if vo (λg=>ny (ci a g) ah 4) (Y a.ae)=0 then vo (kV ah l m c) (Y az.ae) else vo (λg=>ny (ci a g) ah 4) (Y a.ae) else 310 else iD
section
variable{ah:Int}{a n l m u c j:RV}
def ajj(h:¬iD=0):pg ah a n l m u c j=iD:=by rw[pg,aP h]
def av1(h:iD=0)(w:8<Y a.ae):pg ah a n l m u c j=2:=by rw[pg,aL h,aL w]
def av2(h:iD=0)(w:¬8<Y a.ae)(s:¬Fu ah n l m u c j):pg ah a n l m u c j=310:=by rw[pg,aL h,aP w,aP s]
def av3(h:iD=0)(w:¬8<Y a.ae)(s:Fu ah n l m u c j)(V:X<Y a.ae)(Q:∀k<X,ny (ci a k) ah 4=0)(W:¬ny (ci a X) ah 4=0):pg ah a n l m u c j=ny (ci a X) ah 4:=by
 have e:=aiX (f:=λg=>ny (ci a g) ah 4) Q V W;rw[pg,aL h,aP w,aL s,aP (by rw[e];exact W),e]
def av4(h:iD=0)(w:¬8<Y a.ae)(s:Fu ah n l m u c j)(X:∀k<Y a.ae,ny (ci a k) ah 4=0):pg ah a n l m u c j=vo (kV ah l m c) (Y az.ae):=by
 rw[pg,aL h,aP w,aL s,aL (TF X)]
end
def r53(h:gc)(ah:Int)(a n l m u c j:RV)(D:Sl a)(cT:Sl n)(w:Sl l)(qG:Sl m)(ac:Sl u)(v:Sl c)(ag:Sl j)(p:∀i<Y c.ae,Sl (cr 96 c i)):TB.Ev 53 (wk++[.r a,.r n,.i ah,.r l,.r m,.r u,.r c,.r j]) (.ret [.i (pg ah a n l m u c j)]):=by
 obtain⟨X,P⟩:∃X,X=pg ah a n l m u c j:=⟨_,rfl⟩;rw[<-P];refine ce ?_;have g:=r40 h;obtain⟨o,f,b,rfl,f2⟩:=aFV h ah n l m u c j cT w qG ac v ag p;simp only[wk,da,di] at g f;simp[T53,wk,aT g,D.len];refine ax (λW=> ?_) (λW=>(P.trans (ajj W)).symm);refine ax (λh8=>(P.trans (av1 W aa)).symm) (λh8=> ?_);have A:¬8<Y a.ae:=aa;rw[aT f];simp;refine ax (λy=> ?_) (λy=>(P.trans (av2 W A λs=>y (f2.2 s))).symm);have Q:=f2.1 y;refine cP (Y a.ae) (λi al=>al=[]/\∀k<i,ny (ci a k) ah 4=0) ⟨0,rfl,aa,rfl,aa⟩ ?_;rintro i _ H ⟨rfl,x⟩;simp[D.len];refine ax (λH=> ?_) (λa3=> ?_);obtain⟨o,G,ys,rfl,N⟩:=aFM (ci a i) ah;have an:=f25 (ci a i) ah;have d:=Aw G an;injection d with d;subst d;simp only[pT,ci,da,di] at N;simp[aT N,cu H D.sm];refine⟨H,ax (λe=>jc x e) (λe=>(P.trans (av3 W A Q H x e)).symm)⟩;have a0:i=Y a.ae:=aa;subst a0;have a1:=P.trans (av4 W A Q x);obtain⟨o,G,N,b',M,F,S,V,B,e,rfl⟩:=r42 h W ah Q.br n l m c cT w qG v p Q.rg;simp only[wk,da,di] at G;rw[aT G];simp;rw[a1];by_cases z:vo (kV ah l m c) (Y az.ae)=0;obtain⟨_,_,_,_,_,q,_⟩:=N.k W Q.br Q.rg z;rw[z];injection q with q;simp at q;exact q.2.2.2.2.2.2;have q:=N.e W Q.br Q.rg z;injection q with q;simp at q;exact q.2.2.2.2.2.2
end
section
variable{R:bv->Prop}{n:aY}{t:T}{O:ai}{L:dE}
variable[Inhabited dB]
def av6(ah:Int)(g d c a:RV)(o:bv):Prop:=∃X W Q,o=.ret [.i ah,.r (aI d.ae),.r (aI c.ae),.r (aI X),.r (aI W),.r (aI Q)]/\Do ah g d c a (aI d.ae) (aI c.ae) (aI X) (aI W) (aI Q)
def x39(h:gc)(ah:Int)(g d c a:RV)(cT:Sl g)(x:Sl d)(qG:Sl c)(ag:Sl a)(hn:Y az.ae<=1000)(H:∀i<Y az.ae,Sl (cr 96 a i)/\(cr 96 a i).ae.length<=100)(Q:t8 ah g d c a)(al:∀k<Y az.ae,kV ah d c a k=0):∃o,TB.Ev 39 (wk++[.r g,.i ah,.r d,.r c,.r a]) o/\av6 ah g d c a o:=by
 obtain⟨P,u⟩:∃P:bv->Prop,∀o,P o<->av6 ah g d c a o:=⟨_,λ_=>Iff.rfl⟩
 suffices an:∃o,TB.Ev 39 (wk++[.r g,.i ah,.r d,.r c,.r a]) o/\P o by
  obtain⟨o,g1,g2⟩:=an;exact⟨o,g1,(u o).1 g2⟩
 refine dR ?_;simp[T39,wk];have Fh:=Q.b.1;have rA:=Q.m;have Bq:=Q.f;have rB:=Q.r;have q:Y az.ae<=140737488355328:=aa;have a0:lenOf g.val=(Y az.ae:Int):=by rw[cT.len,Fh]
 have a1:lenOf d.val=(Y az.ae:Int):=by rw[x.len,rA]
 have a9:lenOf c.val=(Y az.ae:Int):=by rw[qG.len,Bq]
 have bb:lenOf a.val=(Y az.ae:Int):=by rw[ag.len,rB]
 rw[aT (e86 d x aa)];simp;rw[aT (e87 c qG aa)];simp;refine cP (Y az.ae) (λi bg=>∃B W A,bg=[.r (aI B),.r (aI W),.r (aI A)]/\Oj ah g d c a i B A/\Y W=i/\∀k<i,aZ W (k:Int) 0=aI (cr 96 a k).ae) ⟨0,rfl,aa,[],[],[],rfl,⟨⟨rfl,aa⟩,rfl,aa⟩,rfl,aa⟩ ?_;rintro i _ X ⟨B,W,A,rfl,G,y,p⟩;have bl:=G.s.1;have br:=G.b.1;simp[a0,a1,a9,bb];refine ax (λX=> ?_) (λbs=> ?_);have n:=e88 (cr 96 a i) (H i X).1 (by have:=(H i X).2;omega);simp only[cr] at n;simp[cu X q,X,aT n];have z:=al i X;have l:∀k<i+1,aZ (W++[[aI (cr 96 a i).ae]]) (k:Int) 0=aI (cr 96 a k).ae:=λk w=>by
  by_cases e:k=i;subst e;rw[ah3 y];rfl;rw[ah4 aa];exact p k aa
 refine⟨aa,ax (λv=> ?_) (λv=> ?_)⟩;have F:cb d i 0=true:=v;rw[kV,aL F] at z;have ac:=nx _ (u89 h i ah (ci c i) (cr 96 a i) (H i X).1);simp only[wk,ci,cr,da,di,Bn,Bm,qC] at ac;rw[aT ac];simp;refine ax (λa4=> ?_) (λD=>aG z D);have af:=nx _ (TE h i ah (ci c i) _ (yg (aZ g.ae (i:Int) 0)) (ci g i) (cr 96 a i) (H i X).1);simp only[wk,ci,cr,da,di,Bn,Bm,qC] at af;rw[aT af];simp[cu X q];refine ax (λa5=> ?_) (λD=>aG (aiY h ah c g a i (H i X).1 (Q.b.2 i aa) z) D);refine⟨aa,aa,_,_,_,⟨rfl,rfl,rfl⟩,G.add (λj N=> ?_) (λj N=> ?_),by simp[y],l⟩;rw[gS,aL F]
 match j,N with
 |0,_|1,_|2,_|3,_|4,_|5,_|6,_|7,_|8,_|9,_|10,_|11,_|12,_=>rfl
 rw[gB,aL F]
 match j,N with
 |0,_|1,_|2,_|3,_=>rfl
 have F:¬cb d i 0=true:=v;refine ax (λa4=> ?_) (λD=>aG ((ah5 c g i).2 ⟨(Q.k i X).1,Q.b.2 i aa⟩) D);refine⟨aa,aa,_,_,_,⟨rfl,rfl,rfl⟩,G.add (λj N=> ?_) (λj N=> ?_),by simp[y],l⟩;rw[gS,aP F]
 match j,N with
 |0,_|1,_|2,_|3,_|4,_|5,_|6,_|7,_|8,_|9,_|10,_|11,_|12,_=>rfl
 rw[gB,aP F]
 match j,N with
 |0,_|1,_|2,_|3,_=>rfl
 have bk:i=Y az.ae:=aa;subst bk;refine(u _).2 ⟨B,W,A,rfl,⟨pV x.sm,rA,λi _=>rfl⟩,⟨pV qG.sm,Bq,λi _ j _=>rfl⟩,⟨pV aa,G.s⟩,⟨pV aa,y,λk w=> ?_⟩,⟨pV aa,G.b⟩⟩;have e:cr 96 (aI W) k=aI (cr 96 a k).ae:=by
  show db (.sl 96) (aZ W k 0)=_;rw[p k w];rfl
 rw[e];exact⟨pV (by have:=(H k w).2;omega),rfl⟩
section
variable{ah:Int}{g d c a l M V:RV}{m:ar}
def av7(W:t8 ah g d c a)(N:Y M.ae=Y az.ae)(H:Y V.ae=Y az.ae)(Q:∀k<Y az.ae,cb M k 0=jK m l d (Y az.ae) k)(P:∀k<Y az.ae,cr 96 V k=if jK m l d (Y az.ae) k=J then cr 96 a k else aI []):t8 ah g M c V:=by
 refine⟨W.b,N,W.f,H,λk X=>⟨(W.k k X).1,λz=> ?_,λz=> ?_⟩⟩;rw[Q k X] at z;rw[P k X,aP (by rw[z];simp)];rfl;rw[Q k X] at z;rw[P k X,aL z];exact(W.k k X).2.2 (ai9 X z).2
def av8(W:∀k<Y az.ae,kV ah d c a k=0)(Q:∀k<Y az.ae,cb M k 0=jK m l d (Y az.ae) k)(P:∀k<Y az.ae,cr 96 V k=if jK m l d (Y az.ae) k=J then cr 96 a k else aI []):∀k<Y az.ae,kV ah M c V k=0:=λk X=>by
 unfold kV;rw[Q k X];by_cases z:jK m l d (Y az.ae) k=J;rw[aL z];have:=W k X;rw[kV,aL (ai9 X z).2] at this;simp only[Di,P k X,aL z] at this⊢;exact this;rw[aP z]
end
end
section
variable{R:bv->Prop}{c:aY}{t:T}{O:ai}{L:dE}
variable[Inhabited dB]
structure PtX(ah:Int)(bd mv bf re wo:RV)(m vs vr vb:ar):Prop where
 lm:Y m=Y az.ae
 ok:lc m=J
 cn:∀q<Y az.ae,Cn (oB ah) q (fy m q)
 pr:∀a b,oB ah a b->fy m a=fy m b
 ac:Do ah bd (pW m wo mv (Y az.ae)) bf (BB m wo mv re (Y az.ae)) (aI (pW m wo mv (Y az.ae)).ae) (aI bf.ae) (aI vs) (aI vr) (aI vb)
def av9(ah:Int)(H Q X W P V N M:RV)(o:bv):Prop:=(∃e,e≠0/\(pg ah H Q X W P V N=e\/(pg ah H Q X W P V N=0/\Y M.ae≠Y az.ae/\e=310))/\o=.ret [.i 0,.r (aI []),.r (aI []),.r (aI []),.r (aI []),.r (aI []),.i e])\/
 (pg ah H Q X W P V N=0/\Y M.ae=Y az.ae/\Fu ah Q X W P V N/\(∀k<Y az.ae,kV ah X W V k=0)/\∃m G F D,PtX ah Q X W V M m G F D/\o=.ret [.i ah,.r (aI (pW m M X (Y az.ae)).ae),.r (aI W.ae),.r (aI G),.r (aI F),.r (aI D),.i 0])
def aFY(h:rG W (oB N)):Oo W=oB N:=by
 funext a b;refine propext ((Iff.trans ?_ (h.iff a b)));constructor;rintro⟨x,X,V,Q⟩;have:=h.ok x X;exact⟨x,X,aa,aa⟩;rintro⟨x,X,V,Q⟩;exact⟨x,X,aa,aa⟩
def aFZ{m:ar}(g:avN (Y az.ae) W m)(h:rG W (oB N))(q:oB N X P):fy m X=fy m P:=by
 obtain⟨x,V,M,H⟩:=(h.iff X P).2 q;have e:=g.pr x V;have Q:(aN 0 x).toNat=X:=aa;have a2:(aN 1 x).toNat=P:=aa;rw[Q,a2] at e;simp only[fy,e]
def x21(h:gc)(ah:Int)(B H N M A V y D:RV)(G:ZW az B H N M A V y)(b4:Sl D):∃o,TB.Ev 21 (wk++[.r B,.r H,.i ah,.r N,.r M,.r A,.r V,.r y,.r D]) o/\av9 ah B H N M A V y D o:=by
 obtain⟨P,c⟩:∃P:bv->Prop,∀o,P o<->av9 ah B H N M A V y D o:=⟨_,λ_=>Iff.rfl⟩
 suffices cy:∃o,TB.Ev 21 (wk++[.r B,.r H,.i ah,.r N,.r M,.r A,.r V,.r y,.r D]) o/\P o by
  obtain⟨o,g1,g2⟩:=cy;exact⟨o,g1,(c o).1 g2⟩
 refine SN rfl rfl (.inr λv hv=>by rcases(c _).1 hv with⟨_,_,_,h⟩|⟨_,_,_,_,_,_,_,_,_,h⟩<;>cases h) ?_;obtain⟨h1,h2⟩:=yf sy h;simp only[wk] at h1;have ac:∀{e:Int},e≠0->pg ah B H N M A V y=e->P (.ret [.i 0,.r (aI []),.r (aI []),.r (aI []),.r (aI []),.r (aI []),.i e]):=λ{e} he hn=>(c _).2 (.inl ⟨e,he,.inl hn,rfl⟩)
 simp[SI,wk,aT h1];simp only[h.rl.len,G.wg.len,G.bd.len,G.mv.len,G.bf.len,G.af.len,G.S7.len,G.bx.len];refine ax (λh0=> ?_) (λb5=>ac b5 (ajj b5));have hw:=h2 h0;have hn:=hw.nr;have an:Y az.ae<=1000:=aa;have c6:Y az.ae<=536870912:=aa;refine ax (λh8=>ac aa (av1 h0 aa)) (λh8=> ?_);have a0:¬8<Y B.ae:=aa;have F:¬Fu ah H N M A V y->P (.ret [.i 0,.r (aI []),.r (aI []),.r (aI []),.r (aI []),.r (aI []),.i 310]):=λhs=>ac aa (av2 h0 a0 hs)
 refine ax (λc7=> ?_) (λQ=>F λX=>by have:=X.br;omega);refine ax (λc8=> ?_) (λQ=>F λX=>by have:=X.br;omega);refine ax (λN0=> ?_) (λQ=>F λX=>by have:=X.N0;omega);refine ax (λN1=> ?_) (λQ=>F λX=>by have:=X.N1;omega);refine ax (λFh=> ?_) (λQ=>F λX=>by have:=X.rg.b.1;omega);refine ax (λrA=> ?_) (λQ=>F λX=>by have:=X.rg.m;omega);refine ax (λBq=> ?_) (λQ=>F λX=>by have:=X.rg.f;omega);refine ax (λrB=> ?_) (λQ=>F λX=>by have:=X.rg.r;omega);have cA:Y H.ae=Y az.ae:=aa;have cB:Y N.ae=Y az.ae:=aa;have cC:Y M.ae=Y az.ae:=aa;have cD:Y V.ae=Y az.ae:=aa;have cI:lenOf A.val=(Y az.ae:Int):=by rw[G.af.len];exact N0
 have cO:lenOf y.val=(Y az.ae:Int):=by rw[G.bx.len];exact N1
 have b6:lenOf H.val=(Y az.ae:Int):=by rw[G.bd.len];exact Fh
 have a9:lenOf N.val=(Y az.ae:Int):=by rw[G.mv.len];exact rA
 have b7:lenOf M.val=(Y az.ae:Int):=by rw[G.bf.len];exact Bq
 have bb:lenOf V.val=(Y az.ae:Int):=by rw[G.S7.len];exact rB
 have ag:Y az.ae<=140737488355328:=aa;have n:∀i<Y az.ae,Sl (cr 96 V i)/\(cr 96 V i).ae.length<=100:=λi W=>G.jf i aa
 refine cP (Y az.ae) (λi l=>l=[]/\∀k<i,bm H k=0/\rS (ci M k)/\(cb N k 0=E->(cr 96 V k).ae.length=0)/\(cb N k 0=J->Dn k ah (cr 96 V k)=0)) ⟨0,rfl,aa,rfl,aa⟩ ?_;rintro i _ W ⟨rfl,u⟩;simp[b6,a9,b7,bb];refine ax (λW=> ?_) (λbg=> ?_);have b8:=(tV (t85 sy h i ah (cr 96 V i) (n i W).1)).1;simp only[wk,cr,da,di] at b8;have ca:=(n i W).1.len;simp only[cr] at ca;have cc:∀k<i,bm H k=0/\rS (ci M k)/\(cb N k 0=E->(cr 96 V k).ae=[])/\(cb N k 0=J->Dn k ah (cr 96 V k)=0):=λk x=>⟨(u k x).1,(u k x).2.1,λq=>wS.1 ((u k x).2.2.1 q),(u k x).2.2.2⟩
 simp[cu W ag,W,aT b8,ca];refine ax (λa1=> ?_) (λQ=>F λp=>Q (p.rg.b.2 i aa));refine ax (λa2=> ?_) (λQ=>F λp=>Q (p.rg.k i W).1);refine ax (λs=> ?_) (λs=> ?_);refine ax (λj=> ?_) (λQ=>F λp=>Q ((p.rg.k i W).2.2 s));exact jc cc ⟨a1,a2,λq=>aG s (by simp only[cb] at q;simp[q]),λ_=>j⟩;refine ax (λj=> ?_) (λQ=>F λp=>Q ?_);exact jc cc ⟨a1,a2,λ_=>j,λq=>aG q s⟩;have:=(p.rg.k i W).2.1 (by simpa[cb] using s);simp only[cr] at this;exact wS.1 this;have g:i=Y az.ae:=aa;subst g;have hR:t8 ah H N M V:=⟨⟨cA,λk x=>(u k aa).1⟩,cB,cC,cD,λk x=>(u k x).2⟩;refine cP (Y az.ae) (λi l=>l=[]/\∀k<i,vB y k=J/\Kh A k=0) ⟨0,rfl,aa,rfl,aa⟩ ?_;rintro i _ W ⟨rfl,bk⟩;simp[h.rl.len,cI,cO];refine ax (λW=> ?_) (λbg=> ?_);simp[cu W ag,W];refine ax (λa1=>ax (λa2=>atF bk ⟨a1,a2⟩) (λQ=>F λX=>Q (X.box i W).2)) (λQ=>F λX=>Q (X.box i W).1);have g:i=Y az.ae:=aa;subst g;have hs:Fu ah H N M A V y:=⟨aa,aa,aa,hR,bk⟩;refine cP (Y B.ae) (λi l=>l=[]/\∀k<i,ny (ci B k) ah 4=0) ⟨0,rfl,aa,rfl,aa⟩ ?_;rintro i _ W ⟨rfl,al⟩;simp[G.wg.len];refine ax (λW=> ?_) (λbg=> ?_);have cf:=f25 (ci B i) ah;simp only[pT,ci,da,di] at cf;simp[cu W G.wg.sm,W,aT cf];exact ax (λa1=>atF al a1) (λQ=>ac Q (av3 h0 a0 hs W al Q));have g:i=Y B.ae:=aa;subst g;have bl:=av4 h0 a0 hs al;rw[aT (e86 N G.mv aa)];simp;rw[aT (e87 M G.bf aa)];simp;refine cP (Y az.ae) (λi l=>∃vs vr vb,l=[.r (aI vs),.r (aI vr),.r (aI vb)]/\Y vs=i/\Y vr=i/\Y vb=i/\∀k<i,kV ah N M V k=0) ⟨0,rfl,aa,[],[],[],rfl,rfl,rfl,rfl,aa⟩ ?_;rintro i _ W ⟨vs,vr,vb,rfl,c9,dc,dd,d⟩;simp[b6,a9,b7,bb];refine ax (λW=> ?_) (λbg=> ?_);have ch:=e88 (cr 96 V i) (n i W).1 (by have:=(n i W).2;omega);simp only[cr] at ch;simp[cu W ag,W,aT ch];refine⟨aa,ax (λs=> ?_) (λs=> ?_)⟩
 ·have bt:cb N i 0=true:=s;have cl:=nx _ (u89 h i ah (ci M i) (cr 96 V i) (n i W).1);simp only[wk,ci,cr,da,di,Bn,Bm,qC] at cl;rw[aT cl];simp;have b0:kV ah N M V i=Di ah M V i 13:=by rw[kV,aL bt]
  refine ax (λj=> ?_) (λQ=>ac Q ?_)
  case refine_2=>
   have z:¬kV ah N M V i=0:=by rw[b0];exact Q
   have:=aiX d W z;rw[<-bl,b0] at this;exact this
  have cp:=nx _ (TE h i ah (ci M i) _ (yg (aZ H.ae (i:Int) 0)) (ci H i) (cr 96 V i) (n i W).1);simp only[wk,ci,cr,da,di,Bn,Bm,qC] at cp;rw[aT cp];simp[cu W ag];refine ax (λa5=> ?_) (λQ=>aG (aiY h ah M H V i (n i W).1 (u i W).1 j) Q);exact⟨aa,aa,_,_,_,⟨rfl,rfl,rfl⟩,dh,dh,dh,jc d (by rw[b0];exact j)⟩
 have bt:¬cb N i 0=true:=s;refine ax (λj=> ?_) (λQ=>aG ((ah5 M H i).2 ⟨(u i W).2.1,(u i W).1⟩) Q);exact⟨aa,aa,_,_,_,⟨rfl,rfl,rfl⟩,dh,dh,dh,jc d (by rw[kV,aP bt])⟩;have g:i=Y az.ae:=aa;subst g;have cs:pg ah B H N M A V y=0:=bl.trans (TF d);simp only[b4.len,h.rl.len];refine ax (λct=> ?_) (λQ=>(c _).2 (.inl ⟨310,aa,.inr ⟨cs,λw=>Q aa,rfl⟩,rfl⟩));have cR:jm ah 0 (eu-1)=true:=dh;obtain⟨df,g1,c1,hU⟩:=aFQ h ah h0 cR;have c2:=hU.ok;obtain⟨o,cW,hr⟩:=t63 h ah g1 c2 c1 an;rcases hr with⟨hz,-⟩|⟨-,m,rfl,gk⟩;exact aG rfl hz;have cv:=cW;simp only[wk,da,di] at cv;rw[aT cv];simp;have pm:∀k<Y az.ae,cb (pW m D N (Y az.ae)) k 0=jK m D N (Y az.ae) k:=λk x=>avP x
 have pr:∀k<Y az.ae,cr 96 (BB m D N V (Y az.ae)) k=if jK m D N (Y az.ae) k=J then cr 96 V k else aI []:=λk x=>ajb x
 obtain⟨dk,c0,b1,b2,b3,rfl,cx⟩:=x39 h ah H (pW m D N (Y az.ae)) M (BB m D N V (Y az.ae)) G.bd (ahO (by rw[qJ,ajO];exact ag)) G.bf (ahO (by rw[qJ,ajO];exact ag)) an (λi W=>by
  rw[ajb W];split;exact n i W;exact⟨ahO aw,aw⟩) (av7 hR aFy aFz pm pr) (av8 d pm pr)
 have c3:∀o,o=.ret [.i ah,.r (aI (pW m D N (Y az.ae)).ae),.r (aI M.ae),.r (aI b1),.r (aI b2),.r (aI b3),.i 0]->P o:=λo ho=>(c o).2 (.inr ⟨cs,axn.1 ct,hs,d,m,b1,b2,b3,⟨gk.len,gk.ok,by rw[<-aFY hU];exact gk.cn,λa b q=>aFZ gk hU q,cx⟩,ho⟩)
 have c4:lenOf D.val=(Y az.ae:Int):=by rw[b4.len];exact ct
 have c5:=gk.len;clear ac F c g1 c1 c2 h1 cx gk pm pr u bk al bl d hs hR hU;exact aFJ P ah _ _ _ _ _ _ B H N M A V y D _ _ _ _ _ m b1 b2 b3 (Y az.ae) _ an c5 a9 c4 bb c0 c3
end
section
variable{R:bv->Prop}{A:aY}{t:T}{O:ai}{L:dE}
variable[Inhabited dB]
section
variable{ah:Int}{o d w g u y M F S V B:RV}
def Do.vn(h:Do ah o d g u M F S V B)(W:∀i<Y az.ae,cb w i 0=cb d i 0)(Q:∀i<Y az.ae,cr 96 y i=cr 96 u i):Do ah o w g y M F S V B:=by
 have N:∀i<Y az.ae,∀j,gS ah w g y i j=gS ah d g u i j:=λi X j=>by
  simp only[gS,Di,W i X,Q i X]
 have H:∀i<Y az.ae,∀j,gB ah w g o y i j=gB ah d g o u i j:=λi X j=>by
  simp only[gB,ZV,W i X,Q i X]
 exact⟨⟨h.m.1,h.m.2.1,λi X=>(h.m.2.2 i X).trans (W i X).symm⟩,h.f,⟨h.s.1,h.s.2.1,λi X j P=>(h.s.2.2 i X j P).trans (N i X j).symm⟩,⟨h.v.1,h.v.2.1,λi X=>⟨(h.v.2.2 i X).1,by rw[Q i X];exact(h.v.2.2 i X).2⟩⟩,⟨h.b.1,h.b.2.1,λi X j P=>(h.b.2.2 i X j P).trans (H i X j).symm⟩⟩
end
def aF1(N:X<Y W)(G:∀Q∈W,Y Q=1):aZ (W.modify X λQ=>fA Q 0 [H]) (P:Int) 0=if P=X then H else aZ W (P:Int) 0:=by
 simp only[aZ,zR,dL,OC];by_cases e:P=X;subst e;have:=G _ (pl N);rw[aL rfl,cL N];generalize W[P]=Q at this
 match Q,this with
 |[c],_=>simp[fA]
 have D:¬X=P:=λq=>e q.symm
 rw[aP e];cases W[P]?<;>simp[D]
def aF2:fW (aZ (W.modify X λQ=>fA Q 0 [RV.mk (.bool E) []]) (P:Int) 0).val=if P=X then E else fW (aZ W (P:Int) 0).val:=by
 simp only[aZ,zR,dL,OC];by_cases e:P=X;subst e;rw[aL rfl];cases W[P]? with
 |none=>simp;rfl
 |some Q=>cases Q<;>simp[fA]<;>rfl
 have N:¬X=P:=λq=>e q.symm
 rw[aP e];cases W[P]?<;>simp[N]
def aF3(h:∀P∈W,Y P=1):∀P∈(W.modify X λP=>fA P 0 [H]),Y P=1:=λP G=>by
 obtain⟨q,Q⟩:=ue G;rw[OC] at Q;cases N:W[q]? with
 |none=>rw[N] at Q;cases Q
 |some r=>
  rw[N] at Q;have:=h r (ki N);by_cases e:X=q;simp[e] at Q;subst Q
  match r,this with
  |[c],_=>rfl
  simp[e] at Q;subst Q;exact this
def aF4{m:ar}(H:rG W (oB N))(n:Y m=Y az.ae)(G:lc m=J)(z:∀q<Y az.ae,Cn (oB N) q (fy m q))(y:∀a b,oB N a b->fy m a=fy m b)(D:X<Y az.ae)(A:P<Y az.ae):rF (rH W) (Y az.ae) X=rF (rH W) (Y az.ae) P<->aN 0 (m.getD X [])=aN 0 (m.getD P []):=by
 have w:KI (rH W)=oB N:=by
  funext a b;refine propext ((Iff.trans ?_ (H.iff a b)));simp only[KI,rH,iL,FH];constructor;rintro⟨x,Q,u,s⟩;have:=H.ok x Q;exact⟨x,Q,aa,aa⟩;rintro⟨x,Q,u,s⟩;exact⟨x,Q,aa,aa⟩
 have r:∀p∈rH W,p.1<Y az.ae/\p.2<Y az.ae:=λp o=>by
  obtain⟨x,Q,rfl⟩:=iL.1 o;have:=H.ok x Q;exact⟨by simp only;omega,by simp only;omega⟩
 rw[aFq r D A,w,<-aFr (m:=fy m) (λa b q=>⟨by have:=q.1;have:=q.2.1;omega,q.2.1⟩) z y D A,On G X aa,On G P aa];omega
def MvJ(G:Nat->Nat)(X d:RV)(i j:Nat):Prop:=cb d i 0=J/\∀k<j,G i=G k->cb X k 0=J/\cb d k 0=J
def awb{G:Nat->Nat}{d:RV}(A:∀P<X,∀k<X,G P=G k<->aN 0 (W.getD P [])=aN 0 (W.getD k []))(D:P<X):MvJ G H d P X<->jK W H d X P=true:=by
 constructor;rintro⟨-,h⟩;cases e:jK W H d X P with
 |true=>rfl
 |false=>
  obtain⟨k,Q,x,N⟩:=TJ.1 e;obtain⟨a,b⟩:=h k Q ((A P D k Q).2 x.symm);rcases N with N|N;rw[a] at N;cases N;rw[b] at N;cases N
 intro h;refine⟨(ai9 D h).2,λk Q e=> ?_⟩;have y:¬Ft W H d X (aN 0 (W.getD P [])):=λq=>by rw[TJ.2 q] at h;cases h
 constructor;cases z:cb H k 0 with
 |true=>rfl
 |false=>exact(y ⟨k,Q,((A P D k Q).1 e).symm,.inl z⟩).elim
 cases z:cb d k 0 with
 |true=>rfl
 |false=>exact(y ⟨k,Q,((A P D k Q).1 e).symm,.inr z⟩).elim
def aF5(h:gc)(ah:Int)(W o d g Q u P N:RV)(X:ZW az W o d g Q u P)(G:Sl N):(pg ah W o d g Q u P≠0->TB.Ev 22 (wk++[.r W,.r o,.i ah,.r d,.r g,.r Q,.r u,.r P,.r N]) (vp (pg ah W o d g Q u P)))/\(pg ah W o d g Q u P=0->Y N.ae≠Y az.ae->TB.Ev 22 (wk++[.r W,.r o,.i ah,.r d,.r g,.r Q,.r u,.r P,.r N]) (vp 310)):=by
 have H:=r53 h ah W o d g Q u P X.wg X.bd X.mv X.bf X.af X.S7 X.bx λi D=>(X.jf i D).1
 simp only[wk,da,di] at H;refine⟨λz=>ce ?_,λz l=>ce ?_⟩;simp[SM,wk,aT H,z,vp];have A:¬Y N.ae=Y az.ae:=l;simp[SM,wk,aT H,z,vp,G.len,h.rl.len];omega
end
section
variable{R:bv->Prop}{f:aY}{t:T}{O:ai}{L:dE}
variable[Inhabited dB]
structure TL(c d re:RV)(m:ar)(i:Nat)(M V:ar):Prop where
 lm:Y M=Y az.ae
 lv:Y V=Y az.ae
 l1:∀row∈V,Y row=1
 mo:∀k<Y az.ae,cb (aI M) k 0=if k<i then jK m c d (Y az.ae) k else cb d k 0
 re:∀k<Y az.ae,cr 96 (aI V) k=if k<i/\jK m c d (Y az.ae) k=J then cr 96 re k else aI []
structure zM(G:Nat->Nat)(c d re:RV)(m:ar)(i j:Nat)(M V:ar):Prop where
 lm:Y M=Y az.ae
 lv:Y V=Y az.ae
 l1:∀row∈V,Y row=1
 mo:∀k<Y az.ae,k≠i->cb (aI M) k 0=if k<i then jK m c d (Y az.ae) k else cb d k 0
 mi:cb (aI M) i 0=J<->MvJ G c d i j
 re:∀k<Y az.ae,cr 96 (aI V) k=if k<i/\jK m c d (Y az.ae) k=J then cr 96 re k else aI []
section
variable{G:Nat->Nat}{c d re:RV}{m:ar}{i j:Nat}{M V:ar}
def TL.go(h:TL c d re m i M V)(W:i<Y az.ae):zM G c d re m i 0 M V:=⟨h.lm,h.lv,h.l1,λk X _=>h.mo k X,by rw[h.mo i W,aP aa];exact⟨λq=>⟨q,λk X=>aa⟩,λq=>q.1⟩,h.re⟩
def zM.Lt(h:zM G c d re m i j M V)(q:G i=G j->cb c j 0=J/\cb d j 0=J):zM G c d re m i (j+1) M V:=⟨h.lm,h.lv,h.l1,h.mo,by
 rw[h.mi];exact⟨λw=>⟨w.1,λk X e=>by
  by_cases z:k=j;subst z;exact q e;exact w.2 k aa e⟩,λw=>⟨w.1,λk X=>w.2 k aa⟩⟩,h.re⟩
def aF6(W:i<Y M)(Q:∀X∈M,Y X=1)(k:Nat):cr 96 (aI (M.modify i λX=>fA X 0 [H])) k=if k=i then db (.sl 96) H else cr 96 (aI M) k:=by
 show db (.sl 96) (aZ (M.modify i λX=>fA X 0 [H]) (k:Int) 0)=_;rw[aF1 W Q];split<;>rfl
def awc(k:Nat):cb (aI (M.modify i λX=>fA X 0 [RV.mk (.bool E) []])) k 0=if k=i then E else cb (aI M) k 0:=aF2
def zM.stop(h:zM G c d re m i j M V)(N:i<Y az.ae)(e:G i=G j)(q:¬(cb c j 0=J/\cb d j 0=J)):zM G c d re m i (j+1) (M.modify i λW=>fA W 0 [RV.mk (.bool E) []]) V:=by
 have Q:=h.lm;refine⟨by simp[Q],h.lv,h.l1,λk P X=> ?_, ?_,h.re⟩;rw[awc,aP X];exact h.mo k P X;rw[awc,aL rfl];exact⟨λw=>(by cases w),λw=>aG (w.2 j aa e) q⟩
def zM.no(h:zM G c d re m i (Y az.ae) M V)(Q:i<Y az.ae)(P:∀i<Y az.ae,∀k<Y az.ae,G i=G k<->aN 0 (m.getD i [])=aN 0 (m.getD k []))(z:¬cb (aI M) i 0=J):TL c d re m (i+1) M V:=by
 have W:¬jK m c d (Y az.ae) i=true:=λw=>z (h.mi.2 ((awb P Q).2 w))
 refine⟨h.lm,h.lv,h.l1,λk X=> ?_,λk X=> ?_⟩;by_cases e:k=i;subst e;rw[aL aa,H7.2 z,H7.2 W];rw[h.mo k X e];by_cases q:k<i;rw[aL q,aL aa];rw[aP q,aP aa];rw[h.re k X];by_cases e:k=i;subst e;rw[aP (λw=>aa),aP (λw=>W w.2)];by_cases q:k<i;simp only[q,show k<i+1 from aa,true_and];rw[aP (λw=>q w.1),aP (λw=>aa)]
def zM.yes(h:zM G c d re m i (Y az.ae) M V)(Q:i<Y az.ae)(P:∀i<Y az.ae,∀k<Y az.ae,G i=G k<->aN 0 (m.getD i [])=aN 0 (m.getD k []))(z:cb (aI M) i 0=J)(N:db (.sl 96) H=cr 96 re i):TL c d re m (i+1) M (V.modify i λF=>fA F 0 [H]):=by
 have W:jK m c d (Y az.ae) i=true:=(awb P Q).1 (h.mi.1 z);have D:=h.lv;refine⟨h.lm,by simp[D],aF3 h.l1,λk X=> ?_,λk X=> ?_⟩;by_cases e:k=i;subst e;rw[aL aa,z,W];rw[h.mo k X e];by_cases q:k<i;rw[aL q,aL aa];rw[aP q,aP aa];rw[aF6 aa h.l1];by_cases e:k=i;subst e;rw[aL rfl,aL ⟨aa,W⟩,N];rw[aP e,h.re k X];by_cases q:k<i;simp only[q,show k<i+1 from aa,true_and];rw[aP (λw=>q w.1),aP (λw=>aa)]
end
def R22(ah:Int)(X d W re c:RV)(m:ar)(o:bv):Prop:=∃M F S V B,o=.ret [.i ah,.r M,.r F,.r S,.r V,.r B,.i 0]/\Do ah X (pW m c d (Y az.ae)) W (BB m c d re (Y az.ae)) M F S V B
def r22(h:gc)(ah:Int)(p D d H u re s c:RV)(N:ZW az p D d H u re s)(bk:Sl c)(h0:iD=0)(hx:pg ah p D d H u re s=0)(bl:Y c.ae=Y az.ae)(l:Fu ah D d H u re s)(bs:∀k<Y az.ae,kV ah d H re k=0)(lm:Y W=Y az.ae)(ok:lc W=J)(cn:∀q<Y az.ae,Cn (oB ah) q (fy W q))(pr:∀a b,oB ah a b->fy W a=fy W b):∃o,TB.Ev 22 (wk++[.r p,.r D,.i ah,.r d,.r H,.r u,.r re,.r s,.r c]) o/\R22 ah D d H re c W o:=by
 obtain⟨P,hP⟩:∃P:bv->Prop,∀o,P o<->R22 ah D d H re c W o:=⟨_,λ_=>Iff.rfl⟩
 suffices bt:∃o,TB.Ev 22 (wk++[.r p,.r D,.i ah,.r d,.r H,.r u,.r re,.r s,.r c]) o/\P o by
  obtain⟨o,f,g2⟩:=bt;exact⟨o,f,(hP o).1 g2⟩
 have h1:=r53 h ah p D d H u re s N.wg N.bd N.mv N.bf N.af N.S7 N.bx λi Q=>(N.jf i Q).1
 rw[hx] at h1;have hw:=(yf sy h).2 h0;have hn:=hw.nr;have ag:Y az.ae<=140737488355328:=aa;obtain⟨o,a3,v,rfl,hv,hU⟩:=r56 h ah hn.2;have a4:=r64 (Y az.ae) hn.2 v hv λx hx=>by have:=hU.ok x hx;omega
 have hG:∀i<Y az.ae,∀k<Y az.ae,rF (rH v) (Y az.ae) i=rF (rH v) (Y az.ae) k<->aN 0 (W.getD i [])=aN 0 (W.getD k []):=λi Q k X=>aF4 hU lm ok cn pr Q X
 generalize rF (rH v) (Y az.ae)=G at a4 hG;have rA:=l.rg.m;have rB:=l.rg.r;have a9:lenOf d.val=(Y az.ae:Int):=by rw[N.mv.len,rA]
 have b0:lenOf re.val=(Y az.ae:Int):=by rw[N.S7.len,rB]
 have bb:lenOf c.val=(Y az.ae:Int):=by rw[bk.len,bl]
 have bg:lenOf az.val=(Y az.ae:Int):=h.rl.len;simp only[wk,da,di] at h1 a3;refine dR ?_;simp[SM,wk,aT h1,bb,bg,a9];refine⟨aa, ?_⟩;rw[aT a3];simp[bg];rw[aT a4];simp;refine⟨aa, ?_⟩;refine cP (Y az.ae) (λi an=>∃M V,an=[.r (aI M),.r (aI V)]/\TL c d re W i M V) ⟨0,rfl,aa,_,_,rfl, ?_⟩ ?_;refine⟨rA,by simp[rA],λb5 hr=>by rw[(List.mem_replicate.1 hr).2];rfl,λk X=>by rw[aP aa];rfl,λk X=> ?_⟩;rw[aP (λq=>aa)];show db (.sl 96) (aZ (eH (Y d.ae) [aI []]) (k:Int) 0)=_;simp[aZ,Fw,rA,X];rfl;rintro i _ Q ⟨M,V,rfl,A⟩;have a0:=A.lm;simp[a0];refine ax (λQ=> ?_) (λb6=> ?_);refine cP (Y az.ae) (λj an=>∃M V,an=[.r (aI M),.r (aI V)]/\zM G c d re W i j M V) ⟨0,rfl,aa,M,V,rfl,A.go Q⟩ ?_;rintro j _ hj ⟨M,V,rfl,y⟩;have a0:=y.lm;have b1:=y.lv;simp[a0,b1,TK,bb,a9];refine ax (λhj=> ?_) (λb7=> ?_);have gi:=aaN (n:=Y az.ae) (g:=G) (a:=(i:Int)) aa aa;have gj:=aaN (n:=Y az.ae) (g:=G) (a:=(j:Int)) aa aa;simp only[zR] at gi gj;rw[gi,gj];simp only[cu hj ag];have eG:((G i:Int)=(G j:Int))<->G i=G j:=aa;refine⟨Q,hj,ax (λe=>⟨aa,ax (λq1=>⟨aa,ax (λq2=> ?_) (λq2=> ?_)⟩) (λq1=> ?_)⟩) (λe=> ?_)⟩;exact⟨M,V,rfl,y.Lt λ_=>⟨q1,q2⟩⟩;exact⟨Q,_,V,rfl,y.stop Q (eG.1 e) λw=>q2 w.2⟩;exact⟨Q,_,V,rfl,y.stop Q (eG.1 e) λw=>q1 w.1⟩;exact⟨M,V,rfl,y.Lt λw=>aG (eG.2 w) e⟩;have b2:j=Y az.ae:=aa;subst b2;simp only[cu Q ag];have b8:lenOf re.val=(Y az.ae:Int):=b0;refine⟨Q,ax (λz=>⟨aa,Q,M,_,rfl,y.yes Q hG z (avQ _ _)⟩) (λz=>⟨M,V,rfl,y.no Q hG z⟩)⟩;have b3:i=Y az.ae:=aa;subst b3;have a1:∀k<Y az.ae,cb (aI M) k 0=jK W c d (Y az.ae) k:=λk X=>by rw[A.mo k X,aL X]
 have al:∀k<Y az.ae,cr 96 (aI V) k=if jK W c d (Y az.ae) k=J then cr 96 re k else aI []:=λk X=>by
  rw[A.re k X];simp only[X,true_and]
 have b4:∀k<Y az.ae,Sl (cr 96 (aI V) k):=λk X=>by
  rw[al k X];split;exact(N.jf k aa).1;exact pV aw
 have hR:t8 ah D (aI M) H (aI V):=av7 l.rg A.lm A.lv a1 al;have hz:=TF (av8 bs a1 al);obtain⟨o,f,g2,-⟩:=r42 h h0 ah l.br D (aI M) H (aI V) N.bd (pV (by rw[A.lm];exact ag)) N.bf (pV (by rw[A.lv];exact ag)) (λk X=>b4 k (by rw[<-A.lv];exact X)) hR;obtain⟨M',F,S,V',B,rfl,ac⟩:=g2.k h0 l.br hR hz;simp only[wk,da,di] at f;rw[aT f];simp;exact(hP _).2 ⟨M',F,S,V',B,rfl,ac.vn (λk X=>by rw[avP X,a1 k X]) λk X=>by rw[ajb X,al k X]⟩
end
section
variable{R:bv->Prop}{a:aY}{t:T}{O:ai}{L:dE}
variable[Inhabited dB]
def t5(j:TB.Ev 11 [] (.ret [.b J]))(h:gc)(ah:Int)(W Q N P H X G D:RV)(g:Sl W)(f:Sl Q)(d:Sl N)(c:Sl P)(a:Sl H)(v:Sl X)(h7:Sl G)(p:∀i<Y X.ae,Sl (cr 96 X i))(u:Sl D):TB.Ev 5 (wk++[.r W,.r Q,.i ah,.r N,.r P,.r H,.r X,.r G,.r D]) (.ret [.b J]):=by
 refine ce ?_;obtain⟨a0,n,a1,rfl,s⟩:=t12 W Q P X (by rw[v.len];omega);simp only[wk,da,di] at n;simp[T5,wk,aT j,aT n];intro hb;have s:=s hb;have q:ZW az W Q N P H X G:=⟨g,f,d,c,a,v,h7,λi l=>⟨p i l,by
  have:=s.jf i (by rw[v.len];omega);rw[(p i l).len] at this;omega⟩⟩
 obtain⟨o,w,k1⟩:=x21 h ah W Q N P H X G D q u;obtain⟨e1,e2⟩:=aF5 h ah W Q N P H X G D q u;rcases k1 with⟨e,he,A,rfl⟩|⟨k,ag,hs,al,m,vs,vr,vb,y,rfl⟩;have x:TB.Ev 22 (wk++[.r W,.r Q,.i ah,.r N,.r P,.r H,.r X,.r G,.r D]) (vp e):=by
  rcases A with A|⟨A,hl,rfl⟩;rw[<-A];exact e1 (by rw[A];exact he);exact e2 A hl
 simp only[wk,vp,da,di] at w x;rw[aT w];simp[aT x];simp[aT aCS];have h0:iD=0:=Classical.byContradiction λz=>z ((ajj z).symm.trans k)
 obtain⟨o',x,M,F,S,V,B,rfl,ac⟩:=r22 h ah W Q N P H X G D q u h0 k ag hs al y.lm y.ok y.cn y.pr;have an:=y.ac;simp only[wk,da,di] at w x;rw[aT w];simp;simp[aT x,aT (aFb an ac)]
end
