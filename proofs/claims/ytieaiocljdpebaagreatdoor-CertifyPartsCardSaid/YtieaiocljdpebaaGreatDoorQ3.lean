/- Part 3 of the proof; the last part says what is shown. -/
import Derived.Test.YtieaiocljdpebaaGreatDoorQ2
import Derived.StillTailTactics
import Derived.RangeFuncIn
import Derived.RangeFuncLeaves
import Derived.RangeFuncRecord
import Derived.RangeFuncSeq
import Derived.RangeFuncCalls
import Derived.LoopNIn
import Derived.LoopIn
import Derived.Sort.LoopGhostIn
set_option linter.all false
open Bool renaming and_eq_true->ayz,not_eq_true'->ayS,false_eq_true->ayV,or_eq_true->ay2,or_eq_false_iff->azi,and_self->azV,true_and->aAm,and_true->aAn,or_eq_true_iff->aBh,not_true->aBo,and_eq_false_iff->aBU,false_or->aB2,true_or->aB6,true_eq_false->aCb
open List renaming getElem?_eq_some_iff->ayA,getElem?_eq_getElem->ayB,getD_eq_getElem?_getD->ayC,getElem?_append_left->ayD,getElem?_map->ayF,getElem?_append_right->ayG,replicate->ayJ,mem_cons->ayK,mem_append->ayL,all_eq_true->ayM,length_append->ayN,map_cons->ayO,cons_append->ayP,range->ayQ,nil_append->ayU,mem_of_getElem?->ayW,getElem?_eq_none->ayX,pairwise_cons->ayY,map_congr_left->ayZ,mem_map->ay1,ext_getElem?->ay3,pairwise_append->ay6,getElem?_take->ay7,any_eq_true->ay8,contains_iff_mem->aza,getElem?_cons_succ->azb,getElem?_set_ne->azc,length_map->azg,getElem?_drop->azj,mem_filter->azk,getElem?_cons_zero->azl,getElem?_eq_none_iff->azm,mem_append_left->azp,getElem?_set->azr,mem_or_eq_of_mem_set->azs,length_eq_zero_iff->azw,mem_range->azz,nodup_append->azA,mem_of_mem_drop->azB,getElem?_replicate->azE,mem_cons_of_mem->azG,mem_of_mem_take->azH,getElem?_set_self->azI,mem_filterMap->azQ,map_nil->azT,size_toArray->azY,mem_of_find?_eq_some->azZ,foldl_cons->az0,length_drop->az2,length_take->az6,mem_append_right->az8,mem_cons_self->az9,append_nil->aAc,nodup_cons->aAj,find?_some->aAx,zip_cons_cons->aAy,mem_singleton->aAz,dropLast_append_of_ne_nil->aAB,sublist_cons_self->aAD,length->aAM,filterMap_cons->aAO,pairwise_map->aBt,append_eq_append_iff->aBy,map_set->aBA,any_map->aBB,append_cancel_right->aBC,dropLast_sublist->aBV,set_cons_zero->aB9,Sublist->aCa,append_of_mem->aCc
open Option.some renaming injEq->ayE
open Nat renaming le_refl->ayH,zero_add->ay9,le_trans->azF,testBit_or->az3,le_of_eq->aAb,strongRecOn->aAi,lt_of_lt_of_le->aAw,testBit_shiftLeft->aA6,add_sub_cancel'->aB5
open Option renaming map_some->ayI,isSome_iff_exists->ayT,getD_some->azf,bind_some->aAJ,getD_none->aA3
open Array renaming getElem?_eq_some_iff->ay0,getElem?_setIfInBounds_ne->aAa,getElem?_setIfInBounds_self_of_lt->aAL,getElem?_eq_getElem->aAQ,replicate->aBd,getElem?_append_left->aBp
open List.Pairwise renaming nil->azu
open List.cons renaming injEq->azK
open Prod.mk renaming injEq->aAe
open List.Sublist renaming append->aAN,refl->aAZ
namespace Go.Proofs.YtieaiocljdpebaaGreatDoor.Y
open Go.RowKit
noncomputable section
variable{Z:S}{N:aa}{U:List Nat}{J:SV}{X x:Nat}
section
section
variable{f:List Nat}{m:World}{D:bz}{ty:Ty}{V:List Nat}{O:aa}{s:S}{a:Act}{W:World}
def XV.at(k:LK):XV->Value
 |.i n=>match k with
  |.int k=>.int k n
  |_=>undef
 |.b x=>.bool x
 |.r v=>v.val
def XV.Jw(k:LK)(x:XV):RV:=match x with
 |.r v=>v
 |x=>.mk (x.at k) []
def aoB{k:LK}(h:xO Z k J=true):(J.xv N).Jw k=J.eD N U:=by
 unfold xO at h;split at h;simp at h;subst h;rfl;rfl;rfl;rfl;rfl;rfl;cases h
def aee{V1:List Nat}{k:LK}(h:xO Z k J=true):(J.xv N).at k=J.den N V1/\ng k (J.xv N):=by
 unfold xO at h;split at h;simp at h;subst h;exact⟨rfl,trivial⟩;exact⟨rfl,trivial⟩;exact⟨rfl,trivial⟩;exact⟨rfl,trivial⟩;exact⟨rfl,trivial⟩;exact⟨rfl,trivial⟩;cases h
def aef{Q:S}:∀{Z:List LK}{X:List SV},og Q Z X=true->Z.length=X.length/\∀(q:Nat)(k:LK)(v:SV),Z[q]?=some k->X[q]?=some v->xO Q k v=true
 |[],[],_=>⟨rfl,λq k v h _=>by simp at h⟩
 |[],_::_,h=>by simp[og] at h
 |_::_,[],h=>by simp[og] at h
 |k::Z,v::X,h=>by
  simp only[og,ayz] at h;obtain⟨P,N⟩:=aef h.2;refine⟨by simp[P],λq M L U R=> ?_⟩;cases q with
  |zero=>simp at U R;subst U R;exact h.1
  |succ q=>exact N q M L (by simpa using U) (by simpa using R)
def Vq{U:S}{O1:aa}:∀{Z:List LK}{X:List SV},og U Z X=true->cR Z (X.map (SV.xv O1))
 |[],[],_=>trivial
 |[],_::_,h=>by simp[og] at h
 |_::_,[],h=>by simp[og] at h
 |k::Z,v::X,h=>by
  simp only[og,ayz] at h;exact⟨(aee (V1:=[]) h.1).2,Vq h.2⟩
def NF:∀(X:List LK)(Z:List XV)(s:S)(O:aa),cR X Z->O.i.length=s.ni->O.b.length=s.nb->O.r.length=s.rs.length->
  ∀(q:Nat)(k:LK)(x:XV)(v:SV),X[q]?=some k->Z[q]?=some x->(s.bB X).1[q]?=some v->v.den (O.ext Z) V=x.at k/\v≠ .any
 |[],_,_,_,_,_,_,_,q,k,x,v,h,_,_=>by simp at h
 |_::_,[],_,_,h,_,_,_,q,k,x,v,_,_,_=>by simp[cR] at h
 |I::X,L::Z,s,O,H,P,N,M,0,k,x,v,U,R,Q=>by
  obtain⟨G,J⟩:=H;simp only[S.bB,azl,ayE] at U R Q;subst U R Q;have F:=zZ Z (O.add L);simp only[aa.ext];cases I<;>cases L<;>simp[ng] at G;refine⟨?_,by simp[S.fresh]⟩;simp only[S.fresh,SV.den,IE.den,XV.at];rw[F.i _ (by simp[aa.add,P])];simp[aa.add,<-P];refine⟨?_,by simp[S.fresh]⟩;simp only[S.fresh,SV.den,BE.den,XV.at];rw[F.b _ (by simp[aa.add,N])];simp[aa.add,<-N];refine⟨?_,by simp[S.fresh]⟩;simp only[S.fresh,SV.den,RE.den,RE.rv,XV.at];rw[F.r _ (by simp[aa.add,M])];simp[aa.add,aa.rv,<-M]
 |I::X,L::Z,s,O,H,P,N,M,q+1,k,x,v,U,R,Q=>by
  obtain⟨G,J⟩:=H;simp only[S.bB,azb] at U R Q;simp only[aa.ext];cases I<;>cases L<;>simp[ng] at G;exact NF X Z _ _ J (by simp[S.fresh,aa.add,P]) (by simp[S.fresh,aa.add,N]) (by simp[S.fresh,aa.add,M]) q k x v U R Q;exact NF X Z _ _ J (by simp[S.fresh,aa.add,P]) (by simp[S.fresh,aa.add,N]) (by simp[S.fresh,aa.add,M]) q k x v U R Q;exact NF X Z _ _ J (by simp[S.fresh,aa.add,P]) (by simp[S.fresh,aa.add,N]) (by simp[S.fresh,aa.add,M]) q k x v U R Q
def NG:∀(X:List LK)(Z:List XV)(s:S)(O:aa),cR X Z->O.i.length=s.ni->O.b.length=s.nb->O.r.length=s.rs.length->
  ∀(q:Nat)(k:LK)(x:XV)(v:SV),X[q]?=some k->Z[q]?=some x->(s.bB X).1[q]?=some v->v.eD (O.ext Z) V=x.Jw k
 |[],_,_,_,_,_,_,_,q,k,x,v,h,_,_=>by simp at h
 |_::_,[],_,_,h,_,_,_,q,k,x,v,_,_,_=>by simp[cR] at h
 |I::X,L::Z,s,O,H,P,N,M,0,k,x,v,U,R,Q=>by
  obtain⟨G,J⟩:=H;simp only[S.bB,azl,ayE] at U R Q;subst U R Q;have F:=zZ Z (O.add L);simp only[aa.ext];cases I<;>cases L<;>simp[ng] at G
  skip
  simp only[S.fresh,SV.eD,SV.den,IE.den,XV.Jw,XV.at];rw[F.i _ (by simp[aa.add,P])];simp[aa.add,<-P]
  skip
  simp only[S.fresh,SV.eD,SV.den,BE.den,XV.Jw,XV.at];rw[F.b _ (by simp[aa.add,N])];simp[aa.add,<-N]
  skip
  simp only[S.fresh,SV.eD,RE.rv,XV.Jw];rw[F.r _ (by simp[aa.add,M])];simp[aa.add,aa.rv,<-M]
 |I::X,L::Z,s,O,H,P,N,M,q+1,k,x,v,U,R,Q=>by
  obtain⟨G,J⟩:=H;simp only[S.bB,azb] at U R Q;simp only[aa.ext];cases I<;>cases L<;>simp[ng] at G;exact NG X Z _ _ J (by simp[S.fresh,aa.add,P]) (by simp[S.fresh,aa.add,N]) (by simp[S.fresh,aa.add,M]) q k x v U R Q;exact NG X Z _ _ J (by simp[S.fresh,aa.add,P]) (by simp[S.fresh,aa.add,N]) (by simp[S.fresh,aa.add,M]) q k x v U R Q;exact NG X Z _ _ J (by simp[S.fresh,aa.add,P]) (by simp[S.fresh,aa.add,N]) (by simp[S.fresh,aa.add,M]) q k x v U R Q
def aeg:∀(Z:List LK)(s:S),(s.bB Z).1.length=Z.length
 |[],_=>rfl
 |k::Z,s=>by simp[S.bB,aeg Z]
def aeh{n:Nat}:∀{X:List (Nat×LK)}{Z:List SV}{v:SV},qB n X Z=some v->∃(q:Nat)(k:LK),X[q]?=some (n,k)/\Z[q]?=some v
 |[],Z,v,h=>by simp[qB] at h
 |_::_,[],v,h=>by simp[qB] at h
 |(t,k)::r,x::N,v,h=>by
  simp only[qB] at h;split at h;rename_i U;cases h;simp at U;subst U;exact⟨0,k,rfl,rfl⟩;obtain⟨q,R,Q,P⟩:=aeh h;exact⟨q+1,R,by simpa using Q,by simpa using P⟩
def aei{n:Nat}:∀{Z:List (Nat×LK)}{X:List SV},Z.length<=X.length->qB n Z X=none->Z.any (·.1==n)=false
 |[],X,_,h=>rfl
 |_::_,[],U,h=>by simp at U
 |(t,k)::r,x::Q,U,h=>by
  simp only[qB] at h;split at h;cases h;rename_i R;simp only[List.any_cons,azi];exact⟨by simpa using R,aei (by simpa using U) h⟩
def aej{b n:Nat}:∀{X:List (Nat×Nat×LK)}{Z:List SV}{v:SV},vL b n X Z=some v->∃(q:Nat)(k:LK),X[q]?=some (b,n,k)/\Z[q]?=some v
 |[],Z,v,h=>by simp[vL] at h
 |_::_,[],v,h=>by simp[vL] at h
 |(N,t,k)::r,x::M,v,h=>by
  simp only[vL] at h;split at h;rename_i U;cases h;simp at U;obtain⟨rfl,rfl⟩:=U;exact⟨0,k,rfl,rfl⟩;obtain⟨q,R,Q,P⟩:=aej h;exact⟨q+1,R,by simpa using Q,by simpa using P⟩
def aek{b n:Nat}:∀{Z:List (Nat×Nat×LK)}{X:List SV},Z.length<=X.length->vL b n Z X=none->Z.any (λc=>c.1==b&&c.2.1==n)=false
 |[],X,_,h=>rfl
 |_::_,[],U,h=>by simp at U
 |(Q,t,k)::r,x::P,U,h=>by
  simp only[vL] at h;split at h;cases h;rename_i R;simp only[List.any_cons,azi];exact⟨by simpa using R,aek (by simpa using U) h⟩
def ael(Z:dq)(X:List Nat)(U:List SV):∀(l:List SV)(n i:Nat),(vM Z X U n l)[i]?=(l[i]?).map λx=>(qB (n+i) Z.tm U).getD (if X.contains (n+i) then .any else x)
 |[],n,i=>by simp[vM]
 |x::R,n,0=>by simp[vM]
 |x::R,n,i+1=>by
  simp only[vM,azb];rw[ael Z X U R (n+1) i,show n+1+i=n+(i+1) by omega]
def aem(Z:dq)(X:List SV)(b:Nat):∀(l:List SV)(n i:Nat),(Cs Z X b n l)[i]?=(l[i]?).map λx=>(vL b (n+i) Z.cl X).getD x
 |[],n,i=>by simp[Cs]
 |x::U,n,0=>by simp[Cs]
 |x::U,n,i+1=>by
  simp only[Cs,azb];rw[aem Z X b U (n+1) i,show n+1+i=n+(i+1) by omega]
def Jx(X:dq)(U:List SV):∀(l:aX)(n i:Nat),bD (pw X U n l) i=(bD l i).map λx=>(x.1,Cs X U (n+i) 0 x.2)
 |[],n,i=>by simp[pw,bS]
 |none::Z,n,0=>by simp[pw,bS]
 |some (t,R)::Z,n,0=>by simp[pw,bS]
 |none::Z,n,i+1=>by
  have:=Jx X U Z (n+1) i;rw[show n+1+i=n+(i+1) by omega] at this;simpa[pw,bS] using this
 |some (t,R)::Z,n,i+1=>by
  have:=Jx X U Z (n+1) i;rw[show n+1+i=n+(i+1) by omega] at this;simpa[pw,bS] using this
def NH(Z:dq)(X:List SV):∀(l:aX)(n:Nat),(pw Z X n l).length=l.length
 |[],n=>rfl
 |none::U,n=>by simp[pw,NH Z X U]
 |some (t,R)::U,n=>by simp[pw,NH Z X U]
def aen(Z:dq)(X:List Nat)(U:List SV):∀(l:List SV)(n:Nat),(vM Z X U n l).length=l.length
 |[],n=>rfl
 |x::R,n=>by simp[vM,aen Z X U R]
def Vr{Q:dq}{P:List Nat}:∀{l X:List SV}{n:Nat},tY Q P n l X=true->l.length=X.length/\∀(i:Nat)(x y:SV),l[i]?=some x->X[i]?=some y->Q.tm.any (·.1==n+i)=true\/P.contains (n+i)=true\/x=y
 |[],[],n,_=>⟨rfl,λi x y h _=>by simp at h⟩
 |[],_::_,n,h=>by simp[tY] at h
 |_::_,[],n,h=>by simp[tY] at h
 |x::I,y::H,n,h=>by
  simp only[tY,ayz,ay2] at h;obtain⟨N,M⟩:=Vr h.2;refine⟨by simp[N],λi L J U R=> ?_⟩;cases i with
  |zero=>
   simp only[azl,ayE] at U R;subst U R;rcases h.1 with(Z|Z)|Z;exact .inl Z;exact .inr (.inl Z);exact .inr (.inr (SV.bi _ _ Z))
  |succ i=>
   have:=M i L J (by simpa using U) (by simpa using R);rw[show n+(i+1)=n+1+i by omega];exact this
def aeo{Q:dq}{b:Nat}:∀{l Z:List SV}{n:Nat},Ct Q b n l Z=true->l.length=Z.length/\∀(i:Nat)(x y:SV),l[i]?=some x->Z[i]?=some y->Q.cl.any (λc=>c.1==b&&c.2.1==n+i)=true\/x=y
 |[],[],n,_=>⟨rfl,λi x y h _=>by simp at h⟩
 |[],_::_,n,h=>by simp[Ct] at h
 |_::_,[],n,h=>by simp[Ct] at h
 |x::J,y::I,n,h=>by
  simp only[Ct,ayz,ay2] at h;obtain⟨P,N⟩:=aeo h.2;refine⟨by simp[P],λi M L X U=> ?_⟩;cases i with
  |zero=>
   simp only[azl,ayE] at X U;subst X U;rcases h.1 with R|R;exact .inl R;exact .inr (SV.bi _ _ R)
  |succ i=>
   have:=N i M L (by simpa using X) (by simpa using U);rw[show n+(i+1)=n+1+i by omega];exact this
def Vs{L:dq}:∀{l P:aX}{n:Nat},oe L n l P=true->∀(i:Nat)(t:TypeId)(X:List SV),bD l i=some (t,X)->∃U,bD P i=some (t,U)/\Ct L (n+i) 0 X U=true
 |[],P,n,_,i,t,X,h=>by simp[bS] at h
 |none::R,[],n,Z,i,t,X,h=>by simp[oe] at Z
 |none::R,y::Q,n,Z,0,t,X,h=>by simp[bS] at h
 |none::R,y::Q,n,Z,i+1,t,X,h=>by
  simp only[oe] at Z;obtain⟨U,N,M⟩:=Vs Z i t X (by simpa[bS] using h);exact⟨U,by simpa[bS] using N,by rw[show n+(i+1)=n+1+i by omega];exact M⟩
 |some x::R,[],n,Z,i,t,X,h=>by simp[oe] at Z
 |some x::R,none::Q,n,Z,i,t,X,h=>by simp[oe] at Z
 |some x::R,some y::Q,n,Z,0,t,X,h=>by
  simp only[oe,ayz,beq_iff_eq] at Z;simp only[bS,azl,ayE] at h⊢;subst h;exact⟨y.2,by rw[show(t:TypeId)=y.1 from Z.1.1],Z.1.2⟩
 |some x::R,some y::Q,n,Z,i+1,t,X,h=>by
  simp only[oe,ayz] at Z;obtain⟨U,N,M⟩:=Vs Z.2 i t X (by simpa[bS] using h);exact⟨U,by simpa[bS] using N,by rw[show n+(i+1)=n+1+i by omega];exact M⟩
def aep{Z:dq}{k:LK}(U:Z.tm[X]?=some (x,k)):Z.ks[X]?=some k:=by
 have R:X<Z.tm.length:=(ayA.1 U).1;unfold dq.ks;rw[ayD (by simpa using R),ayF,U];rfl
def aeq{U:dq}{k:LK}(R:U.tm[X]?=some (x,k))(Q:Z.tmps[x]?=some J):(gK U Z)[X]?=some J:=by
 have P:X<U.tm.length:=(ayA.1 R).1;unfold gK;rw[ayD (by simpa using P),ayF,R];simp[Q]
def yk(h:x<X):ad (U.take X) x=ad U x:=by simp[ad,h]
def aoC(Z:dq)(s:S):(fy Z s).length=s.rs.length:=vU _ _ _
def aer:∀{l X:List RK},tX l X=true->∀(k:Nat)(e:RK),l[k]?=some e->∃U,X[k]?=some U/\(e=.dead\/U=e)
 |[],X,_,k,e,h=>by simp at h
 |x::R,[],h,_,_,_=>by simp[tX] at h
 |x::R,y::Q,h,0,e,Z=>by
  simp only[tX,ayz,ay2,decide_eq_true_eq] at h;simp at Z;subst Z;exact⟨y,rfl,h.1.imp id Eq.symm⟩
 |x::R,y::Q,h,k+1,e,Z=>by
  simp only[tX,ayz] at h;exact aer h.2 k e (by simpa using Z)
def NI:∀{X:List LK}{Z:List SV}{q:Nat}{e:TypeId}{k:Nat},X[q]?=some (.ref (.own e))->Z[q]?=some (.ref (.v k))->k∈xN X Z
 |[],Z,q,e,k,h,_=>by simp at h
 |_::_,[],q,e,k,_,h=>by simp at h
 |Q::X,v::Z,0,e,k,U,R=>by simp at U R;subst U R;simp[xN,MK]
 |Q::X,v::Z,q+1,e,k,U,R=>by
  simp only[xN,ayL];right;exact NI (q:=q) (by simpa using U) (by simpa using R)
def NJ:∀{a b:List Nat},jz (a++b)=true->jz b=true/\∀x∈a,x∉b
 |[],b,h=>⟨h,by simp⟩
 |x::a,b,h=>by
  simp only[ayP,jz,ayz] at h;obtain⟨X,U⟩:=NJ h.2;refine⟨X,λy Z=> ?_⟩;rcases ayK.1 Z with rfl|Z;intro R;have:=h.1;simp[R] at this;exact U y Z
def aes:∀{Q:List LK}{X:List SV}{q U:Nat}{e P:TypeId}{k Z:Nat},jz (xN Q X)=true->Q[q]?=some (.ref (.own e))->X[q]?=some (.ref (.v k))->Q[U]?=some (.ref (.own P))->X[U]?=some (.ref (.v Z))->q≠U->k≠Z
 |[],X,q,U,e,P,k,Z,_,h,_,_,_,_=>by simp at h
 |_::_,[],q,U,e,P,k,Z,_,_,h,_,_,_=>by simp at h
 |I::Q,v::X,0,0,e,P,k,Z,_,_,_,_,_,h=>absurd rfl h
 |I::Q,v::X,0,U+1,e,P,k,Z,R,N,M,L,J,_=>by
  simp at N M;subst N M;simp only[xN] at R;have:=(NJ R).2 k (by simp[MK]);intro H;subst H;exact this (NI (q:=U) (by simpa using L) (by simpa using J))
 |I::Q,v::X,q+1,0,e,P,k,Z,R,N,M,L,J,_=>by
  simp at L J;subst L J;simp only[xN] at R;have:=(NJ R).2 Z (by simp[MK]);intro H;subst H;exact this (NI (q:=q) (by simpa using N) (by simpa using M))
 |I::Q,v::X,q+1,U+1,e,P,k,Z,R,N,M,L,J,G=>by
  simp only[xN] at R;exact aes (NJ R).1 (by simpa using N) (by simpa using M) (by simpa using L) (by simpa using J) (by omega)
def ap.head{ty:Ty}{Z:dq}{ds:List Nat}{P:S}{I:aa}{F:List Nat}{a1:Act}{W1:World}(bU:s.bd=true)(ei:O.i.length=s.ni)(eb:O.b.length=s.nb)(er:O.r.length=s.rs.length)
  (E:ba s O V P I F)(d:ap f m D ty F I P a1 W1)(hT:tY Z ds 0 s.tmps P.tmps=true)(hB:oe Z 0 s.boxes P.boxes=true)(hf:og P Z.ks (gK Z P)=true)
  (hR:tX (fy Z s) P.rs=true)(hO:Cr (fy Z s) (Cq Z P)=true)(b2:P.pd=s.pd):
  ap f m D ty (F.take s.boxes.length) (O.ext ((gK Z P).map (SV.xv I))) (mD Z ds s) a1 W1:=by
 obtain⟨b3,b4⟩:SV.ck O.i.length O.b.length O.r.length (aE s.boxes) s.tmps=true/\SV.mC O.i.length O.b.length O.r.length (aE s.boxes) s.boxes=true:=by
  simp only[S.bd,ayz] at bU;rw[ei,eb,er];exact bU
 have ag:=Vq (O1:=I) hf;have al:O.r.length=(fy Z s).length:=by rw[aoC];exact er
 obtain⟨cy,a4⟩:=aef hf;generalize a7:(gK Z P).map (SV.xv I)=G at*;obtain⟨e1,e2,e3,e4⟩:=ss Z.ks {s with ao:=s.ao+1,rs:=fy Z s};obtain⟨l1,l2,l3⟩:=ul Z.ks G {s with ao:=s.ao+1,rs:=fy Z s} O ag ei eb al;have bf:=yb s.boxes O G V;have b5:=NF (V:=F.take s.boxes.length) Z.ks G {s with ao:=s.ao+1,rs:=fy Z s} O ag ei eb al;have bg:=aeg Z.ks {s with ao:=s.ao+1,rs:=fy Z s};have bk:Z.ks.length=Z.tm.length+Z.cl.length:=by simp[dq.ks]
 have a0:∀i,aE (pw Z (((({s with ao:=s.ao+1,rs:=fy Z s}:S).bB Z.ks).1).drop Z.tm.length) 0 s.boxes) i=true->aE s.boxes i=true/\i<s.boxes.length:=by
  intro i C;unfold aE at C;rw[Jx] at C;have:(bD s.boxes i).isSome=true:=by simpa using C
  obtain⟨b,Q⟩:=ayT.1 this;exact⟨this,(ayA.1 (gg.1 Q)).1⟩
 have b6:∀v:SV,v.bd O.i.length O.b.length O.r.length (aE s.boxes)=true->v.den (O.ext G) (F.take s.boxes.length)=v.den I F:=by
  intro v A;rw[E.ext.den A];refine SV.cn bf.agree (λk u=> ?_) v A;have a2:k<s.boxes.length:=by
   obtain⟨b,Q⟩:=ayT.1 u;exact(ayA.1 (gg.1 Q)).1
  rw[yk a2];exact E.ext.ad k u
 have b7:∀(q:Nat)(k:LK)(v w:SV),Z.ks[q]?=some k->(gK Z P)[q]?=some w->(({s with ao:=s.ao+1,rs:=fy Z s}:S).bB Z.ks).1[q]?=some v->v.den (O.ext G) (F.take s.boxes.length)=w.den I F/\v≠ .any:=by
  intro q k v w u hw A;have o:G[q]?=some (w.xv I):=by rw[<-a7];simp[hw]
  obtain⟨X,U⟩:=b5 q k _ v u o A;exact⟨X.trans (aee (V1:=F) (a4 q k w u hw)).1,U⟩
 have b8:∀v:SV,v.bd O.i.length O.b.length O.r.length (aE s.boxes)=true->v.eD (O.ext G) (F.take s.boxes.length)=v.eD I F:=by
  intro v A;rw[Us E.ext.agree E.ext.ad v A];refine Us bf.agree (λk u=> ?_) v A;have a2:k<s.boxes.length:=by
   obtain⟨b,Q⟩:=ayT.1 u;exact(ayA.1 (gg.1 Q)).1
  rw[yk a2];exact E.ext.ad k u
 have ca:∀(q:Nat)(k:LK)(v w:SV),Z.ks[q]?=some k->(gK Z P)[q]?=some w->(({s with ao:=s.ao+1,rs:=fy Z s}:S).bB Z.ks).1[q]?=some v->v.eD (O.ext G) (F.take s.boxes.length)=w.eD I F:=by
  intro q k v w u hw A;have o:G[q]?=some (w.xv I):=by rw[<-a7];simp[hw]
  rw[NG (V:=F.take s.boxes.length) Z.ks G {s with ao:=s.ao+1,rs:=fy Z s} O ag ei eb al q k _ v u o A];exact aoB (a4 q k w u hw)
 have bl:∀(k:Nat)(e:RK)(N:RV),(fy Z s)[k]?=some e->O.r[k]?=some N->∃e1,P.rs[k]?=some e1/\I.r[k]?=some N/\(e=.dead\/e1=e):=by
  intro k e N X U;have u:k<O.r.length:=(ayA.1 U).1;have cc:k<I.r.length:=aAw u E.ext.lr;have ch:I.r[k]?=some N:=by
   have:=E.ext.agree.r k u;simp only[aa.rv,ayC,U,azf] at this;rw[ayB cc] at this⊢;simpa using this
  obtain⟨R,h3,h4⟩:=aer hR k e X;exact⟨R,h3,ch,h4⟩
 have bo:∀(q:Nat)(e:RK)(N:RV),Z.ks[q]?=some (.ref e)->G[q]?=some (.r N)->(∃J:Nat,(gK Z P)[q]?=some (.ref (.v J))/\P.rs[J]?=some e/\I.r[J]?=some N)\/(N=.mk (.slice none 0 0) []/\∃t sh,e=.sl t\/e=.own t\/e=.mr sh):=by
  intro q e N X U;rw[<-a7,ayF] at U;cases hw:(gK Z P)[q]? with
  |none=>rw[hw] at U;cases U
  |some w=>
   rw[hw] at U;simp only[ayI,ayE] at U;have a5:=a4 q _ w X hw;unfold xO at a5;split at a5;rename_i ab;cases ab;rename_i ab;cases ab;rename_i R k ab;cases ab;simp only[SV.xv,XV.r.injEq] at U;have br:P.rs[k]?=some e:=by simpa using a5
   refine .inl ⟨k,rfl,br, ?_⟩;rw[<-U];exact pE d br;rename_i R ab;cases ab;simp only[SV.xv,XV.r.injEq,RE.rv] at U;exact .inr ⟨U.symm,_,⟨0,0,0,false,false⟩,.inl rfl⟩;rename_i R ab;cases ab;simp only[SV.xv,XV.r.injEq,RE.rv] at U;exact .inr ⟨U.symm,_,⟨0,0,0,false,false⟩,.inr (.inl rfl)⟩;rename_i R ab;cases ab;simp only[SV.xv,XV.r.injEq,RE.rv] at U;exact .inr ⟨U.symm,0,_,.inr (.inr rfl)⟩;cases a5
 simp only[Cr,ayz] at hO;obtain⟨cp,ct⟩:=hO;have bs:∀(q:Nat)(e:TypeId)(J:Nat),Z.ks[q]?=some (.ref (.own e))->(gK Z P)[q]?=some (.ref (.v J))->∀R,(fy Z s)[J]?=some R->R=.dead:=by
  intro q e J X U R h3;have:=ayM.1 ct J (NI X U);simp only[ay2,decide_eq_true_eq] at this;rcases this with h4|h4;have:=(ayA.1 h3).1;omega;rw[h4] at h3;cases h3;rfl
 refine⟨⟨d.mem.base, ?_, ?_, ?_, ?_⟩, ?_,l1,l2,l3, ?_, ?_, ?_, ?_⟩;intro i C;obtain⟨X,U⟩:=a0 i C;rw[yk U];exact d.mem.own i (E.mono i X);intro i j C hj;obtain⟨X,U⟩:=a0 i C;obtain⟨h3,h4⟩:=a0 j hj;rw[yk U,yk h4];exact d.mem.inj i j (E.mono i X) (E.mono j h3);intro i t cs h;simp only[mD] at h;rw[Jx,ay9] at h;cases Q:bD s.boxes i with
 |none=>rw[Q] at h;cases h
 |some x=>
  obtain⟨t0,a8⟩:=x;rw[Q] at h;simp only[ayI,ayE,aAe] at h;obtain⟨rfl,rfl⟩:=h;obtain⟨a6,bt,bx⟩:=Vs hB i t0 a8 Q;rw[ay9] at bx;obtain⟨cv,a9⟩:=aeo bx;have a2:i<s.boxes.length:=(ayA.1 (gg.1 Q)).1;rw[yk a2,d.mem.box i t0 a6 bt];congr 2;apply ay3;intro j;rw[SV.bX,SV.bX,ayF,ayF,aem,ay9];cases o:a8[j]? with
  |none=>
   have:a6[j]?=none:=by
    rw[azm] at o⊢;omega
   simp[this]
  |some x=>
   obtain⟨y,hy⟩:∃y,a6[j]?=some y:=by
    have:j<a8.length:=(ayA.1 o).1;exact⟨a6[j],ayB (by omega)⟩
   rw[hy];simp only[ayI,ayE];cases hp:vL i j Z.cl ((({s with ao:=s.ao+1,rs:=fy Z s}:S).bB Z.ks).1.drop Z.tm.length) with
   |some v=>
    obtain⟨q,k,hq,A⟩:=aej hp;rw[azj] at A;simp only[azf];refine(ca (Z.tm.length+q) k v y ?_ ?_ A).symm;simp[dq.ks,ayG,hq];simp[gK,ayG,hq,acw,bt,hy]
   |none=>
    have hn:=aek (by rw[az2,bg,bk];omega) hp;rcases a9 j x y o hy with X|X;rw[ay9] at X;rw[hn] at X;cases X;subst X;simp only[aA3];exact(b8 x (qG (ot b4 Q) o)).symm
 have bb:=CP (PP:=λe N=>aW W1 ty e N/\∀b,cm ty e N b->∀i,aE s.boxes i=true->ad F i≠b) Z.ks G {s with ao:=s.ao+1,rs:=fy Z s} O ag al ?_ ?_;intro k e N X U;obtain⟨h3,h4⟩:=bb k e N X U;refine⟨h3,λb Q i C=> ?_⟩;obtain⟨h5,h6⟩:=a0 i C;rw[yk h6];exact h4 b Q i h5
 
 intro q e N X U;rcases bo q e N X U with⟨J,_,g2,M⟩|⟨rfl,t,sh,g⟩;have:=d.mem.ref J e N g2 M;exact⟨this.1,λb Q i C=>this.2 b Q i (E.mono i C)⟩;have hn:∀b,¬cm ty (.sl t) (.mk (.slice none 0 0) []) b:=λb Q=>by
  cases Q with
  |deep e v b0 i j af c z k b B=>simp at B
 rcases g with rfl|rfl|rfl;exact⟨yf none 0,λb Q=>(hn b Q).elim⟩;refine⟨aW.own t _ (yf none 0) (λl c h=>by cases h;rfl),λb Q=> ?_⟩;cases Q with
 |own e N b Q=>exact(hn b Q).elim
 exact⟨aW.mr sh [] (λi af h=>by simp at h) (λi j af c k h=>by simp at h) (λi j af c h=>by simp at h) (λi j af c z k h=>by simp at h),λb Q=>by cases Q⟩;intro k e N X U;obtain⟨e1,B,g2,M⟩:=bl k e N X U;have:=d.mem.ref k e1 N B g2;rcases M with rfl|rfl;exact⟨aW.dead _ (Ff this.1),λb Q=>by cases Q⟩;exact⟨this.1,λb Q i C=>this.2 b Q i (E.mono i C)⟩;simp[mD,NH];have:=E.len;rw[d.dS];omega;have X:=d.bY;rw[b2,E.ext.agree.y,<-FE G O] at X;simp only[mD];rw[Vn];exact X;simp only[mD,aen];rw[d.size,(Vr hT).1];intro t sv h;simp only[mD] at h;rw[ael,ay9] at h;cases o:s.tmps[t]? with
 |none=>rw[o] at h;cases h
 |some x=>
  rw[o] at h;simp only[ayI,ayE] at h;obtain⟨cv,a9⟩:=Vr hT;obtain⟨y,hy⟩:∃y,P.tmps[t]?=some y:=by
   have:t<s.tmps.length:=(ayA.1 o).1;exact⟨P.tmps[t],ayB (by omega)⟩
  cases hp:qB t Z.tm ((({s with ao:=s.ao+1,rs:=fy Z s}:S).bB Z.ks).1) with
  |some v=>
   rw[hp] at h;simp only[azf] at h;subst h;obtain⟨q,k,hq,A⟩:=aeh hp;have hc:=(b7 q k v y (aep hq) (aeq hq hy) A);rcases d.tmps t y hy with X|X;subst X;have:=a4 q k .any (aep hq) (aeq hq hy);rcases k with _|_|(_|_|_|_|_)<;>simp[xO] at this;right;rw[hc.1];exact X
  |none=>
   rw[hp] at h;simp only[aA3] at h;split at h;exact .inl h.symm;rename_i cx;subst h;have hn:=aei (by rw[bg,bk];omega) hp;rcases a9 t x y o hy with X|X|X;rw[ay9] at X;rw[hn] at X;cases X;rw[ay9] at X;exact absurd X cx;subst X;rcases d.tmps t x hy with U|U;exact .inl U;right;rw[b6 x (qG b3 o)];exact U
 intro k e N b X U h3;simp only[mD] at X;have bb:∃J:Nat,P.rs[J]?=some (RK.own e)/\I.r[J]?=some N/\∀(L:Nat)(R:RK)(H:RV),L≠k->(mD Z ds s).rs[L]?=some R->(O.ext G).r[L]?=some H->ub ty R H b->∃n:Nat,n≠J/\P.rs[n]?=some R/\I.r[n]?=some H:=by
  have other:∀(L:Nat)(R:RK)(H:RV),(mD Z ds s).rs[L]?=some R->(O.ext G).r[L]?=some H->ub ty R H b->
    ((fy Z s)[L]?=some R/\P.rs[L]?=some R/\I.r[L]?=some H)\/∃q n:Nat,Z.ks[q]?=some (.ref R)/\(gK Z P)[q]?=some (.ref (.v n))/\P.rs[n]?=some R/\I.r[n]?=some H/\L=(fy Z s).length+Ag (Z.ks.take q):=by
   intro L R H B g2 M;rcases FF Z.ks G {s with ao:=s.ao+1,rs:=fy Z s} O ag al L R H B g2 with⟨p1,p2⟩|⟨q,p1,p2,p3⟩;obtain⟨e1,q1,q2,q3⟩:=bl L R H p1 p2;rcases q3 with rfl|rfl;rcases M with M|⟨⟨t,ht⟩,_⟩;cases M;cases ht;exact .inl ⟨p1,q1,q2⟩;rcases bo q R H p1 p2 with⟨J,q1,q2,q3⟩|⟨rfl,t,sh,q⟩;exact .inr ⟨q,J,p1,q1,q2,q3,p3⟩;exfalso;rcases M with M|⟨_,M⟩;rcases q with rfl|rfl|rfl;cases M with
   |deep e v b0 i j af c z k b B=>simp at B
   cases M with
   |own e N b M=>cases M with
    |deep e v b0 i j af c z k b B=>simp at B
   cases M;simp[RV.hU] at M
  rcases other k (.own e) N X U (.inr ⟨⟨e,rfl⟩,h3⟩) with⟨p1,p2,p3⟩|⟨q,J,p1,p2,p3,p4,p5⟩;refine⟨k,p2,p3,λL R H g0 B g2 M=> ?_⟩;rcases other L R H B g2 M with⟨r1,r2,r3⟩|⟨q',n,r1,r2,r3,r4,r5⟩;exact⟨L,g0,r2,r3⟩;refine⟨n,λa3=> ?_,r3,r4⟩;subst a3;rw[p2] at r3;cases r3;have:=bs q' e n r1 r2 _ p1;cases this;refine⟨J,p3,p4,λL R H g0 B g2 M=> ?_⟩;rcases other L R H B g2 M with⟨r1,r2,r3⟩|⟨q',n,r1,r2,r3,r4,r5⟩;refine⟨L,λa3=> ?_,r2,r3⟩;subst a3;rw[p3] at r2;cases r2;have:=bs q e L p1 p2 _ r1;cases this;refine⟨n,λa3=> ?_,r3,r4⟩;subst a3;rw[p3] at r3;cases r3;by_cases b1:q=q';subst b1;exact g0 (by rw[r5,p5]);exact aes cp p1 p2 r1 r2 b1 rfl
 obtain⟨J,B,g2,M⟩:=bb;have t:=d.dK J e N b B g2 h3;refine⟨t.own,t.mem,λi C=> ?_,λL R H q1 q2 q3 q4=> ?_,t.inner⟩;obtain⟨h5,h6⟩:=a0 i C;rw[yk h6];exact t.box i (E.mono i h5);obtain⟨n,r1,r2,r3⟩:=M L R H q1 q2 q3 q4;exact t.alone n R H r1 r2 r3 q4
end
structure iW(p:Sp)(d:aY):Prop where
 pt:p.ty=d.ty
 Vt:p.P.follows .mixedOrders=true
 jo:fz p.P d.ty
 vF:FD p.P d
 ym:∀g,(d.sig g).isSome=true\/(d.inl g).isSome=true->∀args W,(callFunc g args).run p.P W=.ok (.enter g args) W
 NK:∀ch W b o,p.w0.heap.size<=b->p.R (.panicked ch) W->p.R (.panicked ch) (W.putObj b o)
 inl:∀g c nt rs,d.inl g=some (c,nt,rs)->∃fn,p.P.funcs[g]?=some fn/\fn.body=some c/\fn.ntmps=nt/\fn.results.toList=rs
section
variable{p:Sp}{d:aY}
def ap.aet{f:List Nat}{m:World}{D:bz}{V:List Nat}{O:aa}{s:S}{a:Act}{W:World}(R:ap f m D d.ty V O s a W){t:Nat}{b:BE}{v:Bool}(X:s.tmps.getD t .any=.bool b)(Q:b.den O=v):
  ap f m D d.ty V O {s with tmps:=s.tmps.set t (.bool (.c v))} a W:=by
 refine⟨R.mem,R.dS,R.ei,R.eb,R.er,R.bY,by simpa using R.size,λi P h=> ?_,R.dK⟩;simp only[azr] at h;split at h;rename_i N;subst N;split at h;rename_i U;cases h;have M:s.tmps[t]?=some (.bool b):=by
  rw[ayC,ayB U] at X;rw[ayB U];simpa using X
 rcases R.tmps t _ M with Z|Z;cases Z;right;rw[Z];simp[SV.den,BE.den,Q];cases h;exact R.tmps i P h
end
end
variable{t:S}{g:BE}{M:List SV}{H:OM}{R:Option Nat}{z:Oper}{o:Bool}{e:BI}{l:FuncId}
section
mutual
def IE.cw{V U R Q P N:Nat}(Z:V<=Q)(X:U<=P)(W:R<=N):∀(e:IE),e.bd V U R=true->e.bd Q P N=true
 |.c n,_=>IE.aL.1 _
 |.v k,h=>by simp[IE.aL] at h⊢;omega
 |.bin o k a b,h=>by simp[IE.aL] at h⊢;exact⟨IE.cw Z X W a h.1,IE.cw Z X W b h.2⟩
 |.conv k a,h=>by simp[IE.aL] at h⊢;exact IE.cw Z X W a h
 |.len r,h=>by simp[IE.aL] at h⊢;exact RE.cw Z X W r h
 |.mm m a b,h=>by simp[IE.aL] at h⊢;exact⟨IE.cw Z X W a h.1,IE.cw Z X W b h.2⟩
 |.b9 b x y,h=>by simp[IE.aL] at h⊢;exact⟨⟨BE.cw Z X W b h.1.1,IE.cw Z X W x h.1.2⟩,IE.cw Z X W y h.2⟩
 |.cell r i j,h=>by simp[IE.aL] at h⊢;exact⟨RE.cw Z X W r h.1,IE.cw Z X W i h.2⟩
 |.j6 r i,h=>by simp[IE.aL] at h⊢;exact⟨RE.cw Z X W r h.1,IE.cw Z X W i h.2⟩
 |.look r n a b c j,h=>by simp[IE.aL] at h⊢;exact⟨⟨⟨RE.cw Z X W r h.1.1.1,IE.cw Z X W a h.1.1.2⟩,IE.cw Z X W b h.1.2⟩,IE.cw Z X W c h.2⟩
def BE.cw{V U R Q P N:Nat}(Z:V<=Q)(X:U<=P)(W:R<=N):∀(e:BE),e.bd V U R=true->e.bd Q P N=true
 |.c n,_=>BE.aL.1 _
 |.v k,h=>by simp[BE.aL] at h⊢;omega
 |.cmp o a b,h=>by simp[BE.aL] at h⊢;exact⟨IE.cw Z X W a h.1,IE.cw Z X W b h.2⟩
 |.not a,h=>by simp[BE.aL] at h⊢;exact BE.cw Z X W a h
 |.and a b,h=>by simp[BE.aL] at h⊢;exact⟨BE.cw Z X W a h.1,BE.cw Z X W b h.2⟩
 |.beq a b,h=>by simp[BE.aL] at h⊢;exact⟨BE.cw Z X W a h.1,BE.cw Z X W b h.2⟩
 |.b9 b x y,h=>by simp[BE.aL] at h⊢;exact⟨⟨BE.cw Z X W b h.1.1,BE.cw Z X W x h.1.2⟩,BE.cw Z X W y h.2⟩
 |.cell r i j,h=>by simp[BE.aL] at h⊢;exact⟨RE.cw Z X W r h.1,IE.cw Z X W i h.2⟩
 |.seq a b,h=>by simp[BE.aL] at h⊢;exact⟨RE.cw Z X W a h.1,RE.cw Z X W b h.2⟩
 |.look r n a b c j,h=>by simp[BE.aL] at h⊢;exact⟨⟨⟨RE.cw Z X W r h.1.1.1,IE.cw Z X W a h.1.1.2⟩,IE.cw Z X W b h.1.2⟩,IE.cw Z X W c h.2⟩
 |.has r n a b c,h=>by simp[BE.aL] at h⊢;exact⟨⟨⟨RE.cw Z X W r h.1.1.1,IE.cw Z X W a h.1.1.2⟩,IE.cw Z X W b h.1.2⟩,IE.cw Z X W c h.2⟩
def RE.cw{Z X W V U R:Nat}(Q:Z<=V)(P:X<=U)(N:W<=R):∀(e:RE),e.bd Z X W=true->e.bd V U R=true
 |.v k,h=>by simp[RE.aL] at h⊢;omega
 |.cell r i j k,h=>by simp[RE.aL] at h⊢;exact⟨RE.cw Q P N r h.1,IE.cw Q P N i h.2⟩
 |.k v,_=>RE.aL.2.2 _
end
def NL{ty:Ty}{s V:S}:∀{r:RE}{e:RK},(∀(k:Nat)(e:RK),r.root=some k->s.rs[k]?=some e->∃Z,V.rs[k]?=some Z/\Z.rd=e.rd)->e≠ .ax->r.kind ty s=e->r.kind ty V=e
 |.v k,e,bA,X,h=>by
  simp only[RE.kind,ayC] at h⊢;cases W:s.rs[k]? with
  |none=>rw[W] at h;exact absurd (show e=.ax from h.symm) X
  |some q=>
   rw[W] at h;obtain⟨Z,U,R⟩:=bA k q rfl W;rw[U];simp only[azf] at h⊢;rw[R];exact h
 |.cell r i j P,e,bA,X,h=>by
  simp only[RE.kind] at h⊢;split at h;rename_i Z Q;rw[NL (r:=r) bA (by simp) Q];exact h;exact absurd h.symm X
 |.k v,e,bA,X,h=>by cases v<;>exact h
def yo{ty:Ty}{s s':S}(h:s.rs=s'.rs):∀r:RE,r.kind ty s=r.kind ty s'
 |.v k=>by simp only[RE.kind,h]
 |.cell r i j k=>by simp only[RE.kind,yo h r]
 |.k v=>by cases v<;>rfl
def v7(ty:Ty)(s Z:S):Prop:=∀(r:RE)(e:RK),e≠ .ax->r.kind ty s=e->r.kind ty Z=e
def v7.um{ty:Ty}(h:t.rs=Z.rs):v7 ty Z t:=λr e _ X=>by rw[yo h];exact X
def aoD{ty:Ty}(bA:v7 ty Z t){c:CT}{y:SV}(h:EF ty Z c J y=some g):EF ty t c J y=some g:=by
 unfold EF at h⊢;split at h;exact h;exact h;split at h;rename_i X;rw[if_pos ⟨bA _ _ (by simp) X.1,bA _ _ (by simp) X.2⟩];exact h;cases h;cases h
def aeu{ty:Ty}{s X:S}(bA:v7 ty s X):∀{Z:List CT}{x y:List SV}{e:BE},m8 ty s Z x y=some e->m8 ty X Z x y=some e
 |[],[],[],e,h=>h
 |c::Z,x::U,y::R,e,h=>by
  simp only[m8] at h⊢;split at h;rename_i a b W V;rw[aoD bA W,aeu bA V];exact h;cases h
 |[],[],_::_,e,h=>by simp[m8] at h
 |[],_::_,_,e,h=>by simp[m8] at h
 |_::_,[],_,e,h=>by simp[m8] at h
 |_::_,_::_,[],e,h=>by simp[m8] at h
def aev{ty:Ty}(bA:v7 ty Z t){X:Option TI}{y:List SV}(h:EG ty Z X M y=some g):EG ty t X M y=some g:=by
 unfold EG at h⊢;split at h;exact aeu bA h;cases h
section
variable{ty:Ty}{D:List (Nat×Nat×Nat)}{O:aa}
def NM{M:Op}{r:PR}(V:∀x∈M.operands.toList,t.ev D x=Z.ev D x)(Q:looks M=true->vN M=false->v7 ty Z t)
  (ab:∀X x r w i G,M=.load X x->Z.ev D x=.el r w i G->∀e,e≠ .ax->r.kind ty Z=e->r.kind ty t=e)
  (C:∀i,vC D Z M=some i->bD t.boxes i=bD Z.boxes i)(h:bv ty D Z M=r)(U:∀w,r≠ .no w):bv ty D t M=r:=by
 cases M with
 |move x=>have W:=V x (by simp[Op.operands]);simp only[bv] at h⊢;rw[W];exact h
 |assign x=>have W:=V x (by simp[Op.operands]);simp only[bv] at h⊢;rw[W];exact h
 |pick c x y=>
  have W:=V c (by simp[Op.operands]);have P:=V x (by simp[Op.operands]);have B:=V y (by simp[Op.operands]);simp only[bv] at h⊢;rw[W,P,B];exact h
 |load X x=>
  have W:=V x (by simp[Op.operands]);simp only[bv] at h⊢;rw[W];split at h;rename_i l i G J N;rw[I8 (C i (by simp only[vC,N]))];exact h;rename_i l r w i G J N;split at h;rename_i e R;rw[ab X x r w i G rfl N _ (by simp) R];exact h;exact absurd h.symm (U _);rename_i l e ks A J N;have I:((tU A).bind λi=>iQ t.boxes i)=(tU A).bind λi=>iQ Z.boxes i:=by
   cases hl:tU A with
   |none=>rfl
   |some i=>exact I8 (C i (by simp only[vC,N];exact hl))
  rw[I];exact h;exact absurd h.symm (U _)
 |fieldAddr X x f=>have W:=V x (by simp[Op.operands]);simp only[bv] at h⊢;rw[W];exact h
 |field X x f=>have W:=V x (by simp[Op.operands]);simp only[bv] at h⊢;rw[W];exact h
 |indexAddr X x y=>
  have W:=V x (by simp[Op.operands]);have P:=V y (by simp[Op.operands]);simp only[bv] at h⊢;rw[W,P];split at h;exact h;exact h;exact h;split at h;rename_i J R;rw[(Q rfl rfl) _ _ (by simp) R,J];exact h;exact absurd h.symm (U _);exact h;exact h;exact absurd h.symm (U _)
 |index X x y=>
  have W:=V x (by simp[Op.operands]);have P:=V y (by simp[Op.operands]);simp only[bv] at h⊢;rw[W,P];split at h;exact h;exact h;split at h;rename_i R;rw[(Q rfl rfl) _ _ (by simp) R];exact h;exact absurd h.symm (U _);exact absurd h.symm (U _)
 |binOp M X x y t2=>
  have W:=V x (by simp[Op.operands]);have P:=V y (by simp[Op.operands]);simp only[bv] at h⊢;rw[W,P];split at h;exact h;exact h;exact h;split at h;rename_i F H;simp only[(Q rfl rfl) _ _ (by simp) F,(Q rfl rfl) _ _ (by simp) H];exact h;rename_i F H;simp only[(Q rfl rfl) _ _ (by simp) F,(Q rfl rfl) _ _ (by simp) H];exact h;exact absurd h.symm (U _);exact h;exact h;split at h;rename_i e R;rw[aev (Q rfl rfl) R];exact h;rename_i e R;rw[aev (Q rfl rfl) R];exact h;exact absurd h.symm (U _);exact absurd h.symm (U _)
 |unOp M X x=>have W:=V x (by simp[Op.operands]);simp only[bv] at h⊢;rw[W];exact h
 |convert t1 t2 x=>have W:=V x (by simp[Op.operands]);simp only[bv] at h⊢;rw[W];exact h
 |makeInterface X x=>have W:=V x (by simp[Op.operands]);simp only[bv] at h⊢;rw[W];exact h
 |makeFunc fn first j=>
  have W:j.toList.map (t.ev D)=j.toList.map (Z.ev D):=ayZ λx N=>V x (by simp[Op.operands];exact .inr (by simpa using N))
  simp only[bv] at h⊢;rw[W];exact h
 |extract x i=>have W:=V x (by simp[Op.operands]);simp only[bv] at h⊢;rw[W];exact h
 |nilCheck x=>have W:=V x (by simp[Op.operands]);simp only[bv] at h⊢;rw[W];exact h
 |slice X x z v mx=>
  have W:=V x (by simp[Op.operands]);have P:z.map (t.ev D)=z.map (Z.ev D):=by
   cases z with
   |none=>rfl
   |some y=>simp only[ayI];rw[V y (by simp[Op.operands])]
  have B:v.map (t.ev D)=v.map (Z.ev D):=by
   cases v with
   |none=>rfl
   |some y=>simp only[ayI];rw[V y (by simp[Op.operands])]
  simp only[bv] at h⊢;rw[W,P,B];exact h
 |build X parts=>
  have W:(parts.toList.map λp=>(p.1,t.ev D p.2))=parts.toList.map λp=>(p.1,Z.ev D p.2):=ayZ λp hp=>by rw[V p.2 (by simp[Op.operands];exact⟨p.1,by simpa using hp⟩)]
  simp only[bv] at h⊢;rw[W];exact h
 |lookup X x ix ok=>
  have W:=V x (by simp[Op.operands]);have P:=V ix (by simp[Op.operands]);simp only[bv] at h⊢;rw[W,P];split at h;rename_i k e n ag ae q i J N;have H:=C i (by simp only[vC,N]);unfold Mx at h⊢;rw[H];split at h;rename_i te a b c bt cs g1 g2 g3;split at h;exact absurd h.symm (U _);rename_i af;rw[if_neg af];split at h;rename_i u;rw[if_pos u];split at h;rename_i r nk ka va;split at h;rename_i E;have:r.my ty t ⟨k,e,n,ag,te.d.isAgg⟩=true:=by
   simp only[ayz] at E;have g:=E.1.1.1.1.1;unfold RE.my at g⊢;rcases aBh.1 g with o|o;rw[decide_eq_true ((Q rfl rfl) r _ (by simp) (of_decide_eq_true o))];rfl;rw[o];simp
  simp only[ayz] at E;simp only[this,E,azV,if_true];exact h;exact absurd h.symm (U _);exact absurd h.symm (U _);rename_i u;rw[if_neg u];exact h;exact absurd h.symm (U _);exact absurd h.symm (U _)
 |call c=>
  have W:c.args.toList.map (t.ev D)=c.args.toList.map (Z.ev D):=ayZ λx N=>V x (by simp[Op.operands,Call.operands];exact .inr (by simpa using N))
  cases I:c.callee with
  |builtin b=>
   cases b with
   |len=>
    simp only[bv,I] at h⊢;rw[W];split at h;exact h;rename_i X r al F H;split at h;rename_i J R;simp only[(Q rfl rfl) _ _ (by simp) R,J];exact h;rename_i J R;simp only[(Q rfl rfl) _ _ (by simp) R,J];exact h;exact absurd h.symm (U _);exact h;exact absurd h.symm (U _)
   |min=>simp only[bv,I] at h⊢;rw[W];exact h
   |max=>simp only[bv,I] at h⊢;rw[W];exact h
   |_=>simp only[bv,I] at h;exact absurd h.symm (U _)
  |value f=>simp only[bv,I] at h;exact absurd h.symm (U _)
  |invoke r m=>simp only[bv,I] at h;exact absurd h.symm (U _)
 |_=>simp only[bv] at h;exact absurd h.symm (U _)
end
def PR.uo(s:S)(O:aa)(v:SV):PR->Prop
 |.ok x=>v=x
 |.aF b x=>b.den O=true/\b.bd s.ni s.nb s.rs.length=true/\v=x
 |_=>False
def NN{r:PR}(h:r.uo Z N J):r.gives N J:=by
 cases r with
 |ok x=>exact h
 |aF b x=>exact⟨h.1,h.2.2⟩
 |no w=>exact h
def et(B:Array Oper)(m:OM)(s:S)(O:aa):Option Bool:=match m.o.guard with
 |none=>some true
 |some (j,Z)=>match(B[j]?).bind (·.dst) with
  |some d=>match s.tmps[d]? with
   |some (.bool b)=>if b.bd s.ni s.nb s.rs.length then some (b.den O==Z) else none
   |some (.bh [])=>some false
   |_=>none
  |none=>none
def QV(u:aY)(B:Array Oper)(O:aa)(m:OM)(s:S)(v:SV)(l:Nat):Prop:=
 (et B m s O=some false/\v=.bh []/\l=0)\/
 (et B m s O=some true/\(∀x∈m.o.op.operands.toList,(s.ev u.gl x).cM=false)/\match m.o.op with
  |.pick c x y=>∃e:BE,s.ev u.gl c=.bool e/\e.bd s.ni s.nb s.rs.length=true/\v=(if e.den O then s.ev u.gl x else s.ev u.gl y)/\l=0
  |.load t x=>(bv u.ty u.gl s (.load t x)).uo s O v/\l=IK m.aZ (s.ev u.gl x)
  |op=>(bv u.ty u.gl s op).uo s O v/\l=0)
def OR.CQ(s:S)(O:aa)(Z:S):OR->Prop
 |.ok x=>Z=x
 |.aF b x=>b.den O=true/\b.bd s.ni s.nb s.rs.length=true/\Z=x
 |.split b X W=>b.bd s.ni s.nb s.rs.length=true/\Z=if b.den O then X else W
 |.no _=>False
def eX(u:aY)(m:OM)(s:S)(O:aa)(Z:S):Prop:=(dN u m s).CQ s O Z
def FG{u:aY}(h:eX u H Z N t):(dN u H Z).gives N t:=by
 unfold eX at h;cases X:dN u H Z<;>rw[X] at h;exact h;exact⟨h.1,h.2.2⟩;exact h.2;exact h
def aew{r:PR}:(od Z R X r).CQ Z N t<->∃v,r.uo Z N v/\t=Z.bP R v X:=by
 cases r with
 |ok v=>exact⟨λh=>⟨v,rfl,h⟩,λ⟨w,W,V⟩=>by cases W;exact V⟩
 |aF b v=>
  simp only[od];split;rename_i U;exact⟨λh=>⟨v,⟨h.1,h.2.1,rfl⟩,h.2.2⟩,λ⟨w,⟨W,V,Q⟩,P⟩=>⟨W,V,by rw[P,Q]⟩⟩;rename_i U;exact⟨λh=>h.elim,λ⟨w,⟨W,V,Q⟩,P⟩=>absurd V U⟩
 |no w=>exact⟨λh=>h.elim,λ⟨w,W,V⟩=>W.elim⟩
def FH(p:Sp)(u:aY)(s:S)(O:aa)(g:FuncId)(X:List SV)(K:aa->SV->S->Prop):Prop:=
 ∃N Z l,u.sig g=some N/\eV u.ty N=some Z/\vG u.ty N ((s.cut X Z).bB Z).1=some l/\(s.cV X&&lO Z)=true/\
  ∀V W,gN p.S0 p.w0 V O (qz (m9 (SV.kY X) 0 s.boxes)) p.ty (IS X s.rs) W->Calls p.P g (SV.au O V X).toArray W λ
   |.returned v,U=>∃Q,cR Z Q/\v=(one l).den (O.ext Q) V/\Below W.heap.size W U/\E9 p.ty U W.heap.size (O.lR p.ty (IS X s.rs)) Z Q/\K (O.ext Q) (one l) ((s.cut X Z).bB Z).2
   |.panicked M,U=>Below W.heap.size W U/\p.R (.panicked M) U
   |.outgrown,_=>False
def oA(o:Option BI)(f:BI->Prop)(g:Prop):Prop:=match o with
 |some b=>f b
 |none=>g
def lX(o:Option (SV×aX))(f:SV->aX->Prop)(g:Prop):Prop:=match o with
 |some (v,Z)=>f v Z
 |none=>g
def cD(p:Sp)(u:aY)(B:Array Oper)(A:sd)(Z:aa->S->Prop)(X:aa->SV->S->Prop)(W:OM->List OM->aa->S->Nat->List SV->Prop):List OM->aa->S->Prop
 |[],O,s=>Z O s
 |m::V,O,s=>
  (et B m s O=some false/\cD p u B A Z X W V O (s.put m.o.dst (.bh [])))\/
  (et B m s O=some true/\match cB u s m.o with
   |.call (.fn g) U=>lX (A g U s) (λv P=>s.bd=true/\cD p u B A Z X W V O ((s.plus P).put m.o.dst v)) (FH p u s O g U λN v R=>cD p u B A Z X W V N (R.put m.o.dst v))
   |.call (.yl n) U=>m.so=true/\W m V O s n U
   |.aR v=>X O v s
   |.no=>False
   |.op=>oA (cK u m.o m.aZ m.dr s) (λb=>b.aF.den O=true/\∀Q,CE p.ty p.S0 p.w0 b.e b.x s.rs O Q->cD p u B A Z X W V (O.add (.r Q)) b.s) (∃R,eX u m s O R/\cD p u B A Z X W V O R))
def v8(s:S)(O:aa)(Z:Fx):Prop:=∀x∈Z,x.1.den O=x.2/\x.1.bd s.ni s.nb s.rs.length=true
def Vu{p:Sp}{L:List LC}{W:Fx}{t f:Fx->T}(U:v8 Z N W)(h:(xL Z W g t f).aH p N L):
  g.bd Z.ni Z.nb Z.rs.length=true/\∃Q,v8 Z N Q/\(if g.den N then(t Q).aH p N L else(f Q).aH p N L):=by
 have M:pF N W:=λx R=>(U x R).1
 have bU:∀v,IL W g=some v->g.bd Z.ni Z.nb Z.rs.length=true:=by
  intro v X;unfold IL at X;split at X;exact BE.aL.1 _;cases P:W.find? (λx=>x.1.same g) with
  |none=>rw[P] at X;cases X
  |some x=>
   have H:=aAx P;rw[<-BE.bi _ _ H];exact(U x (azZ P)).2
 unfold xL at h;split at h;rename_i X;exact⟨bU _ X,W,U,by rw[Nr M X];exact h⟩;rename_i X;exact⟨bU _ X,W,U,by rw[Nr M X];exact h⟩;split at h;rename_i J;simp only[T.aH] at h;refine⟨J, ?_⟩;have I:∀v,g.den N=v->v8 Z N ((g,v)::W):=λv V x R=>by
  rcases ayK.1 R with rfl|R;exact⟨V,J⟩;exact U x R
 cases V:g.den N;exact⟨_,I _ V,by simpa using h.2 V⟩;exact⟨_,I _ V,by simpa using h.1 V⟩;exact h.elim
section
variable{p:Sp}{u:aY}{B:Array Oper}{A:sd}{L:List LC}{E:YH}{k:S->T}{C:SV->S->T}
def dA(s:S)(d:Option Nat)(v:SV):(s.put d v).ni=s.ni/\(s.put d v).nb=s.nb/\(s.put d v).rs=s.rs:=by cases d<;>exact⟨rfl,rfl,rfl⟩
def aex(h:(dN u H Z).gives N t):t.ni=Z.ni/\t.nb=Z.nb/\t.rs=Z.rs:=by
 unfold dN at h;split at h;exact h.elim;split at h;split at h;split at h;cases h;exact dA _ _ _;exact h.elim;exact h.elim;split at h;split at h;cases h;exact dA _ _ _;exact h.elim;exact h.elim;split at h;split at h;split at h;split at h;cases h;exact dA _ _ _;exact h.elim;exact h.elim;exact h.elim;exact h.elim;split at h;split at h;split at h;cases h;exact dA _ _ _;exact h.elim;exact h.elim;exact h.elim;split at h;simp only[OR.gives] at h;split at h<;>(subst h;exact dA _ _ _);exact h.elim;obtain⟨v,-,rfl⟩:=vX h;exact dA _ _ _;obtain⟨v,-,rfl⟩:=vX h;exact dA _ _ _
def Jy{s:S}{d:Option Nat}{aF:BE}{e:TypeId}{k:RK}{x:LE}{Z X:List Nat}{b:BI}(h:gu s d aF e k x Z X=some b):b.s.ni=s.ni/\b.s.nb=s.nb/\b.s.rs.length=s.rs.length+1:=by
 obtain⟨-,-,rfl⟩:=uh h;refine⟨(dA _ _ _).1,(dA _ _ _).2.1, ?_⟩;simp only;rw[(dA _ _ _).2.2];simp[vV,vU]
def aey{W:Bool}(h:cK u z o W Z=some e):e.s.ni=Z.ni/\e.s.nb=Z.nb/\e.s.rs.length=Z.rs.length+1:=by
 unfold cK at h;split at h;split at h;split at h;split at h;split at h;split at h;cases h;split at h;exact Jy h;cases h;cases h;cases h;cases h;cases h;split at h;split at h;split at h;exact Jy h;cases h;cases h;cases h;split at h;cases h;split at h;split at h;split at h;split at h;exact Jy h;cases h;cases h;cases h;cases h;split at h;cases h
 ·split at h
  all_goals first
   |cases h
   |(split at h
     split at h;exact Jy h;cases h;cases h)
 split at h;cases h;split at h;split at h;split at h;split at h;cases X:gu Z none (qy _ (.len (.v _))) _ (.own _) _ [_] _ with
 |none=>rw[X] at h;cases h
 |some Q=>
  rw[X] at h;simp only[ayI,ayE] at h;subst h;obtain⟨V,U,R⟩:=Jy X;refine⟨?_, ?_, ?_⟩;simp only;rw[(dA _ _ _).1];exact V;simp only;rw[(dA _ _ _).2.1];exact U;simp only;rw[(dA _ _ _).2.2];exact R
 cases h;cases h;cases h;cases h;cases h
def aez{r:PR}(h:od Z R X r=.aF g t):g.bd Z.ni Z.nb Z.rs.length=true:=by
 cases r with
 |ok v=>cases h
 |aF V v=>
  simp only[od] at h;split at h;rename_i W;cases h;exact W;cases h
 |no w=>cases h
def aoE(h:dN u H Z=.aF g t):g.bd Z.ni Z.nb Z.rs.length=true:=by
 unfold dN at h;split at h;cases h;split at h
 ·(repeat' split at h)<;>cases h
 ·(repeat' split at h)<;>cases h
 ·(repeat' split at h)<;>cases h
 ·(repeat' split at h)<;>cases h
 ·(repeat' split at h)<;>cases h
 exact aez h;exact aez h
structure Ai(B:Array Oper)(A:sd):Prop where
 q:∀(g:FuncId)(args:List SV)(s:S)(d:Option Nat)(v:SV)(l:Nat),A g args (s.bP d v l)=A g args s
 z:∀(g:FuncId)(s:S)(n:Nat)(t:TypeId)(cs:List SV)(d:Option Nat)(w:SV),dH s.boxes n=true->A g [] ((s.bM n t cs).put d w)=A g [] s
 Vv:∀(g:FuncId)(args:List SV)(s:S)(r:SV×aX),A g args s=some r->MN B=true
def aeA{W:aX}(h:aE Z.boxes X=true):bD (Z.plus W).boxes X=bD Z.boxes X:=by
 obtain⟨b,V⟩:=ayT.1 h;have U:=(ayA.1 (gg.1 V)).1;simp only[bS,S.plus,ayD U]
def aeB{W:aX}(h:dH Z.boxes X=true):dH (Z.plus W).boxes X=true:=by
 have V:=(jC h).2;simp only[dH,S.plus,ayD V] at h⊢;exact h
def Vw{g:Cj}(h:cB u Z z=.call g M):t8 z.op=true:=by
 unfold cB at h;split at h;split at h<;>cases h
 ·rename_i c W;rw[W];cases X:c.callee with
  |value f=>simp[t8,X]
  |invoke r m=>rw[X] at h;cases h
  |builtin b=>
   rw[X] at h;exfalso;revert h;cases b<;>simp only
   all_goals first
    |(intro h;cases h;done)
    |(split<;>intro h<;>first|(cases h;done)|(split at h<;>cases h))
 cases h
def aeC(X:ER z.op=true)(h:cB u Z z=.call (.fn l) M):M=[]:=by
 unfold ER at X;split at X;rename_i c W;split at X;rename_i f V;have U:c.args.toList=[]:=by simpa using X
 simp only[cB,W,V,S.ev,rV,U,List.any_nil,ayV,if_false,azT,ayU,CK.call.injEq,Cj.fn.injEq] at h;exact h.2.symm;cases X;cases X
def Aj(p:Sp)(k:S->T)(L:List LC)(O:aa)(s:S):Prop:=(k s).aH p O L
def yp(p:Sp)(C:SV->S->T)(L:List LC)(O:aa)(v:SV)(s:S):Prop:=(C v s).aH p O L
def yq(p:Sp)(u:aY)(B:Array Oper)(A:sd)(E:YH)(k:S->T)(C:SV->S->T)(L:List LC)(m:OM)(Z:List OM)(O:aa)(s:S)(n:Nat)(W:List SV):Prop:=
 (∀V∈Z,V.dr=true)/\∃X,v8 s O X/\(ua u A E (.yl n) W s (λv U=>j7 u (ua u A E) B k C Z (U.put m.o.dst v) (ld s X)) C).aH p O L
def CR(an:p.ty=u.ty):∀(l:List OM)(s:S)(fx:Fx)(O:aa),O.i.length=s.ni->O.b.length=s.nb->O.r.length=s.rs.length->(j7 u (ua u A E) B k C l s fx).aH p O L->v8 s O fx->
  (∀m∈l,m.dr=true)->cD p u B A (Aj p k L) (yp p C L) (yq p u B A E k C L) l O s
 |[],s,fx,O,_,_,_,h,_,_=>h
 |m::X,s,fx,O,F,D,z,h,a1,bb=>by
  have a3:m.dr=true:=bb m (by simp);have ag:∀m∈X,m.dr=true:=λm' bk=>bb m' (by simp[bk])
  have bl:vI u m s=none:=by simp[vI,a3]
  have bo:xM u m s=none:=by simp[xM,a3]
  have br:∀c f,vH u m s c f=none:=λc f=>by simp[vH,a3]
  have a4:∀(s:S)(d:Option Nat)(v:SV),(s.put d v).ni=s.ni/\(s.put d v).nb=s.nb/\(s.put d v).rs=s.rs:=λs d v=>by cases d<;>exact⟨rfl,rfl,rfl⟩
  have bf:∀(Z:S)(U:Fx),Z.ni=s.ni->Z.nb=s.nb->Z.rs=s.rs->v8 s O U->v8 Z O U:=λZ U h1 Q h3 hf x a=>by rw[h1,Q,h3];exact hf x a
  have a5:∀U,v8 s O U->(vK u (ua u A E) m s (j7 u (ua u A E) B k C X) C U).aH p O L->
    (match cB u s m.o with
     |.call (.fn g) I=>lX (A g I s) (λv ex=>s.bd=true/\cD p u B A (Aj p k L) (yp p C L) (yq p u B A E k C L) X O ((s.plus ex).put m.o.dst v)) (FH p u s O g I λO' v Z=>cD p u B A (Aj p k L) (yp p C L) (yq p u B A E k C L) X O' (Z.put m.o.dst v))
     |.call (.yl n) I=>m.so=true/\yq p u B A E k C L m X O s n I
     |.aR v=>yp p C L O v s
     |.no=>False
     |.op=>oA (cK u m.o m.aZ m.dr s) (λb=>b.aF.den O=true/\∀rv,CE p.ty p.S0 p.w0 b.e b.x s.rs O rv->cD p u B A (Aj p k L) (yp p C L) (yq p u B A E k C L) X (O.add (.r rv)) b.s)
      (∃Z,eX u m s O Z/\cD p u B A (Aj p k L) (yp p C L) (yq p u B A E k C L) X O Z):Prop):=by
   intro U ab h;unfold vK at h;rw[bl] at h;simp only[bo,br] at h;cases hc:cB u s m.o with
   |call g0 I=>
    rw[hc] at h;cases g0 with
    |yl n=>
     simp only at h⊢;split at h;rename_i bs;exact⟨bs,ag,U,ab,h⟩;exact h.elim
    |fn g=>
    simp only[ua] at h;simp only;cases bg:A g I s with
    |some ve=>
     obtain⟨v,ex⟩:=ve;rw[bg] at h;simp only at h;split at h;rename_i P;refine⟨P, ?_⟩;obtain⟨N,M,J⟩:=a4 (s.plus ex) m.o.dst v;refine CR an X _ _ O (by rw[N];exact F) (by rw[M];exact D) (by rw[J];exact z) h (λx a=> ?_) ag;rw[N,M,J];exact ab x (azk.1 a).1;exact h.elim
    |none=>
    rw[bg] at h;simp only[tZ] at h;simp only[lX];split at h;rename_i ts bt;split at h;rename_i ks bx;split at h;rename_i l hl;split at h;rename_i P;refine⟨ts,ks,l,bt,bx,hl,P,λV W R=> ?_⟩;simp only[T.aH] at h;refine(h O.y V W R).mono ?_;intro e W' he;cases e with
    |returned v=>
     obtain⟨xs,h1,Q,h3,h4,h5⟩:=he;have hy:(O.ext xs).at O.y=O.ext xs:=by have:=FE xs O;unfold aa.at;rw[<-this]
     rw[hy] at Q;refine⟨xs,h1,Q,h3,h4, ?_⟩;obtain⟨l1,l2,l3⟩:=ul ks xs (s.cut I ks) O h1 F D (z.trans (Ah I ks s.rs).len.symm);have al:=a4 ((s.cut I ks).bB ks).2 m.o.dst (one l);refine CR an X _ _ _ (by rw[al.1];exact l1) (by rw[al.2.1];exact l2) (by rw[al.2.2];exact l3) h5 ?_ ag;intro x a;obtain⟨a6,b0⟩:=azk.1 a;obtain⟨H,bU⟩:=ab x a6;have b1:=zZ xs O;have a7:=Nc xs O;refine⟨by rw[BE.cn b1 _ (by rw[F,D,z];exact bU)];exact H, ?_⟩;rw[al.1,al.2.1,al.2.2,<-l1,<-l2,<-l3];exact BE.cw (by rw[<-F];exact a7.1) (by rw[<-D];exact a7.2.1) (by rw[<-z];exact a7.2.2) _ bU
    |panicked ch=>exact he
    |outgrown=>exact he
    exact h.elim;exact h.elim;exact h.elim;exact h.elim
   |aR v=>rw[hc] at h;exact h
   |no=>rw[hc] at h;exact h
   |op=>
    rw[hc] at h;simp only at h⊢;cases a8:cK u m.o m.aZ m.dr s with
    |some b=>
     rw[a8] at h;obtain⟨hn,h⟩:=h;refine⟨hn,λrv b2=> ?_⟩;obtain⟨N,M,J⟩:=aey a8;have b3:(O.add (.r rv)).r.length=b.s.rs.length:=by simp[aa.add,J,z]
     refine CR an X b.s _ _ (by rw[N];exact F) (by rw[M];exact D) b3 (h rv b2) ?_ ag;intro x a;obtain⟨a6,b0⟩:=azk.1 a;obtain⟨H,bU⟩:=ab x a6;refine⟨by rw[BE.cn (M1 O (.r rv)) _ (by rw[F,D,z];exact bU)];exact H, ?_⟩;exact BE.cw (by omega) (by omega) (by omega) _ bU
    |none=>
    rw[a8] at h;simp only[oA] at h⊢;have a2:∀Z a0,v8 s O a0->eX u m s O Z->(j7 u (ua u A E) B k C X Z a0).aH p O L->∃Z,eX u m s O Z/\cD p u B A (Aj p k L) (yp p C L) (yq p u B A E k C L) X O Z:=by
     intro Z a0 hf hG hs;obtain⟨N,M,J⟩:=aex (FG hG);exact⟨Z,hG,CR an X Z a0 O (by rw[N];exact F) (by rw[M];exact D) (by rw[J];exact z) hs (bf Z a0 N M J hf) ag⟩
    split at h;rename_i Z af;exact a2 Z U ab (by unfold eX;rw[af];rfl) h;rename_i b Z af;refine a2 Z U ab ?_ h.2;unfold eX;rw[af];exact⟨h.1,aoE af,rfl⟩;rename_i b s1 s2 af;obtain⟨bU,w,t,Q⟩:=Vu ab h;cases hv:b.den O;exact a2 s2 w t (by unfold eX;rw[af];simp[OR.CQ,hv,bU]) (by simpa[hv] using Q);exact a2 s1 w t (by unfold eX;rw[af];simp[OR.CQ,hv,bU]) (by simpa[hv] using Q);exact h.elim
  have a9:∀U,v8 s O U->(j7 u (ua u A E) B k C X (s.put m.o.dst (.bh [])) U).aH p O L->cD p u B A (Aj p k L) (yp p C L) (yq p u B A E k C L) X O (s.put m.o.dst (.bh [])):=by
   intro U hf h;obtain⟨N,M,J⟩:=a4 s m.o.dst (.bh []);exact CR an X _ U O (by rw[N];exact F) (by rw[M];exact D) (by rw[J];exact z) h (bf _ U N M J hf) ag
  simp only[j7,MJ] at h;cases j:m.o.guard with
  |none=>
   rw[j] at h;exact .inr ⟨by simp[et,j],a5 fx a1 h⟩
  |some q=>
   obtain⟨jj,b4⟩:=q;rw[j] at h;simp only at h;split at h;rename_i d H;split at h;rename_i b P;cases b4;simp only[ayV,if_false] at h;obtain⟨bU,w,t,Q⟩:=Vu a1 h;cases G:b.den O;exact .inr ⟨by simp[et,j,H,P,bU,G],a5 w t (by simpa[G] using Q)⟩;exact .inl ⟨by simp[et,j,H,P,bU,G],a9 w t (by simpa[G] using Q)⟩;simp only[if_true] at h;obtain⟨bU,w,t,Q⟩:=Vu a1 h;cases G:b.den O;exact .inl ⟨by simp[et,j,H,P,bU,G],a9 w t (by simpa[G] using Q)⟩;exact .inr ⟨by simp[et,j,H,P,bU,G],a5 w t (by simpa[G] using Q)⟩;rename_i P;exact .inl ⟨by simp[et,j,H,P],a9 fx a1 h⟩;exact h.elim;exact h.elim
end
end
variable{r:List OM}
section
section
variable{p:Sp}{cf:aY}{ops:Array Oper}{a:sd}
structure im(cf:aY)(ops:Array Oper)(o:Oper)(s:S)(O:aa)(s':S)(O':aa):Prop where
 tm:∀t∈ge ops o,s'.tmps[t]?=s.tmps[t]?
 kd:looks o.op=true->vN o.op=false->v7 cf.ty s s'
 kl:∀t x r w i off,o.op=.load t x->s.ev cf.gl x=.el r w i off->∀e,e≠ .ax->r.kind cf.ty s=e->r.kind cf.ty s'=e
 li:s.ni<=s'.ni
 lb:s.nb<=s'.nb
 lr:s.rs.length<=s'.rs.length
 ag:fj O O' s.ni s.nb s.rs.length
def im.um{o:Oper}{s Z:S}{O:aa}(W:∀t∈ge ops o,Z.tmps[t]?=s.tmps[t]?)(X:Z.rs=s.rs)(V:Z.ni=s.ni)(U:Z.nb=s.nb):im cf ops o s O Z O:=
 ⟨W,λ_ _=>v7.um X,λt x r w i R _ _=>v7.um X r,aAb V.symm,aAb U.symm,aAb (by rw[X]),fj.refl _ _ _ _⟩
def im.ev{o:Oper}{s Z:S}{O W:aa}(h:im cf ops o s O Z W)(X:List (Nat×Nat×Nat)):∀x∈o.op.operands.toList,Z.ev X x=s.ev X x:=by
 intro x V;cases x with
 |tmp t=>
  have:t∈ge ops o:=by
   unfold ge;exact azp _ (azQ.2 ⟨.tmp t,V,rfl⟩)
  simp only[S.ev,rV,ayC,h.tm t this]
 |const v=>rfl
 |global g=>rfl
 |func f=>rfl
def im.guard{m:OM}{s X:S}{O U:aa}(h:im cf ops m.o s O X U){b:Bool}(Z:et ops m s O=some b):et ops m X U=some b:=by
 unfold et at Z⊢;cases W:m.o.guard with
 |none=>rw[W] at Z;exact Z
 |some q=>
  obtain⟨j,P⟩:=q;rw[W] at Z;simp only at Z⊢;cases V:(ops[j]?).bind (·.dst) with
  |none=>rw[V] at Z;cases Z
  |some d=>
   rw[V] at Z;simp only at Z⊢;have Q:X.tmps[d]?=s.tmps[d]?:=h.tm d (by unfold ge;rw[W];exact az8 _ (by simp[V]));rw[Q];split at Z;rename_i e N;split at Z;rename_i R;rw[if_pos (BE.cw h.li h.lb h.lr _ R),BE.cn h.ag _ R];exact Z;cases Z;exact Z;cases Z
def aeD{U:aa}(h:im cf ops z Z N t U)(R:∀i,vC cf.gl Z z.op=some i->bD t.boxes i=bD Z.boxes i)
  (X:(bv cf.ty cf.gl Z z.op).uo Z N J):(bv cf.ty cf.gl t z.op).uo t U J:=by
 have P:bv cf.ty cf.gl t z.op=bv cf.ty cf.gl Z z.op:=by
  cases W:bv cf.ty cf.gl Z z.op with
  |ok x=>exact NM (ty:=cf.ty) (h.ev cf.gl) h.kd h.kl R W (λw V=>by cases V)
  |aF b x=>exact NM (ty:=cf.ty) (h.ev cf.gl) h.kd h.kl R W (λw V=>by cases V)
  |no w=>rw[W] at X;exact X.elim
 rw[P];cases W:bv cf.ty cf.gl Z z.op with
 |ok x=>rw[W] at X;exact X
 |aF b x=>
  rw[W] at X;obtain⟨M,Q,L⟩:=X;exact⟨by rw[BE.cn h.ag _ Q];exact M,BE.cw h.li h.lb h.lr _ Q,L⟩
 |no w=>rw[W] at X;exact X.elim
def Vx{I:aa}(h:im cf ops H.o Z N t I)(G:∀i,vC cf.gl Z H.o.op=some i->bD t.boxes i=bD Z.boxes i)(D:QV cf ops N H Z J X):QV cf ops I H t J X:=by
 rcases D with⟨Q,P,V⟩|⟨Q,P,V⟩;exact .inl ⟨h.guard Q,P,V⟩;refine .inr ⟨h.guard Q,λx F=>by rw[h.ev cf.gl x F];exact P x F, ?_⟩;have U:=h.ev cf.gl;cases M:H.o.op with
 |pick c x y=>
  rw[M] at V U;obtain⟨e,C,E,B,A⟩:=V;refine⟨e,by rw[U c (by simp[Op.operands])];exact C,BE.cw h.li h.lb h.lr _ E, ?_,A⟩;rw[BE.cn h.ag _ E,U x (by simp[Op.operands]),U y (by simp[Op.operands])];exact B
 |load W x=>
  have R:=λ(L:(bv cf.ty cf.gl Z H.o.op).uo Z N J)=>aeD (cf:=cf) h G L
  rw[M] at V U R;exact⟨R V.1,by rw[U x (by simp[Op.operands])];exact V.2⟩
 |_=>
  have R:=λ(L:(bv cf.ty cf.gl Z H.o.op).uo Z N J)=>aeD (cf:=cf) h G L
  rw[M] at V R;exact⟨R V.1,V.2⟩
def aoF(h:jJ z.op=true):cB cf Z z=.op:=by
 unfold cB;cases W:z.op<;>rw[W] at h<;>simp[jJ] at h<;>try rfl
 rename_i c;cases X:c.callee with
 |builtin b=>cases b<;>simp[X] at h<;>simp[X]
 |value f=>simp[X] at h
 |invoke r m=>simp[X] at h
def CS(s:S)(d:Option Nat)(v:SV):s.bP d v 0=s.put d v:=by simp[S.bP]
def FI(L:jJ H.o.op=true)(V:et ops H Z N=some true):eX cf H Z N t<->∃v l,QV cf ops N H Z v l/\t=Z.bP H.o.dst v l:=by
 unfold eX dN QV;by_cases U:(H.o.op.operands.toList.any λx=>(Z.ev cf.gl x).cM)=true;simp only[U,if_true];constructor;exact λh=>h.elim
 rintro⟨v,l,h|h,-⟩;rw[V] at h;cases h.1;obtain⟨x,P,J⟩:=ay8.1 U;have:=h.2.1 x P;rw[this] at J;cases J
 ·have I:∀x∈H.o.op.operands.toList,(Z.ev cf.gl x).cM=false:=by
   intro x P;cases C:(Z.ev cf.gl x).cM;rfl;exact absurd (ay8.2 ⟨x,P,C⟩) U
  have M:¬et ops H Z N=some false:=by rw[V];simp
  have G:∀(R:Nat),(od Z H.o.dst R (bv cf.ty cf.gl Z H.o.op)).CQ Z N t<->∃v l,((et ops H Z N=some false/\v=.bh []/\l=0)\/(et ops H Z N=some true/\(∀x∈H.o.op.operands.toList,(Z.ev cf.gl x).cM=false)/\(bv cf.ty cf.gl Z H.o.op).uo Z N v/\l=R))/\t=Z.bP H.o.dst v l:=by
   intro R;rw[aew];constructor;rintro⟨v,X,W⟩;exact⟨v,R,.inr ⟨V,I,X,rfl⟩,W⟩;rintro⟨v,l,h|⟨-,-,X,rfl⟩,Q⟩;exact absurd h.1 M;exact⟨v,X,Q⟩
  rw[if_neg U];cases F:H.o.op<;>rw[F] at L G<;>simp only[jJ,ayV] at L
  case pick c x y=>
   simp only;cases A:Z.ev cf.gl c with
   |bool e=>
    constructor;rintro⟨X,W⟩;refine⟨if e.den N then Z.ev cf.gl x else Z.ev cf.gl y,0,.inr ⟨V,by rw[<-F];exact I,e,rfl,X,rfl,rfl⟩, ?_⟩;rw[CS,W];split<;>rfl;rintro⟨v,l,h|⟨-,-,B,X,W,E,D⟩,Q⟩;exact absurd h.1 M;cases X;subst D;refine⟨W, ?_⟩;rw[Q,CS,E];split<;>rfl
   |_=>
    constructor;exact λh=>h.elim
    rintro⟨v,l,h|⟨-,-,B,X,W,E,D⟩,Q⟩;exact absurd h.1 M;cases X
  all_goals exact G _
variable{k:aa->S->Prop}{n:aa->SV->S->Prop}{u:OM->List OM->aa->S->Nat->List SV->Prop}
def aeE(X:jJ z.op=true):cK cf z o true Z=none:=by
 unfold cK;cases V:z.op<;>rw[V] at X<;>simp only[jJ,ayV] at X<;>try rfl
 rename_i c;cases W:c.callee with
 |builtin b=>cases b<;>simp[W] at X<;>simp[W]
 |value f=>simp[W] at X
 |invoke r m=>simp[W] at X
def aeF(R:H.dr=true)(U:jJ H.o.op=true):cD p cf ops a k n u (H::r) N Z<->∃v l,QV cf ops N H Z v l/\cD p cf ops a k n u r N (Z.bP H.o.dst v l):=by
 simp only[cD,aoF U,R,aeE U,oA];constructor;rintro(⟨V,X⟩|⟨V,P,X,W⟩);exact⟨.bh [],0,.inl ⟨V,rfl,rfl⟩,by rw[CS];exact X⟩;obtain⟨v,l,Q,rfl⟩:=(FI (ops:=ops) U V).1 X;exact⟨v,l,Q,W⟩;rintro⟨v,l,V,X⟩;rcases V with⟨W,rfl,rfl⟩|W;rw[CS] at X;exact .inl ⟨W,X⟩;exact .inr ⟨W.1,_,(FI (ops:=ops) U W.1).2 ⟨v,l,.inr W,rfl⟩,X⟩
end
end
variable{I:TypeId}{c:LE×BE×List Nat}
section
section
variable{p:Sp}{A:aY}{B:Array Oper}{C:sd}
def iX(h:R≠some X):(Z.put R J).tmps[X]?=Z.tmps[X]?:=by
 cases R with
 |none=>rfl
 |some R=>simp only[S.put,qu];rw[azc (λe=>h (by rw[e]))]
def FJ(h:R≠some x):(Z.bP R J X).tmps[x]?=Z.tmps[x]?:=by
 unfold S.bP;rw[iX h]
def iY(s:S)(d:Option Nat)(v:SV):(s.put d v).boxes=s.boxes:=by cases d<;>rfl
def yr(s:S)(d:Option Nat)(v:SV)(l:Nat):(s.bP d v l).boxes=s.boxes:=by unfold S.bP;rw[iY]
def NO(s:S)(d:Option Nat)(v:SV):(s.put d v).lk=s.lk:=by cases d<;>rfl
def Vy{e:Option Nat}{w:SV}(h:∀x,R=some x->e≠some x):(Z.put R J).put e w=(Z.put e w).put R J:=by
 cases R with
 |none=>cases e<;>rfl
 |some R=>
  cases e with
  |none=>rfl
  |some e=>
   have X:R≠e:=λW=>h R rfl (by rw[W])
   simp only[S.put,qu];rw[List.set_comm _ _ X]
def Jz{s:S}{d e:Option Nat}{v w:SV}{l:Nat}(h:∀x,d=some x->e≠some x):(s.bP d v l).put e w=(s.put e w).bP d v l:=by
 unfold S.bP;rw[Vy h];cases e<;>rfl
def aoG{e:Option Nat}{w:SV}(h:∀W,R=some W->e≠some W):(Z.bP R J X).bP e w x=(Z.bP e w x).bP R J X:=by
 have V:(Z.bP R J X).bP e w x={(Z.bP R J X).put e w with lk:=Z.lk|||X|||x}:=by
  unfold S.bP;cases e<;>cases R<;>rfl
 have U:(Z.bP e w x).bP R J X={(Z.bP e w x).put R J with lk:=Z.lk|||x|||X}:=by
  unfold S.bP;cases e<;>cases R<;>rfl
 rw[V,U,Nat.or_assoc,Nat.or_comm X x,<-Nat.or_assoc];have Q:(Z.bP R J X).put e w={(Z.put R J).put e w with lk:=Z.lk|||X}:=by unfold S.bP;cases e<;>cases R<;>rfl
 have P:(Z.bP e w x).put R J={(Z.put e w).put R J with lk:=Z.lk|||x}:=by unfold S.bP;cases e<;>cases R<;>rfl
 rw[Q,P,Vy h]
def aoH(s:S)(d:Option Nat)(v:SV)(l n:Nat)(t:TypeId)(Z:List SV):(s.bP d v l).bM n t Z=(s.bM n t Z).bP d v l:=by
 unfold S.bP S.bM;cases d<;>rfl
structure Vz(B:Array Oper)(x y:OM)(dx:Nat):Prop where
 xd:x.dr=true
 yd:y.dr=true
 qx:jJ x.o.op=true
 np:EQ y.o.op=false
 dst:x.o.dst=some dx
 ry:dx∉ge B y.o
 dy:y.o.dst≠some dx
 rx:dx∉ge B x.o
 yx:∀d,y.o.dst=some d->d∉ge B x.o
 rc:t6 y.o.op=true->vN x.o.op=true->x.aZ=true/\y.aZ=true
 rb:xQ y.o.op=true->looks x.o.op=true->vN x.o.op=true/\x.aZ=true/\y.aZ=true
def aeG{y:OM}(h:ML B H y=true):∃U,Vz B H y U:=by
 unfold ML at h;simp only[ayz,ayS] at h;obtain⟨⟨⟨⟨⟨⟨⟨N,M⟩,L⟩,J⟩,Z⟩,W⟩,Q⟩,V⟩:=h;cases R:H.o.dst with
 |none=>rw[R] at Z;cases Z
 |some U=>
  rw[R] at Z;simp only[ayz,ayS,bne_iff_ne] at Z;obtain⟨⟨P,I⟩,O⟩:=Z;refine⟨U,N,M,L,J,R, ?_,I, ?_, ?_, ?_, ?_⟩;intro X;rw[aza.2 X] at P;cases P;intro X;rw[aza.2 X] at O;cases O;intro d G X;rw[G] at W;simp only[ayS] at W;rw[aza.2 X] at W;cases W;intro a b;simp only[a,b,aBo,aB2,ayz] at Q;exact Q;intro a b;simp only[a,b,aBo,aB2,ayz] at V;exact⟨V.1.1,V.1.2,V.2⟩
def CU(h:∀x∈z.op.operands.toList,t.ev A.gl x=Z.ev A.gl x):cB A t z=cB A Z z:=by
 unfold cB;cases W:z.op<;>rw[W] at h<;>try rfl
 case panic x=>simp only;rw[h x (by simp[Op.operands])]
 case call c=>
  simp only;cases V:c.callee with
  |value f=>
   have U:=h f (by simp[Op.operands,Call.operands,V]);have X:c.args.toList.map (t.ev A.gl)=c.args.toList.map (Z.ev A.gl):=ayZ λx R=>h x (by simp[Op.operands,Call.operands];exact .inr (by simpa using R))
   have Q:(c.args.toList.any λx=>(t.ev A.gl x).cM)=c.args.toList.any λx=>(Z.ev A.gl x).cM:=by
    have P:=aBB (f:=t.ev A.gl) (p:=SV.cM) (l:=c.args.toList);have O:=aBB (f:=Z.ev A.gl) (p:=SV.cM) (l:=c.args.toList);rw[show(c.args.toList.any λx=>(t.ev A.gl x).cM)=(c.args.toList.map (t.ev A.gl)).any SV.cM from P.symm,X,O];rfl
   simp only[U,X,Q]
  |invoke r m=>rfl
  |builtin b=>
   cases b<;>try rfl
   cases N:c.args.toList with
   |nil=>rfl
   |cons x r=>
    cases r with
    |nil=>simp only;rw[h x (by simp[Op.operands,Call.operands];exact .inr (by have M:x∈c.args.toList:=(by rw[N];simp);simpa using M))]
    |cons y r=>rfl
def VA(h:cB A Z z=.aR J):EQ z.op=true:=by
 unfold cB at h;split at h;rename_i X;rw[X];rfl;rename_i c X;split at h;split at h;split at h<;>cases h;split at h<;>cases h;cases h;cases h;rename_i W;rw[X];simp[EQ,W];cases h;cases h
def su(s:S)(d:Nat):Prop:=s.tmps[d]?=none\/∃w,s.tmps[d]?=some w/\w.bd s.ni s.nb s.rs.length (aE s.boxes)=true
def VB{X W V:Nat}{U:Nat->Bool}:∀{l:List SV}{d:Nat}{v:SV},SV.ck X W V U (l.set d v)=true->(l[d]?=none\/∃w,l[d]?=some w/\w.bd X W V U=true)->SV.ck X W V U l=true
 |[],d,v,h,_=>rfl
 |x::R,0,v,h,Z=>by
  simp only[aB9,SV.eU,ayz] at h⊢;refine⟨?_,h.2⟩;rcases Z with Z|Z;simp at Z;simpa using Z
 |x::R,d+1,v,h,Z=>by
  simp only[List.set_cons_succ,SV.eU,ayz] at h⊢;exact⟨h.1,VB h.2 (by simpa using Z)⟩
def FL{s:S}{dx:Nat}{v:SV}{l:Nat}{cs:List SV}(h:(s.bP (some dx) v l).cV cs=true)(Z:su s dx):s.cV cs=true:=by
 simp only[S.cV,S.bd,S.bP,S.put,qu,ayz] at h⊢;exact⟨⟨VB h.1.1 Z,h.1.2⟩,h.2⟩
def aoI{V:Ty}{U:List (Nat×Nat×Nat)}{W:Op}(h:(bv V U Z W).gives N J):jJ W=true:=by
 cases W with
 |call c=>
  cases X:c.callee with
  |builtin b=>cases b<;>simp only[bv,X,PR.gives] at h<;>simp[jJ,X]
  |value f=>simp only[bv,X,PR.gives] at h
  |invoke r m=>simp only[bv,X,PR.gives] at h
 |_=>first|rfl|(simp only[bv,PR.gives] at h)
def aoJ{y:OM}(d:Vz B H y X)(b:su Z X)(hg:et B y Z N=some true)
  (h:eX A y (Z.bP (some X) J x) N t):∃U,eX A y Z N U/\t=U.bP (some X) J x/\(∀W,y.o.dst≠some W->U.tmps[W]?=Z.tmps[W]?)/\U.ni=Z.ni/\U.nb=Z.nb/\U.rs=Z.rs/\
   ∀i,aE Z.boxes i=true->bD U.boxes i=bD Z.boxes i\/(t6 y.o.op=true/\(y.aZ=true->(Z.lk|||x).testBit (2*i)=false)/\(iQ Z.boxes i).isSome=true):=by
 have an:im A B y.o (Z.bP (some X) J x) N Z N:=im.um (λW R=>(FJ (λe=>d.ry (by cases e;exact R))).symm) rfl rfl rfl;have ab:im A B y.o Z N (Z.bP (some X) J x) N:=im.um (λW R=>FJ (λe=>d.ry (by cases e;exact R))) rfl rfl rfl;have D:=ab.ev A.gl;have af:∀z,(some X:Option Nat)=some z->y.o.dst≠some z:=λz G=>by cases G;exact d.dy
 by_cases C:jJ y.o.op=true;have a0:=ab.guard hg;obtain⟨w,l',a,rfl⟩:=(FI (ops:=B) C a0).1 h;have a1:=Vx (cf:=A) an (λi _=>by rw[yr]) a;refine⟨Z.bP y.o.dst w l',(FI (ops:=B) C hg).2 ⟨w,l',a1,rfl⟩,aoG af,λW R=>FJ R,(dA _ _ _).1,(dA _ _ _).2.1,(dA _ _ _).2.2,λi _=>.inl (by rw[yr])⟩;unfold eX dN at h;split at h;exact h.elim;rename_i hk;have g:¬(y.o.op.operands.toList.any λz=>(Z.ev A.gl z).cM)=true:=by
  intro hh;obtain⟨z,ag,a2⟩:=ay8.1 hh;exact hk (ay8.2 ⟨z,ag,by rw[D z ag];exact a2⟩)
 have f:∀(n:Nat)(W:TypeId)(F:List SV)(w:SV),n<Z.boxes.length->eX A y Z N ((Z.bM n W F).put y.o.dst w)->t=((Z.bP (some X) J x).bM n W F).put y.o.dst w->
   (∀i,aE Z.boxes i=true->i=n->t6 y.o.op=true/\(y.aZ=true->(Z.lk|||x).testBit (2*i)=false)/\(iQ Z.boxes i).isSome=true)->
   ∃U,eX A y Z N U/\t=U.bP (some X) J x/\(∀W,y.o.dst≠some W->U.tmps[W]?=Z.tmps[W]?)/\U.ni=Z.ni/\U.nb=Z.nb/\U.rs=Z.rs/\
    ∀i,aE Z.boxes i=true->bD U.boxes i=bD Z.boxes i\/(t6 y.o.op=true/\(y.aZ=true->(Z.lk|||x).testBit (2*i)=false)/\(iQ Z.boxes i).isSome=true):=by
  intro n W F w hn h1 h2 h3;refine⟨_,h1, ?_,λW R=>iX R,(dA _ _ _).1,(dA _ _ _).2.1,(dA _ _ _).2.2,λi Q=> ?_⟩;rw[h2,aoH,Jz af];by_cases al:i=n;exact .inr (h3 i Q al);left;rw[iY,S.bM,uf al]
 split at h;rename_i W V;split at h;rename_i ti R;split at h;rename_i P;simp only[ayz] at P;have M:=FL P.1 b;have L:lN Z.boxes y.ix W=true:=P.2;have I:dH Z.boxes y.ix=true:=ov L;refine f y.ix W (co ti) _ (jC I).2 ?_ h (λi Q e=>by subst e;rw[(jC I).1] at Q;cases Q);unfold eX dN;rw[if_neg g];simp only[V,R,M,L,azV,if_true];rfl;exact h.elim;exact h.elim;rename_i W z V;have G:=D z (by rw[V];simp[Op.operands]);split at h;rename_i ti R;rw[G] at h;split at h;rename_i P;simp only[ayz] at P;obtain⟨⟨⟨r,m⟩,k⟩,c4⟩:=P;have M:=FL m b;have L:lN Z.boxes y.ix W=true:=c4;have I:dH Z.boxes y.ix=true:=ov L;refine f y.ix W _ _ (jC I).2 ?_ h (λi Q e=>by subst e;rw[(jC I).1] at Q;cases Q);unfold eX dN;rw[if_neg g];simp only[V,R,r,M,k,L,azV,if_true];rfl;exact h.elim;exact h.elim;rename_i W a6 parts V;have G:(parts.toList.map λp=>(p.1,(Z.bP (some X) J x).ev A.gl p.2))=parts.toList.map λp=>(p.1,Z.ev A.gl p.2):=ayZ λp hp=>by rw[D p.2 (by rw[V];simp[Op.operands];exact⟨p.1,by simpa using hp⟩)]
 split at h;rename_i e ae q R;split at h;rename_i te a3;rw[G] at h;split at h;rename_i F hf;split at h;rename_i P;simp only[ayz] at P;obtain⟨⟨r,m⟩,k⟩:=P;have M:=FL r b;have L:lN Z.boxes y.ix e=true:=k;have I:dH Z.boxes y.ix=true:=ov L;refine f y.ix e F _ (jC I).2 ?_ h (λi Q e=>by subst e;rw[(jC I).1] at Q;cases Q);unfold eX dN;rw[if_neg g];simp only[V,R,a3,hf,M,m,L,azV,if_true];rfl;exact h.elim;exact h.elim;exact h.elim;exact h.elim;rename_i W z u V;have G:=D z (by rw[V];simp[Op.operands]);have hu:=D u (by rw[V];simp[Op.operands]);rw[G,hu] at h;split at h;rename_i ti i a7 R Q;rw[yr] at h;split at h;rename_i bt F M;split at h;rename_i P;simp only[ayz,ayS] at P;obtain⟨⟨⟨⟨r,m⟩,k⟩,c4⟩,E⟩:=P;have a4:(Z.bP (some X) J x).lk=Z.lk|||x:=NO _ _ _;rw[a4] at E;have a5:(y.aZ&&Z.lk.testBit (2*i))=false:=by
  cases hr:y.aZ;rfl;rw[hr,aAm,az3] at E;simp only[azi] at E;simp[E.1]
 refine f i bt _ _ (ayA.1 (gg.1 (ud M).1)).1 ?_ h (λj hj e=> ?_);unfold eX dN;rw[if_neg g];simp only[V,R,Q,M,r,m,k,c4,a5,azV,Bool.not_false,if_true];rfl;subst e;refine⟨by rw[V];rfl,λhr=> ?_,by rw[M];rfl⟩;rw[hr,aAm] at E;exact E;exact h.elim;exact h.elim;exact h.elim;rename_i c z u V;exact absurd (by rw[V];rfl) C;rename_i W z V;exact absurd (by rw[V];rfl) C;rename_i o1 o2 o3 o4 o5 o6;exfalso;obtain⟨w,a,-⟩:=aew.1 h;refine C ?_;exact aoI (NN a)
def aoK{X:Ty}(h:Z.rs=t.rs)(k:RK)(r:RE):r.fits X Z k=r.fits X t k:=by
 unfold RE.fits;cases k<;>simp only[yo h r]
def aeH{Z:Ty}{s X:S}(h:s.rs=X.rs):∀(ae:List CT)(W:List SV),jg Z s ae W=jg Z X ae W
 |[],[]=>rfl
 |[],_::_=>rfl
 |_::_,[]=>rfl
 |c::V,v::U=>by
  simp only[jg,aeH h V U];congr 1;cases c<;>cases v<;>simp only[oc,aoK h]
def Ak{Z:Ty}{s s':S}(h:s.rs=s'.rs){ae:List CT}:∀{l:List (List SV)},jI Z s ae l=jI Z s' ae l
 |[]=>rfl
 |r::X=>by simp only[jI,aeH h ae r,Ak h (l:=X)]
def aoL{W:Ty}{V:TI}{y:SV}(h:nc W (Z.bP (some X) J x) I V y=some c):nc W Z I V y=some c:=by
 unfold nc at h⊢;split at h;simp only[yo (s:=Z) (s':=Z.bP (some X) J x) rfl];exact h;rw[yr] at h;split at h;rename_i U;simp only[Ak (s:=Z) (s':=Z.bP (some X) J x) rfl];exact h;cases h;cases h
def aoM{y:SV}{V:LE}(h:rZ (Z.bP (some X) J x) I o y=some (V,g,U)):rZ Z I o y=some (V,g,U)/\∀k∈U,o=true->(Z.lk|||x).testBit (2*k+1)=false:=by
 have P:(Z.bP (some X) J x).lk=Z.lk|||x:=NO _ _ _;unfold rZ at h⊢;split at h;rename_i k;split at h;rename_i R;cases h;have O:Z.rs[k]?=some (.own I):=R.1;have W:=R.2;rw[P] at W;simp only[ayS,aBU] at W;refine⟨?_,λL Q N=> ?_⟩;rw[if_pos];refine⟨O, ?_⟩;simp only[ayS,aBU];rcases W with W|W;exact .inl W;rw[az3,azi] at W;exact .inr W.1;simp at Q;subst Q;rcases W with W|W;rw[N] at W;cases W;exact W;cases h;rename_i r H;split at h;rename_i M;cases h;simp[M];cases h;cases h;exact⟨rfl,by simp⟩;cases h
variable{D:aa->S->Prop}{E:aa->SV->S->Prop}{F:OM->List OM->aa->S->Nat->List SV->Prop}
def aoN(Z:List LK)(s:S)(d:Option Nat)(v:SV)(l:Nat):((s.bP d v l).bB Z).1=(s.bB Z).1/\((s.bP d v l).bB Z).2=(s.bB Z).2.bP d v l:=by
 induction Z generalizing s with
 |nil=>exact⟨rfl,rfl⟩
 |cons k Z X=>
  simp only[S.bB];have W:((s.bP d v l).fresh k).1=(s.fresh k).1/\((s.bP d v l).fresh k).2=(s.fresh k).2.bP d v l:=by
   cases k<;>cases d<;>exact⟨rfl,rfl⟩
  rw[W.1,W.2];exact⟨by rw[(X _).1],(X _).2⟩
def aoO(h:QV A B N H Z J X)(P:et B H Z N=some true){W:Operand}{M:Nat}(L:H.o.op=.load I W)(U:Z.ev A.gl W=.loc x M):aE Z.boxes x=true/\(H.aZ=true->X=1<<<(2*x)):=by
 rcases h with h|⟨-,-,h⟩;rw[P] at h;cases h.1;rw[L] at h;obtain⟨V,G⟩:=h;refine⟨?_,λF=>by rw[G,U,F];rfl⟩;have V:=NN V;simp only[bv,U] at V;cases R:A.ty I with
 |none=>rw[R] at V;exact V.elim
 |some E=>
  rw[R] at V;simp only at V;cases Q:bD Z.boxes x with
  |none=>rw[show iQ Z.boxes x=none by simp[iQ,Q]] at V;exact V.elim
  |some b=>simp[aE,Q]
def aoP(h:QV A B N H Z J X)(L:et B H Z N=some true){W:Operand}{e:IE}{G:List Int}(F:H.o.op=.load I W)(U:Z.ev A.gl W=.dE e G M)(R:tU M=some x):aE Z.boxes x=true/\(H.aZ=true->X=1<<<(2*x)):=by
 rcases h with h|⟨-,-,h⟩;rw[L] at h;cases h.1;rw[F] at h;obtain⟨V,E⟩:=h;refine⟨?_,λD=>by rw[E,U,D];simp[IK,R]⟩;have V:=NN V;simp only[bv,U] at V;cases Q:A.ty I with
 |none=>rw[Q] at V;exact V.elim
 |some C=>
  rw[Q] at V;simp only[R,aAJ] at V;cases P:bD Z.boxes x with
  |none=>rw[show iQ Z.boxes x=none by simp[iQ,P]] at V;exact V.elim
  |some b=>simp[aE,P]
def aeI(h:QV A B N H Z J X)(M:et B H Z N=some true)(U:vC A.gl Z H.o.op=some x):aE Z.boxes x=true/\((vN H.o.op=true/\(H.aZ=true->X=1<<<(2*x)))\/iQ Z.boxes x=none):=by
 unfold vC at U;split at U;rename_i t W R;split at U;rename_i j E Q;cases U;obtain⟨V,L⟩:=aoO h M R Q;exact⟨V,.inl ⟨by rw[R];rfl,L⟩⟩;rename_i e D C Q;obtain⟨V,L⟩:=aoP h M R Q U;exact⟨V,.inl ⟨by rw[R];rfl,L⟩⟩;cases U;rename_i t W z y R;split at U;rename_i j Q;cases U;rcases h with h|⟨-,-,h⟩;rw[M] at h;cases h.1;rw[R] at h;have V:=NN h.1;simp only[bv,Q] at V;split at V;rename_i k e n w ae q u r G;cases G;unfold Mx at V;split at V;rename_i g a b c F f d g2 I;refine⟨by simp[aE,I],.inr ?_⟩;have:mw F=true:=by
  split at V;exact V.elim;split at V;rename_i P;simp at P;rw[P];decide;split at V;rename_i P;simp at P;rw[P];decide;exact V.elim
 simp[iQ,I,this];exact V.elim;exact V.elim;cases U;cases U
def FM(h:cK A z o true Z=some e):pz z.op=true:=by
 unfold cK at h;cases W:z.op<;>rw[W] at h<;>simp only[if_true,aB6] at h<;>try cases h
 rfl;rename_i c;cases X:c.callee with
 |builtin V=>cases V<;>simp[X] at h<;>simp[pz,X]
 |_=>simp[X] at h
def VC(h:pz H.o.op=true)(X:eX A H Z N t):False:=by
 unfold eX dN at X;split at X;exact X;cases V:H.o.op<;>rw[V] at h X<;>simp[pz] at h;simp[bv,od,OR.CQ] at X;rename_i c;cases W:c.callee with
 |builtin U=>cases U<;>simp[W] at h<;>simp[bv,W,od,OR.CQ] at X
 |_=>simp[W] at h
def aeJ{s:S}{Z:Nat}{v:SV}{l:Nat}{d:Option Nat}{aF:BE}{e:TypeId}{k:RK}{x:LE}{X W:List Nat}{V:BI}(R:su s Z)(Q:d≠some Z)
  (h:gu (s.bP (some Z) v l) d aF e k x X W=some V):
  ∃b,gu s d aF e k x X W=some b/\V={b with s:=b.s.bP (some Z) v l}/\(∀t,d≠some t->b.s.tmps[t]?=s.tmps[t]?)/\b.s.ni=s.ni/\b.s.nb=s.nb/\b.s.rs=gJ W 0 (fw X 0 s.rs)++[k]/\b.s.boxes=s.boxes:=by
 unfold gu at h⊢;split at h;rename_i U;cases h;simp only[ayz] at U;obtain⟨⟨⟨P,O⟩,N⟩,M⟩:=U;have L:s.bd=true:=by
  have:s.cV []=true:=FL (dx:=Z) (v:=v) (l:=l) (cs:=[]) (by simp[S.cV,P,SV.eU]) R;simp only[S.cV,ayz] at this;exact this.1
 rw[if_pos (by simp only[ayz];exact⟨⟨⟨L,O⟩,N⟩,M⟩)];refine⟨_,rfl, ?_,λt J=>iX J,(dA _ _ _).1,(dA _ _ _).2.1,(dA _ _ _).2.2,iY _ _ _⟩;congr 1;exact Jz (s:={s with rs:=gJ W 0 (fw X 0 s.rs)++[k]}) (d:=some Z) (e:=d) (v:=v) (w:=.ref (.v s.rs.length)) (l:=l) (λz I=>by cases I;exact Q);cases h
def aoQ{y:OM}(P:Vz B H y X)(L:su Z X)(U:∀z∈y.o.op.operands.toList,Z.ev A.gl z=(Z.bP (some X) J x).ev A.gl z)
  (h:cK A y.o y.aZ y.dr (Z.bP (some X) J x)=some e):
  ∃b V O G,cK A y.o y.aZ y.dr Z=some b/\e={b with s:=b.s.bP (some X) J x}/\(∀t,y.o.dst≠some t->b.s.tmps[t]?=Z.tmps[t]?)/\b.s.ni=Z.ni/\b.s.nb=Z.nb/\b.s.rs=gJ O 0 (fw V 0 Z.rs)++[G]/\b.s.boxes=Z.boxes/\
   (∀k∈V,y.aZ=true->(Z.lk|||x).testBit (2*k+1)=false)/\(xQ y.o.op=false->V=[]):=by
 have R:=FM (by rw[P.yd] at h;exact h);unfold cK at h⊢;cases F:y.o.op<;>rw[F] at R h U<;>simp[pz] at R;rename_i t n m;simp only at h⊢;rw[U n (by simp[Op.operands]),U m (by simp[Op.operands])];split at h;rename_i W ae q E D C w u;split at h;rename_i Q r;split at h;rename_i j;obtain⟨b,N,M,i,g,f,d,a⟩:=aeJ L P.dy h;have ab:(E.same D&&jI A.ty Z Q.ae [co Q]&&Q.ae.length !=0)=true:=by
  rw[<-Ak (s:=Z.bP (some X) J x) (s':=Z) rfl];exact j
 rw[if_pos ab];exact⟨b,[],[],_,N,M,i,g,f,d,a,by simp,λ_=>rfl⟩;cases h;cases h;cases h;rename_i c;cases bZ:c.callee with
 |builtin bb=>
  cases bb<;>simp[bZ] at R;simp only[bZ] at h⊢;have af:c.args.toList.map (Z.ev A.gl)=c.args.toList.map ((Z.bP (some X) J x).ev A.gl):=ayZ λz hz=>U z (by simp[Op.operands,Call.operands];exact .inr (by simpa using hz))
  rw[af];split at h;rename_i t t2 x0 y0 w u;split at h;rename_i W ae q e2 al I C an;split at h;rename_i Q r;split at h;cases h;rename_i ag;rw[if_neg ag];split at h;rename_i la n1 V lb n2 O N M;obtain⟨q1,I⟩:=aoM N;have q3:=aoL M;rw[q1,q3];obtain⟨b,k1,k2,k3,k4,k5,k6,k7⟩:=aeJ L P.dy h;exact⟨b,V,O,_,k1,k2,k3,k4,k5,k6,k7,I,λh=>by simp[xQ,bZ] at h⟩;cases h;cases h;cases h;cases h
 |_=>simp[bZ] at R
def aoR(a9:Ai B C){y:OM}(bb:y.so=false)(bf:ML B H y=true)(ha:∀d,H.o.dst=some d->su Z d)
  (e1:N.i.length=Z.ni)(e2:N.b.length=Z.nb)(e3:N.r.length=Z.rs.length)
  (h:cD p A B C D E F (H::y::r) N Z):cD p A B C D E F (y::H::r) N Z:=by
 obtain⟨G,Q⟩:=aeG bf;obtain⟨v,l,P,h⟩:=(aeF Q.xd Q.qx).1 h;rw[Q.dst] at h;have al:=ha G Q.dst;have a0:∀z,(some G:Option Nat)=some z->y.o.dst≠some z:=λz hz=>by cases hz;exact Q.dy
 have af:im A B y.o (Z.bP (some G) v l) N Z N:=im.um (λt J=>(FJ (λe=>Q.ry (by cases e;exact J))).symm) rfl rfl rfl;have ag:∀(f:S)(O':aa),(et B H Z N=some false->et B H f O'=some false)->(et B H Z N=some true->im A B H.o Z N f O')->(et B H Z N=some true->∀i,vC A.gl Z H.o.op=some i->bD f.boxes i=bD Z.boxes i)->cD p A B C D E F r O' (f.bP (some G) v l)->cD p A B C D E F (H::r) O' f:=by
  intro f O' bg hs hb hr;refine(aeF Q.xd Q.qx).2 ⟨v,l, ?_,by rw[Q.dst];exact hr⟩;cases c:et B H Z N with
  |none=>rcases P with P|P<;>(rw[c] at P;cases P.1)
  |some b=>
   cases b;rcases P with P|P;exact .inl ⟨bg P.1,P.2⟩;rw[c] at P;cases P.1;exact Vx (hs c) (hb c) P
 simp only[cD] at h;rcases h with⟨h1,U⟩|⟨h1,U⟩;refine .inl ⟨af.guard h1, ?_⟩;rw[Jz a0] at U;have j:im A B H.o Z N (Z.put y.o.dst (.bh [])) N:=im.um (λt J=>iX (λe=>Q.yx t e J)) (dA _ _ _).2.2 (dA _ _ _).1 (dA _ _ _).2.1;refine ag _ _ j.guard (λ_=>j) (λ_ i _=>by rw[iY]) U
 ·refine .inr ⟨af.guard h1, ?_⟩;have hg:et B y Z N=some true:=af.guard h1;have bk:cB A Z y.o=cB A (Z.bP (some G) v l) y.o:=CU (af.ev A.gl);rw[bk];cases an:cB A (Z.bP (some G) v l) y.o with
  |call g0 I=>
   rw[an] at U;rcases g0 with g|n
   rotate_left
   have h3:=U.1;rw[bb] at h3;cases h3;have bl:C g I (Z.bP (some G) v l)=C g I Z:=a9.q _ _ _ _ _ _;show lX _ _ _;have U:lX _ _ _:=U;rw[bl] at U;cases a4:C g I Z with
   |some ve=>
    obtain⟨pv,ex⟩:=ve;rw[a4] at U;obtain⟨bo,U⟩:=U;have br:Z.bd=true:=by
     have:=FL (s:=Z) (dx:=G) (v:=v) (l:=l) (cs:=[]) (by simp only[S.cV,bo,SV.eU,azV]) al;simp only[S.cV,ayz] at this;exact this.1
    have bs:(((Z.bP (some G) v l).plus ex).put y.o.dst pv)=(((Z.plus ex).put y.o.dst pv).bP (some G) v l):=by
     rw[<-Jz a0];rfl
    rw[bs] at U;have j:im A B H.o Z N ((Z.plus ex).put y.o.dst pv) N:=im.um (λt J=>iX (λe=>Q.yx t e J)) (dA _ _ _).2.2 (dA _ _ _).1 (dA _ _ _).2.1;refine⟨br,ag _ _ j.guard (λ_=>j) (λc i hi=> ?_) U⟩;rw[iY];exact aeA (aeI P c hi).1
   |none=>
   rw[a4] at U;simp only[lX] at U⊢;obtain⟨ts,M,X,c1,c2,c3,c4,c5⟩:=U;obtain⟨f1,f2⟩:=aoN M (Z.cut I M) (some G) v l;have bt:(Z.cV I&&lO M)=true:=by
    simp only[ayz] at c4⊢;exact⟨FL c4.1 al,c4.2⟩
   refine⟨ts,M,X,c1,c2,by rw[<-f1];exact c3,bt,λV W R=> ?_⟩;refine(c5 V W (by rw[yr];exact R)).mono ?_;intro e W' a;cases e with
   |returned u=>
    obtain⟨xs,q1,q2,q3,q4,q5⟩:=a;refine⟨xs,q1,q2,q3,q4, ?_⟩;have q5:cD p A B C D E F r (N.ext xs) ((((Z.cut I M).bP (some G) v l).bB M).2.put y.o.dst (one X)):=q5;rw[f2,Jz a0] at q5;obtain⟨b1,b2,b3,b4⟩:=ss M (Z.cut I M);obtain⟨l1,l2,l3⟩:=ul M xs (Z.cut I M) N q1 e1 e2 (e3.trans (Ah I M Z.rs).len.symm);have a1:=Nc xs N;have a5:v7 A.ty Z ((((Z.cut I M).bB M).2).put y.o.dst (one X)):=by
     intro q e a L;refine NL (λk e _ L=> ?_) a L;rw[(dA _ _ _).2.2];obtain⟨e',g1,g2⟩:∃e',(xP I M Z.rs)[k]?=some e'/\e'.rd=e.rd:=by
      unfold xP;split;refine⟨tV ((IR I Z.rs.length).contains k) e,by rw[Fq,L];simp, ?_⟩;cases e<;>simp only[tV]<;>try rfl
      split<;>rfl;exact⟨e,L,rfl⟩
     exact⟨e',aea M (Z.cut I M) k e' g1,g2⟩
    have j:im A B H.o Z N ((((Z.cut I M).bB M).2).put y.o.dst (one X)) (N.ext xs):=by
     refine⟨λt J=> ?_,λ_ _=>a5,λt H X w i a6 _ _=>a5 X, ?_, ?_, ?_, ?_⟩;rw[iX (λe=>Q.yx t e J),b2];rfl;rw[(dA _ _ _).1,<-l1,<-e1];exact a1.1;rw[(dA _ _ _).2.1,<-l2,<-e2];exact a1.2.1;rw[(dA _ _ _).2.2,<-l3,<-e3];exact a1.2.2;rw[<-e1,<-e2,<-e3];exact zZ xs N
    exact ag _ _ j.guard (λ_=>j) (λ_ i _=>by rw[iY,b1];rfl) q5
   |panicked ch=>exact a
   |outgrown=>exact a
  |aR w=>
   have:=VA an;rw[Q.np] at this;cases this
  |no=>rw[an] at U;exact U
  |op=>
   rw[an] at U;simp only at U⊢;cases a2:cK A y.o y.aZ y.dr (Z.bP (some G) v l) with
   |some b1=>
    rw[a2] at U;obtain⟨hn,U⟩:=U;obtain⟨b,bx,b0,kk,g1,g2,g3,g4,g5,g6,g7,g8,g9⟩:=aoQ Q al (af.ev A.gl) a2;rw[g1];subst g2;refine⟨hn,λrv b5=>ag _ _ ?_ ?_ ?_ (U rv b5)⟩;intro b6;have b7:im A B {H.o with op:=.move (.const undef)} Z N b.s (N.add (.r rv)):=⟨λt J=>g3 t (λe=>Q.yx t e (by
     unfold ge at J⊢;refine(ayL.1 J).elim (λh=> ?_) (λh=>az8 _ h);simp[Op.operands] at h)),λh=>by simp[looks] at h,λt x0 X w i a6 h=>by simp at h,aAb g4.symm,aAb g5.symm,by rw[g6];simp[vV,vU],by rw[<-e1,<-e2,<-e3];exact M1 N (.r rv)⟩
    exact b7.guard (m:={H with o:={H.o with op:=.move (.const undef)}}) b6;intro c;have a7:∀(k:Nat)(e:RK),k∉bx->Z.rs[k]?=some e->∃e',b.s.rs[k]?=some e'/\e'.rd=e.rd:=by
     intro k e b8 L;have ca:k<Z.rs.length:=(ayA.1 L).1;refine⟨tV (b0.contains k) e, ?_, ?_⟩;rw[g6,ayD (by simp[vV,vU];exact ca),Fq,Fp,L];simp[b8];cases e<;>simp only[tV]<;>try rfl
     split<;>rfl
    refine⟨λt J=>g3 t (λe=>Q.yx t e J),λcc cl=> ?_,λt x0 X w i a6 ho hx e a L=> ?_,aAb g4.symm,aAb g5.symm,by rw[g6];simp[vV,vU],by rw[<-e1,<-e2,<-e3];exact M1 N (.r rv)⟩;cases ab:xQ y.o.op with
    |true=>
     have:=(Q.rb ab cc).1;rw[cl] at this;cases this
    |false=>
     intro X e a L;exact NL (λk e _ L=>a7 k e (by rw[g9 ab];simp) L) a L
    refine NL (λk e cp L=>a7 k e ?_ L) a L;intro a3;have ab:xQ y.o.op=true:=by
     cases ab:xQ y.o.op with
     |true=>rfl
     |false=>rw[g9 ab] at a3;cases a3
    obtain⟨-,r1,r2⟩:=Q.rb ab (by rw[ho];rfl);have a8:=g8 k a3 r2;rcases P with P|⟨-,-,P⟩;rw[c] at P;cases P.1;rw[ho] at P;have:=P.2;rw[hx,r1] at this;simp only[IK,cp,if_true] at this;rw[this,az3] at a8;simp[aA6] at a8;intro _ i _;rw[g7]
   |none=>
   rw[a2] at U;have ct:cK A y.o y.aZ y.dr Z=none:=by
    cases hb:cK A y.o y.aZ y.dr Z with
    |none=>rfl
    |some b=>
     exfalso;have cv:=FM (by rw[Q.yd] at hb;exact hb);obtain⟨s2,h3,-⟩:=U;exact VC cv h3
   rw[ct];simp only[oA] at U⊢;obtain⟨s2,h3,h4⟩:=U;obtain⟨f,g1,g2,g3,g4,g5,g6,g7⟩:=aoJ Q al hg h3;subst g2;have j:im A B H.o Z N f N:=im.um (λt J=>g3 t (λe=>Q.yx t e J)) g6 g4 g5;refine⟨f,g1,ag f N j.guard (λ_=>j) ?_ h4⟩;intro c i hi;obtain⟨k1,k2⟩:=aeI P c hi;rcases g7 i k1 with k3|⟨k3,k4,k5⟩;exact k3;rcases k2 with⟨k2,k6⟩|k2;obtain⟨r1,r2⟩:=Q.rc k3 k2;have:=k4 r2;rw[k6 r1,az3] at this;simp[aA6] at this;rw[k2] at k5;cases k5
end
end
section
section
variable{p:Sp}{cf:aY}{A:Array Oper}{B:sd}{C:aa->S->Prop}{E:aa->SV->S->Prop}{F:OM->List OM->aa->S->Nat->List SV->Prop}
def aeK(h:(dN cf H Z).gives N t):∀X,H.o.dst≠some X->t.tmps[X]?=Z.tmps[X]?:=by
 intro q W;unfold dN at h;split at h;exact h.elim;split at h;split at h;split at h;cases h;rw[iX W];rfl;exact h.elim;exact h.elim;split at h;split at h;cases h;rw[iX W];rfl;exact h.elim;exact h.elim;split at h;split at h;split at h;split at h;cases h;rw[iX W];rfl;exact h.elim;exact h.elim;exact h.elim;exact h.elim;split at h;split at h;split at h;cases h;rw[iX W];rfl;exact h.elim;exact h.elim;exact h.elim;split at h;simp only[OR.gives] at h;split at h<;>(subst h;rw[iX W]);exact h.elim;obtain⟨v,-,rfl⟩:=vX h;rw[FJ W];obtain⟨v,-,rfl⟩:=vX h;rw[FJ W]
def VD(h:cK cf z o true Z=some e):∀t,z.dst≠some t->e.s.tmps[t]?=Z.tmps[t]?:=by
 intro q P;have U:∀{aF:BE}{X:TypeId}{k:RK}{x:LE}{R Q:List Nat},gu Z z.dst aF X k x R Q=some e->e.s.tmps[q]?=Z.tmps[q]?:=by
  intro aF X k x R Q h;obtain⟨-,-,rfl⟩:=uh h;simp only;rw[iX P]
 have W:=FM h;unfold cK at h;cases O:z.op<;>rw[O] at W h<;>simp[pz] at W;simp only at h;split at h;split at h;split at h;exact U h;cases h;cases h;cases h;rename_i c;cases V:c.callee with
 |builtin N=>
  cases N<;>simp[V] at W;simp only[V] at h;split at h;split at h;split at h;split at h;cases h;split at h;exact U h;cases h;cases h;cases h;cases h
 |_=>simp[V] at W
def VE{Z X W:Nat}{V:Nat->Bool}:∀{l m:List SV},SV.ck Z X W V (l++m)=true<->SV.ck Z X W V l=true/\SV.ck Z X W V m=true
 |[],m=>by simp[SV.eU]
 |x::U,m=>by simp[SV.eU,VE (l:=U),and_assoc]
def qI{Z X W:Nat}{V:Nat->Bool}:∀{l:List SV},SV.ck Z X W V l=true<->∀v∈l,v.bd Z X W V=true
 |[]=>by simp[SV.eU]
 |x::U=>by simp[SV.eU,qI (l:=U)]
def aoS{W:Nat}{V:Nat->Bool}(v:Value):(IB v).bd X x W V=true:=by
 have U:∀w,(EE w).bd X x W V=true:=λw=>by cases w<;>simp[EE,SV.aL,IE.aL,BE.aL,RE.aL]
 cases v<;>try simp[IB,SV.aL,IE.aL,BE.aL,RE.aL]
 rw[qI];intro Z R;obtain⟨w,-,rfl⟩:=ay1.1 R;exact U w
def wa(X:Z.bd=true){x:Operand}(W:sc x=true):(Z.ev cf.gl x).bd Z.ni Z.nb Z.rs.length (aE Z.boxes)=true:=by
 simp only[S.bd,ayz] at X;cases x with
 |tmp t=>
  simp only[S.ev,rV,ayC];cases V:Z.tmps[t]? with
  |none=>simp[SV.aL]
  |some v=>exact qG X.1 V
 |const v=>exact aoS v
 |global g=>cases W
 |func f=>simp[S.ev,SV.aL,SV.eU]
def VF{Z:Nat}{W:Nat->Bool}(h:J.bd X x Z W=true):SV.ck X x Z W J.cells=true:=by
 cases J<;>simp only[SV.cells,SV.eU,aAn]<;>first|exact h|(simp only[SV.aL] at h;exact h)
def VG{Z X W:Nat}{V:Nat->Bool}:∀{vs l:List SV}{U:Nat},SV.ck Z X W V l=true->SV.ck Z X W V vs=true->SV.ck Z X W V (iD l U vs)=true
 |[],l,U,h,_=>h
 |v::vs,l,U,h,R=>by
  simp only[SV.eU,ayz] at R;rw[iD];refine VG (vs:=vs) ?_ R.2;rw[qI] at h⊢;intro x P;rcases azs P with Q|Q;exact h x Q;rw[Q];exact R.1
def aeL{W V U:Nat}{R:Nat->Bool}{place:Nat->Option (Nat×Nat)}:∀{Q:List (Nat×SV)}{X l:List SV},SV.ck W V U R X=true->(∀q∈Q,q.2.bd W V U R=true)->tT place X Q=some l->SV.ck W V U R l=true
 |[],X,l,h,_,Z=>by simp[tT] at Z;subst Z;exact h
 |(i,v)::r,X,l,h,P,Z=>by
  simp only[tT] at Z;split at Z;cases Z;split at Z;cases Z;exact aeL (VG h (VF (P (i,v) az9))) (λq O=>P q (azG _ O)) Z
def NP{W:Nat}{V:Nat->Bool}(U:TI):SV.ck X x W V (co U)=true:=by
 rw[qI];intro Z R;obtain⟨c,-,rfl⟩:=ay1.1 R;cases c<;>simp[xF,SV.aL,IE.aL,BE.aL,RE.aL]
def aeM{Z X W:Nat}{V:Nat->Bool}{l:List SV}(h:SV.ck Z X W V l=true):∀n,SV.ck Z X W V (rY n l)=true
 |0=>rfl
 |n+1=>by rw[rY,VE];exact⟨h,aeM h n⟩
mutual
def SV.JA{X W V:Nat}{U R:Nat->Bool}(h:∀i,U i=true->R i=true):∀(v:SV),v.bd X W V U=true->v.bd X W V R=true
 |.int _ _,Z=>by simp only[SV.aL] at Z⊢;exact Z
 |.bool _,Z=>by simp only[SV.aL] at Z⊢;exact Z
 |.ref _,Z=>by simp only[SV.aL] at Z⊢;exact Z
 |.loc i _,Z=>by simp only[SV.aL] at Z⊢;exact h i Z
 |.fo i _ _ _,Z=>by simp only[SV.aL] at Z⊢;exact h i Z
 |.el _ _ _ _,Z=>by simp only[SV.aL] at Z⊢;exact Z
 |.agg l,Z=>by simp only[SV.aL] at Z⊢;exact SV.Al h l Z
 |.bh l,Z=>by simp only[SV.aL] at Z⊢;exact SV.Al h l Z
 |.fn _ l,Z=>by simp only[SV.aL] at Z⊢;exact SV.Al h l Z
 |.dD _ x,Z=>by simp only[SV.aL] at Z⊢;exact SV.JA h x Z
 |.yl _,_=>by simp only[SV.aL]
 |.any,_=>by simp only[SV.aL]
 |.mp i,Z=>by simp only[SV.aL] at Z⊢;exact h i Z
 |.dE _ _ Q,Z=>by simp only[SV.aL,ayz] at Z⊢;exact⟨Z.1,SV.Al h Q Z.2⟩
def SV.Al{X W V:Nat}{U R:Nat->Bool}(h:∀i,U i=true->R i=true):∀(l:List SV),SV.ck X W V U l=true->SV.ck X W V R l=true
 |[],_=>rfl
 |x::Q,Z=>by simp only[SV.eU,ayz] at Z⊢;exact⟨SV.JA h x Z.1,SV.Al h Q Z.2⟩
end
def yt{W V U:Nat}{R:Nat->Bool}:∀{l:aX},SV.mC W V U R l=true<->∀(i:Nat)(b:TypeId×List SV),bD l i=some b->SV.ck W V U R b.2=true
 |[]=>by simp[SV.mC,bS]
 |none::X=>by
  simp only[SV.mC,yt (l:=X)];exact⟨λh i b Z=>by cases i with
   |zero=>simp[bS] at Z
   |succ i=>exact h i b (by simpa[bS] using Z),λh i b Z=>h (i+1) b (by simpa[bS] using Z)⟩
 |some x::X=>by
  simp only[SV.mC,ayz,yt (l:=X)];exact⟨λh i b Z=>by cases i with
   |zero=>simp[bS] at Z;subst Z;exact h.1
   |succ i=>exact h.2 i b (by simpa[bS] using Z),λh=>⟨h 0 x (by simp[bS]),λi b Z=>h (i+1) b (by simpa[bS] using Z)⟩⟩
def S.more(s:S)(n:Nat)(t:TypeId)(Z:List SV)(d:Option Nat)(w:SV):S:=(s.bM n t Z).put d w
def aeN(V:Z.bd=true)(H:dH Z.boxes X=true)(L:Z.cV M=true)(G:J.bd Z.ni Z.nb Z.rs.length (λi=>i==X)=true):(Z.more X I M R J).bd=true:=by
 have P:=(jC H).2;have U:∀i,aE Z.boxes i=true->aE (Z.boxes.set X (some (I,M))) i=true:=λi W=>(lp P).2 (.inr W)
 simp only[S.cV,S.bd,ayz] at V L;simp only[S.more,S.bd,ayz];obtain⟨F,E,D⟩:=dA (Z.bM X I M) R J;rw[F,E,D,iY];simp only[S.bM];refine⟨?_, ?_⟩;rw[qI];intro v O;cases R with
 |none=>exact SV.JA U v (qI.1 V.1 v O)
 |some R=>
  simp only[S.put,qu] at O;rcases azs O with N|N;exact SV.JA U v (qI.1 V.1 v N);rw[N];exact SV.JA (λi W=>by simp at W;subst W;exact(lp P).2 (.inl rfl)) J G
 rw[yt];intro i b Q;by_cases W:i=X;subst W;rw[CH P] at Q;cases Q;exact SV.Al U M L.2;rw[uf W] at Q;exact SV.Al U _ (yt.1 V.2 i b Q)
def VH(g:dR H.o.op=true)(f:H.o.op.operands.toList.all sc=true)(h:eX cf H Z N t):
  ∃X M w,t=Z.more H.ix X M H.o.dst w/\dH Z.boxes H.ix=true/\(∀d c b,w.bd d c b (λi=>i==H.ix)=true)/\
   ∀(W:S)(F:aa),(∀x∈H.o.op.operands.toList,W.ev cf.gl x=Z.ev cf.gl x)->W.bd=true->dH W.boxes H.ix=true->W.cV M=true/\eX cf H W F (W.more H.ix X M H.o.dst w):=by
 unfold eX dN at h;split at h;exact h.elim;rename_i a;have v:∀x∈H.o.op.operands.toList,sc x=true:=ayM.1 f;have C:∀W:S,(∀x∈H.o.op.operands.toList,W.ev cf.gl x=Z.ev cf.gl x)->¬(H.o.op.operands.toList.any λz=>(W.ev cf.gl z).cM)=true:=by
  intro W U hh;obtain⟨z,u,ab⟩:=ay8.1 hh;exact a (ay8.2 ⟨z,u,by rw[<-U z u];exact ab⟩)
 split at h;rename_i X V;split at h;rename_i E L;split at h;rename_i R;simp only[ayz] at R;refine⟨X,co E,.loc H.ix 0,h,ov R.2,λ_ _ _=>by simp[SV.aL],λW F U P J=> ?_⟩;have Q:W.cV (co E)=true:=by simp only[S.cV,P,aAm];exact NP E
 refine⟨Q, ?_⟩;unfold eX dN;rw[if_neg (C W U)];have I:lN W.boxes H.ix X=true:=by simp[lN,J,Fo R.2]
 simp only[V,L,Q,I,azV,if_true];rfl;exact h.elim;exact h.elim;rename_i X z V;split at h;rename_i E L;split at h;rename_i R;simp only[ayz] at R;obtain⟨⟨⟨r,n⟩,D⟩,m⟩:=R;refine⟨X,(Z.ev cf.gl z).cells,.loc H.ix 0,h,ov m,λ_ _ _=>by simp[SV.aL],λW F U P J=> ?_⟩;have G:=U z (by rw[V];simp[Op.operands]);have Q:W.cV (Z.ev cf.gl z).cells=true:=by
  simp only[S.cV,P,aAm];rw[<-G];exact VF (wa P (v z (by rw[V];simp[Op.operands])))
 refine⟨Q, ?_⟩;unfold eX dN;rw[if_neg (C W U)];have I:lN W.boxes H.ix X=true:=by simp[lN,J,Fo m]
 simp only[V,L,G,r,Q,D,I,azV,if_true];rfl;exact h.elim;exact h.elim;rename_i X B parts V;split at h;rename_i e ae q L;split at h;rename_i te af;split at h;rename_i M l;split at h;rename_i R;simp only[ayz] at R;obtain⟨⟨r,n⟩,D⟩:=R;refine⟨e,M,.fo H.ix 0 B B,h,ov D,λ_ _ _=>by simp[SV.aL],λW F U P J=> ?_⟩;have G:(parts.toList.map λp=>(p.1,W.ev cf.gl p.2))=parts.toList.map λp=>(p.1,Z.ev cf.gl p.2):=ayZ λp A=>by rw[U p.2 (by rw[V];simp[Op.operands];exact⟨p.1,by simpa using A⟩)]
 have Q:W.cV M=true:=by
  simp only[S.cV,P,aAm];refine aeL (aeM (NP te) B) (λq k=> ?_) l;rw[<-G] at k;obtain⟨j,A,rfl⟩:=ay1.1 k;exact wa P (v j.2 (by rw[V];simp[Op.operands];exact⟨j.1,by simpa using A⟩))
 refine⟨Q, ?_⟩;unfold eX dN;rw[if_neg (C W U)];have I:lN W.boxes H.ix e=true:=by simp[lN,J,Fo D]
 simp only[V,L,af,G,l,Q,n,I,azV,if_true];rfl;exact h.elim;exact h.elim;exact h.elim;exact h.elim
 all_goals(rename_i V;simp[dR,V] at g)<;>skip
def JB(h:dR z.op=true):cB cf Z z=.op:=by
 unfold cB;cases X:z.op<;>rw[X] at h<;>simp[dR] at h<;>rfl
def FN{X:Bool}(h:dR z.op=true)(W:X=true):cK cf z o X Z=none:=by
 subst W;unfold cK;cases V:z.op<;>rw[V] at h<;>simp[dR] at h<;>first|rfl|simp
def uq(s:S)(n:Nat)(t:TypeId)(Z:List SV)(d:Option Nat)(w:SV):(s.more n t Z d w).ni=s.ni/\(s.more n t Z d w).nb=s.nb/\(s.more n t Z d w).rs=s.rs:=dA _ _ _
def FO(h:R≠some x):(Z.more X I M R J).tmps[x]?=Z.tmps[x]?:=iX h
def yu(s:S)(n:Nat)(t:TypeId)(Z:List SV)(d:Option Nat)(w:SV):(s.more n t Z d w).boxes=s.boxes.set n (some (t,Z)):=iY _ _ _
def yv{e:Option Nat}{w:SV}(h:∀x,R=some x->e≠some x):(Z.put R J).more X I M e w=(Z.more X I M e w).put R J:=by
 unfold S.more;have:(Z.put R J).bM X I M=(Z.bM X I M).put R J:=by cases R<;>rfl
 rw[this,Vy h]
def VI{s:S}{n n':Nat}{Z:TypeId}{X:List SV}{d e:Option Nat}{w:SV}(h:∀x,d=some x->e≠some x)(W:n≠n'):(s.more n I M d J).more n' Z X e w=(s.more n' Z X e w).more n I M d J:=by
 show((s.bM n I M).put d J).more n' Z X e w=_;rw[yv h];unfold S.more;have:((s.bM n I M).bM n' Z X).put e w=((s.bM n' Z X).put e w).bM n I M:=by
  have V:(s.bM n I M).bM n' Z X=(s.bM n' Z X).bM n I M:=by simp only[S.bM];rw[List.set_comm _ _ W]
  rw[V];cases e<;>rfl
 rw[this]
def aeO:∀{l:List SV}{R Q P:Nat}{W:Nat->Bool}{i:Nat},SV.ck R Q P W l=true->i∈SV.kY l->W i=true:=by
 have N:∀(n:Nat)(l:List SV),SizeOf.sizeOf l<n->∀{R Q P:Nat}{W:Nat->Bool}{i:Nat},SV.ck R Q P W l=true->i∈SV.kY l->W i=true:=by
  intro n;induction n with
  |zero=>intro l h;omega
  |succ n V=>
   intro l U R Q P W i X Z;cases l with
   |nil=>simp[SV.kY] at Z
   |cons x O=>
    simp only[SV.eU,ayz] at X;simp only[SV.kY,ayL] at Z;simp only[List.cons.sizeOf_spec] at U;rcases Z with Z|Z;cases x with
    |loc j o=>simp[SV.Ci] at Z;subst Z;simpa only[SV.aL] using X.1
    |fo j a b c=>simp[SV.Ci] at Z;subst Z;simpa only[SV.aL] using X.1
    |agg m=>exact V m (by simp at U;omega) (by simpa only[SV.aL] using X.1) Z
    |bh m=>exact V m (by simp at U;omega) (by simpa only[SV.aL] using X.1) Z
    |fn f m=>exact V m (by simp at U;omega) (by simpa only[SV.aL] using X.1) Z
    |dD t y=>exact V [y] (by
     have M:0<SizeOf.sizeOf O:=by cases O<;>simp<;>omega
     simp at U⊢;omega) (by simpa[SV.eU,SV.aL] using X.1) (by simpa[SV.kY,SV.Ci] using Z)
    |mp j=>simp[SV.Ci] at Z;subst Z;simpa only[SV.aL] using X.1
    |dE e L m=>exact V m (by simp at U;omega) (by have:=X.1;simp only[SV.aL,ayz] at this;exact this.2) Z
    |_=>simp[SV.Ci] at Z
    exact V O (by omega) X.2 Z
 intro l R Q P W i;exact N _ l (Nat.lt_succ_self _)
def aeP{l:aX}{x:TypeId×List SV}(h:X∉U)(V:dH l X=true):m9 U 0 (l.set X (some x))=m9 U 0 l:=by
 apply ay3;intro i;rw[NB,NB,ay9];by_cases Z:i=X;subst Z;have W:=(jC V).2;rw[azI W,ayB W];simp[h];rw[azc (λe=>Z e.symm)]
def aeQ(Z:List LK)(s:S)(n:Nat)(t:TypeId)(X:List SV)(d:Option Nat)(w:SV):((s.more n t X d w).bB Z).1=(s.bB Z).1/\((s.more n t X d w).bB Z).2=(s.bB Z).2.more n t X d w:=by
 induction Z generalizing s with
 |nil=>exact⟨rfl,rfl⟩
 |cons k Z W=>
  simp only[S.bB];have V:((s.more n t X d w).fresh k).1=(s.fresh k).1/\((s.more n t X d w).fresh k).2=(s.fresh k).2.more n t X d w:=by
   cases k<;>cases d<;>exact⟨rfl,rfl⟩
  rw[V.1,V.2];exact⟨by rw[(W _).1],(W _).2⟩
def NQ(s:S)(Z:List SV)(X:List LK)(n:Nat)(t:TypeId)(W:List SV)(d:Option Nat)(w:SV):(s.more n t W d w).cut Z X=(s.cut Z X).more n t W d w:=by cases d<;>rfl
def aoT(h:(Z.put R J).bd=true)(X:∀e,R=some e->su Z e):Z.bd=true:=by
 cases R with
 |none=>exact h
 |some R=>
  simp only[S.bd,S.put,qu,ayz] at h⊢;exact⟨VB h.1 (X R rfl),h.2⟩
def aeR{s:S}{n:Nat}{t:TypeId}{X:List SV}{Z:Option Nat}{w:SV}{d:Option Nat}{aF:BE}{e:TypeId}{k:RK}{x:LE}{W V:List Nat}{b:BI}(Q:(s.more n t X Z w).bd=true)(P:∀q,Z=some q->d≠some q)
  (h:gu s d aF e k x W V=some b):gu (s.more n t X Z w) d aF e k x W V=some {b with s:=b.s.more n t X Z w}:=by
 unfold gu at h⊢;split at h;rename_i U;cases h;simp only[ayz] at U;obtain⟨⟨⟨G,O⟩,N⟩,M⟩:=U;obtain⟨L,J,R⟩:=uq s n t X Z w;rw[if_pos (by simp only[ayz];rw[L,J,R];exact⟨⟨⟨Q,O⟩,N⟩,M⟩)];congr 2;rw[R,yv (λq I H=>P q H I)];cases Z<;>rfl;cases h
def aoU{W:Ty}{e:TypeId}{V:TI}{y:SV}(Q:dH Z.boxes X=true)(h:nc W Z e V y=some c):nc W (Z.more X I M R J) e V y=some c:=by
 have bA:(Z.more X I M R J).rs=Z.rs:=(uq _ _ _ _ _ _).2.2;unfold nc at h⊢;split at h;simp only[yo bA];exact h;rename_i i O N L;rw[yu];split at h;rename_i U;have P:i≠X:=λe=>by subst e;have:=(jC Q).1;simp[aE,(ud U).1] at this
 rw[I8 (uf P)];simp only[U,Ak bA];exact h;cases h;cases h
def aeS{e:TypeId}{y:SV}:rZ (Z.more X I M R J) e o y=rZ Z e o y:=by
 have bA:(Z.more X I M R J).rs=Z.rs:=(uq _ _ _ _ _ _).2.2;have W:(Z.more X I M R J).lk=Z.lk:=NO _ _ _;unfold rZ;simp only[bA,W]
def aoV(N:dH Z.boxes X=true)(P:(Z.more X I M R J).bd=true)(O:∀q,R=some q->z.dst≠some q)
  (U:∀W∈z.op.operands.toList,(Z.more X I M R J).ev cf.gl W=Z.ev cf.gl W)(h:cK cf z o true Z=some e):cK cf z o true (Z.more X I M R J)=some {e with s:=e.s.more X I M R J}:=by
 have bA:(Z.more X I M R J).rs=Z.rs:=(uq _ _ _ _ _ _).2.2;have Q:=FM h;unfold cK at h⊢;cases L:z.op<;>rw[L] at Q h U<;>simp[pz] at Q;rename_i k H G;simp only at h⊢;rw[U H (by simp[Op.operands]),U G (by simp[Op.operands])];split at h;rename_i V ae q F j E D C;split at h;rename_i B A;split at h;rename_i y;rw[Ak bA,if_pos y];exact aeR P O h;cases h;cases h;cases h;rename_i c;cases bZ:c.callee with
 |builtin x=>
  cases x<;>simp[bZ] at Q;simp only[bZ] at h⊢;have v:c.args.toList.map ((Z.more X I M R J).ev cf.gl)=c.args.toList.map (Z.ev cf.gl):=ayZ λW u=>U W (by simp[Op.operands,Call.operands];exact .inr (by simpa using u))
  rw[v];split at h;rename_i i g f d D C;split at h;rename_i V ae q a ab q2 E af;split at h;rename_i B A;split at h;cases h;rename_i r;rw[if_neg r,aeS];split at h;rename_i la n1 ag lb F al m l;rw[m,aoU N l];exact aeR P O h;cases h;cases h;cases h;cases h
 |_=>simp[bZ] at Q
mutual
def SV.cw{U R Q P O N:Nat}{M L:Nat->Bool}(X:U<=P)(W:R<=O)(V:Q<=N)(h:∀i,M i=true->L i=true):∀(v:SV),v.bd U R Q M=true->v.bd P O N L=true
 |.int _ e,Z=>by simp only[SV.aL] at Z⊢;exact IE.cw X W V e Z
 |.bool e,Z=>by simp only[SV.aL] at Z⊢;exact BE.cw X W V e Z
 |.ref e,Z=>by simp only[SV.aL] at Z⊢;exact RE.cw X W V e Z
 |.loc i _,Z=>by simp only[SV.aL] at Z⊢;exact h i Z
 |.fo i _ _ _,Z=>by simp only[SV.aL] at Z⊢;exact h i Z
 |.el r _ i _,Z=>by simp only[SV.aL,ayz] at Z⊢;exact⟨RE.cw X W V r Z.1,IE.cw X W V i Z.2⟩
 |.agg l,Z=>by simp only[SV.aL] at Z⊢;exact SV.FP X W V h l Z
 |.bh l,Z=>by simp only[SV.aL] at Z⊢;exact SV.FP X W V h l Z
 |.fn _ l,Z=>by simp only[SV.aL] at Z⊢;exact SV.FP X W V h l Z
 |.dD _ x,Z=>by simp only[SV.aL] at Z⊢;exact SV.cw X W V h x Z
 |.yl _,_=>by simp only[SV.aL]
 |.any,_=>by simp only[SV.aL]
 |.mp i,Z=>by simp only[SV.aL] at Z⊢;exact h i Z
 |.dE e _ J,Z=>by simp only[SV.aL,ayz] at Z⊢;exact⟨IE.cw X W V e Z.1,SV.FP X W V h J Z.2⟩
def SV.FP{X W V U R Q:Nat}{P O:Nat->Bool}(N:X<=U)(M:W<=R)(L:V<=Q)(h:∀i,P i=true->O i=true):∀(l:List SV),SV.ck X W V P l=true->SV.ck U R Q O l=true
 |[],_=>rfl
 |x::J,Z=>by simp only[SV.eU,ayz] at Z⊢;exact⟨SV.cw N M L h x Z.1,SV.FP N M L h J Z.2⟩
end
def JC{s':S}(X:Z.bd=true)(V:Z.ni<=s'.ni)(U:Z.nb<=s'.nb)(Q:Z.rs.length<=s'.rs.length)(O:s'.tmps=Z.tmps)(N:s'.boxes=Z.boxes)(M:J.bd s'.ni s'.nb s'.rs.length (aE s'.boxes)=true):(s'.put R J).bd=true:=by
 simp only[S.bd,ayz] at X⊢;obtain⟨L,I,H⟩:=dA s' R J;rw[L,I,H,iY,N];rw[N] at M;refine⟨?_, ?_⟩;rw[qI];intro u W;cases R with
 |none=>
  simp only[S.put,O] at W;exact SV.cw V U Q (λ_ h=>h) u (qI.1 X.1 u W)
 |some R=>
  simp only[S.put,qu,O] at W;rcases azs W with P|P;exact SV.cw V U Q (λ_ h=>h) u (qI.1 X.1 u P);rw[P];exact M
 rw[yt];exact λi b G=>SV.FP V U Q (λ_ h=>h) _ (yt.1 X.2 i b G)
def VJ:∀(Z:List LK)(s:S),s.ni<=(s.bB Z).2.ni/\s.nb<=(s.bB Z).2.nb/\s.rs.length<=(s.bB Z).2.rs.length
 |[],s=>⟨ayH _,ayH _,ayH _⟩
 |k::Z,s=>by
  have:=VJ Z (s.fresh k).2;simp only[S.bB];cases k<;>simp[S.fresh] at this⊢<;>omega
def aeT{pr:Nat->Bool}:∀(Z:List LK)(s:S),SV.ck (s.bB Z).2.ni (s.bB Z).2.nb (s.bB Z).2.rs.length pr (s.bB Z).1=true
 |[],s=>rfl
 |k::Z,s=>by
  have X:=aeT (pr:=pr) Z (s.fresh k).2;have W:=VJ Z (s.fresh k).2;simp only[S.bB,SV.eU,ayz];refine⟨?_,X⟩;cases k<;>simp only[S.fresh,SV.aL,IE.aL,BE.aL,RE.aL,decide_eq_true_eq]<;>simp[S.fresh] at W<;>omega
def aeU{P:Ty}{X W V:Nat}{U:Nat->Bool}:∀{Q:List TypeId}{l r:List SV},SV.ck X W V U l=true->vG P Q l=some r->SV.ck X W V U r=true
 |[],l,r,_,h=>by simp[vG] at h;subst h;rfl
 |t::Q,l,r,Z,h=>by
  simp only[vG] at h;split at h;rename_i O J;split at h;rename_i I N;cases h;have M:SV.ck X W V U (l.drop O.ae.length)=true:=by rw[qI] at Z⊢;exact λv R=>Z v (azB R)
  simp only[SV.eU,ayz];refine⟨?_,aeU M N⟩;split;simp only[SV.aL];rw[qI] at Z⊢;exact λv R=>Z v (azH R)
  rw[ayC];cases L:l[0]? with
  |none=>simp[SV.aL]
  |some v=>exact qG Z L
  cases h;cases h
def aoW{Z:Nat}{W:Nat->Bool}(h:SV.ck X x Z W M=true):(one M).bd X x Z W=true:=by
 unfold one;split;simp only[SV.eU,aAn] at h;exact h;simp only[SV.aL];exact h
def aoX(W:Z.bd=true){X:List LK}{V:List TypeId}{r:List SV}(h:vG cf.ty V ((Z.cut M X).bB X).1=some r):((((Z.cut M X).bB X).2).put R (one r)).bd=true:=by
 obtain⟨U,Q,L,J⟩:=ss X (Z.cut M X);obtain⟨P,O,N⟩:=VJ X (Z.cut M X);refine JC W P O ?_ Q U (aoW (aeU (aeT X _) h));have:=(Ah M X Z.rs).len;simp only[S.cut] at N⊢;omega
def JD(h:cK cf z o true Z=some e):Z.bd=true/\e.s.bd=true/\e.s.boxes=Z.boxes:=by
 have Q:∀{aF:BE}{X:TypeId}{k:RK}{x:LE}{V U:List Nat},gu Z z.dst aF X k x V U=some e->Z.bd=true/\e.s.bd=true/\e.s.boxes=Z.boxes:=by
  intro aF X k x V U h;obtain⟨P,-,rfl⟩:=uh h;refine⟨P, ?_,iY _ _ _⟩;exact JC (s':={Z with rs:=gJ U 0 (fw V 0 Z.rs)++[k]}) P (ayH _) (ayH _) (by simp[vV,vU]) rfl rfl (by simp[SV.aL,RE.aL,vV,vU])
 have W:=FM h;unfold cK at h;cases O:z.op<;>rw[O] at W h<;>simp[pz] at W;simp only at h;split at h;split at h;split at h;exact Q h;cases h;cases h;cases h;rename_i c;cases R:c.callee with
 |builtin N=>
  cases N<;>simp[R] at W;simp only[R] at h;split at h;split at h;split at h;split at h;cases h;split at h;exact Q h;cases h;cases h;cases h;cases h
 |_=>simp[R] at W
def VK(V:dR H.o.op=true)(X:eX cf H Z N t):Z.bd=true:=by
 unfold eX dN at X;split at X;exact X.elim
 ·cases U:H.o.op<;>rw[U] at V X<;>simp[dR] at V<;>simp only at X
  all_goals
   (repeat' split at X)
   all_goals first
    |exact X.elim
    |(rename_i W;simp only[ayz,S.cV] at W;first|exact W.1.1|exact W.1.1.2.1|exact W.1.1.1)
def aoY{X:TI}(W:H.o.op=.alloc I)(V:cf.ty I=some X)(U:mw I=false)(R:Z.bd=true)(Q:dH Z.boxes H.ix=true):eX cf H Z N (Z.more H.ix I (co X) H.o.dst (.loc H.ix 0)):=by
 have P:Z.cV (co X)=true:=by simp only[S.cV,R,aAm];exact NP X
 unfold eX dN;rw[if_neg (by rw[W];simp[Op.operands])];have M:lN Z.boxes H.ix I=true:=by simp[lN,Q,U]
 simp only[W,V,P,M,azV,if_true];rfl
def aoZ{X:TI}(W:H.o.op=.alloc I)(V:cf.ty I=some X)(h:eX cf H Z N t):t=Z.more H.ix I (co X) H.o.dst (.loc H.ix 0):=by
 unfold eX dN at h;rw[if_neg (by rw[W];simp[Op.operands])] at h;simp only[W,V] at h;split at h;exact h;exact h.elim
structure ao0(A:Array Oper)(x y:OM):Prop where
 xy:∀q,x.o.dst=some q->y.o.dst≠some q
 yx:∀q,y.o.dst=some q->x.o.dst≠some q
 ry:∀q,x.o.dst=some q->q∉ge A y.o
 rx:∀q,y.o.dst=some q->q∉ge A x.o
def aeV{y:OM}(h:MM A H y=true):ao0 A H y:=by
 unfold MM at h;simp only[ayz] at h;obtain⟨X,W⟩:=h;have V:∀q,H.o.dst=some q->y.o.dst≠some q:=λq Z=>by rw[Z] at X;simp at X;exact X.2
 exact⟨V,λq Z U=>V q U Z,λq Z=>by rw[Z] at X;simp at X;exact X.1,λq Z=>by rw[Z] at W;simpa using W⟩
def VL(V:∀X∈ge A z,Z.tmps[X]?=t.tmps[X]?):∀W∈z.op.operands.toList,Z.ev cf.gl W=t.ev cf.gl W:=by
 intro W U;cases W with
 |tmp X=>
  have:X∈ge A z:=by unfold ge;exact azp _ (azQ.2 ⟨.tmp X,U,rfl⟩)
  simp only[S.ev,rV,ayC,V X this]
 |_=>rfl
def aeW(W:∀X∈ge A H.o,Z.tmps[X]?=t.tmps[X]?)(V:Z.ni=t.ni)(U:Z.nb=t.nb)(R:Z.rs=t.rs):et A H Z N=et A H t N:=by
 unfold et;cases Q:H.o.guard with
 |none=>rfl
 |some q=>
  obtain⟨j,M⟩:=q;simp only;cases P:(A[j]?).bind (·.dst) with
  |none=>rfl
  |some d=>
   simp only;rw[W d (by unfold ge;rw[Q];exact az8 _ (by simp[P])),V,U,R]
def aeX(h:cB cf Z z=.call (.fn l) M)(W:Z.bd=true)(R:z.op.operands.toList.all sc=true):SV.ck Z.ni Z.nb Z.rs.length (aE Z.boxes) M=true:=by
 have V:∀x∈z.op.operands.toList,sc x=true:=ayM.1 R;unfold cB at h;split at h;split at h<;>cases h;rename_i c U;split at h;rename_i f Q;split at h;rename_i L J P;split at h;cases h;cases h;rw[VE];refine⟨?_, ?_⟩;rw[qI];intro v O;obtain⟨X,N,rfl⟩:=ay1.1 O;exact wa W (V X (by rw[U];simp[Op.operands,Call.operands];exact .inr (by simpa using N)));have:=wa (cf:=cf) W (V f (by rw[U];simp[Op.operands,Call.operands,Q]));rw[P] at this;simpa only[SV.aL] using this;split at h<;>cases h;cases h;cases h;split at h;split at h<;>cases h;cases h;cases h;cases h
def ao1{K E:aa->SV->S->Prop}{P:List SV}(H:dH Z.boxes X=true)(D:SV.ck Z.ni Z.nb Z.rs.length (aE Z.boxes) M=true)(z:(Z.more X I P R J).bd=true)
  (h:FH p cf Z N l M K)(y:∀C (L:List TypeId)(Q:List LK)(r:List SV),vG cf.ty L ((Z.cut M Q).bB Q).1=some r->K C (one r) ((Z.cut M Q).bB Q).2->E C (one r) (((Z.cut M Q).bB Q).2.more X I P R J)):FH p cf (Z.more X I P R J) N l M E:=by
 obtain⟨L,Q,r,x,v,B,A,q⟩:=h;obtain⟨o,m,G⟩:=uq Z X I P R J;obtain⟨k,j⟩:=aeQ Q (Z.cut M Q) X I P R J;have f:X∉SV.kY M:=λc=>by have:=aeO D c;rw[(jC H).1] at this;cases this
 have b:m9 (SV.kY M) 0 (Z.more X I P R J).boxes=m9 (SV.kY M) 0 Z.boxes:=by rw[yu];exact aeP f H
 simp only[ayz,S.cV] at A;refine⟨L,Q,r,x,v,by rw[NQ,k];exact B, ?_,λV W U=> ?_⟩;simp only[ayz,S.cV];refine⟨⟨z, ?_⟩,A.2⟩;rw[o,m,G,yu];exact SV.Al (λi a=>(lp (jC H).2).2 (.inr a)) M D;rw[b,G] at U;refine(q V W U).mono ?_;intro e W' F;cases e with
 |returned u=>
  obtain⟨xs,q1,q2,q3,q4,q5⟩:=F;refine⟨xs,q1,q2,q3,by rw[G];exact q4, ?_⟩;rw[NQ,j];exact y _ L Q r B q5
 |panicked ch=>exact F
 |outgrown=>exact F
def ao2{K F:aa->SV->S->Prop}{P:List SV}(E:dH Z.boxes X=true)(D:SV.ck Z.ni Z.nb Z.rs.length (aE Z.boxes) M=true)(x:Z.bd=true)
  (h:FH p cf (Z.more X I P R J) N l M K)(v:∀C (L:List TypeId)(Q:List LK)(r:List SV),vG cf.ty L ((Z.cut M Q).bB Q).1=some r->K C (one r) (((Z.cut M Q).bB Q).2.more X I P R J)->F C (one r) ((Z.cut M Q).bB Q).2):FH p cf Z N l M F:=by
 obtain⟨L,Q,r,q,o,H,B,m⟩:=h;obtain⟨p1,p2,A⟩:=uq Z X I P R J;obtain⟨k,j⟩:=aeQ Q (Z.cut M Q) X I P R J;have i:X∉SV.kY M:=λf=>by have:=aeO D f;rw[(jC E).1] at this;cases this
 have c:m9 (SV.kY M) 0 (Z.more X I P R J).boxes=m9 (SV.kY M) 0 Z.boxes:=by rw[yu];exact aeP i E
 simp only[ayz,S.cV] at B;rw[NQ,k] at H;refine⟨L,Q,r,q,o,H, ?_,λV W U=> ?_⟩;simp only[ayz,S.cV];exact⟨⟨x,D⟩,B.2⟩;refine(m V W (by rw[c,A];exact U)).mono ?_;intro e W' G;cases e with
 |returned u=>
  obtain⟨b,a,q2,q3,z,y⟩:=G;rw[A] at z;rw[NQ,j] at y;exact⟨b,a,q2,q3,z,v _ L Q r H y⟩
 |panicked ch=>exact G
 |outgrown=>exact G
def ao3(af:Ai A B){y:OM}(bl:H.so=false)(a0:ES A H y=true)(bo:∀d,H.o.dst=some d->su Z d)(M:dH Z.boxes y.ix=true)(hz:∀t,y.o.op=.alloc t->Cw cf t=true)
  (h:cD p cf A B C E F (H::y::r) N Z):cD p cf A B C E F (y::H::r) N Z:=by
 unfold ES at a0;simp only[ayz] at a0;obtain⟨⟨⟨⟨⟨⟨⟨⟨a1,a6⟩,hy⟩,a2⟩,G⟩,br⟩,a7⟩,bs⟩,a8⟩:=a0;have a2:y.o.guard=none:=by simpa using a2
 have D:=aeV bs;obtain⟨t,w⟩:∃t,y.o.op=.alloc t:=by cases w:y.o.op<;>rw[w] at hy<;>simp[Cv] at hy;exact⟨_,rfl⟩
 have ag:=hz t w;simp only[Cw,ayz,ayS] at ag;obtain⟨ag,bt⟩:=ag;obtain⟨U,ht⟩:=ayT.1 ag;have u:dR y.o.op=true:=by rw[w];rfl
 have a9:∀(s':S)(L:aa),et A y s' L=some true:=λs' L=>by simp[et,a2]
 have m:∀{L:aa}{l:S},cD p cf A B C E F (y::r) L l->l.bd=true/\cD p cf A B C E F r L (l.more y.ix t (co U) y.o.dst (.loc y.ix 0)):=by
  intro L l hr;simp only[cD,a9,JB u,FN u a6,oA] at hr;rcases hr with⟨Q,_⟩|⟨_,s3,W,P⟩;cases Q;have:=aoZ w ht W;subst this;exact⟨VK u W,P⟩
 have done:Z.bd=true->cD p cf A B C E F (H::r) N (Z.more y.ix t (co U) y.o.dst (.loc y.ix 0))->cD p cf A B C E F (y::H::r) N Z:=by
  intro V W;rw[cD];refine .inr ⟨a9 Z N, ?_⟩;rw[JB u];simp only[FN u a6,oA];exact⟨_,aoY w ht bt V M,W⟩
 have al:Z.bd=true->(Z.more y.ix t (co U) y.o.dst (.loc y.ix 0)).bd=true:=λV=>aeN V M (by simp only[S.cV,V,aAm];exact NP U) (by simp[SV.aL])
 obtain⟨p1,p2,p3⟩:=uq Z y.ix t (co U) y.o.dst (.loc y.ix 0);have k:et A H (Z.more y.ix t (co U) y.o.dst (.loc y.ix 0)) N=et A H Z N:=aeW (λq hq=>FO (λe=>D.rx q e hq)) p1 p2 p3;have j:∀z∈H.o.op.operands.toList,(Z.more y.ix t (co U) y.o.dst (.loc y.ix 0)).ev cf.gl z=Z.ev cf.gl z:=VL (λq hq=>FO (λe=>D.rx q e hq));rw[cD] at h;rcases h with⟨Q,W⟩|⟨Q,W⟩
 ·obtain⟨g1,g2⟩:=m W;refine done (aoT g1 bo) ?_;rw[cD];refine .inl ⟨by rw[k];exact Q, ?_⟩;rw[<-yv D.xy];exact g2
 ·cases R:cB cf Z H.o with
  |call g0 a3=>
   rw[R] at W;rcases g0 with g|n
   rotate_left
   have P:=W.1;rw[bl] at P;cases P;have J:lX _ _ _:=W;clear W;cases i:B g a3 Z with
   |some ve=>
    obtain⟨pv,a⟩:=ve;rw[i] at J;obtain⟨V,J⟩:=J;have hR:=af.Vv _ _ _ _ i;have a4:ER H.o.op=true:=by simpa[hR,Vw R] using a8
    have a5:=aeC a4 R;subst a5;refine done V ?_;rw[cD];refine .inr ⟨by rw[k];exact Q, ?_⟩;rw[CU j,R];show lX _ _ _;rw[show B g [] (Z.more y.ix t (co U) y.o.dst (.loc y.ix 0))=some (pv,a) from(af.z _ _ _ _ _ _ _ M).trans i];refine⟨al V, ?_⟩;have bx:=(jC M).2;have b0:(Z.more y.ix t (co U) y.o.dst (.loc y.ix 0)).plus a=(Z.plus a).more y.ix t (co U) y.o.dst (.loc y.ix 0):=by
     have:(Z.bM y.ix t (co U)).plus a=(Z.plus a).bM y.ix t (co U):=by
      simp only[S.bM,S.plus,List.set_append_left _ _ bx]
     unfold S.more;rw[<-this];cases y.o.dst<;>rfl
    rw[b0,<-yv D.xy];exact(m J).2
   |none=>
   rw[i] at J;simp only[lX] at J;have W:=J;have V:Z.bd=true:=by obtain⟨ts,ks,X,c1,c2,c3,c4,c5⟩:=W;simp only[ayz,S.cV] at c4;exact c4.1.1
   refine done V ?_;rw[cD];refine .inr ⟨by rw[k];exact Q, ?_⟩;rw[CU j,R];show lX _ _ _;have b1:B g a3 (Z.more y.ix t (co U) y.o.dst (.loc y.ix 0))=none:=by
    cases hh:B g a3 (Z.more y.ix t (co U) y.o.dst (.loc y.ix 0)) with
    |none=>rfl
    |some X=>
     exfalso;have hR:=af.Vv _ _ _ _ hh;have a4:ER H.o.op=true:=by simpa[hR,Vw R] using a8
     have a5:=aeC a4 R;subst a5;have:=(af.z g Z y.ix t (co U) y.o.dst (.loc y.ix 0) M).symm.trans hh;rw[i] at this;cases this
   rw[b1];simp only[lX];refine ao1 M (aeX R V a7) (al V) W (λL ts ks X _ hr=> ?_);rw[<-yv D.xy];exact(m hr).2
  |aR v=>
   exfalso;have hp:=VA R;cases an:H.o.op<;>rw[an] at G hp<;>simp[EQ,dR,pz,t8] at hp G;rename_i c;cases bZ:c.callee<;>simp[bZ] at hp G;rename_i bb;cases bb<;>simp at hp G
  |no=>rw[R] at W;exact W.elim
  |op=>
   rw[R] at W;simp only at W;cases V:cK cf H.o H.aZ H.dr Z with
   |some b=>
    rw[V] at W;obtain⟨hn,W⟩:=W;rw[a1] at V;obtain⟨q1,q2,q3⟩:=JD V;refine done q1 ?_;rw[cD];refine .inr ⟨by rw[k];exact Q, ?_⟩;rw[CU j,R];simp only;rw[a1,aoV M (al q1) D.yx j V];refine⟨hn,λrv bf=> ?_⟩;rw[p3] at bf;exact(m (W rv bf)).2
   |none=>
    rw[V] at W;obtain⟨l,P,h4⟩:=W;have ab:dR H.o.op=true:=by
     simp only[ay2] at G;rcases G with(I|I)|I;exact I;exact(VC I P).elim
     ·exfalso;cases an:H.o.op<;>rw[an] at I<;>simp[t8] at I;rename_i c;cases bZ:c.callee<;>simp[bZ] at I;rename_i f;simp only[cB,an,bZ] at R
      (repeat' split at R)<;>cases R
    have bg:H.ix≠y.ix:=by simpa[ab] using br
    have bk:=VK ab P;obtain⟨tx,cx,wx,rfl,g2,g3,g4⟩:=VH ab a7 P;refine done bk ?_;rw[cD];refine .inr ⟨by rw[k];exact Q, ?_⟩;rw[JB ab];simp only[FN ab a1,oA];refine⟨_,(g4 _ N j (al bk) ?_).2, ?_⟩;unfold dH at g2⊢;rw[yu,azc (λe=>bg e.symm)];exact g2;rw[VI D.yx (λe=>bg e.symm)];exact(m h4).2
def aeY{s:S}{n:Nat}{t:TypeId}{X:List SV}{Z:Option Nat}{w:SV}{d:Option Nat}{aF:BE}{e:TypeId}{k:RK}{x:LE}{V U:List Nat}{R:BI}(P:s.bd=true)(O:∀q,Z=some q->d≠some q)
  (h:gu (s.more n t X Z w) d aF e k x V U=some R):∃b,gu s d aF e k x V U=some b/\R={b with s:=b.s.more n t X Z w}:=by
 obtain⟨N,M,Q⟩:=uq s n t X Z w;unfold gu at h⊢;split at h;rename_i W;cases h;simp only[ayz] at W;rw[N,M,Q] at W;obtain⟨⟨⟨F,L⟩,J⟩,I⟩:=W;rw[if_pos (by simp only[ayz];exact⟨⟨⟨P,L⟩,J⟩,I⟩)];refine⟨_,rfl, ?_⟩;congr 1;rw[Q,yv (λq H G=>O q G H)];cases Z<;>rfl;cases h
def ao4{V:Ty}{e:TypeId}{U:TI}{y:SV}(Q:dH Z.boxes X=true)(W:y.bd Z.ni Z.nb Z.rs.length (aE Z.boxes)=true)(h:nc V (Z.more X I M R J) e U y=some c):nc V Z e U y=some c:=by
 have bA:(Z.more X I M R J).rs=Z.rs:=(uq _ _ _ _ _ _).2.2;unfold nc at h⊢;split at h;simp only[yo bA] at h;exact h;rename_i i N L H;rw[yu] at h;have P:i≠X:=λe=>by subst e;simp only[SV.aL] at W;rw[(jC Q).1] at W;cases W
 rw[I8 (uf P)] at h;split at h;rename_i O;simp only[Ak bA] at h
 first|exact h|(rw[O];exact h)
 cases h;cases h
def ao5(E:dH Z.boxes X=true)(P:Z.bd=true)(N:∀q,R=some q->z.dst≠some q)(D:z.op.operands.toList.all sc=true)
  (U:∀W∈z.op.operands.toList,(Z.more X I M R J).ev cf.gl W=Z.ev cf.gl W)(h:cK cf z o true (Z.more X I M R J)=some e):∃b,cK cf z o true Z=some b/\e={b with s:=b.s.more X I M R J}:=by
 have bA:(Z.more X I M R J).rs=Z.rs:=(uq _ _ _ _ _ _).2.2;have L:∀x∈z.op.operands.toList,sc x=true:=ayM.1 D;have Q:=FM h;unfold cK at h⊢;cases C:z.op<;>rw[C] at Q h U L<;>simp[pz] at Q;rename_i d B A;simp only at h⊢;rw[U B (by simp[Op.operands]),U A (by simp[Op.operands])] at h;split at h;rename_i V ae q y a v u H;split at h;rename_i r m;split at h;rename_i G;rw[Ak bA] at G;rw[if_pos G];exact aeY P N h;cases h;cases h;cases h;rename_i c;cases bZ:c.callee with
 |builtin l=>
  cases l<;>simp[bZ] at Q;simp only[bZ] at h⊢;have k:c.args.toList.map ((Z.more X I M R J).ev cf.gl)=c.args.toList.map (Z.ev cf.gl):=ayZ λW O=>U W (by simp[Op.operands,Call.operands];exact .inr (by simpa using O))
  rw[k] at h;split at h;rename_i t1 t2 x0 F u H;have j:F.bd Z.ni Z.nb Z.rs.length (aE Z.boxes)=true:=by
   have:F∈c.args.toList.map (Z.ev cf.gl):=by rw[H];simp
   obtain⟨W,O,rfl⟩:=ay1.1 this;exact wa P (L W (by simp[Op.operands,Call.operands];exact .inr (by simpa using O)))
  split at h;rename_i V ae q e2 ab q2 v af;split at h;rename_i r m;split at h;cases h;rename_i i;rw[if_neg i];rw[aeS] at h;split at h;rename_i la n1 ag lb y al g f;rw[g,ao4 E j f];exact aeY P N h;cases h;cases h;cases h;cases h
 |_=>simp[bZ] at Q
def ao6(cl:Ai A B){y:OM}(cp:y.so=false)(a7:IT A H y=true)
  (h:cD p cf A B C E F (H::y::r) N Z):cD p cf A B C E F (y::H::r) N Z:=by
 unfold IT at a7;simp only[ayz] at a7;obtain⟨⟨⟨⟨⟨⟨⟨⟨⟨⟨bx,a3⟩,ag⟩,ds⟩,a8⟩,ct⟩,a2⟩,al⟩,cv⟩,cx⟩,cI⟩:=a7;have a8:H.o.guard=none:=by simpa using a8
 have D:=aeV cx;have b0:∀(M:S)(O':aa),et A H M O'=some true:=λM O'=>by simp[et,a8]
 rw[cD] at h;rcases h with⟨h1,_⟩|⟨_,h2⟩;rw[b0] at h1;cases h1;rw[JB ag] at h2;simp only[FN ag bx,oA] at h2;obtain⟨s1,h3,h4⟩:=h2;have Q:=VK ag h3;obtain⟨t,I,w,rfl,J,hw,tr⟩:=VH ag ct h3;have dx:Z.cV I=true:=(tr Z N (λ_ _=>rfl) Q J).1;obtain⟨p1,p2,p3⟩:=uq Z H.ix t I H.o.dst w;have a9:et A y (Z.more H.ix t I H.o.dst w) N=et A y Z N:=aeW (λq W=>FO (λe=>D.ry q e W)) p1 p2 p3;have an:∀z∈y.o.op.operands.toList,(Z.more H.ix t I H.o.dst w).ev cf.gl z=Z.ev cf.gl z:=VL (λq W=>FO (λe=>D.ry q e W));have a0:∀{O':aa}{M:S},(∀q,y.o.dst≠some q->M.tmps[q]?=Z.tmps[q]?)->M.bd=true->dH M.boxes H.ix=true->cD p cf A B C E F r O' (M.more H.ix t I H.o.dst w)->cD p cf A B C E F (H::r) O' M:=by
  intro O' M ht a1 c0 hr;rw[cD];refine .inr ⟨b0 _ _, ?_⟩;rw[JB ag];simp only[FN ag bx,oA];exact⟨_,(tr M O' (VL (λq W=>ht q (λe=>D.rx q e W))) a1 c0).2,hr⟩
 rw[cD] at h4;rcases h4 with⟨h5,V⟩|⟨h5,V⟩;rw[cD];refine .inl ⟨by rw[<-a9];exact h5, ?_⟩;refine a0 (λq W=>iX W) (JC (s':=Z) Q (ayH _) (ayH _) (ayH _) rfl rfl (by simp[SV.aL,SV.eU])) (by rw[iY];exact J) ?_;rw[yv D.yx];exact V
 ·rw[cD];refine .inr ⟨by rw[<-a9];exact h5, ?_⟩;rw[CU an] at V;cases m:cB cf Z y.o with
  |call g0 bf=>
   rw[m] at V;rcases g0 with g|n
   rotate_left
   have h3:=V.1;rw[cp] at h3;cases h3;have b5:∀M,B g bf M=none:=λM=>by
    cases hh:B g bf M with
    |none=>rfl
    |some X=>
     exfalso;have hR:=cl.Vv _ _ _ _ hh;simp[hR,Vw m] at cI
   have hP:lX _ _ _:=V;clear V;rw[b5] at hP;simp only[lX] at hP;have V:=hP;show lX _ _ _;rw[b5];simp only[lX];refine ao2 J (aeX m Q a2) Q V (λO' ts ks X hm hr=> ?_);obtain⟨b1,b2,b3,b4⟩:=ss ks (Z.cut bf ks);refine a0 (λq W=>by rw[iX W,b2];rfl) (aoX Q hm) (by rw[iY,b1];exact J) ?_;rw[yv D.yx];exact hr
  |aR v=>
   exfalso;have hp:=VA m;cases a4:y.o.op<;>rw[a4] at al hp<;>simp[EQ,dR,pz,t8,zQ,t6] at hp al;rename_i c;cases bZ:c.callee<;>simp[bZ] at hp al;rename_i bb;cases bb<;>simp at hp al
  |no=>rw[m] at V;exact V.elim
  |op=>
   rw[m] at V;show oA _ _ _;have V:oA _ _ _:=V;cases a5:cK cf y.o y.aZ y.dr (Z.more H.ix t I H.o.dst w) with
   |some b1=>
    rw[a5] at V;obtain⟨hn,V⟩:=V;rw[a3] at a5⊢;obtain⟨b,g1,rfl⟩:=ao5 J Q D.xy a2 an a5;rw[g1];obtain⟨q1,q2,q3⟩:=JD g1;refine⟨hn,λrv c1=> ?_⟩;refine a0 (VD g1) q2 (by rw[q3];exact J) (V rv (by rw[p3];exact c1))
   |none=>
    rw[a5] at V;obtain⟨c2,P,h8⟩:=V;by_cases G:zQ y.o.op=true
    
    have W:jJ y.o.op=true:=by cases U:y.o.op<;>rw[U] at G<;>simp[zQ] at G<;>rfl
    have dy:vN y.o.op=false:=by cases U:y.o.op<;>rw[U] at G<;>simp[zQ] at G<;>rfl
    rw[a3,aeE W];simp only[oA];obtain⟨v,l,hv,rfl⟩:=(FI (ops:=A) W h5).1 P;have c3:im cf A y.o (Z.more H.ix t I H.o.dst w) N Z N:=im.um (λq W=>(FO (λe=>D.ry q e W)).symm) p3.symm p1.symm p2.symm;have R:=Vx c3 (λi hi=>by
     unfold vC at hi;cases U:y.o.op<;>rw[U] at G hi<;>simp[zQ] at G<;>cases hi) hv
    have b6:et A y Z N=some true:=by rw[<-a9];exact h5
    refine⟨_,(FI (ops:=A) W b6).2 ⟨v,l,R,rfl⟩, ?_⟩;have c4:v.bd Z.ni Z.nb Z.rs.length (aE Z.boxes)=true:=by
     have af:∀z∈y.o.op.operands.toList,sc z=true:=ayM.1 a2;rcases R with R|⟨-,-,R⟩;rw[b6] at R;cases R.1;cases U:y.o.op<;>rw[U] at G R af<;>simp[zQ] at G;rename_i z;have:=R.1;simp only[bv,PR.uo] at this;rw[this];exact wa Q (af z (by simp[Op.operands]));rename_i z;have:=R.1;simp only[bv,PR.uo] at this;rw[this];exact wa Q (af z (by simp[Op.operands]));rename_i st z f;have k:=wa (cf:=cf) Q (af z (by simp[Op.operands]));have:=R.1;simp only[bv] at this;split at this;rename_i hz;rw[hz] at k;split at this;split at this;split at this;exact this.elim;rw[this];exact k;exact this.elim;exact this.elim;rename_i hz;rw[hz] at k;split at this;split at this;split at this;exact this.elim;rw[this];exact k;exact this.elim;exact this.elim;exact this.elim
    have c5:l=0:=by
     rcases R with R|⟨-,-,R⟩;exact R.2.2;cases U:y.o.op<;>rw[U] at G R<;>simp[zQ] at G<;>exact R.2
    subst c5;rw[CS] at h8⊢;refine a0 (λq W=>iX W) (JC (s':=Z) Q (ayH _) (ayH _) (ayH _) rfl rfl c4) (by rw[iY];exact J) ?_;rw[yv D.yx];exact h8;by_cases bg:t6 y.o.op=true;obtain⟨t',z,u,U⟩:∃t z u,y.o.op=.store t z u:=by cases U:y.o.op<;>rw[U] at bg<;>simp[t6] at bg;exact⟨_,_,_,rfl⟩
    have af:∀z∈y.o.op.operands.toList,sc z=true:=ayM.1 a2;have bk:cK cf y.o y.aZ y.dr Z=none:=by rw[a3];simp[cK,U]
    rw[bk];simp only[oA];have hz:=an z (by rw[U];simp[Op.operands]);have hu:=an u (by rw[U];simp[Op.operands]);have k:=wa (cf:=cf) Q (af z (by rw[U];simp[Op.operands]));have c6:=wa (cf:=cf) Q (af u (by rw[U];simp[Op.operands]));unfold eX dN at P;split at P;exact P.elim;rename_i L;have c7:¬(y.o.op.operands.toList.any λz=>(Z.ev cf.gl z).cM)=true:=by
     intro hh;obtain⟨zz,b7,c8⟩:=ay8.1 hh;exact L (ay8.2 ⟨zz,b7,by rw[an zz b7];exact c8⟩)
    simp only[U,hz,hu] at P;split at P;rename_i ti i a c9 hi;have bl:i≠H.ix:=λe=>by subst e;rw[hi] at k;simp only[SV.aL] at k;rw[(jC J).1] at k;cases k
    rw[yu,I8 (uf bl)] at P;split at P;rename_i bt ab b8;obtain⟨bo,-⟩:=ud b8;split at P;rename_i a6;have dc:(Z.more H.ix t I H.o.dst w).lk=Z.lk:=NO _ _ _;rw[dc] at a6;have dz:((Z.ev cf.gl u).cells.length==ti.ae.length)=true:=by simp only[ayz] at a6;exact a6.1.1.1.1
    refine⟨(Z.bM i bt (iD ab a (Z.ev cf.gl u).cells)).put y.o.dst (.bh []), ?_, ?_⟩;unfold eX dN;rw[if_neg c7];simp only[U,c9,hi,b8];rw[if_pos a6];rfl;have dd:((Z.bM i bt (iD ab a (Z.ev cf.gl u).cells)).put y.o.dst (.bh [])).bd=true:=by
     have ca:i<Z.boxes.length:=(ayA.1 (gg.1 bo)).1;have df:∀j,aE (Z.boxes.set i (some (bt,iD ab a (Z.ev cf.gl u).cells))) j=aE Z.boxes j:=λj=>by
      by_cases hj:j=i;subst hj;simp[aE,CH ca,bo];simp[aE,uf hj]
     have dk:aE (Z.boxes.set i (some (bt,iD ab a (Z.ev cf.gl u).cells)))=aE Z.boxes:=funext df;have a1:=Q;simp only[S.bd,ayz] at a1;have bk:(Z.bM i bt (iD ab a (Z.ev cf.gl u).cells)).bd=true:=by
      simp only[S.bd,S.bM,dk,ayz];refine⟨a1.1, ?_⟩;rw[yt];intro j b hj;by_cases cc:j=i;subst cc;rw[CH ca] at hj;cases hj;exact VG (yt.1 a1.2 j _ bo) (VF c6);rw[uf cc] at hj;exact yt.1 a1.2 j b hj
     exact JC (s':=Z.bM i bt (iD ab a (Z.ev cf.gl u).cells)) bk (ayH _) (ayH _) (ayH _) rfl rfl (by simp[SV.aL,SV.eU])
    refine a0 (λq W=>by rw[iX W];rfl) dd ?_ ?_;rw[iY];unfold dH at J⊢;simp only[S.bM];rw[azc bl];exact J;have dn:c2=((Z.more H.ix t I H.o.dst w).bM i bt (iD ab a (Z.ev cf.gl u).cells)).put y.o.dst (.bh []):=P;subst dn;have:((Z.bM i bt (iD ab a (Z.ev cf.gl u).cells)).put y.o.dst (.bh [])).more H.ix t I H.o.dst w=((Z.more H.ix t I H.o.dst w).bM i bt (iD ab a (Z.ev cf.gl u).cells)).put y.o.dst (.bh []):=
     VI (s:=Z) (n:=i) (n':=H.ix) (d:=y.o.dst) (e:=H.o.dst) D.yx bl
    rw[this];exact h8;exact P.elim;exact P.elim;exact P.elim;have br:dR y.o.op=true:=by
     simp only[ay2] at al;rcases al with(((L|L)|L)|L)|L;exact L;exact(VC L P).elim
     ·exfalso;cases a4:y.o.op<;>rw[a4] at L<;>simp[t8] at L;rename_i c;cases bZ:c.callee<;>simp[bZ] at L;rename_i f;simp only[cB,a4,bZ] at m
      (repeat' split at m)<;>cases m
     exact absurd L G;exact absurd L bg
    have bs:H.ix≠y.ix:=by simpa[br] using cv
    rw[FN br a3];simp only[oA];obtain⟨dT,cy,wy,rfl,k2,k3,k4⟩:=VH br a2 P;have ch:dH Z.boxes y.ix=true:=by
     unfold dH at k2⊢;rw[yu,azc bs] at k2;exact k2
    obtain⟨m1,m2⟩:=k4 Z N (λz hz=>(an z hz).symm) Q ch;refine⟨_,m2,a0 (λq W=>FO W) (aeN Q ch m1 (k3 _ _ _)) ?_ ?_⟩;unfold dH at J⊢;rw[yu,azc (λe=>bs e.symm)];exact J;rw[VI D.yx (λe=>bs e.symm)];exact h8
def ao7(V:Ai A B){y:OM}(W:pA A H y=true)(U:∀d,H.o.dst=some d->su Z d)(Q:dR y.o.op=true->dH Z.boxes y.ix=true)(P:∀t,y.o.op=.alloc t->Cw cf t=true)
  (M:N.i.length=Z.ni)(L:N.b.length=Z.nb)(J:N.r.length=Z.rs.length)
  (h:cD p cf A B C E F (H::y::r) N Z):cD p cf A B C E F (y::H::r) N Z:=by
 unfold pA at W;simp only[ayz,ayS,ay2] at W;obtain⟨⟨I,R⟩,W⟩:=W;rcases W with(X|X)|X;exact aoR V R X U M L J h;have G:dR y.o.op=true:=by
  unfold ES at X;simp only[ayz] at X;have:=X.1.1.1.1.1.1.2;cases D:y.o.op<;>rw[D] at this<;>simp[Cv] at this;rfl
 exact ao3 V I X U (Q G) P h;exact ao6 V R X h
def aeZ(h:(dN cf H Z).gives N t):∀n,dH Z.boxes n=true->(dR H.o.op=true->n≠H.ix)->dH t.boxes n=true:=by
 intro q W R;have U:∀{X:TypeId}{Q:List SV}{d:Option Nat}{w:SV}{i:Nat},q≠i->dH ((Z.bM i X Q).put d w).boxes q=true:=by
  intro X Q d w i P;rw[iY];unfold dH at W⊢;simp only[S.bM];rw[azc (λe=>P e.symm)];exact W
 unfold dN at h;split at h;exact h.elim;split at h;rename_i X V;split at h;split at h;cases h;exact U (R (by rw[V];rfl));exact h.elim;exact h.elim;rename_i X x V;split at h;split at h;cases h;exact U (R (by rw[V];rfl));exact h.elim;exact h.elim;rename_i X l L V;split at h;split at h;split at h;split at h;cases h;exact U (R (by rw[V];rfl));exact h.elim;exact h.elim;exact h.elim;exact h.elim;split at h;split at h;rename_i J Q M;split at h;cases h;refine U (λe=> ?_);subst e;have:=(jC W).1;simp[aE,(ud M).1] at this;exact h.elim;exact h.elim;exact h.elim;split at h;simp only[OR.gives] at h;split at h<;>(subst h;rw[iY];exact W);exact h.elim;obtain⟨v,-,rfl⟩:=vX h;rw[yr];exact W;obtain⟨v,-,rfl⟩:=vX h;rw[yr];exact W
def ao8(h:(dN cf H Z).gives N t):∀i,aE Z.boxes i=true->aE t.boxes i=true:=by
 intro q W;have V:∀{X:TypeId}{U:List SV}{d:Option Nat}{w:SV}{i:Nat},aE ((Z.bM i X U).put d w).boxes q=true:=by
  intro X U d w i;rw[iY];unfold aE at W⊢;simp only[bS] at W⊢;simp only[S.bM];by_cases R:i=q;subst R;have M:i<Z.boxes.length:=by
   cases Q:Z.boxes[i]? with
   |none=>rw[Q] at W;cases W
   |some b=>exact(ayA.1 Q).1
  rw[azI M];rfl;rw[azc R];exact W
 unfold dN at h;split at h;exact h.elim;split at h;rename_i X P;split at h;split at h;cases h;exact V;exact h.elim;exact h.elim;rename_i X x P;split at h;split at h;cases h;exact V;exact h.elim;exact h.elim;rename_i X l L P;split at h;split at h;split at h;split at h;cases h;exact V;exact h.elim;exact h.elim;exact h.elim;exact h.elim;split at h;split at h;rename_i J U I;split at h;cases h;exact V;exact h.elim;exact h.elim;exact h.elim;split at h;simp only[OR.gives] at h;split at h<;>(subst h;rw[iY];exact W);exact h.elim;obtain⟨v,-,rfl⟩:=vX h;rw[yr];exact W;obtain⟨v,-,rfl⟩:=vX h;rw[yr];exact W
structure pH(s s':S):Prop where
 i:s.ni<=s'.ni
 b:s.nb<=s'.nb
 r:s.rs.length<=s'.rs.length
 bx:∀i,aE s.boxes i=true->aE s'.boxes i=true
def pH.put(s:S)(d:Option Nat)(v:SV):pH s (s.put d v):=
 ⟨aAb (dA _ _ _).1.symm,aAb (dA _ _ _).2.1.symm,aAb (congrArg aAM (dA s d v).2.2).symm,λi h=>by rw[iY];exact h⟩
def pH.trans{b:S}(h:pH Z b)(k:pH b t):pH Z t:=⟨azF h.i k.i,azF h.b k.b,azF h.r k.r,λi X=>k.bx i (h.bx i X)⟩
def ao9{l1:List OM}(d:H.dr=true)(af:H.so=false)(z:N.i.length=Z.ni)(y:N.b.length=Z.nb)(w:N.r.length=Z.rs.length)(h:cD p cf A B C E F (H::l1) N Z)
  (m:∀l Q,l.i.length=Q.ni->l.b.length=Q.nb->l.r.length=Q.rs.length->(∀t,H.o.dst≠some t->Q.tmps[t]?=Z.tmps[t]?)->(∀n,dH Z.boxes n=true->(dR H.o.op=true->n≠H.ix)->dH Q.boxes n=true)->pH Z Q->cD p cf A B C E F l1 l Q->cD p cf A B C E F r l Q):cD p cf A B C E F (H::r) N Z:=by
 simp only[cD] at h⊢;rcases h with⟨c,U⟩|⟨c,U⟩;exact .inl ⟨c,m _ _ (by rw[(dA _ _ _).1];exact z) (by rw[(dA _ _ _).2.1];exact y) (by rw[(dA _ _ _).2.2];exact w) (λt k=>iX k) (λn I _=>by rw[iY];exact I) (pH.put _ _ _) U⟩
 ·refine .inr ⟨c, ?_⟩;cases f:cB cf Z H.o with
  |call g0 j=>
   rw[f] at U;rcases g0 with g|n
   rotate_left
   have M:=U.1;rw[af] at M;cases M;have U:lX _ _ _:=U;show lX _ _ _;cases ab:B g j Z with
   |some ve=>
    obtain⟨pv,ex⟩:=ve;rw[ab] at U;exact⟨U.1,m _ _ (by rw[(dA _ _ _).1];exact z) (by rw[(dA _ _ _).2.1];exact y) (by rw[(dA _ _ _).2.2];exact w) (λt k=>iX k) (λn I _=>by rw[iY];exact aeB I) (pH.trans (b:=Z.plus ex) ⟨ayH _,ayH _,ayH _,λi q=>by unfold aE;rw[aeA q];exact q⟩ (pH.put _ _ _)) U.2⟩
   |none=>
   rw[ab] at U;obtain⟨ts,L,X,c1,c2,c3,c4,c5⟩:=U;refine⟨ts,L,X,c1,c2,c3,c4,λV W R=>(c5 V W R).mono ?_⟩;intro e W' a;cases e with
   |returned u=>
    obtain⟨xs,J,G,D,q4,q5⟩:=a;obtain⟨b1,b2,b3,b4⟩:=ss L (Z.cut j L);obtain⟨l1,r,l3⟩:=ul L xs (Z.cut j L) N J z y (w.trans (Ah j L Z.rs).len.symm);refine⟨xs,J,G,D,q4,m _ _ (by rw[(dA _ _ _).1];exact l1) (by rw[(dA _ _ _).2.1];exact r) (by rw[(dA _ _ _).2.2];exact l3) (λt k=>by rw[iX k,b2];rfl) (λn I _=>by rw[iY,b1];exact I) (pH.trans (b:=((Z.cut j L).bB L).2) ⟨by rw[<-z,<-l1];exact(yb [] _ _ []).li,by rw[<-y,<-r];exact(yb [] _ _ []).lb,by rw[<-w,<-l3];exact(yb [] _ _ []).lr,λi q=>by rw[b1];exact q⟩ (pH.put _ _ _)) q5⟩
   |panicked ch=>exact a
   |outgrown=>exact a
  |aR v=>rw[f] at U;exact U
  |no=>rw[f] at U;exact U
  |op=>
   rw[f] at U;simp only at U⊢;cases P:cK cf H.o H.aZ H.dr Z with
   |some b=>
    rw[P] at U;obtain⟨J,G,D⟩:=aey P;exact⟨U.1,λrv ag=>m _ _ (by rw[J];exact z) (by rw[G];exact y) (by simp[aa.add,D,w]) (VD (by rw[d] at P;exact P)) (λn I _=>by rw[(JD (by rw[d] at P;exact P)).2.2];exact I) ⟨by rw[J];exact ayH _,by rw[G];exact ayH _,by rw[D];omega,λi q=>by rw[(JD (by rw[d] at P;exact P)).2.2];exact q⟩ (U.2 rv ag)⟩
   |none=>
    rw[P] at U;obtain⟨Q,M,h4⟩:=U;obtain⟨J,G,D⟩:=aex (FG M);exact⟨Q,M,m _ _ (by rw[J];exact z) (by rw[G];exact y) (by rw[D];exact w) (aeK (FG M)) (aeZ (FG M)) ⟨by rw[J];exact ayH _,by rw[G];exact ayH _,by rw[D];exact ayH _,ao8 (FG M)⟩ h4⟩
def ae0{y:OM}(h:pA A H y=true):H.so=false/\y.so=false:=by
 unfold pA at h;simp only[ayz,ayS] at h;exact h.1
def apa{y:OM}(h:pA A H y=true):H.dr=true:=by
 unfold pA at h;simp only[ayz,ay2] at h;replace h:=h.2;rcases h with(h|h)|h;exact(aeG h).elim λ_ c=>c.xd
 unfold ES at h;simp only[ayz] at h;exact h.1.1.1.1.1.1.1.1;unfold IT at h;simp only[ayz] at h;exact h.1.1.1.1.1.1.1.1.1.1
end
end
variable{v:World}
section
section
variable{p:Sp}{u:aY}{k:Array Oper}{A:sd}{Kn:aa->S->Prop}{Kp:aa->SV->S->Prop}{Yp:OM->List OM->aa->S->Nat->List SV->Prop}
def FQ(s:S)(m:OM):Prop:=∀d,m.o.dst=some d->su s d
def VM(W:pH Z t)(V:t.tmps[X]?=Z.tmps[X]?)(h:su Z X):su t X:=by
 rcases h with h|⟨w,h,U⟩;exact .inl (V.trans h);exact .inr ⟨w,V.trans h,SV.cw W.i W.b W.r W.bx _ U⟩
def FQ.other(h:FQ Z H)(W:∀e,R=some e->H.o.dst≠some e):FQ (Z.put R J) H:=by
 intro e X;have:=(pH.put Z R J);exact VM this (iX (λV=>W e V X)) (h e X)
def VN(s:S)(m:OM):Prop:=dR m.o.op=true->dH s.boxes m.ix=true
def ae1(U:Ai k A){m:OM}{W:List OM}:∀(Z:List OM)(s:S)(O:aa),(∀x∈Z,pA k x m=true)->(∀x∈Z,FQ s x)->VN s m->(Z.Pairwise λa b=>∀d,a.o.dst=some d->b.o.dst≠some d)->(∀x∈Z,dR x.o.op=true->dR m.o.op=true->m.ix≠x.ix)->(∀t,m.o.op=.alloc t->Cw u t=true)->
  O.i.length=s.ni->O.b.length=s.nb->O.r.length=s.rs.length->cD p u k A Kn Kp Yp (Z++m::W) O s->cD p u k A Kn Kp Yp (m::(Z++W)) O s
 |[],s,O,_,_,_,_,_,_,_,_,_,h=>h
 |x::Z,s,O,R,Q,P,E,N,M,L,J,I,h=>by
  have V:=R x (by simp);have D:x.dr=true:=apa V;have C:=(ae0 V).1;have H:=ayY.1 E;have:cD p u k A Kn Kp Yp (x::m::(Z++W)) O s:=ao9 (l1:=Z++m::W) D C L J I h (λB z w v q n l j g=>
   ae1 U Z z B (λy X=>R y (by simp[X])) (λy X e G=>VM j (n e (λf=>H.1 y X e f G)) (Q y (by simp[X]) e G))
    (λF=>l m.ix (P F) (λc=>N x (by simp) c F)) H.2 (λy X=>N y (by simp[X])) M w v q g)
  exact ao7 U V (Q x (by simp)) P M L J I this
def VO{D:bz}{a:Act}(R:ap p.S0 p.w0 D u.ty U N Z a v)(h:et k H Z N=some o):Region.wanted H.o (yielded k a.tmps)=o:=by
 unfold et at h;cases X:H.o.guard with
 |none=>rw[X] at h;cases h;simp[Region.wanted,X]
 |some q=>
  obtain⟨j,M⟩:=q;rw[X] at h;simp only at h;split at h;rename_i d L;have P:=ad5 R L;split at h;rename_i e Q;split at h;cases h;have:=P.1 e Q;simp only[Region.wanted,X,this];cases e.den N<;>cases M<;>rfl;cases h;rename_i Q;cases h;simp[Region.wanted,X,P.2 Q];cases h;cases h
def NR(p:Sp)(u:aY)(A:sd):Prop:=∀(g:FuncId)(Z:List SV)(s:S)(v:SV)(X:aX),A g Z s=some (v,X)->
 ∀(D:bz)(O:aa)(V:List Nat)(a:Act)(W:World),s.bd=true->ap p.S0 p.w0 D u.ty V O s a W->dg u.gl O->(∀Z W,(callFunc g Z).run p.P W=.ok (.enter g Z) W)/\
  Calls p.P g (SV.au O V Z).toArray W λe R=>∃U,e=.returned (v.den O U)/\ap p.S0 p.w0 D u.ty U O (s.plus X) a R/\ba s O V (s.plus X) O U
structure JE(k:Array Oper)(bs:List Nat)(listed:Array Bool)(rem:List OM):Prop where
 mem:∀m∈rem,k[m.j]?=some m.o
 un:∀i,i<k.size->(listed.getD i true=false<->∃m∈rem,m.j=i)
 sz:listed.size=k.size
 dn:∀(j:Nat)(o:Oper),k[j]?=some o->listed.getD j false=true->∀e∈iF o,listed.getD e false=true
 pr:rem.Pairwise λx y=>(bs.getD y.j 0).testBit x.j=true\/pA k x y=true
 tp:∀xs m ys,rem=xs++m::ys->∀e∈iF m.o,listed.getD e false=true\/∃x∈xs,x.j=e
 nd:rem.Pairwise λx y=>x.j≠y.j
 ds:rem.Pairwise λa b=>∀d,a.o.dst=some d->b.o.dst≠some d
 so:∀xs m ys,rem=xs++m::ys->m.so=true->ys.Pairwise λx y=>(bs.getD y.j 0).testBit x.j=true
def ae2{e:Edge}(h:e∈z.after)(Z:Region.binds .any e=true):e.on∈iF z:=ay1.2 ⟨e,azk.2 ⟨by simpa using h,Z⟩,rfl⟩
def ae3(h:X∈iF z):∃e∈z.after,Region.binds .any e=true/\e.on=X:=by
 obtain⟨e,Z,rfl⟩:=ay1.1 h;obtain⟨W,V⟩:=azk.1 Z;exact⟨e,by simpa using W,V,rfl⟩
structure FR(k:Array Oper)(bs:List Nat):Prop where
 lt:∀(j:Nat)(o:Oper),k[j]?=some o->∀e∈iF o,e<j
 cl:∀(j:Nat)(o:Oper),k[j]?=some o->∀i,i<k.size->(bs.getD j 0).testBit i=true->i∈iF o\/∃e∈iF o,(bs.getD e 0).testBit i=true
def apb{listed:Array Bool}(X:FR k U)(P:JE k U listed r):∀(j:Nat)(o:Oper),k[j]?=some o->(∀e∈iF o,listed.getD e false=true)->∀i,i<k.size->(U.getD j 0).testBit i=true->listed.getD i false=true:=by
 intro j;induction j using aAi with
 |_ j O=>
  intro o Z W i V N;rcases X.cl j o Z i V N with h|⟨e,R,h⟩;exact W i h;have M:=X.lt j o Z e R;have L:j<k.size:=(ay0.1 Z).1;have Q:k[e]?=some k[e]:=aAQ (by omega);exact O e M k[e] Q (P.dn e _ Q (W e R)) i V h
def CV(a:Array Bool)(i j:Nat)(b:Bool)(Z:i<a.size):(a.setIfInBounds i true).getD j b=if j=i then true else a.getD j b:=by
 by_cases h:j=i;subst h;simp[Z];simp[aAa (Ne.symm h),h]
def apc{listed:Array Bool}{Q:List OM}(Z:JE k U listed (r++H::Q))(v:∀e∈iF H.o,listed.getD e false=true):JE k U (listed.setIfInBounds H.j true) (r++Q):=by
 have y:=Z.mem H (by simp);have u:H.j<k.size:=(ay0.1 y).1;have I:H.j<listed.size:=by rw[Z.sz];exact u
 have N:aCa (r++Q) (r++H::Q):=aAN (aAZ _) (aAD _ _);have t:∀x∈r++Q,x.j≠H.j:=by
  intro x X;have F:=Z.nd;rw[ay6] at F;rcases ayL.1 X with h|h;exact F.2.2 x h H (by simp);exact Ne.symm ((ayY.1 F.2.1).1 x h)
 refine⟨λx X=>Z.mem x (N.subset X),λi s=> ?_,by simp[Z.sz],λj o E M e O=> ?_,Z.pr.sublist N, ?_,Z.nd.sublist N,Z.ds.sublist N, ?_⟩;rw[CV _ _ _ _ I];by_cases D:i=H.j;subst D;simp only[if_true,aCb,false_iff];rintro⟨x,X,M⟩;exact t x X M;rw[if_neg D,Z.un i s];constructor;rintro⟨x,X,rfl⟩;refine⟨x, ?_,rfl⟩;simp only[ayL,ayK] at X⊢;rcases X with h|h|h;exact .inl h;subst h;exact absurd rfl D;exact .inr h;rintro⟨x,X,rfl⟩;exact⟨x,N.subset X,rfl⟩;rw[CV _ _ _ _ I];rw[CV _ _ _ _ I] at M;split;rfl;by_cases w:j=H.j;subst w;rw[y] at E;cases E;exact v e O;rw[if_neg w] at M;exact Z.dn j o E M e O;intro C P L B e O;rw[CV _ _ _ _ I];by_cases G:e=H.j;left;rw[if_pos G];rw[if_neg G];rcases aBy.1 B with⟨V,R,W⟩|⟨V,R,W⟩
 
 have:=Z.tp (r++H::V) P L (by rw[W];simp) e O;rcases this with h|⟨x,X,J⟩;exact .inl h;right;refine⟨x, ?_,J⟩;rw[R];simp only[ayL,ayK] at X⊢;rcases X with h|h|h;exact .inl h;subst h;exact absurd J.symm G;exact .inr h
 
 cases V with
 |nil=>
  simp at R W;subst R;have:=Z.tp (r++[H]) P L (by rw[<-W];simp) e O;rcases this with h|⟨x,X,J⟩;exact .inl h;right;refine⟨x, ?_,J⟩;simp only[ayL,aAz] at X;rcases X with h|h;exact h;subst h;exact absurd J.symm G
 |cons z V=>
  simp only[ayP,azK] at W;obtain⟨rfl,W⟩:=W;have:=Z.tp C P (V++H::Q) (by rw[R];simp) e O;exact this
 intro C P L B A;rcases aBy.1 B with⟨V,R,W⟩|⟨V,R,W⟩;exact Z.so (r++H::V) P L (by rw[W];simp) A;cases V with
 |nil=>
  simp at R W;subst R;exact Z.so (r++[H]) P L (by rw[<-W];simp) A
 |cons z V=>
  simp only[ayP,azK] at W;obtain⟨rfl,W⟩:=W;have:=Z.so C P (V++H::Q) (by rw[R];simp) A;rw[W];exact this.sublist (aAN (aAZ _) (aAD _ _))
def apd{F:Fence}(G:mJ F)(w:iW p u)(a3:NR p u A){D:bz}{Q:Exit->Act->World->Prop}(HP:∀ch a' J pd y,cG p.w0 D pd y a'.defers J->p.R (.panicked ch) J->Q (.panic ch) a' J)
     {a:Act}(h:cD p u k A Kn Kp Yp (H::r) N Z)(R:ap p.S0 p.w0 D u.ty U N Z a v)(q:dg u.gl N)(hm:k[H.j]?=some H.o)(a2:H.dr=true)
  {K:Act->World->Prop}(hK:∀z O' i a' J,ba Z N U z O' i->(∀t,H.o.dst≠some t->z.tmps[t]?=Z.tmps[t]?)->(∀X,dH Z.boxes X=true->(dR H.o.op=true->X≠H.ix)->dH z.boxes X=true)->ap p.S0 p.w0 D u.ty i O' z a' J->cD p u k A Kn Kp Yp r O' z->K a' J)
  (a4:∀M,Kp N M Z->Q (.panic [{v:=M.den N U,recovered:=false}]) a v)
  (hY:∀yn E,cB u Z H.o=.call (.yl yn) E->H.so=true->Yp H r N Z yn E->H.o.wpIn F X p.P a v K Q):wpOpIn F X p.P k Q H.j K a v:=by
 unfold wpOpIn;rw[hm];simp only;simp only[cD] at h;rcases h with⟨h1,L⟩|⟨h1,L⟩;rw[VO R h1];exact⟨λf _=>G.fn f,hK _ N U _ v ((ba.refl _ _ _).put _ _) (λt ht=>iX ht) (λX C _=>by rw[iY];exact C) (R.put H.o.dst (.bh [])) L⟩
 ·rw[VO R h1];simp only[if_true];cases I:cB u Z H.o with
  |call g0 E=>
   rw[I] at L;rcases g0 with g|yn
   rotate_left
   exact hY yn E I L.1 L.2;have L:lX _ _ _:=L;cases al:A g E Z with
   |some ve=>
    obtain⟨pv,ex⟩:=ve;rw[al] at L;obtain⟨an,a0⟩:=a3 g E Z pv ex al D N U a v L.1 R q;refine⟨λf _=>G.fn f, ?_⟩;have ab:∀c,H.o.op≠ .defer c:=λc af=>by simp[cB,af] at I
    rw[Oper.semAt_eq _ _ _ ab,NA R q I an,Oper.uponIn_enter];refine⟨λhd=>by rw[G.uk] at hd;simp at hd,CallsIn.mono (G.calls a0) (λe J d=> ?_)⟩;obtain⟨i,rfl,x,hl⟩:=d;exact hK _ N i _ J (hl.put _ _) (λt ht=>iX ht) (λX C _=>by rw[iY];exact aeB C) (x.put H.o.dst pv) L.2
   |none=>
   rw[al] at L;obtain⟨ts,ks,l,c1,c2,c3,c4,c5⟩:=L;simp only[S.cV,ayz] at c4;obtain⟨⟨hb,-⟩,a5⟩:=c4;have an:=w.ym g (.inl (by rw[c1];rfl));have a0:=c5 U v (by rw[w.pt];exact(R.mem.Ur _).jP (adi _ _));refine⟨λf _=>G.fn f, ?_⟩;have ab:∀c,H.o.op≠ .defer c:=λc af=>by simp[cB,af] at I
   rw[Oper.semAt_eq _ _ _ ab,NA R q I an,Oper.uponIn_enter];refine⟨λhd=>by rw[G.uk] at hd;simp at hd,CallsIn.mono (G.calls a0) (λe J d=> ?_)⟩;cases e with
   |returned M=>
    obtain⟨xs,q1,q2,q3,q4,q5⟩:=d;rw[w.pt] at q4;obtain⟨e1,e2,e3,e4⟩:=ss ks (Z.cut E ks);subst q2;have R1:ap p.S0 p.w0 D u.ty U N (Z.cut E ks) a v:=R.jP (Ah E ks Z.rs);have x:=(R1.called (Jk hb (Ah E ks Z.rs).len) a5 q1 q3 (λb hb=>aec R hb) q4).put H.o.dst (one l);refine hK _ (N.ext xs) U _ J (ba.put (s:=Z) ⟨yb _ _ _ _,by rw[e1];exact λ_ h=>h,by rw[e1];exact ayH _,by rw[e3];exact ayH _⟩ _ _) (λt ht=>by rw[iX ht,e2];rfl) (λX C _=>by rw[iY,e1];exact C) x q5
   |panicked ch=>exact HP ch a J _ _ (R.bY.below d.1) d.2
   |outgrown=>exact d.elim
  |aR M=>
   rw[I] at L;refine⟨λf _=>G.fn f, ?_⟩;have ab:∀c,H.o.op≠ .defer c:=λc af=>by simp[cB,af] at I
   rw[Oper.semAt_eq _ _ _ ab,ad7 R q I];exact a4 M L
  |no=>rw[I] at L;exact L.elim
  |op=>
   rw[I] at L;simp only at L;cases B:cK u H.o H.aZ H.dr Z with
   |some b=>
    rw[B] at L;obtain⟨C,L⟩:=L;obtain⟨M,J,rv,a1,a6,x,hl⟩:=U0 R w.jo q B C;exact yi G a1 (Vl B) (hK b.s _ U _ J hl (VD (by rw[a2] at B;exact B)) (λX C _=>by rw[(JD (by rw[a2] at B;exact B)).2.2];exact C) x (L rv (by rw[w.pt];exact a6)))
   |none=>
   rw[B] at L;obtain⟨z,h3,h4⟩:=L;have ag:=FG h3;obtain⟨M,J,i,a1,x,hl⟩:=Jl R w.jo q H ag;exact yi G a1 (Ju ag) (hK z N i _ J hl (aeK ag) (aeZ ag) x h4)
def ape{X:Type}{W Z:List X}{m x:X}(h:x∈(W++Z).dropLast):x∈(W++m::Z).dropLast:=by
 rw[aAB (by simp)];cases Z with
 |nil=>
  rw[aAc] at h;exact azp _ ((aBV _).subset h)
 |cons y Z=>
  rw[aAB (by simp)] at h;rcases ayL.1 h with h|h;exact azp _ h;rw[List.dropLast_cons_cons];exact az8 _ (azG _ h)
def apf(bo:Ai k A)(br:NR p u A){Kn:List LC->aa->S->Prop}{Kp:List LC->aa->SV->S->Prop}{Yp:List LC->OM->List OM->aa->S->Nat->List SV->Prop}{F:Fence}(hF:mJ F)(ok:iW p u){D:bz}{Q:Exit->Act->World->Prop}(HP:∀ch C Z pd y,cG p.w0 D pd y C.defers Z->p.R (.panicked ch) Z->Q (.panic ch) C Z)(hC:FR k U)
  {s0:S}{O0:aa}{V0:List Nat}{L0:List LC}
  (hk:∀M N J C Z I,ba s0 O0 V0 M N J->bW s0.ao L0 I->ap p.S0 p.w0 D u.ty J N M C Z->Kn I N M->Q .normal C Z)
  (a9:∀v M N J C Z I,ba s0 O0 V0 M N J->bW s0.ao L0 I->ap p.S0 p.w0 D u.ty J N M C Z->Kp I N v M->Q (.panic [{v:=v.den N J,recovered:=false}]) C Z)
  (hy:∀(L:List LC)(m:OM)(bb:List OM)(s:S)(O:aa)(V:List Nat)(a:Act)(W:World)(yn:Nat)(a1:List SV)(B:Ending->World->Prop),ba s0 O0 V0 s O V->bW s0.ao L0 L->ap p.S0 p.w0 D u.ty V O s a W->dg u.gl O->Yp L m bb O s yn a1->
   (∀v M N J Z I,ba s O V M N J->bW s.ao L I->ap p.S0 p.w0 D u.ty J N M a Z->cD p u k A (Kn I) (Kp I) (Yp I) bb N (M.put m.o.dst v)->B (.returned (v.den N J)) Z)->
   (∀v M N J Z I,ba s O V M N J->bW s.ao L I->ap p.S0 p.w0 D u.ty J N M a Z->Kp I N v M->B (.panicked [{v:=v.den N J,recovered:=false}]) Z)->
   (∀ch Z pd y,cG p.w0 D pd y a.defers Z->p.R (.panicked ch) Z->B (.panicked ch) Z)->
   ∀(m:Nat),YieldAt F m p.P (O.y.getD yn 0) (SV.au O V a1).toArray W B):
  ∀(ab:Nat)(listed:Array Bool)(w:List OM)(s:S)(O:aa)(V:List Nat)(a:Act)(W:World)(L:List LC),w.length=ab->JE k U listed w->(∀m∈w,m.dr=true)->(∀m∈w,∀t,m.o.op=.alloc t->Cw u t=true)->(w.Pairwise λa b=>dR a.o.op=true->dR b.o.op=true->a.ix≠b.ix)->(((∀m∈w,VN s m)/\(∀m∈w.dropLast,FQ s m))\/(w.Pairwise λx y=>(U.getD y.j 0).testBit x.j=true))->ba s0 O0 V0 s O V->bW s0.ao L0 L->ap p.S0 p.w0 D u.ty V O s a W->dg u.gl O->cD p u k A (Kn L) (Kp L) (Yp L) w O s->
   wpAnyIn F X p.P .any k Q ab listed a W:=by
 intro ab;induction ab with
 |zero=>
  intro listed w s O V a W L a2 z a4 hZ bd q hl hL R hg h;have bt:w=[]:=azw.1 a2;subst bt;refine⟨?_,hk s O V a W L hl hL R h⟩;cases hr:Region.ready .any k listed with
  |nil=>rfl
  |cons i r=>
   obtain⟨h1,o,ho,-⟩:=mem_ready.1 (show i∈Region.ready .any k listed by rw[hr];simp);have:=(z.un i (ay0.1 ho).1).1 h1;obtain⟨m,hm,-⟩:=this;cases hm
 |succ ab ih=>
  intro listed w s O V a W L a2 z a4 hZ bd q hl hL R hg h;refine⟨λhr=> ?_,λi hi=> ?_⟩
  
  exfalso;cases w with
  |nil=>simp at a2
  |cons m l=>
   have af:=z.mem m (by simp);have:m.j∈Region.ready .any k listed:=by
    refine mem_ready.2 ⟨(z.un m.j (ay0.1 af).1).2 ⟨m,by simp,rfl⟩,m.o,af,λe he hb=> ?_⟩;rcases z.tp [] m l rfl e.on (ae2 he hb) with h1|⟨x,H,-⟩;exact h1;cases H
   rw[hr] at this;cases this
  obtain⟨h1,o,ho,bx⟩:=mem_ready.1 hi;obtain⟨m,hm,rfl⟩:=(z.un i (ay0.1 ho).1).1 h1;obtain⟨G,l,rfl⟩:=aCc hm;have af:=z.mem m hm;rw[af] at ho;cases ho;have hd:∀e∈iF m.o,listed.getD e false=true:=λe he=>by
   obtain⟨ed,h2,h3,rfl⟩:=ae3 he;exact bx ed h2 h3
  have bf:∀x∈G,¬(U.getD m.j 0).testBit x.j=true:=by
   intro x H h2;have b0:=z.mem x (by simp[H]);have a5:x.j<k.size:=(ay0.1 b0).1;have h3:=apb hC z m.j m.o af hd x.j a5 h2;have h4:=(z.un x.j a5).2 ⟨x,by simp[H],rfl⟩;have b1:x.j<listed.size:=by rw[z.sz];exact a5
   simp[b1] at h3 h4;rw[h3] at h4;cases h4
  have bg:∀x∈G,pA k x m=true:=by
   intro x H;have b2:=(ay6.1 z.pr).2.2 x H m (by simp);rcases b2 with h2|h2;exact absurd h2 (bf x H);exact h2
  have a6:=ay6.1 z.ds;have ag:=ay6.1 bd;have hb:cD p u k A (Kn L) (Kp L) (Yp L) (m::(G++l)) O s:=by
   rcases q with⟨a7,q⟩|q;exact ae1 bo G s O bg (λx H=>q x (by rw[aAB (by simp)];exact azp _ H)) (a7 m hm) a6.1 (λx H al a3 e=>ag.2.2 x H m (by simp) al a3 e.symm) (hZ m hm) R.ei R.eb R.er h;cases G with
   |nil=>exact h
   |cons x G=>exact absurd ((ay6.1 q).2.2 x (by simp) m (by simp)) (bf x (by simp))
  have bk:∀(M:S)(N:aa)(J:List Nat)(C:Act)(Z:World)(I:List LC),(((∀m∈G++l,VN M m)/\(∀m∈(G++l).dropLast,FQ M m))\/((G++l).Pairwise λx y=>(U.getD y.j 0).testBit x.j=true))->ba s0 O0 V0 M N J->bW s0.ao L0 I->ap p.S0 p.w0 D u.ty J N M C Z->dg u.gl N->cD p u k A (Kn I) (Kp I) (Yp I) (G++l) N M->wpAnyIn F X p.P .any k Q ab (listed.setIfInBounds m.j true) C Z:=
   λM N J C Z I b3 g an B b4 a0=>ih _ (G++l) M N J C Z I (by simp at a2⊢;omega) (apc z hd) (λx H=>a4 x (by rcases ayL.1 H with E|E<;>simp[E])) (λx H=>hZ x (by rcases ayL.1 H with E|E<;>simp[E]))
    (ay6.2 ⟨ag.1,(ayY.1 ag.2.1).2,λa ha b hb=>ag.2.2 a ha b (by simp[hb])⟩) b3 g an B b4 a0
  have b5:aCa (G++l) (G++m::l):=aAN (aAZ _) (aAD _ _);refine apd hF ok br HP hb R hg af (a4 m hm) (λM N J C Z g b6 b7 B a0=> ?_) (λv hv=>a9 v s O V a W L hl hL R hv) (λyn a1 hc bl b8=> ?_);refine bk M N J C Z L ?_ (hl.trans g) hL B (hg.ext g.ext) a0;rcases q with⟨a7,q⟩|q;left;refine⟨λx H al=>b7 x.ix (a7 x (by rcases ayL.1 H with E|E<;>simp[E]) al) (λa3=>by
   rcases ayL.1 H with E|E;exact ag.2.2 x E m (by simp) al a3;exact λe=>(ayY.1 ag.2.1).1 x E a3 al e.symm),λx H=> ?_⟩
  intro d a8;have ca:m.o.dst≠some d:=by
   rcases ayL.1 ((aBV _).subset H) with E|E;exact a6.2.2 x E m (by simp) d a8;intro he;exact(ayY.1 a6.2.1).1 x E d he a8
  exact VM ⟨by rw[<-R.ei,<-B.ei];exact g.ext.li,by rw[<-R.eb,<-B.eb];exact g.ext.lb,by rw[<-R.er,<-B.er];exact g.ext.lr,g.mono⟩ (b6 d ca) (q x (ape H) d a8);exact .inr (q.sublist b5);have cc:G=[]:=by
   cases G with
   |nil=>rfl
   |cons x G=>
    have:=(ae0 (bg x (by simp))).2;rw[bl] at this;cases this
  subst cc;have cl:l.Pairwise λx y=>(U.getD y.j 0).testBit x.j=true:=z.so [] m l rfl bl
  have hY:=hy L m l s O V a W yn a1 (λe Z=>match e with
    |.returned v=>wpAnyIn F X p.P .any k Q ab (listed.setIfInBounds m.j true) (a.put m.o.dst v) Z
    |.panicked ch=>Q (.panic ch) a Z
    |.outgrown=>LetsOut Q) hl hL R hg b8
   (λv M N J Z I g an B a0=>bk (M.put m.o.dst v) N J _ Z I (.inr cl) (hl.trans (g.put _ _)) (hL.trans an hl.ao) (B.put m.o.dst v) (hg.ext g.ext) a0)
   (λv M N J Z I g an B hs=>a9 v M N J a Z I (hl.trans g) (hL.trans an hl.ao) B hs)
   (λch Z pd y q hR=>HP ch a Z pd y q hR) (X-1)
  obtain⟨fn,cx,assign,body,cp,cs⟩:=hY;refine⟨λf _=>hF.fn f, ?_⟩;have ct:∀c,m.o.op≠ .defer c:=λc cv=>by simp[cB,cv] at hc
  rw[Oper.semAt_eq _ _ _ ct,ad6 R hg hc,cp];rw[Oper.uponIn_round];refine⟨λhd=>by rw[hF.uk] at hd;simp at hd,RoundIn.mono cs (λe Z he=> ?_)⟩;cases e<;>exact he
end
end
variable{b:Code}
section
def NS:Option Nat->Fence
 |none=>Fence.wide
 |some l=>Fence.wide.inRound l
def yw:∀i,mJ (NS i)
 |none=>aox
 |some l=>ad4 l
def apg:∀i,(NS i).round=i
 |none=>rfl
 |some _=>rfl
def mJ.room{F:Fence}(X:mJ F)(n:Nat):F.room n:=λd Z=>by rw[X.uk] at Z;cases Z
def gP(i:Option Nat)(j:FuncId)(P:Program)(c:Code)(Q:Exit->Act->World->Prop)(a:Act)(w:World):Prop:=
 ∀(b:Frame)(k:List Item)(Z:List Frame),b.roundOf=i->b.fn=j->
  ∃e X w',Q e X w'/\ArrivesIn (Machine.fenced P Fence.wide) P (lone (b.atR a (.code c::k)) Z w) b k Z e X w'
section
variable{i:Option Nat}{j:FuncId}{P:Program}{Q:Exit->Act->World->Prop}{a:Act}{w:World}
def yz{n:Nat}(h:b.wpIn (NS i) n P Q a w):gP i j P b Q a w:=by
 intro Z k W V _;obtain⟨e,U,w',R,X⟩:=h Z k W (V.trans (apg i).symm) ((yw i).fn _) ((yw i).room _);rw[(yw i).eq] at X;exact⟨e,U,w',R,X⟩
def aph{X:Exit->Act->World->Prop}(h:gP i j P b Q a w)(W:∀e a w,Q e a w->X e a w):gP i j P b X a w:=
 λZ k V U R=>let⟨e,O,w',q,r⟩:=h Z k V U R;⟨e,O,w',W _ _ _ q,r⟩
def VP{y:Code}(h:gP i j P b (Exit.then (gP i j P y Q) Q) a w):gP i j P (Code.seq b y) Q a w:=by
 intro Z k O N M;have X:(lone (Z.atR a (.code (.seq b y)::k)) O w).fenced P Fence.wide:=fenced_wide _ _;obtain⟨e,U,R,W,V⟩:=h Z (.code y::k) O N M;cases e with
 |normal=>
  obtain⟨L,J,I,H,G⟩:=W Z k O N M;exact⟨L,J,I,H,.of_steps (.head X stepR_seq V) G⟩
 |exit id=>exact⟨_,U,R,W,.of_steps (.one X stepR_seq) (.pass (x:=.code y) rfl (λ_ _=>.inl (by simp)) V)⟩
 |goto l=>exact⟨_,U,R,W,.of_steps (.one X stepR_seq) (.pass (x:=.code y) rfl (λ_ _=>.inl (by simp)) V)⟩
 |ret=>exact⟨_,U,R,W,.of_steps (.one X stepR_seq) (.pass (x:=.code y) rfl (λ_ _=>.inl (by simp)) V)⟩
 |panic F=>exact⟨_,U,R,W,.of_steps (.one X stepR_seq) (.pass (x:=.code y) rfl (λ_ _=>.inl (by simp)) V)⟩
 |outgrown=>exact⟨_,U,R,W,.of_steps (.one X stepR_seq) (.pass (x:=.code y) rfl (λ_ _=>.inl (by simp)) V)⟩
def api(h:gP i j P b (Exit.inBlock X Q) a w):gP i j P (Code.block X b) Q a w:=by
 intro Z k E D C;have W:(lone (Z.atR a (.code (.block X b)::k)) E w).fenced P Fence.wide:=fenced_wide _ _;obtain⟨e,R,O,V,U⟩:=h Z (.inBlock X::k) E D C;cases e with
 |normal=>exact⟨.normal,R,O,V,.head W stepR_block (StepsIn.trans U (.one (fenced_wide _ _) stepR_inBlock))⟩
 |exit M=>
  by_cases hid:M=X;simp only[Exit.inBlock,hid,if_true] at V;exact⟨.normal,R,O,V,.head W stepR_block (U.1 k (by simp[exitTo,hid]))⟩;simp only[Exit.inBlock,hid,if_false] at V;have this:(X==M)=false:=by simp;exact λh=>hid h.symm
  have L:exitTo M (.inBlock X::k)=exitTo M k:=by simp[exitTo,this]
  exact⟨.exit M,R,O,V,λJ N=>.head W stepR_block (U.1 J (by rw[L];exact N)),
   λI N=>let⟨H,G,F⟩:=U.2 I (by rw[L];exact N);⟨H,G,.head W stepR_block F⟩⟩
 |goto l=>
  have L:gotoIn l (.inBlock X::k)=gotoIn l k:=by simp[gotoIn]
  exact⟨_,R,O,V,λJ N=>.head W stepR_block (U.1 J (by rw[L];exact N)),
   λI N=>let⟨H,G,F⟩:=U.2 I (by rw[L];exact N);⟨H,G,.head W stepR_block F⟩⟩
 |ret=>exact⟨_,R,O,V,.of_steps (.one W stepR_block) U⟩
 |panic B=>exact⟨_,R,O,V,.of_steps (.one W stepR_block) U⟩
 |outgrown=>exact⟨_,R,O,V,.of_steps (.one W stepR_block) U⟩
def apj(h:gP i j P b (λe a w=>(∀l,e≠ .goto l)/\Q e a w) a w):gP i j P (Code.scope b) Q a w:=by
 intro Z k X J I;have W:(lone (Z.atR a (.code (.scope b)::k)) X w).fenced P Fence.wide:=fenced_wide _ _;have V:step P (lone (Z.atR a (.code (.scope b)::k)) X w)=.next (lone (Z.atR a (.code b::.inScope b::k)) X w):=step_lone_go (by simp[stepG,stepG.exec,Frame.atR])
 have H:∀a w,step P (lone (Z.atR a (.inScope b::k)) X w)=.next (lone (Z.atR a k) X w):=λa w=>step_lone_go (by simp[stepG,stepG.exec,Frame.atR])
 obtain⟨e,R,O,⟨G,N⟩,U⟩:=h Z (.inScope b::k) X J I;cases e with
 |normal=>exact⟨.normal,R,O,N,.head W V (StepsIn.trans U (.one (fenced_wide _ _) (H _ _)))⟩
 |exit id=>
  have L:exitTo id (.inScope b::k)=exitTo id k:=by simp[exitTo]
  exact⟨.exit id,R,O,N,λF M=>.head W V (U.1 F (by rw[L];exact M)),λE M=>let⟨D,C,B⟩:=U.2 E (by rw[L];exact M);⟨D,C,.head W V B⟩⟩
 |goto l=>exact absurd rfl (G l)
 |ret=>exact⟨_,R,O,N,.of_steps (.one W V) U⟩
 |panic A=>exact⟨_,R,O,N,.of_steps (.one W V) U⟩
 |outgrown=>exact⟨_,R,O,N,.of_steps (.one W V) U⟩
def NT{c:Operand}{y:Code}{t:Bool}(X:a.eval c=.bool t)(h:gP i j P (if t then b else y) Q a w):gP i j P (Code.cond c b y) Q a w:=by
 intro Z k W V U;obtain⟨e,R,O,N,M⟩:=h Z k W V U;exact⟨e,R,O,N,.of_steps (.one (fenced_wide _ _) (stepR_cond X)) M⟩
def JF(i:Option Nat)(j:FuncId)(P:Program)(c:Code)(Q:Exit->Act->World->Prop):Nat->Act->World->Prop
 |0,_,_=>False
 |m+1,a,w=>gP i j P c (Exit.then (JF i j P c Q m) Q) a w
def ae4(m:Nat)(h:JF i j P b Q m a w):gP i j P (Code.loop b) Q a w:=by
 intro Z k R M L;have J:∀m a w,JF i j P b Q m a w->
   ∃e N w',Q e N w'/\ArrivesIn (Machine.fenced P Fence.wide) P (lone (Z.atR a (.code b::.inLoop b::k)) R w) Z k R e N w':=by
  intro m;induction m with
  |zero=>intro a w h;exact h.elim
  |succ m I=>
   intro a w h;obtain⟨e,X,W,V,U⟩:=h Z (.inLoop b::k) R M L;have O:∀{e:Exit},e≠ .normal->ArrivesIn (Machine.fenced P Fence.wide) P (lone (Z.atR a (.code b::.inLoop b::k)) R w) Z (.inLoop b::k) R e X W->ArrivesIn (Machine.fenced P Fence.wide) P (lone (Z.atR a (.code b::.inLoop b::k)) R w) Z k R e X W:=
    λH G=>.pass (x:=.inLoop b) rfl (λ_ _=>.inl H) G
   cases e with
   |normal=>
    obtain⟨F,E,D,C,B⟩:=I X W V;exact⟨F,E,D,C,.of_steps (StepsIn.trans U (.one (fenced_wide _ _) stepR_inLoop)) B⟩
   |exit id=>exact⟨_,X,W,V,O (by simp) U⟩
   |goto l=>exact⟨_,X,W,V,O (by simp) U⟩
   |ret=>exact⟨_,X,W,V,O (by simp) U⟩
   |panic A=>exact⟨_,X,W,V,O (by simp) U⟩
   |outgrown=>exact⟨_,X,W,V,O (by simp) U⟩
 obtain⟨e,N,w',V,U⟩:=J m a w h;exact⟨e,N,w',V,.of_steps (.one (fenced_wide _ _) stepR_loop) U⟩
def apk(I:Nat->Act->World->Prop)(X:Nat)(U:I X a w)
  (round:∀n a w,I n a w->gP i j P b (Exit.then (λV w'=>∃W,W<n/\I W V w') Q) a w):gP i j P (Code.loop b) Q a w:=by
 refine ae4 (X+1) ?_;have R:∀N n a w,n<N->I n a w->JF i j P b Q N a w:=by
  intro N;induction N with
  |zero=>intro n a w h;omega
  |succ N O=>
   intro n a w J M;refine aph (round n a w M) ?_;intro e V w' Z;cases e with
   |normal=>
    obtain⟨W,H,L⟩:=Z;exact O W V w' (by omega) L
   |exit id=>exact Z
   |goto l=>exact Z
   |ret=>exact Z
   |panic G=>exact Z
   |outgrown=>exact Z
 exact R (X+1) X a w (by omega) U
def VQ(i:Option Nat)(j:FuncId)(P:Program)(l:Nat)(Q:Exit->Act->World->Prop)(Z:Act):Ending->World->Prop
 |.returned _,X=>∃V W,(Instr.endLoop l).run P X=.ok V W/\
   (match V with
    |none=>Q .normal Z W
    |some c=>gP i j P c Q Z W)
 |.panicked chain,X=>Q (.panic chain) Z X
 |.outgrown,_=>False
def apl{g:Operand}{X:Array Tmp}{assign body:Code}
  (h:∃(l:Nat)(mark:List Deferred)(W:World)(d:Deferred)(V:World)(f:FuncId)(U:Array Value)(R:World),
   (Instr.enterLoop j a.tmps X assign body i).run P w=.ok (l,mark) W/\
   (resolve a.eval (rangeCall g l) 0).run P W=.ok d V/\
   (invoke d.target d.args).run P V=.ok (.enter f U) R/\
   Calls P f U R (VQ i j P l Q {a with defers:=mark++a.defers})):
  gP i j P (Code.rangeFunc g X assign body) Q a w:=by
 intro b k Z M L;obtain⟨l,mark,W,d,V,f,U,R,J,A,z,O⟩:=h;obtain⟨p,O⟩:=(callsIn_wide (n:=0)).2 O;rw[<-M,<-L] at J;have I:(lone (b.atR a (.code (.rangeFunc g X assign body)::k)) Z w).fenced P Fence.wide:=fenced_wide _ _;have H:=stepR_rangeFunc (P:=P) (b:=b) (a:=a) (k:=k) (cs:=Z) (w:=w) J A z;obtain⟨e,y,o,N,G,m,F⟩:=O (b.atR {a with defers:=mark++a.defers} (.inRangeFunc l::k)::Z) (room_wide _);cases e with
 |outgrown=>exact N.elim
 |returned v=>
  obtain⟨E,D,x,C⟩:=N;have B:StepsIn (Machine.fenced P Fence.wide) P (lone (b.atR a (.code (.rangeFunc g X assign body)::k)) Z w) (lone (b.atR {a with defers:=mark++a.defers} ((E.map Item.code).toList++k)) Z D):=by
   refine .head I H (StepsIn.trans G (.head (fenced_wide _ _) ?_ (.one (fenced_wide _ _) (stepR_endRangeFunc x))));rw[<-finish_atR_inRangeFunc l v];exact step_leave_returned F
  cases E with
  |none=>exact⟨.normal,_,D,C,B⟩
  |some c=>
   obtain⟨u,t,s,r,q⟩:=C b k Z M L;exact⟨u,t,s,r,.of_steps B q⟩
 |panicked chain=>
  refine⟨.panic chain,_,y,N,.inRangeFunc l::k,.head I H (StepsIn.trans G (.one (fenced_wide _ _) ?_))⟩;rw[<-Frame.raise_atR];exact step_leave_panicked F
end
def JG{P:Program}{O:Func}{W:Array Value}{R:Ending->World->Prop}
  (E:P.funcs[l]?=some O)(z:O.body=some b)
  (h:gP none l P b (bodyPostM Fence.wide 0 P O R) {tmps:=W++aBd (O.ntmps-W.size) undef,defers:=[]} v):Calls P l W v R:=by
 refine(callsIn_wide (n:=0)).1 ⟨trivial,λD C=> ?_⟩;let Z:Frame:={(default:Frame) with fn:=l,kind:=.normal,roundOf:=none};have y:Frame.enter P l W .normal=
   Z.atR {tmps:=W++aBd (O.ntmps-W.size) undef,defers:=[]} [.code b]:=by
  simp[Frame.enter,Frame.atR,E,z,Z]
 obtain⟨e,V,w',U,N⟩:=h Z [] D rfl rfl;rw[<-y] at N;cases e with
 |normal=>
  obtain⟨M,L,J,I,H,G,F⟩:=leaves_stepsInM V.defers .returning w' {Z.atR V [] with mode:=.returning} D rfl rfl rfl E rfl trivial C U;exact⟨M,L,J,I,ComesIn.of_steps (StepsIn.trans N (.one (fenced_wide _ _) (stepR_end rfl))) H,G,F⟩
 |ret=>
  obtain⟨B,A⟩:=N.1 rfl;obtain⟨M,L,J,I,H,G,F⟩:=leaves_stepsInM V.defers .returning w' {Z.atR V B with mode:=.returning} D rfl rfl rfl E rfl trivial C U;exact⟨M,L,J,I,ComesIn.of_steps A H,G,F⟩
 |panic chain=>
  obtain⟨B,A⟩:=N;obtain⟨M,L,J,I,H,G,F⟩:=leaves_stepsInM V.defers (.panicking chain) w' {Z.atR V B with mode:=.panicking chain} D rfl rfl rfl E rfl trivial C U;exact⟨M,L,J,I,ComesIn.of_steps A H,G,F⟩
 |exit id=>exact U.elim
 |goto X=>exact U.elim
 |outgrown=>exact⟨.outgrown,w',Z,U,N.resolve_left (by simp[Z]),rfl,trivial⟩
def apm(P:Program)(l:Nat)(R:Ending->World->Prop):Exit->Act->World->Prop
 |.normal,_,w=>∃v w',(Instr.endRound l none).run P w=.ok v w'/\R (.returned v) w'
 |.ret,_,w=>∃v w',(Instr.endRound l (some .ret)).run P w=.ok v w'/\R (.returned v) w'
 |.exit id,_,w=>∃v w',(Instr.endRound l (some (.exit id))).run P w=.ok v w'/\R (.returned v) w'
 |.panic Z,a,w=>a.defers=[]/\R (.panicked Z) w
 |_,_,_=>False
def apn{F:Fence}(u:mJ F){P:Program}{s:Func}{B:Array Value}{assign body:Code}{R:Ending->World->Prop}(r:P.funcs[l]?=some s)
  (h:gP (some x) l P assign (λe M L=>(e=.normal/\∃A,(Instr.beginRound x).run P L=.ok () A/\gP (some x) l P body (apm P x R) M A)\/∃G,e=.panic G/\M.defers=[]/\R (.panicked G) L)
   {tmps:=B,defers:=[]} v):
  RoundIn F X P x l B assign body v R:=by
 refine⟨u.fn l,λc U hr=> ?_⟩;let b:Frame:={(default:Frame) with fn:=l,kind:=.normal,roundOf:=some x};have q:Frame.round x l B assign body .normal=b.atR {tmps:=B,defers:=[]} [.code assign,.beginRound,.code body]:=by
  simp[Frame.round,Frame.atR,b]
 have ab:(Fence.wide.inRound x).room ((c::U).length+1+X):=(ad4 x).room _;obtain⟨e,M,L,p,J⟩:=h b [.beginRound,.code body] (c::U) rfl rfl;rw[<-q] at J;rw[u.eq];have FT:∀(m:Machine)(I:Act)(O:World)(chain:List PanicEntry)(N:List Item),I.defers=[]->StepsIn (Machine.fenced P Fence.wide) P m (lone {b.atR I N with mode:=.panicking chain} (c::U) O)->StepsIn (Machine.fenced P Fence.wide) P m (lone (c.raise chain) U O):=by
  intro m I O chain N E W;have o:({b.atR I N with mode:=.panicking chain}:Frame).leaving P O (.panicked chain):=⟨rfl,E,s,r⟩;exact StepsIn.trans W (.one (fenced_wide _ _) (step_leave_panicked o))
 rcases p with⟨rfl,A,k,j⟩|⟨G,rfl,E,V⟩;have z:StepsIn (Machine.fenced P Fence.wide) P (lone (b.atR M [.beginRound,.code body]) (c::U) L) (lone (b.atR M [.code body]) (c::U) A):=
  .one (fenced_wide _ _) (stepR_beginRound rfl k)
 obtain⟨i,I,O,H,y⟩:=j b [] (c::U) rfl rfl;cases i with
 |normal=>
  obtain⟨Z,D,C,V⟩:=H;exact⟨.returned Z,D,V,(StepsIn.trans J z).trans (StepsIn.trans y (.one (fenced_wide _ _) (stepR_round_end rfl rfl C)))⟩
 |ret=>
  obtain⟨Z,D,C,V⟩:=H;obtain⟨g,W⟩:=y.2 rfl;exact⟨.returned Z,D,V,(StepsIn.trans J z).trans (StepsIn.trans W (.one (fenced_wide _ _) (stepR_round_ret rfl rfl C)))⟩
 |exit id=>
  obtain⟨Z,D,C,V⟩:=H;obtain⟨g,d,W⟩:=y.2 rfl rfl;exact⟨.returned Z,D,V,(StepsIn.trans J z).trans (StepsIn.trans W (.one (fenced_wide _ _) (stepR_round_exit rfl rfl d C)))⟩
 |goto t=>exact H.elim
 |panic chain=>
  obtain⟨E,V⟩:=H;obtain⟨N,W⟩:=y;exact⟨.panicked chain,O,V,FT _ I O chain N E ((StepsIn.trans J z).trans W)⟩
 |outgrown=>exact H.elim
 obtain⟨N,W⟩:=J;exact⟨.panicked G,L,V,FT _ M L G N E W⟩
end
section
mutual
def IE.cO(O:aa)(y:List Nat):∀(e:IE),e.den (O.at y)=e.den O
 |.c n=>by simp[IE.den]
 |.v k=>by simp[IE.den,aa.at]
 |.bin o k a b=>by simp only[IE.den];rw[IE.cO O y a,IE.cO O y b]
 |.conv k a=>by simp only[IE.den];rw[IE.cO O y a]
 |.len r=>by simp only[IE.den];rw[RE.jp O y r]
 |.mm m a b=>by simp only[IE.den];rw[IE.cO O y a,IE.cO O y b]
 |.b9 b x z=>by simp only[IE.den];rw[BE.cO O y b,IE.cO O y x,IE.cO O y z]
 |.cell r i j=>by simp only[IE.den];rw[RE.jp O y r,IE.cO O y i]
 |.j6 r i=>by simp only[IE.den];rw[RE.jp O y r,IE.cO O y i]
 |.look r n a b c j=>by simp only[IE.den];rw[RE.jp O y r,IE.cO O y a,IE.cO O y b,IE.cO O y c]
def BE.cO(O:aa)(y:List Nat):∀(e:BE),e.den (O.at y)=e.den O
 |.c b=>by simp[BE.den]
 |.v k=>by simp[BE.den,aa.at]
 |.cmp o a b=>by simp only[BE.den];rw[IE.cO O y a,IE.cO O y b]
 |.not a=>by simp only[BE.den];rw[BE.cO O y a]
 |.and a b=>by simp only[BE.den];rw[BE.cO O y a,BE.cO O y b]
 |.beq a b=>by simp only[BE.den];rw[BE.cO O y a,BE.cO O y b]
 |.b9 b x z=>by simp only[BE.den];rw[BE.cO O y b,BE.cO O y x,BE.cO O y z]
 |.cell r i j=>by simp only[BE.den];rw[RE.jp O y r,IE.cO O y i]
 |.seq a b=>by simp only[BE.den];rw[RE.jp O y a,RE.jp O y b]
 |.look r n a b c j=>by simp only[BE.den];rw[RE.jp O y r,IE.cO O y a,IE.cO O y b,IE.cO O y c]
 |.has r n a b c=>by simp only[BE.den];rw[RE.jp O y r,IE.cO O y a,IE.cO O y b,IE.cO O y c]
def RE.jp(O:aa)(y:List Nat):∀(e:RE),e.rv (O.at y)=e.rv O
 |.v k=>by simp[RE.rv,aa.rv,aa.at]
 |.cell r i j k=>by simp only[RE.rv];rw[RE.jp O y r,IE.cO O y i]
 |.k v=>by simp[RE.rv]
end
def SV.VR(O:aa)(y:List Nat)(v:SV):v.xv (O.at y)=v.xv O:=by
 cases v<;>simp[SV.xv,IE.cO,BE.cO,RE.jp]
def SV.apo(O:aa)(y:List Nat)(v:SV):v.bu (O.at y)=v.bu O:=by
 cases v<;>simp[SV.bu,IE.cO,BE.cO,RE.jp]
def SV.NU(O:aa)(y:List Nat):SV.bu (O.at y)=SV.bu O:=funext (SV.apo O y)
def LE.CW(O:aa)(y:List Nat):∀(e:LE),e.rows (O.at y)=e.rows O
 |.ref r=>by simp only[LE.rows,RE.jp]
 |.lit l=>by simp only[LE.rows,SV.NU]
 |.jH a b=>by simp only[LE.rows];rw[LE.CW O y a,LE.CW O y b]
 |.pl n X=>by simp only[LE.rows,SV.NU,IE.cO]
 |.set a i U Z=>by simp only[LE.rows,SV.NU,IE.cO];rw[LE.CW O y a]
 |.sub a R Q=>by simp only[LE.rows,IE.cO];rw[LE.CW O y a]
 |.ins a n Z=>by simp only[LE.rows,SV.NU];rw[LE.CW O y a]
def JH:∀(Z:List XV)(O:aa)(y:List Nat),(O.at y).ext Z=(O.ext Z).at y
 |[],O,y=>rfl
 |x::Z,O,y=>by
  simp only[aa.ext];rw[<-JH Z (O.add x) y];cases x<;>rfl
def apq{C:Ty}{E:List Nat}{q:World}{e:TypeId}{x:LE}{Z:List RK}{O:aa}{y:List Nat}{X:RV}(h:CE C E q e x Z (O.at y) X):CE C E q e x Z O X:=by
 obtain⟨U,R,Q⟩:=h;rw[LE.CW] at U;exact⟨U,R,Q⟩
def oB(p:Sp):∀(t:T)(O:aa)(L:List LC)(y:List Nat),t.aH p O L->t.aH p (O.at y) L
 |.out e s,O,L,y,h=>h
 |.ret v E Q,O,L,y,h=>h
 |.aR v,O,L,y,h=>h
 |.node b t f,O,L,y,h=>by
  simp only[T.aH,BE.cO] at h⊢;exact⟨λZ=>oB p t O L y (h.1 Z),λZ=>oB p f O L y (h.2 Z)⟩
 |.aF b t,O,L,y,h=>by
  simp only[T.aH,BE.cO] at h⊢;exact⟨h.1,oB p t O L y h.2⟩
 |.call f ab E Q C fe t,O,L,y,h=>by
  simp only[T.aH] at h⊢;intro B V W R;refine(h B V W R).mono ?_;intro e W' N;cases e with
  |returned v=>
   obtain⟨M,X,U,J,A,z⟩:=N;refine⟨M,X, ?_,J,A, ?_⟩;rw[JH];exact U;rw[JH];exact oB p t _ L y z
  |panicked ch=>exact N
  |outgrown=>exact N
 |.loop ao C x0 t,O,L,y,h=>by
  simp only[T.aH] at h⊢;obtain⟨I,w,X,U⟩:=h;refine⟨I,w, ?_,λM u q=> ?_⟩;have:SV.xv (O.at y)=SV.xv O:=funext (SV.VR O y);rw[this];exact X;rw[JH];exact oB p t _ _ y (U M u q)
 |.back ao x,O,L,y,h=>by
  have:SV.xv (O.at y)=SV.xv O:=funext (SV.VR O y);simp only[T.aH] at h⊢;rw[this];exact h
 |.new e x Q af t,O,L,y,h=>by
  simp only[T.aH] at h⊢;intro H m;exact oB p t (O.add (.r H)) L y (h H (apq m))
 |.rows k x Q t,O,L,y,h=>by
  simp only[T.aH] at h⊢;have:eK x (O.at y)=eK x O:=by simp only[eK,LE.CW]
  rw[this];exact oB p t (O.add (.r (eK x O))) L y h
 |.dW g l t f,O,L,y,h=>by
  simp only[T.aH,BE.cO] at h⊢;exact⟨λZ=>oB p t O L y (h.1 Z),λZ=>oB p f O L y (h.2 Z)⟩
 |.pick n g l t f,O,L,y,h=>by
  simp only[T.aH,IE.cO,BE.cO] at h⊢;refine⟨λj X U J=>oB p t (O.add (.i j)) L y (h.1 j X U ?_),λZ=>oB p f O L y (h.2 Z)⟩;have:=BE.cO (O.add (.i j)) y g;rw[<-this];exact J
 |.cA f g e c st r Q t,O,L,y,h=>by
  simp only[T.aH,RE.jp] at h⊢;obtain⟨G,X,U⟩:=h;refine⟨G, ?_,oB p t (O.add (.r (.mk (r.rv O).val G))) L y U⟩;rw[<-X];cases c with
  |bN k o P=>
   have F:IE.den (O.at y)=IE.den O:=funext λe=>IE.cO O y e
   cases st with
   |false=>simp only[gO,F]
   |true=>
    cases P with
    |nil=>rfl
    |cons i P=>
     cases P with
     |nil=>simp only[gO,F]
     |cons j P=>rfl
  |lex cs d=>rfl
  |ratio n d=>rfl
 |.stuck _,_,_,_,h=>h
mutual
def SV.JI{O:aa}{y:List Nat}{n:Nat}(Z:∀m,m≠n->y.getD m 0=O.y.getD m 0)(V:List Nat):∀(v:SV),v.sf n=false->v.den (O.at y) V=v.den O V
 |.int _ e,_=>by simp only[SV.den,IE.cO]
 |.bool e,_=>by simp only[SV.den,BE.cO]
 |.ref e,_=>by simp only[SV.den,RE.den,RE.jp]
 |.loc i _,_=>rfl
 |.el r _ i _,_=>by simp only[SV.den,RE.den,RE.jp,IE.cO]
 |.fo _ _ _ _,_=>rfl
 |.agg l,h=>by simp only[SV.den];rw[SV.FU Z V l h]
 |.bh l,h=>by simp only[SV.den];rw[SV.FU Z V l h]
 |.fn _ l,h=>by simp only[SV.den];rw[SV.FU Z V l h]
 |.dD _ x,h=>by simp only[SV.den];rw[SV.JI Z V x h]
 |.yl m,h=>by
  simp only[SV.sf,beq_eq_false_iff_ne] at h;simp only[SV.den,aa.at];rw[Z m h]
 |.any,_=>rfl
 |.mp _,_=>rfl
 |.dE e U X,h=>by simp only[SV.den,IE.cO];rw[SV.FU Z V X h]
def SV.FU{O:aa}{y:List Nat}{n:Nat}(Z:∀m,m≠n->y.getD m 0=O.y.getD m 0)(V:List Nat):∀(l:List SV),SV.mE n l=false->SV.au (O.at y) V l=SV.au O V l
 |[],_=>rfl
 |x::X,h=>by
  simp only[SV.mE,azi] at h;simp only[SV.au];rw[SV.JI Z V x h.1,SV.FU Z V X h.2]
end
def SV.apr(Z:∀m,m≠X->U.getD m 0=N.y.getD m 0)(V:List Nat)(v:SV)(h:v.sf X=false):v.eD (N.at U) V=v.eD N V:=by
 have R:=SV.JI Z V v h;cases v<;>simp only[SV.eD]<;>try rw[R]
 exact RE.jp N U _
def SV.ae5{O:aa}{y:List Nat}{n:Nat}(Z:∀m,m≠n->y.getD m 0=O.y.getD m 0)(V:List Nat):∀(l:List SV),SV.mE n l=false->SV.bX (O.at y) V l=SV.bX O V l
 |[],_=>rfl
 |x::X,h=>by
  simp only[SV.mE,azi] at h;have:=SV.ae5 Z V X h.2;simp only[SV.bX,ayO] at this⊢;rw[SV.apr Z V x h.1,this]
def ae6{n:Nat}:∀{l:List SV},SV.mE n l=false->∀v∈l,v.sf n=false
 |[],_,v,h=>by cases h
 |x::X,h,v,Z=>by
  simp only[SV.mE,azi] at h;rcases ayK.1 Z with rfl|Z;exact h.1;exact ae6 h.2 v Z
def VS{n:Nat}:∀{bx:aX},si n bx=false->∀(i:Nat)(t:TypeId)(Z:List SV),bD bx i=some (t,Z)->SV.mE n Z=false
 |[],_,i,t,Z,h=>by simp[bS] at h
 |none::U,X,0,t,Z,h=>by simp[bS] at h
 |some x::U,X,0,t,Z,h=>by
  simp only[si,azi] at X;simp[bS] at h;rw[h] at X;exact X.1
 |none::U,X,i+1,t,Z,h=>VS (bx:=U) X i t Z (by simpa[bS] using h)
 |some x::U,X,i+1,t,Z,h=>by
  simp only[si,azi] at X;exact VS (bx:=U) X.2 i t Z (by simpa[bS] using h)
section
variable{E:List Nat}{q:World}{D:bz}{C:Ty}{V:List Nat}{O:aa}{s:S}{a:Act}{W:World}
def gN.at{Z:aX}{P:List RK}(R:gN E q V O Z C P W)(N:∀m,m≠X->U.getD m 0=O.y.getD m 0)(M:si X Z=false):gN E q V (O.at U) Z C P W:=
 ⟨R.base,R.own,R.inj,λi t Q h=>by rw[SV.ae5 N V Q (VS M i t Q h)];exact R.box i t Q h,R.ref⟩
def aps{w:World}(h:dI U v w)(Q:v.heap.size<=X)(o:Obj):dI U v (w.putObj X o):=
 ⟨h.os,h.tape,h.output,by have:=h.size;simpa[World.putObj] using this,λk Z R=>(World.putObj_heap_other (by omega)).trans (h.block k Z R)⟩
def aW.cells{k:RK}{U:RV}(h:aW W C k U)(Z:cm C k U X):∃P t N,W.heap[X]?=some (.cells P t N):=by
 induction h generalizing X with
 |sl e A M L R u r J q p o Q=>
  cases Z with
  |here e a M L R=>
   have I:R[0]?=some R[0]:=ayB (by omega);obtain⟨n,X,m,H,G,-⟩:=J 0 _ I;cases H;exact G
  |deep e v R i j F c z k X E B x w=>exact Q i j F c z k E B x w
 |str s=>cases Z
 |ax v h=>cases Z
 |own e U h l Q=>
  cases Z with
  |own e U X Z=>exact Q Z
 |dead U h=>cases Z
 |mr g R=>cases Z
def gN.obj{P:aX}{N:List RK}(R:gN E q V O P C N W){o:Obj}(M:W.heap[X]?=some o)(L:Fl o=true)(H:q.heap.size<=X)(J:Obj):gN E q V O P C N (W.putObj X J):=by
 have G:∀U Z t Q,W.heap[U]?=some (.cells Z t Q)->U≠X:=λU Z t Q h e=>by subst e;rw[M] at h;cases h;exact ac9 L _ _ _ rfl
 refine⟨aps R.base H J,R.own,R.inj,λi t Z h=> ?_,λk e F B A=> ?_⟩;have:=R.box i t Z h;rw[World.putObj_heap_other (λe=>by subst e;rw[M] at this;cases this;exact ada L _ _ rfl)];exact this;obtain⟨I,z⟩:=R.ref k e F B A;refine⟨I.Fm (λU x=> ?_) (by simp[World.putObj]),z⟩;obtain⟨Z,t,Q,w⟩:=I.cells x;exact World.putObj_heap_other (G _ _ _ _ w)
def uc.obj{Z:aX}{U:List RK}{R:RV}(h:uc E q V O Z C U W X I R x){b:Nat}{o:Obj}(P:W.heap[b]?=some o)(N:Fl o=true)(M:Obj):uc E q V O Z C U (W.putObj b M) X I R x:=by
 refine h.world (World.putObj_heap_other ?_);obtain⟨L,J,H,-,Q,-⟩:=h.mem;intro I;subst I;rw[P] at Q;cases Q;exact ac9 N _ _ _ rfl
def ap.obj(R:ap E q D C V O s a W){b:Nat}{o:Obj}(X:W.heap[b]?=some o)(U:Fl o=true)(P:q.heap.size<=b)(Z:Obj){D':bz}{pd:List kw}{a':Act}(Q:a'.tmps=a.tmps)
  (N:cG q D' pd O.y a'.defers (W.putObj b Z)):ap E q D' C V O {s with pd:=pd} a' (W.putObj b Z):=
 ⟨R.mem.obj X U P Z,R.dS,R.ei,R.eb,R.er,N,by rw[Q];exact R.size,λt M h=>by rw[Q];exact R.tmps t M h,λk e L J I H G=>(R.dK k e L J I H G).obj X U Z⟩
def ny:List Nat->World->World
 |[],W=>W
 |d::ms,W=>ny ms (W.putObj d (.deferred none))
def ap.ny:∀{ms:List Nat}{a:Act}{W:World},ap E q D C V O s a W->a.defers=ms.map iT++D.base->ap E q D C V O s {a with defers:=D.base} (ny ms W)
 |[],a,W,R,h=>by
  have:({a with defers:=D.base}:Act)=a:=by cases a;simp at h;subst h;rfl
  rw[this];exact R
 |d::ms,a,W,R,h=>by
  obtain⟨L,X,J,P,N⟩:=R.bY.jL;have I:L=d::ms:=by
   rw[h] at X;have X:=aBC X;have H:∀(l Z:List Nat),l.map iT=Z.map iT->l=Z:=by
    intro l;induction l with
    |nil=>intro Z h;cases Z<;>simp at h;rfl
    |cons x k G=>
     intro Z h;cases Z with
     |nil=>simp at h
     |cons z F=>
      simp only[ayO,azK,iT,Deferred.mk.injEq,Target.collected.injEq] at h;obtain⟨⟨rfl,-⟩,h⟩:=h;rw[G F h]
   exact(H _ _ X).symm
  subst I;have U:=N d (by simp);have B:cG q D s.pd O.y (ms.map iT++D.base) (W.putObj d (.deferred none)):=by
   refine⟨R.bY.len,R.bY.oo,λn l r A w v=> ?_,R.bY.inj,ms,rfl,λu=>(by have:=J u;cases this),(aAj.1 P).2,λt M=> ?_⟩;obtain⟨p,Q,o⟩:=R.bY.cC n l r A w v;exact⟨p,(World.putObj_heap_other (λe=>by subst e;rw[U.1] at Q;cases Q)).trans Q,o⟩;have:=N t (by simp only[ayP,ayK];exact .inr M);refine⟨(World.putObj_heap_other (λe=>by subst e;exact(aAj.1 P).1 M)).trans this.1,this.2⟩
  have m:=R.obj U.1 rfl U.2 (.deferred none) (D':=D) (pd:=s.pd) (a':={a with defers:=ms.map iT++D.base}) rfl B;exact ap.ny (a:={a with defers:=ms.map iT++D.base}) (W:=W.putObj d (.deferred none)) m rfl
def cG.ny:∀{ms:List Nat}{pd:List kw}{y:List Nat}{W:World},cG q D pd y (ms.map iT++D.base) W->cG q D pd y D.base (ny ms W)
 |[],pd,y,W,h=>h
 |d::ms,pd,y,W,h=>by
  obtain⟨N,X,M,R,Q⟩:=h.jL;have L:N=d::ms:=by
   have X:=aBC X;have J:∀(l Z:List Nat),l.map iT=Z.map iT->l=Z:=by
    intro l;induction l with
    |nil=>intro Z h;cases Z<;>simp at h;rfl
    |cons x u I=>
     intro Z h;cases Z with
     |nil=>simp at h
     |cons z H=>
      simp only[ayO,azK,iT,Deferred.mk.injEq,Target.collected.injEq] at h;obtain⟨⟨rfl,-⟩,h⟩:=h;rw[I H h]
   exact(J _ _ X).symm
  subst L;have G:=Q d (by simp);refine cG.ny (ms:=ms) (W:=W.putObj d (.deferred none)) ⟨h.len,h.oo,λn l r F E C=> ?_,h.inj,ms,rfl,λB=>(by have:=M B;cases this),(aAj.1 R).2,λA P=> ?_⟩;obtain⟨w,U,v⟩:=h.cC n l r F E C;exact⟨w,(World.putObj_heap_other (λe=>by subst e;rw[G.1] at U;cases U)).trans U,v⟩;have:=Q A (by simp only[ayP,ayK];exact .inr P);exact⟨(World.putObj_heap_other (λe=>by subst e;exact(aAj.1 R).1 P)).trans this.1,this.2⟩
end
def JJ{P:World->Prop}{B:Nat}(h:∀W b o,B<=b->P W->P (W.putObj b o)):∀{Z:List Nat}{W:World},(∀d∈Z,B<=d)->P W->P (ny Z W)
 |[],W,_,X=>X
 |d::Z,W,U,X=>JJ (W:=W.putObj d (.deferred none)) h (λx R=>U x (by simp[R])) (h W d _ (U d (by simp)) X)
def pI{P:Program}{X:Func}{U:Array Value}{R:Ending->World->Prop}{u:FrameMode}{Q:List Deferred}(N:u≠ .run):∀{Z:List Nat}{W:World},Z.Nodup->(∀d∈Z,W.heap[d]?=some (.deferred (some [])))->
  LeavesInM Fence.wide 0 P X U R Q u (ny Z W)->LeavesInM Fence.wide 0 P X U R (Z.map iT++Q) u W
 |[],W,_,_,h=>h
 |d::Z,W,J,M,h=>by
  obtain⟨I,H⟩:=aAj.1 J;refine⟨N,.inl ⟨d,_,rfl,run_takeDeferred (M d (by simp)),pI N H (λG L=> ?_) h⟩⟩;exact(World.putObj_heap_other (λe=>by subst e;exact I L)).trans (M G (by simp[L]))
section
variable{E:List Nat}{q:World}{D G:bz}{C:Ty}{V:List Nat}{O:aa}{s:S}{a:Act}{W:World}{pd:List kw}{y:List Nat}{F:List Deferred}
def cG.enter(h:cG q D pd y F W)(Z:(U++D.out).Nodup)(X:∀d∈U++D.out,W.heap[d]?=some (.deferred (some []))/\q.heap.size<=d)(R:Bool):cG q ⟨U++D.out,D.cC,R,[]⟩ pd y [] W:=
 ⟨h.len,h.oo,h.cC,h.inj,[],rfl,λ_=>rfl,Z,X⟩
def cG.FT(h:cG q ⟨U++D.out,D.cC,o,[]⟩ pd y [] W)(X:D.rd=true->U=[]):cG q D pd y (U.map iT++D.base) W:=by
 obtain⟨Z,R,N,Q,P⟩:=h.jL;have:Z=[]:=by cases Z<;>simp at R;rfl
 subst this;exact⟨h.len,h.oo,h.cC,h.inj,U,rfl,X,Q,P⟩
def cG.push{r:Loop}(h:cG q D pd y F W)(C:(U++D.out).Nodup)(B:∀X∈U++D.out,W.heap[X]?=some (.deferred (some []))/\q.heap.size<=X)
  (A:W.heap[X]?=some (.deferred (some [])))(z:X∉U++D.out)(w:q.heap.size<=X)(v:W.heap[x]?=some (.loop (nf r .ready)))(H:∀(n:Nat)(Q:Nat)(L:Loop),D.cC[n]?=some (Q,L)->Q≠x)(u:q.heap.size<=x):
  cG q ⟨X::(U++D.out),D.cC++[(x,r)],false,[]⟩ (pd++[.ready]) (y++[x]) [] W:=by
 refine⟨by simp[h.len],by simp[h.oo],λn Q L t R Z=> ?_,λn P Q G E R Z=> ?_,[],rfl,λ_=>rfl,by simpa using⟨by simpa using z,C⟩,λp M=> ?_⟩;by_cases N:n<D.cC.length;rw[ayD N] at R;rw[ayD (by rw[<-h.len];exact N)] at Z;obtain⟨o,m,k⟩:=h.cC n Q L t R Z;exact⟨by rw[ayD (by rw[h.oo,<-h.len];exact N)];exact o,m,k⟩;have J:n=D.cC.length:=by
  have:=(ayA.1 R).1;simp at this;omega
 subst J;simp at R;obtain⟨rfl,rfl⟩:=R;rw[h.len] at Z;simp at Z;subst Z;refine⟨?_,v,u⟩;rw[h.len,<-h.oo];simp;by_cases N:n<D.cC.length;rw[ayD N] at R;by_cases I:P<D.cC.length;rw[ayD I] at Z;exact h.inj n P Q G E R Z;have J:P=D.cC.length:=by
  have:=(ayA.1 Z).1;simp at this;omega
 subst J;simp at Z;obtain⟨rfl,rfl⟩:=Z;exact absurd rfl (H n _ G R);have j:n=D.cC.length:=by
  have:=(ayA.1 R).1;simp at this;omega
 subst j;simp at R;obtain⟨rfl,rfl⟩:=R;by_cases I:P<D.cC.length;rw[ayD I] at Z;exact absurd rfl (H P _ E Z);have:=(ayA.1 Z).1;simp at this;omega;simp only[ayU,ayK] at M;rcases M with rfl|M;exact⟨A,w⟩;exact B p M
def cG.pop{r:Loop}(h:cG q ⟨X::(U++D.out),D.cC++[(x,r)],false,[]⟩ pd y [] W)(L:D.rd=false):cG q D (pd.take D.cC.length) (y.take D.cC.length) ((X::U).map iT++D.base) W:=by
 obtain⟨N,J,w,I,H⟩:=h.jL;have:N=[]:=by cases N<;>simp at J;rfl
 subst this;have G:=h.len;have v:=h.oo;simp at G;refine⟨by simp;omega,by simp;omega,λn P F E Z R=> ?_,λn C P B A Z R=> ?_,X::U,rfl,λM=>(by rw[L] at M;cases M),I,H⟩;have Q:=(ayA.1 Z).1;rw[ay7,if_pos Q] at R⊢;exact h.cC n P F E (by rw[ayD Q];exact Z) R;have Q:=(ayA.1 Z).1;have z:=(ayA.1 R).1;exact h.inj n C P B A (by rw[ayD Q];exact Z) (by rw[ayD z];exact R)
def cG.put{r:Loop}(h:cG q D pd y F W)(N:W.heap[X]?=some (.loop r))(M:∀(n Z:Nat)(U:Loop),D.cC[n]?=some (Z,U)->Z≠X)(o:Obj):cG q D pd y F (W.putObj X o):=by
 obtain⟨L,J,I,H,R⟩:=h.jL;refine⟨h.len,h.oo,λn Z U G P E=> ?_,h.inj,L,J,I,H,λd Q=>⟨?_,(R d Q).2⟩⟩;obtain⟨C,B,A⟩:=h.cC n Z U G P E;exact⟨C,(World.putObj_heap_other (M n Z U P)).trans B,A⟩;exact(World.putObj_heap_other (λe=>by subst e;have:=(R d Q).1;rw[N] at this;cases this)).trans (R d Q).1
def cG.VT{r:Loop}(h:cG q D pd y F W)(Z:D.cC[X]?=some (x,r))(I:kw):cG q D (pd.set X I) y F (W.putObj x (.loop (nf r I))):=by
 obtain⟨C,B,A,z,P⟩:=h.jL;have H:X<pd.length:=by rw[<-h.len];exact(ayA.1 Z).1
 have R:∃N,W.heap[x]?=some (.loop N):=⟨_,(h.cC X x r pd[X] Z (ayB H)).2.1⟩;obtain⟨t,R⟩:=R;refine⟨by simp[h.len],by simp[h.oo],λG w N v Q U=> ?_,h.inj,C,B,A,z,λd M=>⟨?_,(P d M).2⟩⟩;rw[azr] at U;split at U;rename_i e;subst e;rw[Z] at Q;cases Q;simp only[ayE] at U;subst U;obtain⟨L,E,J⟩:=h.cC X x r pd[X] Z (ayB H);exact⟨L,World.putObj_heap_same (vT R),J⟩;rename_i e;obtain⟨L,E,J⟩:=h.cC G w N v Q U;exact⟨L,(World.putObj_heap_other (λu=>by subst u;exact e (h.inj X G _ _ _ Z Q))).trans E,J⟩;exact(World.putObj_heap_other (λe=>by subst e;have:=(P d M).1;rw[R] at this;cases this)).trans (P d M).1
def ae7{O:aa}{V:List Nat}:∀(X:List Nat)(Q l:List SV)(A:Array Value),A.size=l.length->(∀(t:Nat)(Z:SV),l[t]?=some Z->Z=.any\/A[t]?=some (Z.den O V))->
  ((X.zip (SV.au O V Q)).foldl (λ(P:Array Value)(x:Nat×Value)=>P.setIfInBounds x.1 x.2) A).size=(Cy X Q l).length/\
  ∀(t:Nat)(Z:SV),(Cy X Q l)[t]?=some Z->Z=.any\/((X.zip (SV.au O V Q)).foldl (λ(P:Array Value)(x:Nat×Value)=>P.setIfInBounds x.1 x.2) A)[t]?=some (Z.den O V)
 |[],Q,l,A,U,h=>by simp only[List.zip_nil_left,List.foldl_nil,Cy];exact⟨U,h⟩
 |p::X,[],l,A,U,h=>by simp only[SV.au,List.zip_nil_right,List.foldl_nil,Cy];exact⟨U,h⟩
 |p::X,v::N,l,A,U,h=>by
  simp only[SV.au,aAy,az0,Cy];refine ae7 X N (l.set p v) (A.setIfInBounds p (v.den O V)) (by simp[U]) (λt Z R=> ?_);rw[azr] at R;split at R;rename_i e;subst e;split at R;rename_i M;cases R;right;rw[aAL (by rw[U];exact M)];cases R;rename_i e;rw[aAa e];exact h t Z R
end
end
section
section
variable{p:Sp}{cf:aY}
def JK(aZ:Nat->Bool)(Z X:Bool):∀(l:List Oper)(j n i:Nat)(m:OM),(eo aZ Z X j n l)[i]?=some m->l[i]?=some m.o
 |[],j,n,i,m,h=>by simp[eo] at h
 |o::r,j,n,0,m,h=>by simp[eo] at h;simp[<-h]
 |o::r,j,n,i+1,m,h=>by simp[eo] at h;simpa using JK aZ Z X r _ _ i m h
def VU(aZ:Nat->Bool)(Z X:Bool):∀(l:List Oper)(j n:Nat),(eo aZ Z X j n l).length=l.length
 |[],j,n=>rfl
 |o::r,j,n=>by simp[eo,VU aZ Z X r]
def VV(aZ:Nat->Bool)(Z X:Bool):∀(l:List Oper)(j n i:Nat)(m:OM),(eo aZ Z X j n l)[i]?=some m->m.j=j+i
 |[],j,n,i,m,h=>by simp[eo] at h
 |o::r,j,n,0,m,h=>by simp[eo] at h;simp[<-h]
 |o::r,j,n,i+1,m,h=>by simp[eo] at h;have:=VV aZ Z X r _ _ i m h;omega
def VW(aZ:Nat->Bool)(X Z:Bool):∀(l:List Oper)(j n i:Nat)(m:OM),(eo aZ X Z j n l)[i]?=some m->m.dr=Z
 |[],j,n,i,m,h=>by simp[eo] at h
 |o::r,j,n,0,m,h=>by simp[eo] at h;simp[<-h]
 |o::r,j,n,i+1,m,h=>by simp[eo] at h;exact VW aZ X Z r _ _ i m h
structure ae8(m m':OM):Prop where
 o:m.o=m'.o
 ix:m.ix=m'.ix
 j:m.j=m'.j
 dr:m.dr=m'.dr
def VX{W:List Nat}:∀{l Z:List OM}{m:OM},m∈pB W Z l->∃X∈l,ae8 m X
 |[],Z,m,h=>by simp[pB] at h
 |x::l,Z,m,h=>by
  simp only[pB,ayK] at h;rcases h with rfl|h;exact⟨x,by simp,rfl,rfl,rfl,rfl⟩;obtain⟨X,V,U⟩:=VX h;exact⟨X,by simp[V],U⟩
def ae9{Z:List Nat}:∀{l:List OM},vO Z l=true->l.Pairwise λx y=>(Z.getD y.j 0).testBit x.j=true
 |[],_=>azu
 |x::r,h=>by
  simp only[vO,ayz] at h;exact ayY.2 ⟨λy X=>ayM.1 h.1 y X,ae9 h.2⟩
def afa{Z:List Nat}:∀{l X:List OM},(l.Pairwise λx y=>(Z.getD y.j 0).testBit x.j=true)->(pB Z X l).Pairwise λx y=>(Z.getD y.j 0).testBit x.j=true
 |[],X,_=>azu
 |x::r,X,h=>by
  obtain⟨W,V⟩:=ayY.1 h;refine ayY.2 ⟨λy U=> ?_,afa V⟩;obtain⟨R,Q,P⟩:=VX U;rw[P.j];exact W R Q
def afb{U:List Nat}:∀{l X:List OM}(V:List OM)(m:OM)(Z:List OM),pB U X l=V++m::Z->m.so=true->Z.Pairwise λx y=>(U.getD y.j 0).testBit x.j=true
 |[],X,V,m,Z,h,_=>by cases V<;>simp[pB] at h
 |x::r,X,[],m,Z,h,W=>by
  simp only[pB,ayU,azK] at h;obtain⟨R,rfl⟩:=h;subst R;simp only[ayz] at W;exact afa (ayY.1 (ae9 W.1.2)).2
 |x::r,X,z::Q,m,Z,h,W=>by
  simp only[pB,ayP,azK] at h;exact afb Q m Z h.2 W
def VY:∀{l:List Nat},jz l=true->l.Pairwise (·≠·)
 |[],_=>azu
 |x::X,h=>by
  simp only[jz,ayz,ayS] at h;refine ayY.2 ⟨λy Z e=> ?_,VY h.2⟩;subst e;rw[aza.2 Z] at h;cases h.1
def NV:∀{l:List OM},jz (l.filterMap (·.o.dst))=true->l.Pairwise λa b=>∀d,a.o.dst=some d->b.o.dst≠some d
 |[],_=>azu
 |x::W,h=>by
  cases X:x.o.dst with
  |none=>
   simp only[aAO,X] at h;exact ayY.2 ⟨λy _ d Z=>(by rw[X] at Z;cases Z),NV h⟩
  |some d=>
   simp only[aAO,X,jz,ayz,ayS] at h;refine ayY.2 ⟨λy V e Z U=> ?_,NV h.2⟩;rw[X] at Z;cases Z;have:d∈W.filterMap (·.o.dst):=azQ.2 ⟨y,V,U⟩;rw[aza.2 this] at h;cases h.1
def afc{Z:Array Oper}{X:List Nat}:∀{l:List OM},zR Z X l=true->l.Pairwise λx y=>(X.getD y.j 0).testBit x.j=true\/pA Z x y=true
 |[],_=>azu
 |x::V,h=>by
  simp only[zR,ayz] at h;refine ayY.2 ⟨λy W=> ?_,afc h.2⟩;have:=ayM.1 h.1 y W;simpa using this
def afd{U:Array Oper}:∀{l:List OM}{done:List Nat},zS U done l=true->(∀m∈l,U[m.j]?=some m.o)->∀Z m W,l=Z++m::W->∀e∈iF m.o,e∈done\/∃x∈Z,x.j=e
 |[],done,_,_,Z,m,W,h=>by cases Z<;>simp at h
 |x::l,done,V,R,Z,m,W,h=>by
  simp only[zS,ayz] at V;intro e Q;cases Z with
  |nil=>
   simp only[ayU,azK] at h;obtain⟨rfl,-⟩:=h;rw[R x (by simp)] at V;exact .inl (aza.1 (ayM.1 V.1 e Q))
  |cons z P=>
   simp only[ayP,azK] at h;obtain⟨rfl,h⟩:=h;rcases afd V.2 (λm O=>R m (by simp[O])) P m W h e Q with X|⟨y,N,X⟩;rcases ayK.1 X with rfl|X;exact .inr ⟨x,by simp,rfl⟩;exact .inl X;exact .inr ⟨y,by simp[N],X⟩
def afe{Z:Array Oper}(h:MO Z.toList U=true):FR Z U:=by
 have Q:∀(j:Nat)(o:Oper),Z[j]?=some o->(∀e∈iF o,e<j)/\∀i,i<Z.size->(U.getD j 0).testBit i=true->i∈iF o\/∃e∈iF o,(U.getD e 0).testBit i=true:=by
  intro j o X;have P:j<Z.size:=(ay0.1 X).1;have V:=ayM.1 h j (by simpa using P);have O:Z.toList[j]?=some o:=by simpa using X
  rw[O] at V;simp only[ayz] at V;refine⟨λe R=>by simpa using ayM.1 V.1 e R,λi N M=> ?_⟩;have W:=ayM.1 V.2 i (by simpa using N);simp only[M,aBo,aB2,ay2] at W;rcases W with W|W;exact .inl (aza.1 W);obtain⟨e,R,L⟩:=ay8.1 W;exact .inr ⟨e,R,L⟩
 exact⟨λj o X=>(Q j o X).1,λj o X=>(Q j o X).2⟩
def qJ(Z:List Nat):∀(l:List SV)(n i:Nat),(oh Z n l)[i]?=(l[i]?).map λx=>if Z.contains (n+i) then .any else x
 |[],n,i=>by simp[oh]
 |x::X,n,0=>by simp[oh]
 |x::X,n,i+1=>by
  simp only[oh,azb];rw[qJ Z X (n+1) i,show n+1+i=n+(i+1) by omega]
def FV(Z:List Nat):∀(l:List SV)(n:Nat),(oh Z n l).length=l.length
 |[],n=>rfl
 |x::X,n=>by simp[oh,FV Z X]
def aff:∀{l:List Oper}{o:Oper}{t:TypeId},EV cf l=true->o∈l->o.op=.alloc t->Cw cf t=true
 |[],o,t,_,h,_=>by simp at h
 |x::W,o,t,h,Z,X=>by
  simp only[EV,ayz] at h;rcases ayK.1 Z with rfl|Z;have:=h.1;rw[X] at this;exact this;exact aff h.2 Z X
def VZ:∀{l:List OM},jz ((l.filter λm=>dR m.o.op).map (·.ix))=true->l.Pairwise λa b=>dR a.o.op=true->dR b.o.op=true->a.ix≠b.ix
 |[],_=>azu
 |x::V,h=>by
  by_cases Z:dR x.o.op=true;rw[List.filter_cons_of_pos (by simpa using Z),ayO,jz,ayz] at h;refine ayY.2 ⟨λy X _ U e=> ?_,VZ h.2⟩;have:x.ix∈(V.filter λm=>dR m.o.op).map (·.ix):=ay1.2 ⟨y,azk.2 ⟨X,by simpa using U⟩,e.symm⟩;have W:=h.1;rw[aza.2 this] at W;cases W;rw[List.filter_cons_of_neg (by simpa using Z)] at h;exact ayY.2 ⟨λy X R=>absurd R Z,VZ h⟩
def apu(aZ:Nat->Bool)(X W:Bool)(V:aX):∀(l:List Oper){i:Nat}{m:OM},dR m.o.op=true->(eo aZ X W 0 V.length l)[i]?=some m->dH (V++ayJ (jy l) none) m.ix=true:=by
 have R:∀(l:List Oper)(j n i:Nat)(m:OM),dR m.o.op=true->(eo aZ X W j n l)[i]?=some m->n<=m.ix/\m.ix<n+jy l:=by
  intro l;induction l with
  |nil=>intro j n i m _ h;simp[eo] at h
  |cons o r Q=>
   intro j n i m Z h;have U:jy (o::r)=(if dR o.op then 1 else 0)+jy r:=by
    unfold jy;rw[List.filter_cons];split<;>simp<;>omega
   cases i with
   |zero=>
    simp only[eo,azl,ayE] at h;subst h;simp only at Z⊢;rw[U,if_pos Z];omega
   |succ i=>
    simp only[eo,azb] at h;have:=Q _ _ i m Z h;rw[U];split at this<;>simp_all<;>omega
 intro l i m Z h;obtain⟨P,O⟩:=R l 0 _ i m Z h;unfold dH;rw[ayG P,azE,if_pos (by omega)]
def Am(p:Sp)(cf:aY)(G:List (Nat×Loop))(B:iU)(E:YH):Prop:=
 ∀(D:bz)(_:D.cC=G)(L:List LC)(n:Nat)(J:List SV)(s:S)(k I:SV->S->T)(O:aa)(V:List Nat)(a:Act)(W:World)(M:Ending->World->Prop),B.nx s O V L->
  (E n J s k I).aH p O L->ap p.S0 p.w0 D cf.ty V O s a W->dg cf.gl O->
  (∀v U Z Q X N,ba s O V U Z Q->bW s.ao L N->ap p.S0 p.w0 D cf.ty Q Z U a X->(k v U).aH p Z N->M (.returned (v.den Z Q)) X)->
  (∀v U Z Q X N,ba s O V U Z Q->bW s.ao L N->ap p.S0 p.w0 D cf.ty Q Z U a X->(I v U).aH p Z N->M (.panicked [{v:=v.den Z Q,recovered:=false}]) X)->
  (∀H X C y,cG p.w0 D C y a.defers X->p.R (.panicked H) X->M (.panicked H) X)->
  ∀(F:Fence)(_:mJ F)(m:Nat),YieldAt F m p.P (O.y.getD n 0) (SV.au O V J).toArray W M
def CX(Z:List (Nat×Loop))(B:iU):Am p cf Z B fD:=λ_ _ _ _ _ _ _ _ _ _ _ _ _ _ h=>h.elim
def apv{F:Fence}(hF:mJ F)(ok:iW p cf){pc:sd}(a1:NR p cf pc){D:bz}{B:iU}{yh:YH}(hY:Am p cf D.cC B yh){Q:Exit->Act->World->Prop}(HP:∀ch w G pd y,cG p.w0 D pd y w.defers G->p.R (.panicked ch) G->Q (.panic ch) w G){I:Array Oper}{a:Act}{L:List LC}{k:XE->S->T}(hB:B.nx Z N U L)
  (c:EU I Z.boxes.length=some r)(a3:EV cf I.toList=true)(a4:Ai I pc)(h:(j7 cf (ua cf pc yh) I (k .normal) (λM=>k (.aR M)) r (Z.vP I r) []).aH p N L)(R:ap p.S0 p.w0 D cf.ty U N Z a v)(hg:dg cf.gl N)
  (hk:∀A E u w G q,ba Z N U A E u->bW Z.ao L q->ap p.S0 p.w0 D cf.ty u E A w G->(k .normal A).aH p E q->Q .normal w G)
  (a5:∀M A E u w G q,ba Z N U A E u->bW Z.ao L q->ap p.S0 p.w0 D cf.ty u E A w G->(k (.aR M) A).aH p E q->Q (.panic [{v:=M.den E u,recovered:=false}]) w G):
  (Code.region x I true).wpIn F X p.P Q a v:=by
 unfold EU at c;simp only at c;split at c;rename_i hc;simp only[ayz,beq_iff_eq] at hc;obtain⟨⟨⟨⟨⟨⟨⟨c1,c2⟩,c3⟩,c4⟩,c5⟩,c8⟩,c6⟩,c7⟩:=hc;simp only[ayE] at c;rw[c] at c2 c3 c4 c5 c6 c7 c8;have ag:∀m∈r,∃(i:Nat)(b:OM),(eo (IW I.toList (lf I.toList)) false true 0 Z.boxes.length I.toList)[i]?=some b/\ae8 m b:=by
  intro m H;rw[<-c] at H;obtain⟨b,g,h2⟩:=VX H;rw[ET] at g;obtain⟨i,-,z⟩:=azQ.1 g;exact⟨i,b,z,h2⟩
 have al:∀m∈r,I[m.j]?=some m.o:=by
  intro m H;obtain⟨i,b,z,C⟩:=ag m H;have g:=JK _ _ _ _ _ _ _ _ z;have h2:=VV _ _ _ _ _ _ _ _ z;rw[C.j,C.o,h2,ay9];simpa using g
 have hW:JE I (lf I.toList) (aBd I.size false) r:=by
  refine⟨al,λi z=> ?_,by simp,λj o ho hj=> ?_,afc c3,λxs m ys he e hd=> ?_, ?_,NV c4,λxs m ys he a6=>afb xs m ys (c.trans he) a6⟩;constructor;intro _;have:=ayM.1 c7 i (by simpa using z);obtain⟨m,H,hj⟩:=ay8.1 this;exact⟨m,H,by simpa using hj⟩;intro _;simp[z];exfalso;have a7:j<I.size:=(ay0.1 ho).1;simp[a7] at hj;rcases afd c2 al xs m ys he e hd with g|g;cases g;exact .inr g;have:=VY c5;rw[aBt] at this;exact this
 obtain⟨Rr,af⟩:=R.room (jy I.toList);have Rb:ap p.S0 p.w0 D cf.ty (U++ayJ (jy I.toList) 0) N (Z.vP I r) a {v with drawn:=v.drawn+1}:=by
  have Rd:=Rr.drew;refine⟨Rd.mem,Rd.dS,Rd.ei,Rd.eb,Rd.er,Rd.bY,by simp only[S.vP,FV];exact Rr.size,λt sv l=> ?_,Rd.dK⟩;simp only[S.vP] at l;rw[qJ,ay9] at l;cases f:Z.tmps[t]? with
  |none=>rw[f] at l;cases l
  |some J=>
   rw[f] at l;simp only[ayI,ayE] at l;split at l;exact .inl l.symm;subst l;exact Rd.tmps t J f
 have an:ba Z N U (Z.vP I r) N (U++ayJ (jy I.toList) 0):=⟨af.ext,af.mono,af.len,af.ao⟩;refine wpIn_region_any ok.Vt ?_;refine apf a4 a1 hF ok HP (afe c1) (Kn:=Aj p (k .normal)) (Kp:=yp p (λM=>k (.aR M))) (Yp:=yq p cf I pc yh (k .normal) (λM=>k (.aR M))) (s0:=Z.vP I r) (O0:=N) (V0:=U++ayJ (jy I.toList) 0) (L0:=L)
  (λA E u w G q hl hL R' C=>hk A E u w G q (an.trans hl) hL R' C) (λM A E u w G q hl hL R' C=>a5 M A E u w G q (an.trans hl) hL R' C)
  ?_
  I.size _ r (Z.vP I r) N _ a _ L c6 hW (λm H=>by
   obtain⟨i,b,z,C⟩:=ag m H;rw[C.dr];exact VW _ _ _ _ _ _ _ _ z) (λm H t l=> ?_) (VZ c8) (.inl ⟨λm H a8=> ?_, ?_⟩) (ba.refl _ _ _) (bW.refl _ _) Rb hg ?_
 intro L2 m a9 s2 O2 V2 a2 W2 yn bb R' hl hL R2 bf bg bk bl bo mm;obtain⟨br,fx,bs,bt⟩:=bg;refine hY D rfl L2 yn bb s2 _ _ O2 V2 a2 W2 R' (hB.go (an.trans hl) hL) bt R2 bf (λM A E u G q a0 bx Rn C=> ?_) bl bo F hF mm;refine bk M A E u G q a0 bx Rn ?_;have ab:=dA A m.o.dst M;refine CR ok.pt a9 _ _ E (by rw[ab.1];exact Rn.ei) (by rw[ab.2.1];exact Rn.eb) (by rw[ab.2.2];exact Rn.er) C ?_ br;intro J f;obtain⟨b0,b2⟩:=azk.1 f;obtain⟨hd,bU⟩:=bs J b0;have hE:=a0.ext;refine⟨by rw[BE.cn hE.agree _ (by rw[R2.ei,R2.eb,R2.er];exact bU)];exact hd, ?_⟩;rw[ab.1,ab.2.1,ab.2.2,<-Rn.ei,<-Rn.eb,<-Rn.er];exact BE.cw (by rw[<-R2.ei];exact hE.li) (by rw[<-R2.eb];exact hE.lb) (by rw[<-R2.er];exact hE.lr) _ bU;have g:=al m H;exact aff a3 (ayW (show I.toList[m.j]?=some m.o by simpa using g)) l;obtain⟨i,b,z,C⟩:=ag m H;rw[C.ix];exact apu _ _ _ Z.boxes _ (by rw[<-C.o];exact a8) z;intro m H d hd;have b1:d∈zT (r.dropLast.map (·.o)):=azQ.2 ⟨m.o,ay1.2 ⟨m,H,rfl⟩,hd⟩;unfold su;simp only[S.vP];rw[qJ,ay9];cases f:Z.tmps[d]? with
 |none=>exact .inl rfl
 |some J=>
  right;by_cases hb:(acx Z (zT (r.dropLast.map (·.o)))).contains d=true;exact⟨.any,by simp only[ayI,hb,if_true],by simp[SV.aL]⟩;refine⟨J,by simp only[ayI,hb];rfl, ?_⟩;have bU:J.bd Z.ni Z.nb Z.rs.length (aE Z.boxes)=true:=by
   cases hh:J.bd Z.ni Z.nb Z.rs.length (aE Z.boxes);exfalso;apply hb;exact aza.2 (azk.2 ⟨b1,by simp[f,hh]⟩);rfl
  exact SV.cw (ayH _) (ayH _) (ayH _) af.mono _ bU
 refine CR ok.pt r _ [] N Rb.ei Rb.eb Rb.er h (λJ f=>by cases f) (λm H=> ?_);obtain⟨i,b,z,C⟩:=ag m H;rw[C.dr];exact VW _ _ _ _ _ _ _ _ z;cases c
def ur(p:Sp)(cf:aY)(n:Nat):Prop:=
 ∀(D:bz)(B:iU)(H:YH)(N:Option Nat)(M:FuncId)(c:Code)(s:S)(k:XE->S->T)(L:List LC)(O:aa)(V:List Nat)(a:Act)(W:World)(Q:Exit->Act->World->Prop),
  Am p cf D.cC B H->B.nx s O V L->D.rd=N.isSome->(N.isSome=true->gf c=false)->(∃E,p.P.funcs[M]?=some E)->
  (dF cf n M c s H k).aH p O L->ap p.S0 p.w0 D cf.ty V O s a W->dg cf.gl O->
  (∀G X Z C y,cG p.w0 D C y X.defers Z->p.R (.panicked G) Z->Q (.panic G) X Z)->
  (∀e J U I X Z F,ba s O V J U I->bW s.ao L F->ap p.S0 p.w0 D cf.ty I U J X Z->(k e J).aH p U F->Q (e.to U I) X Z)->
  gP N M p.P c Q a W
def NW(p:Sp)(cf:aY)(n:Nat):Prop:=
 ∀(D:bz)(B:iU)(H:YH)(M:Option Nat)(U:FuncId)(x:Code)(s:S)(k:XE->S->T)(L:List LC)(O:aa)(V:List Nat)(a:Act)(W:World)(Q:Exit->Act->World->Prop),
  Am p cf D.cC B H->B.nx s O V L->D.rd=M.isSome->(M.isSome=true->gf x=false)->(∃E,p.P.funcs[U]?=some E)->
  (∀C,(Code.first x).map (cf.loop U)≠some (.inv C))->
  (dF cf n U (.loop x) s H k).aH p O L->ap p.S0 p.w0 D cf.ty V O s a W->dg cf.gl O->
  (∀G X Z A y,cG p.w0 D A y X.defers Z->p.R (.panicked G) Z->Q (.panic G) X Z)->
  (∀e J N I X Z F,ba s O V J N I->bW s.ao L F->ap p.S0 p.w0 D cf.ty I N J X Z->(k e J).aH p N F->Q (e.to N I) X Z)->
  JF M U p.P x Q n a W
def apw(l:ur p cf X)(j:NW p cf X):NW p cf (X+1):=by
 intro D B w A z x s k L O V a W Q u t r q o i h R m HP J;unfold dF at h;simp only at h;show gP A z p.P x _ a W;refine l D B w A z x s _ L O V a W _ u t r q o h R m (λg U N f y d c=>HP g U N f y d c) ?_;intro e I H G U N F Z M E C;cases e with
 |normal=>exact j D B w A z x I k F H G U N Q u (t.go Z M) r q o i C E (m.ext Z.ext) HP (λb s2 O2 V2 a2 W2 L2 ab af R2 ag=>J b s2 O2 V2 a2 W2 L2 (Z.trans ab) (M.trans af Z.ao) R2 ag)
 |ret=>exact J .ret I H G U N F Z M E C
 |exit id=>exact J (.exit id) I H G U N F Z M E C
 |aR v=>exact J (.aR v) I H G U N F Z M E C
def ap.back{Q:List Nat}{X:World}{D F:bz}{V P:List Nat}{O U:aa}{s J N:S}{a E:Act}{W M:World}(R:ap Q X D cf.ty V O s a W)(C:s.bd=true)
  (B:ba J O V N U P)(A:J.boxes=s.boxes)(Z:ap Q X F cf.ty P U N E M){D2:bz}{a2:Act}{I:List kw}(H:a2.tmps=a.tmps)(z:cG X D2 I U.y a2.defers M):ap Q X D2 cf.ty P U {N with tmps:=s.tmps,pd:=I} a2 M:=by
 obtain⟨x,-⟩:=R.ue C;refine⟨Z.mem,Z.dS,Z.ei,Z.eb,Z.er,z,by rw[H];exact R.size,λt w h=> ?_,Z.dK⟩;rw[H];rcases R.tmps t w h with L|L;exact .inl L;right;have G:=B.ext;rw[A] at G;rw[G.den (qG x h)];exact L
def ap.enter{U:List Nat}{X:World}{D Q:bz}{V:List Nat}{O:aa}{s:S}{a:Act}{W:World}(R:ap U X D cf.ty V O s a W)(Z:List SV)(n:Nat)(N:cG X Q s.pd O.y [] W):
  ap U X Q cf.ty V O {s with tmps:=Z++ayJ (n-Z.length) (.bh [])} {tmps:=(SV.au O V Z).toArray++aBd (n-(SV.au O V Z).toArray.size) undef,defers:=[]} W:=by
 refine⟨R.mem,R.dS,R.ei,R.eb,R.er,N,by simp,λt L h=> ?_,R.dK⟩;right;simp only[azY,CD];by_cases P:t<Z.length;rw[ayD P] at h;rw[aBp (by simpa using P)];simp[ol,h];rw[ayG (by omega),azE] at h;split at h;rename_i M;cases h;rw[Array.getElem?_append_right (by simp;omega)];simp only[azY,CD,Array.getElem?_replicate];rw[if_pos M];rfl;cases h
def NX(N:iW p cf)(hC:ur p cf X){D:bz}{B:iU}{yh:YH}(hY:Am p cf D.cC B yh):Nz p cf D B (gL cf (λf c s k=>dF cf X f c s yh k) yh):=by
 intro L g0 I s k kp O V a W H M h R z t ab r;cases g0 with
 |yl yn=>exact λF hF m=>hY D rfl L yn I s k kp O V a W H M h R z t ab r F hF m
 |fn g=>
 unfold gL at h;simp only at h;split at h;rename_i c nt rs q;refine⟨N.ym g (.inr (by rw[q];rfl)), ?_⟩;split at h;rename_i hb;simp only[S.cV,ayz] at hb;obtain⟨fn,hf,al,an,bA⟩:=N.inl g c nt rs q;refine JG hf al ?_;obtain⟨ms,m1,m0,m2,m3⟩:=R.bY.jL;have RE:=R.enter I nt (R.bY.enter m2 m3 false);rw[<-an] at RE h;have a0:B.nx {s with tmps:=I++ayJ (fn.ntmps-I.length) (.bh [])} O V L:=⟨⟨M.later.ext,M.later.mono,M.later.len,M.later.ao⟩,M.Ny⟩;refine hC ⟨ms++D.out,D.cC,false,[]⟩ B yh none g c _ _ L O V _ W _ hY a0 rfl (λhh=>by cases hh) ⟨fn,hf⟩ h RE z ?_ ?_;intro o U x pd y j hR;obtain⟨a1,J,q0,w,G⟩:=j.jL;rw[J] at j;have E:=(j.ny).FT m0;rw[<-m1] at E;show LeavesInM Fence.wide 0 p.P fn U.tmps H U.defers (.panicking o) x;rw[J];exact pI (by simp) (azA.1 w).1 (λd Q=>(G d (by simp[Q])).1) (r o _ pd y E (JJ (N.NK o) (λd Q=>(G d (by simp[Q])).2) hR));intro e i u b U x L' C hL RR Z;have af:ba s O V {i with tmps:=s.tmps} u b:=⟨C.ext,C.mono,C.len,C.ao⟩;obtain⟨a1,J,q0,w,G⟩:=RR.bY.jL;have R2:=RR.ny J;have E:=R2.bY.FT m0;rw[<-m1] at E;have RB:=R.back hb.1 C rfl R2 (D2:=D) (a2:=a) rfl E;have ag:∀l,pu cf i rs=some l->(k (one l) {i with tmps:=s.tmps}).aH p u L'->LeavesInM Fence.wide 0 p.P fn U.tmps H U.defers .returning x:=by
  intro l A Z;rw[J];refine pI (by simp) (azA.1 w).1 (λd Q=>(G d (by simp[Q])).1) ⟨_,Jv R2 N.jo (by rw[bA];exact A), ?_⟩;exact t _ _ u b _ L' af hL RB Z
 cases e with
 |normal=>
  simp only[EW] at Z;split at Z;rename_i l A;exact ag l A Z;exact Z.elim
 |ret=>
  simp only[EW] at Z;split at Z;rename_i l A;exact ag l A Z;exact Z.elim
 |aR v=>
  show LeavesInM Fence.wide 0 p.P fn U.tmps H U.defers (.panicking _) x;rw[J];exact pI (by simp) (azA.1 w).1 (λd Q=>(G d (by simp[Q])).1) (ab v _ u b _ L' af hL RB Z)
 |exit id=>exact Z.elim
 exact h.elim;rename_i q;exact aed N.pt (λg z=>N.ym g (.inl z)) D L g I s k O V a W H h R t r
def apx(b:Bool)(N:iW p cf){D:bz}{B:iU}{M:lM}(J:Nz p cf D B M):Nz p cf D B (Uc b cf M):=by
 intro L F X s k I O V a W U H h R Z Q G P;cases F with
 |yl E=>exact J L (.yl E) X s k I O V a W U H h R Z Q G P
 |fn g=>
  cases b with
  |false=>exact J L (.fn g) X s k I O V a W U H h R Z Q G P
  |true=>exact aed N.pt (λg Z=>N.ym g (.inl Z)) D L g X s k O V a W U h R Q P
end
end
section
mutual
def SV.NY(O:aa)(y:List Nat)(V:List Nat):∀(v:SV),v.vQ=true->v.den (O.at y) V=v.den O V
 |.int k e,_=>by simp only[SV.den,IE.cO]
 |.bool b,_=>by simp only[SV.den,BE.cO]
 |.ref r,_=>by simp only[SV.den,RE.den,RE.jp]
 |.loc i o,_=>rfl
 |.el r w i o,_=>by simp only[SV.den,RE.den,RE.jp,IE.cO]
 |.fo a b c d,_=>rfl
 |.agg l,h=>by simp only[SV.vQ] at h;simp only[SV.den];rw[SV.FW O y V l h]
 |.bh l,h=>by simp only[SV.vQ] at h;simp only[SV.den];rw[SV.FW O y V l h]
 |.fn f l,h=>by simp only[SV.vQ] at h;simp only[SV.den];rw[SV.FW O y V l h]
 |.dD t x,h=>by simp only[SV.vQ] at h;simp only[SV.den];rw[SV.NY O y V x h]
 |.yl n,h=>by simp[SV.vQ] at h
 |.any,_=>rfl
 |.mp i,_=>rfl
 |.dE e X Z,h=>by simp only[SV.vQ] at h;simp only[SV.den,IE.cO];rw[SV.FW O y V Z h]
def SV.FW(O:aa)(y:List Nat)(V:List Nat):∀(l:List SV),SV.se l=true->SV.au (O.at y) V l=SV.au O V l
 |[],_=>rfl
 |x::Z,h=>by
  simp only[SV.se,ayz] at h;simp only[SV.au];rw[SV.NY O y V x h.1,SV.FW O y V Z h.2]
end
def NZ(O:aa)(y:List Nat)(V:List Nat):∀(l:List SV),SV.se l=true->SV.bX (O.at y) V l=SV.bX O V l
 |[],_=>rfl
 |x::X,h=>by
  simp only[SV.se,ayz] at h;have Z:=NZ O y V X h.2;have W:=SV.NY O y V x h.1;simp only[SV.bX,ayO] at Z⊢;rw[Z];congr 1;cases x<;>simp only[SV.eD]<;>first|rw[W]|(rw[RE.jp])
def JL:∀{l:aX}{i:Nat}{v:TypeId×List SV},zU l=true->bD l i=some v->SV.se v.2=true
 |[],i,v,_,h=>by simp[bS] at h
 |some x::X,0,v,Z,h=>by simp[zU] at Z;simp[bS] at h;exact h▸Z.1
 |none::X,0,v,Z,h=>by simp[bS] at h
 |some x::X,i+1,v,Z,h=>by simp[zU] at Z;exact JL Z.2 (by simpa[bS] using h)
 |none::X,i+1,v,Z,h=>by simp[zU] at Z;exact JL Z (by simpa[bS] using h)
def N0:∀{a b:aX},jA a b=true->a=b
 |[],[],_=>rfl
 |[],_::_,h=>by simp[jA] at h
 |none::Z,none::X,h=>by simp only[jA] at h;rw[N0 h]
 |none::Z,some y::X,h=>by simp[jA] at h
 |none::Z,[],h=>by simp[jA] at h
 |some x::Z,none::X,h=>by simp[jA] at h
 |some x::Z,[],h=>by simp[jA] at h
 |some x::Z,some y::X,h=>by
  simp only[jA,ayz,beq_iff_eq] at h;have W:=SV.oq _ _ h.1.2;rw[N0 h.2];obtain⟨V,U⟩:=x;obtain⟨R,Q⟩:=y;simp only at h W;rw[h.1.1,W]
def JM(X:List SV)(Z:aX):(j8 X Z).length=Z.length:=by
 unfold j8;split<;>simp
def N1{Z:aX}{x:TypeId×List SV}(h:bD (j8 M Z) X=some x):bD Z X=some x:=by
 unfold j8 at h;split at h;exfalso;simp only[bS] at h;rw[ayF] at h;cases W:Z[X]? with
 |none=>rw[W] at h;cases h
 |some y=>rw[W] at h;cases h
 exact h
def V4{Z:aX}(h:aE (j8 M Z) X=true):aE Z X=true:=by
 obtain⟨x,W⟩:=ayT.1 h;simp[aE,N1 W]
def apy{t:T}(h:Ud t=true)(p:Sp)(O:aa)(L:List LC):t.aH p O L:=by
 unfold Ud at h;split at h;simp[T.aH,BE.den];cases h
def apz{X:aa}(h:fj N X N.i.length N.b.length N.r.length)(L:X.i.length=N.i.length)(J:X.b.length=N.b.length)(I:X.r.length=N.r.length):X=N:=by
 obtain⟨i,b,r,y⟩:=N;obtain⟨W,V,U,E⟩:=X;obtain⟨R,Q,P,M⟩:=h;simp only at R Q P M L J I;have H:W=i:=ay3 λk=>by
  by_cases Z:k<i.length;have:=R k Z;simp only[ayC,ayB Z,ayB (show k<W.length by omega),azf] at this⊢;rw[this];rw[ayX (by omega),ayX (by omega)]
 have G:V=b:=ay3 λk=>by
  by_cases Z:k<b.length;have:=Q k Z;simp only[ayC,ayB Z,ayB (show k<V.length by omega),azf] at this⊢;rw[this];rw[ayX (by omega),ayX (by omega)]
 have F:U=r:=ay3 λk=>by
  by_cases Z:k<r.length;have:=P k Z;simp only[aa.rv,ayC,ayB Z,ayB (show k<U.length by omega),azf] at this⊢;rw[this];rw[ayX (by omega),ayX (by omega)]
 subst H G F M;rfl
def N2(Z:List RK):lS Z (Z.map RK.rd):=by
 refine⟨by simp,λk W h=> ?_⟩;rw[ayF] at h;cases X:Z[k]? with
 |none=>rw[X] at h;cases h
 |some e=>
  rw[X] at h;simp only[ayI,ayE] at h;refine⟨e,rfl, ?_⟩;cases e<;>simp only[RK.rd] at h<;>first|exact .inl h.symm|exact .inr (.inr ⟨_,rfl,h.symm⟩)
def apA(X:List SV)(Z:aX):j8 X Z=Z\/∀i,bD (j8 X Z) i=none:=by
 unfold j8;split;right;intro i;simp only[bS];rw[ayF];cases Z[i]?<;>rfl;exact .inl rfl
section
variable{p:Sp}{m:aY}
def apB(b4:∀G:Sp,G.P=p.P->iW G m->ur G m X)(ok:iW p m){ex:aX}(h:EX m (λf c Z k=>dF m X f c Z fD k) l M Z=some (J,ex))(b5:(m.inl l).isSome=true)
  {D:bz}{a:Act}(hb:Z.bd=true)(R:ap p.S0 p.w0 D m.ty U N Z a v)(hg:dg m.gl N):(∀M v,(callFunc l M).run p.P v=.ok (.enter l M) v)/\
  Calls p.P l (SV.au N U M).toArray v λe W'=>∃V',e=.returned (J.den N V')/\ap p.S0 p.w0 D m.ty V' N (Z.plus ex) a W'/\ba Z N U (Z.plus ex) N V':=by
 unfold EX at h;split at h;rename_i F hT;split at h;rename_i v0 c6;split at h;rename_i a8;cases h;simp only[ayz] at a8;obtain⟨⟨⟨⟨⟨⟨⟨ca,cb⟩,cv⟩,cs⟩,ct⟩,b6⟩,b7⟩,b8⟩:=a8;have a9:=N0 ct;obtain⟨cc,bb⟩:=R.ue hb;refine⟨ok.ym l (.inr b5), ?_⟩;obtain⟨S1,bf⟩:∃S1:List Nat,S1=((ayQ Z.boxes.length).filter (aE (j8 M Z.boxes))).map (ad U):=⟨_,rfl⟩;have cl:∀i,aE (j8 M Z.boxes) i=true->ad U i∈S1:=λi I=>by
  rw[bf];refine ay1.2 ⟨i,azk.2 ⟨azz.2 ?_,I⟩,rfl⟩;obtain⟨x,u⟩:=ayT.1 I;have:=(ayA.1 (gg.1 u)).1
  rwa [JM] at this
 have bg:∀b∈S1,∃i,aE (j8 M Z.boxes) i=true/\ad U i=b:=λb hb=>by
  rw[bf] at hb;obtain⟨i,I,rfl⟩:=ay1.1 hb;exact⟨i,(azk.1 I).2,rfl⟩
 obtain⟨G,al⟩:∃G:Sp,G={P:=p.P,ty:=p.ty,S0:=S1,w0:=v,D:=bz.none,R:=λe _=>(match e with|.panicked _=>False|_=>True),Q:=λ_ _ _=>True}:=⟨_,rfl⟩;have af:G.P=p.P:=by rw[al]
 have bk:G.S0=S1:=by rw[al]
 have bl:G.w0=v:=by rw[al]
 have bo:∀ch W',¬G.R (.panicked ch) W':=λch W' q=>by rw[al] at q;exact q
 have br:iW G m:=⟨by rw[al];exact ok.pt,by rw[af];exact ok.Vt,by rw[af];exact ok.jo,by rw[af];exact ok.vF,by rw[af];exact ok.ym,λch v b o _ q=>(bo ch v q).elim,by rw[af];exact ok.inl⟩;have hS:=NX (p:=G) br (b4 G af br) (D:=bz.none) (B:=⟨pC M Z,N.at [],U,[]⟩) (yh:=fD) (CX _ _);have B0:ap G.S0 G.w0 bz.none m.ty U (N.at []) (pC M Z) ⟨#[],[]⟩ v:=by
  rw[bk,bl];refine⟨⟨dI.refl _ _,λi I=>.inr (cl i I),λi j I A=>R.mem.inj i j (V4 I) (V4 A),λi t cs h=> ?_,λk e rv H h2=> ?_⟩,by simp only[pC,JM];exact R.dS,R.ei,R.eb,by simp only[pC,azg];exact R.er, ?_,rfl,λt sv h=>by simp[pC] at h,λk e rv b H=> ?_⟩;rw[NZ _ _ _ _ (JL cb h)];exact R.mem.box i t cs (N1 h);have:=(R.mem.jP (N2 Z.rs)).ref k e rv H h2;exact⟨this.1,λb hb i I=>this.2 b hb i (V4 I)⟩;exact⟨rfl,rfl,λX L r st h=>by simp[bz.none] at h,λX n' L r r' h=>by simp[bz.none] at h,[],rfl,λ_=>rfl,by simp[bz.none],λd h=>by simp[bz.none] at h⟩;exfalso;simp only[pC,ayF] at H;cases hk:Z.rs[k]? with
  |none=>rw[hk] at H;cases H
  |some x=>rw[hk] at H;cases x<;>simp[RK.rd] at H
 have cp:=hS [] (.fn l) M (pC M Z) _ _ (N.at []) U ⟨#[],[]⟩ v (λe W'=>∃V',e=.returned (J.den N V')/\ap p.S0 p.w0 D m.ty V' N (Z.plus (F.boxes.drop Z.boxes.length)) a W'/\ba Z N U (Z.plus (F.boxes.drop Z.boxes.length)) N V') ⟨ba.refl _ _ _,bW.refl _ _⟩ (apy b8 G (N.at []) []) B0 hg ?_ ?_ (λch W' pd y _ hR=>(bo ch W' hR).elim);have:=cp.2;rw[SV.FW N [] U M ca,af] at this;exact this;intro v2 s2 O2 E W2 L2 hl _ C a0;split at a0;rename_i bs;simp only[ayz,acy,beq_iff_eq,decide_eq_true_eq] at bs;obtain⟨hv,⟨⟨ab,cx⟩,cy⟩,bA⟩:=bs;have hv:=SV.bi _ _ hv;subst hv;have ab:=N0 ab;have cI:O2=N.at []:=by
  refine apz hl.ext.agree ?_ ?_ ?_;rw[C.ei,cx];exact R.ei.symm;rw[C.eb,cy];exact R.eb.symm;rw[C.er,bA];simp only[pC,azg];exact R.er.symm
 subst cI;rw[bk,bl] at C;have c7:Z.boxes.length<=F.boxes.length:=by
  have:=congrArg aAM a9;rw[JM,az6] at this;omega
 have a4:∀i,i<Z.boxes.length->bD F.boxes i=bD (j8 M Z.boxes) i:=λi I=>by
  have:=congrArg (λL=>bD L i) a9;simp only[bS,ay7,if_pos I] at this⊢;exact this
 have a1:∀i,aE (j8 M Z.boxes) i=true->ad E i=ad U i:=λi I=>hl.ext.ad i I
 have a2:∀{i:Nat}{L:aX},aE L i=true->i<L.length:=λh=>by
  obtain⟨x,u⟩:=ayT.1 h;exact(ayA.1 (gg.1 u)).1
 have c0:∀i,Z.boxes.length<=i->aE F.boxes i=true->v.heap.size<=ad E i:=by
  intro i I q;rcases C.mem.own i (by rw[ab];exact q) with H|H;exact H;exfalso;obtain⟨j,A,c1⟩:=bg _ H;have a5:j<Z.boxes.length:=by have:=a2 A;rwa [JM] at this
  have c2:aE F.boxes j=true:=by simp only[aE,a4 j a5];exact A
  have:=C.mem.inj i j (by rw[ab];exact q) (by rw[ab];exact c2) (by rw[a1 j A];exact c1.symm);omega
 have hB:Below v.heap.size v W2:=by
  have hO:=C.mem.base;refine⟨hO.os,hO.tape,hO.output,hO.size,λk hk=> ?_⟩;by_cases bx:k∈S1;obtain⟨j,A,rfl⟩:=bg _ bx;have a5:j<Z.boxes.length:=by have:=a2 A;rwa [JM] at this
  obtain⟨x,u⟩:=ayT.1 A;obtain⟨bt,ag⟩:=x;have e1:=R.mem.box j bt ag (N1 u);have e2:=C.mem.box j bt ag (by rw[ab,a4 j a5];exact u);rw[a1 j A] at e2;rw[e1,e2];congr 2;rw[NZ _ _ _ _ (JL cb u)];refine I9 (fj.refl _ _ _ _) (λk hk=>a1 k ?_) _ (ot bb (N1 u));rcases apA M Z.boxes with hm|hm;rw[hm];exact hk;rw[hm j] at u;cases u;exact hO.block k hk bx
 have R0:=R.below hB;have c3:E.length=F.boxes.length:=by rw[C.dS,ab]
 have a3:∀i,i<Z.boxes.length->ad (U++E.drop Z.boxes.length) i=ad U i:=λi I=>by
  simp only[ad,ayC];rw[ayD (by rw[R.dS];exact I)]
 have a6:∀i,Z.boxes.length<=i->ad (U++E.drop Z.boxes.length) i=ad E i:=λi I=>by
  simp only[ad,ayC];rw[ayG (by rw[R.dS];exact I),R.dS,azj,aB5 I]
 have b0:∀i,aE F.boxes i=true->ad (U++E.drop Z.boxes.length) i=ad E i:=λi I=>by
  by_cases z:i<Z.boxes.length;rw[a3 i z,a1 i (by simp only[aE,<-a4 i z];exact I)];exact a6 i (by omega)
 have nu:∀i,i<Z.boxes.length->bD (Z.plus (F.boxes.drop Z.boxes.length)).boxes i=bD Z.boxes i:=λi I=>by
  simp only[bS,S.plus,ayD I]
 have b1:∀i,Z.boxes.length<=i->bD (Z.plus (F.boxes.drop Z.boxes.length)).boxes i=bD F.boxes i:=λi I=>by
  simp only[bS,S.plus];rw[ayG I,azj,aB5 I]
 have a7:∀k,aE Z.boxes k=true->ad (U++E.drop Z.boxes.length) k=ad U k:=λk hk=>a3 k (a2 hk)
 have an:∀i,aE (Z.plus (F.boxes.drop Z.boxes.length)).boxes i=true->(i<Z.boxes.length/\aE Z.boxes i=true/\ad (U++E.drop Z.boxes.length) i=ad U i)\/(Z.boxes.length<=i/\aE s2.boxes i=true/\ad (U++E.drop Z.boxes.length) i=ad E i/\v.heap.size<=ad E i):=λi I=>by
  by_cases z:i<Z.boxes.length;exact .inl ⟨z,by simpa only[aE,nu i z] using I,a3 i z⟩;have q:aE F.boxes i=true:=by simpa only[aE,b1 i (by omega)] using I
  exact .inr ⟨by omega,by rw[ab];exact q,a6 i (by omega),c0 i (by omega) q⟩
 have c8:p.w0.heap.size<=v.heap.size:=R.mem.base.size;refine⟨U++E.drop Z.boxes.length, ?_,⟨⟨R0.mem.base, ?_, ?_, ?_, ?_⟩, ?_,R.ei,R.eb,R.er,R0.bY,R.size, ?_, ?_⟩,⟨⟨fj.refl _ _ _ _,ayH _,ayH _,ayH _,a7⟩, ?_, ?_,ayH _⟩⟩;rw[SV.NY _ _ _ _ cv];have c4:v2.bd N.i.length N.b.length N.r.length (aE F.boxes)=true:=by rw[R.ei,R.eb,R.er];exact b6
 rw[SV.cn (fj.refl _ _ _ _) b0 v2 c4];intro i I;rcases an i I with⟨_,h2,h3⟩|⟨_,_,h3,h4⟩;rw[h3];exact R.mem.own i h2;rw[h3];exact .inl (by omega);intro i j I A b2;rcases an i I with⟨i1,i2,w⟩|⟨i1,i2,w,i4⟩<;>rcases an j A with⟨j1,j2,j3⟩|⟨j1,j2,j3,j4⟩;exact R.mem.inj i j i2 j2 (by rw[<-w,<-j3];exact b2);exfalso;have:=R.mem.lt i2;omega;exfalso;have:=R.mem.lt j2;omega;exact C.mem.inj i j i2 j2 (by rw[<-w,<-j3];exact b2);intro i t ag h;by_cases z:i<Z.boxes.length;rw[nu i z] at h;rw[a3 i z,R0.mem.box i t ag h];congr 2;exact(I9 (fj.refl _ _ _ _) a7 _ (ot bb h)).symm;rw[b1 i (by omega)] at h;rw[a6 i (by omega),C.mem.box i t ag (by rw[ab];exact h)];congr 2;rw[NZ _ _ _ _ (JL cs h)];have c5:SV.ck N.i.length N.b.length N.r.length (aE F.boxes) ag=true:=by rw[R.ei,R.eb,R.er];exact ot b7 h
 exact(I9 (fj.refl _ _ _ _) b0 _ c5).symm;intro k e rv H h2;refine⟨(R0.mem.ref k e rv H h2).1,λb b3 i I=> ?_⟩;rcases an i I with⟨i1,i2,w⟩|⟨i1,i2,w,i4⟩;rw[w];exact(R.mem.ref k e rv H h2).2 b b3 i i2;rw[w];have:=(R.mem.ref k e rv H h2).1.lt b3;omega;simp only[S.plus,ayN,az2,c3,R.dS];intro t sv h;rcases R.tmps t sv h with H|H;exact .inl H;right;rw[SV.cn (fj.refl _ _ _ _) a7 sv (qG cc h)];exact H;intro k e rv b H h2 h3;have T0:=R0.dK k e rv b H h2 h3;refine⟨T0.own,T0.mem,λi I=> ?_,T0.alone,T0.inner⟩;rcases an i I with⟨i1,i2,w⟩|⟨i1,i2,w,i4⟩;rw[w];exact T0.box i i2;rw[w];have:=(R.dK k e rv b H h2 h3).lt;omega;intro i I;have z:=a2 I;simp only[aE,nu i z];exact I;simp only[S.plus,ayN];omega;exact a0.elim;intro v2 s2 O2 E W2 L2 hl _ C a0;exact a0.elim;cases h;cases h;cases h
end
def apC(X:j8 M t.boxes=j8 M Z.boxes)(W:t.ni=Z.ni)(V:t.nb=Z.nb)(U:t.rs=Z.rs):pC M t=pC M Z:=by
 simp only[pC,X,W,V,U]
def afg{m:aY}{X:FuncId->Code->S->(XE->S->T)->T}(W:j8 M t.boxes=j8 M Z.boxes)(V:t.ni=Z.ni)(U:t.nb=Z.nb)(R:t.rs=Z.rs)(Q:t.boxes.length=Z.boxes.length):EX m X l M t=EX m X l M Z:=by
 unfold EX;rw[apC W V U R,W,V,U,R,Q]
def apD(m:aY)(Z:Array Oper)(V:FuncId->Code->S->(XE->S->T)->T):Ai Z (zV m Z V):=by
 refine⟨λg U s d v l=> ?_,λg s n t Q d w P=> ?_,λg U s r h=> ?_⟩;unfold zV;rw[afg]<;>cases d<;>rfl
 ·unfold zV;rw[afg]<;>cases d<;>simp[S.bM,S.put,qu,j8,aBA]<;>(try apply ay3)<;>(try intro i)<;>(try simp[azr])<;>(try(intro R;subst R;by_cases X:n<s.boxes.length;(· simp[X]);(· simp[X])))
 unfold zV at h;split at h;rename_i W;simp only[ayz] at W;exact W.1;cases h
def apE{p:Sp}{m:aY}{Q:Array Oper}(N:∀Z:Sp,Z.P=p.P->iW Z m->ur Z m X)(M:iW p m):NR p m (zV m Q λf c s k=>dF m X f c s fD k):=by
 intro g I s v H h D O V a W L R J;unfold zV at h;split at h;rename_i U;simp only[ayz] at U;exact apB N M h U.2 L R J;cases h
end
end
end Go.Proofs.YtieaiocljdpebaaGreatDoor.Y
