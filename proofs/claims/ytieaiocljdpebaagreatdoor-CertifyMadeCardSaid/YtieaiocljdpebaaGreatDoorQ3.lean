/- Part 3 of the proof; the last part says what is shown. -/
import Derived.Test.YtieaiocljdpebaaGreatDoorQ2
import Derived.StillTailTactics
import Derived.RangeFuncIn
import Derived.RangeFuncLeaves
import Derived.RangeFuncRecord
import Derived.RangeFuncSeq
import Derived.RangeFuncCalls
import Derived.LoopNIn
import Derived.LoopIn
import Derived.Sort.LoopGhostIn
set_option linter.all false
open Bool renaming and_eq_true->axI,not_eq_true'->ax0,false_eq_true->ax3,or_eq_true->ayb,or_eq_false_iff->ayp,and_self->aza,true_and->azy,and_true->azH,or_eq_true_iff->aAt,not_true->aAz,and_eq_false_iff->aAj,false_or->aA7,true_or->aBc,true_eq_false->aBi
open List renaming getElem?_eq_some_iff->axJ,getElem?_eq_getElem->axK,getElem?_append_left->axL,getD_eq_getElem?_getD->axN,getElem?_map->axO,getElem?_append_right->axP,cons_append->axY,mem_cons->axT,mem_append->axS,nil_append->ax2,map_cons->axV,replicate->axW,length_append->axX,all_eq_true->axU,range->ax6,pairwise_cons->ax5,mem_of_getElem?->ax4,mem_map->aya,getElem?_eq_none->ax8,map_congr_left->ax7,pairwise_append->ayc,ext_getElem?->ayf,any_eq_true->ayh,getElem?_take->ayi,contains_iff_mem->ayj,getElem?_cons_succ->ayk,getElem?_drop->ayq,mem_filter->ayr,getElem?_set_ne->ays,mem_append_left->ayy,length_map->ayA,getElem?_set->ayD,getElem?_cons_zero->ayB,getElem?_eq_none_iff->ayC,length_eq_zero_iff->ayl,nodup_append->ayJ,mem_of_mem_drop->ayL,getElem?_replicate->ayO,mem_of_mem_take->ayP,mem_or_eq_of_mem_set->ayQ,mem_range->ayR,mem_cons_of_mem->ayV,map_nil->ay2,mem_filterMap->ayZ,size_toArray->ay6,mem_of_find?_eq_some->azm,foldl_cons->ay8,length_drop->ay9,append_nil->azf,getElem?_set_self->azh,length_take->azj,mem_append_right->azl,mem_cons_self->azt,nodup_cons->azu,find?_some->az0,zip_cons_cons->azJ,mem_singleton->ayY,dropLast_append_of_ne_nil->azL,sublist_cons_self->azP,pairwise_map->azS,length->azO,filterMap_cons->azZ,append_eq_append_iff->aAF,any_map->aAH,append_cancel_right->aAI,dropLast_sublist->aA1,map_set->aBf,set_cons_zero->aBg,Sublist->aBh,append_of_mem->aBj
open Option.some renaming injEq->axM
open Nat renaming le_refl->axQ,zero_add->ayg,le_trans->ayt,testBit_or->azb,le_of_eq->azo,lt_of_lt_of_le->azI,strongRecOn->az3,testBit_shiftLeft->aAg,add_sub_cancel'->aA9
open Option renaming map_some->axR,isSome_iff_exists->ax1,getD_some->ayo,bind_some->azW,getD_none->aAe
open Array renaming getElem?_eq_some_iff->ax9,getElem?_setIfInBounds_ne->azF,getElem?_eq_getElem->az1,replicate->aAr,getElem?_append_left->aAA
open List.Pairwise renaming nil->ayv
open List.cons renaming injEq->ayH
open Prod.mk renaming injEq->azq
open List.Sublist renaming append->azY,refl->aAa
namespace Go.Proofs.YtieaiocljdpebaaGreatDoor.Y
open Go.RowKit
noncomputable section
variable{Z:S}{N:aa}{U e:List Nat}{J:SV}{X v:Nat}{t:World}
section
section
variable{f:List Nat}{m:World}{D:bB}{ty:Ty}{V:List Nat}{O:aa}{s:S}{a:Act}{W:World}
def XV.at(k:LK):XV->Value
 |.i n=>match k with
  |.int k=>.int k n
  |_=>undef
 |.b x=>.bool x
 |.r v=>v.val
def XV.JT(k:LK)(x:XV):RV:=match x with
 |.r v=>v
 |x=>.mk (x.at k) []
def an8{k:LK}(h:yi Z k J=true):(J.xv N).JT k=J.eL N U:=by
 unfold yi at h;split at h;simp at h;subst h;rfl;rfl;rfl;rfl;rfl;rfl;cases h
def adE{V1:List Nat}{k:LK}(h:yi Z k J=true):(J.xv N).at k=J.den N V1/\nX k (J.xv N):=by
 unfold yi at h;split at h;simp at h;subst h;exact⟨rfl,trivial⟩;exact⟨rfl,trivial⟩;exact⟨rfl,trivial⟩;exact⟨rfl,trivial⟩;exact⟨rfl,trivial⟩;exact⟨rfl,trivial⟩;cases h
def adF{Q:S}:∀{Z:List LK}{X:List SV},oV Q Z X=true->Z.length=X.length/\∀(q:Nat)(k:LK)(v:SV),Z[q]?=some k->X[q]?=some v->yi Q k v=true
 |[],[],_=>⟨rfl,λq k v h _=>by simp at h⟩
 |[],_::_,h=>by simp[oV] at h
 |_::_,[],h=>by simp[oV] at h
 |k::Z,v::X,h=>by
  simp only[oV,axI] at h;obtain⟨P,N⟩:=adF h.2;refine⟨by simp[P],λq M L U R=> ?_⟩;cases q with
  |zero=>simp at U R;subst U R;exact h.1
  |succ q=>exact N q M L (by simpa using U) (by simpa using R)
def Vl{U:S}{O1:aa}:∀{Z:List LK}{X:List SV},oV U Z X=true->cV Z (X.map (SV.xv O1))
 |[],[],_=>trivial
 |[],_::_,h=>by simp[oV] at h
 |_::_,[],h=>by simp[oV] at h
 |k::Z,v::X,h=>by
  simp only[oV,axI] at h;exact⟨(adE (V1:=[]) h.1).2,Vl h.2⟩
def NU:∀(X:List LK)(Z:List XV)(s:S)(O:aa),cV X Z->O.i.length=s.ni->O.b.length=s.nb->O.r.length=s.rs.length->
  ∀(q:Nat)(k:LK)(x:XV)(v:SV),X[q]?=some k->Z[q]?=some x->(s.bE X).1[q]?=some v->v.den (O.ext Z) V=x.at k/\v≠ .any
 |[],_,_,_,_,_,_,_,q,k,x,v,h,_,_=>by simp at h
 |_::_,[],_,_,h,_,_,_,q,k,x,v,_,_,_=>by simp[cV] at h
 |I::X,L::Z,s,O,H,P,N,M,0,k,x,v,U,R,Q=>by
  obtain⟨G,J⟩:=H;simp only[S.bE,ayB,axM] at U R Q;subst U R Q;have F:=As Z (O.add L);simp only[aa.ext];cases I<;>cases L<;>simp[nX] at G;refine⟨?_,by simp[S.fresh]⟩;simp only[S.fresh,SV.den,IE.den,XV.at];rw[F.i _ (by simp[aa.add,P])];simp[aa.add,<-P];refine⟨?_,by simp[S.fresh]⟩;simp only[S.fresh,SV.den,BE.den,XV.at];rw[F.b _ (by simp[aa.add,N])];simp[aa.add,<-N];refine⟨?_,by simp[S.fresh]⟩;simp only[S.fresh,SV.den,RE.den,RE.rv,XV.at];rw[F.r _ (by simp[aa.add,M])];simp[aa.add,aa.rv,<-M]
 |I::X,L::Z,s,O,H,P,N,M,q+1,k,x,v,U,R,Q=>by
  obtain⟨G,J⟩:=H;simp only[S.bE,ayk] at U R Q;simp only[aa.ext];cases I<;>cases L<;>simp[nX] at G;exact NU X Z _ _ J (by simp[S.fresh,aa.add,P]) (by simp[S.fresh,aa.add,N]) (by simp[S.fresh,aa.add,M]) q k x v U R Q;exact NU X Z _ _ J (by simp[S.fresh,aa.add,P]) (by simp[S.fresh,aa.add,N]) (by simp[S.fresh,aa.add,M]) q k x v U R Q;exact NU X Z _ _ J (by simp[S.fresh,aa.add,P]) (by simp[S.fresh,aa.add,N]) (by simp[S.fresh,aa.add,M]) q k x v U R Q
def NV:∀(X:List LK)(Z:List XV)(s:S)(O:aa),cV X Z->O.i.length=s.ni->O.b.length=s.nb->O.r.length=s.rs.length->
  ∀(q:Nat)(k:LK)(x:XV)(v:SV),X[q]?=some k->Z[q]?=some x->(s.bE X).1[q]?=some v->v.eL (O.ext Z) V=x.JT k
 |[],_,_,_,_,_,_,_,q,k,x,v,h,_,_=>by simp at h
 |_::_,[],_,_,h,_,_,_,q,k,x,v,_,_,_=>by simp[cV] at h
 |I::X,L::Z,s,O,H,P,N,M,0,k,x,v,U,R,Q=>by
  obtain⟨G,J⟩:=H;simp only[S.bE,ayB,axM] at U R Q;subst U R Q;have F:=As Z (O.add L);simp only[aa.ext];cases I<;>cases L<;>simp[nX] at G
  skip
  simp only[S.fresh,SV.eL,SV.den,IE.den,XV.JT,XV.at];rw[F.i _ (by simp[aa.add,P])];simp[aa.add,<-P]
  skip
  simp only[S.fresh,SV.eL,SV.den,BE.den,XV.JT,XV.at];rw[F.b _ (by simp[aa.add,N])];simp[aa.add,<-N]
  skip
  simp only[S.fresh,SV.eL,RE.rv,XV.JT];rw[F.r _ (by simp[aa.add,M])];simp[aa.add,aa.rv,<-M]
 |I::X,L::Z,s,O,H,P,N,M,q+1,k,x,v,U,R,Q=>by
  obtain⟨G,J⟩:=H;simp only[S.bE,ayk] at U R Q;simp only[aa.ext];cases I<;>cases L<;>simp[nX] at G;exact NV X Z _ _ J (by simp[S.fresh,aa.add,P]) (by simp[S.fresh,aa.add,N]) (by simp[S.fresh,aa.add,M]) q k x v U R Q;exact NV X Z _ _ J (by simp[S.fresh,aa.add,P]) (by simp[S.fresh,aa.add,N]) (by simp[S.fresh,aa.add,M]) q k x v U R Q;exact NV X Z _ _ J (by simp[S.fresh,aa.add,P]) (by simp[S.fresh,aa.add,N]) (by simp[S.fresh,aa.add,M]) q k x v U R Q
def adG:∀(Z:List LK)(s:S),(s.bE Z).1.length=Z.length
 |[],_=>rfl
 |k::Z,s=>by simp[S.bE,adG Z]
def adH{n:Nat}:∀{X:List (Nat×LK)}{Z:List SV}{v:SV},qQ n X Z=some v->∃(q:Nat)(k:LK),X[q]?=some (n,k)/\Z[q]?=some v
 |[],Z,v,h=>by simp[qQ] at h
 |_::_,[],v,h=>by simp[qQ] at h
 |(t,k)::r,x::N,v,h=>by
  simp only[qQ] at h;split at h;rename_i U;cases h;simp at U;subst U;exact⟨0,k,rfl,rfl⟩;obtain⟨q,R,Q,P⟩:=adH h;exact⟨q+1,R,by simpa using Q,by simpa using P⟩
def adI{n:Nat}:∀{Z:List (Nat×LK)}{X:List SV},Z.length<=X.length->qQ n Z X=none->Z.any (·.1==n)=false
 |[],X,_,h=>rfl
 |_::_,[],U,h=>by simp at U
 |(t,k)::r,x::Q,U,h=>by
  simp only[qQ] at h;split at h;cases h;rename_i R;simp only[List.any_cons,ayp];exact⟨by simpa using R,adI (by simpa using U) h⟩
def adJ{b n:Nat}:∀{X:List (Nat×Nat×LK)}{Z:List SV}{v:SV},aba b n X Z=some v->∃(q:Nat)(k:LK),X[q]?=some (b,n,k)/\Z[q]?=some v
 |[],Z,v,h=>by simp[aba] at h
 |_::_,[],v,h=>by simp[aba] at h
 |(N,t,k)::r,x::M,v,h=>by
  simp only[aba] at h;split at h;rename_i U;cases h;simp at U;obtain⟨rfl,rfl⟩:=U;exact⟨0,k,rfl,rfl⟩;obtain⟨q,R,Q,P⟩:=adJ h;exact⟨q+1,R,by simpa using Q,by simpa using P⟩
def adK{b n:Nat}:∀{Z:List (Nat×Nat×LK)}{X:List SV},Z.length<=X.length->aba b n Z X=none->Z.any (λc=>c.1==b&&c.2.1==n)=false
 |[],X,_,h=>rfl
 |_::_,[],U,h=>by simp at U
 |(Q,t,k)::r,x::P,U,h=>by
  simp only[aba] at h;split at h;cases h;rename_i R;simp only[List.any_cons,ayp];exact⟨by simpa using R,adK (by simpa using U) h⟩
def adL(Z:dA)(X:List Nat)(U:List SV):∀(l:List SV)(n i:Nat),(abb Z X U n l)[i]?=(l[i]?).map λx=>(qQ (n+i) Z.tm U).getD (if X.contains (n+i) then .any else x)
 |[],n,i=>by simp[abb]
 |x::R,n,0=>by simp[abb]
 |x::R,n,i+1=>by
  simp only[abb,ayk];rw[adL Z X U R (n+1) i,show n+1+i=n+(i+1) by omega]
def adM(Z:dA)(X:List SV)(b:Nat):∀(l:List SV)(n i:Nat),(CF Z X b n l)[i]?=(l[i]?).map λx=>(aba b (n+i) Z.cl X).getD x
 |[],n,i=>by simp[CF]
 |x::U,n,0=>by simp[CF]
 |x::U,n,i+1=>by
  simp only[CF,ayk];rw[adM Z X b U (n+1) i,show n+1+i=n+(i+1) by omega]
def JU(X:dA)(U:List SV):∀(l:aY)(n i:Nat),bF (pP X U n l) i=(bF l i).map λx=>(x.1,CF X U (n+i) 0 x.2)
 |[],n,i=>by simp[pP,bU]
 |none::Z,n,0=>by simp[pP,bU]
 |some (t,R)::Z,n,0=>by simp[pP,bU]
 |none::Z,n,i+1=>by
  have:=JU X U Z (n+1) i;rw[show n+1+i=n+(i+1) by omega] at this;simpa[pP,bU] using this
 |some (t,R)::Z,n,i+1=>by
  have:=JU X U Z (n+1) i;rw[show n+1+i=n+(i+1) by omega] at this;simpa[pP,bU] using this
def NW(Z:dA)(X:List SV):∀(l:aY)(n:Nat),(pP Z X n l).length=l.length
 |[],n=>rfl
 |none::U,n=>by simp[pP,NW Z X U]
 |some (t,R)::U,n=>by simp[pP,NW Z X U]
def adN(Z:dA)(X:List Nat)(U:List SV):∀(l:List SV)(n:Nat),(abb Z X U n l).length=l.length
 |[],n=>rfl
 |x::R,n=>by simp[abb,adN Z X U R]
def Vm{Q:dA}{P:List Nat}:∀{l X:List SV}{n:Nat},uk Q P n l X=true->l.length=X.length/\∀(i:Nat)(x y:SV),l[i]?=some x->X[i]?=some y->Q.tm.any (·.1==n+i)=true\/P.contains (n+i)=true\/x=y
 |[],[],n,_=>⟨rfl,λi x y h _=>by simp at h⟩
 |[],_::_,n,h=>by simp[uk] at h
 |_::_,[],n,h=>by simp[uk] at h
 |x::I,y::H,n,h=>by
  simp only[uk,axI,ayb] at h;obtain⟨N,M⟩:=Vm h.2;refine⟨by simp[N],λi L J U R=> ?_⟩;cases i with
  |zero=>
   simp only[ayB,axM] at U R;subst U R;rcases h.1 with(Z|Z)|Z;exact .inl Z;exact .inr (.inl Z);exact .inr (.inr (SV.bn _ _ Z))
  |succ i=>
   have:=M i L J (by simpa using U) (by simpa using R);rw[show n+(i+1)=n+1+i by omega];exact this
def adO{Q:dA}{b:Nat}:∀{l Z:List SV}{n:Nat},CG Q b n l Z=true->l.length=Z.length/\∀(i:Nat)(x y:SV),l[i]?=some x->Z[i]?=some y->Q.cl.any (λc=>c.1==b&&c.2.1==n+i)=true\/x=y
 |[],[],n,_=>⟨rfl,λi x y h _=>by simp at h⟩
 |[],_::_,n,h=>by simp[CG] at h
 |_::_,[],n,h=>by simp[CG] at h
 |x::J,y::I,n,h=>by
  simp only[CG,axI,ayb] at h;obtain⟨P,N⟩:=adO h.2;refine⟨by simp[P],λi M L X U=> ?_⟩;cases i with
  |zero=>
   simp only[ayB,axM] at X U;subst X U;rcases h.1 with R|R;exact .inl R;exact .inr (SV.bn _ _ R)
  |succ i=>
   have:=N i M L (by simpa using X) (by simpa using U);rw[show n+(i+1)=n+1+i by omega];exact this
def Vn{L:dA}:∀{l P:aY}{n:Nat},oU L n l P=true->∀(i:Nat)(t:TypeId)(X:List SV),bF l i=some (t,X)->∃U,bF P i=some (t,U)/\CG L (n+i) 0 X U=true
 |[],P,n,_,i,t,X,h=>by simp[bU] at h
 |none::R,[],n,Z,i,t,X,h=>by simp[oU] at Z
 |none::R,y::Q,n,Z,0,t,X,h=>by simp[bU] at h
 |none::R,y::Q,n,Z,i+1,t,X,h=>by
  simp only[oU] at Z;obtain⟨U,N,M⟩:=Vn Z i t X (by simpa[bU] using h);exact⟨U,by simpa[bU] using N,by rw[show n+(i+1)=n+1+i by omega];exact M⟩
 |some x::R,[],n,Z,i,t,X,h=>by simp[oU] at Z
 |some x::R,none::Q,n,Z,i,t,X,h=>by simp[oU] at Z
 |some x::R,some y::Q,n,Z,0,t,X,h=>by
  simp only[oU,axI,beq_iff_eq] at Z;simp only[bU,ayB,axM] at h⊢;subst h;exact⟨y.2,by rw[show(t:TypeId)=y.1 from Z.1.1],Z.1.2⟩
 |some x::R,some y::Q,n,Z,i+1,t,X,h=>by
  simp only[oU,axI] at Z;obtain⟨U,N,M⟩:=Vn Z.2 i t X (by simpa[bU] using h);exact⟨U,by simpa[bU] using N,by rw[show n+(i+1)=n+1+i by omega];exact M⟩
def adP{Z:dA}{k:LK}(U:Z.tm[X]?=some (v,k)):Z.ks[X]?=some k:=by
 have R:X<Z.tm.length:=(axJ.1 U).1;unfold dA.ks;rw[axL (by simpa using R),axO,U];rfl
def adQ{U:dA}{k:LK}(R:U.tm[X]?=some (v,k))(Q:Z.tmps[v]?=some J):(gT U Z)[X]?=some J:=by
 have P:X<U.tm.length:=(axJ.1 R).1;unfold gT;rw[axL (by simpa using P),axO,R];simp[Q]
def yH(h:v<X):ad (U.take X) v=ad U v:=by simp[ad,h]
def an9(Z:dA)(s:S):(fH Z s).length=s.rs.length:=wm _ _ _
def adR:∀{l X:List RK},uj l X=true->∀(k:Nat)(e:RK),l[k]?=some e->∃U,X[k]?=some U/\(e=.dead\/U=e)
 |[],X,_,k,e,h=>by simp at h
 |x::R,[],h,_,_,_=>by simp[uj] at h
 |x::R,y::Q,h,0,e,Z=>by
  simp only[uj,axI,ayb,decide_eq_true_eq] at h;simp at Z;subst Z;exact⟨y,rfl,h.1.imp id Eq.symm⟩
 |x::R,y::Q,h,k+1,e,Z=>by
  simp only[uj,axI] at h;exact adR h.2 k e (by simpa using Z)
def NX:∀{X:List LK}{Z:List SV}{q:Nat}{e:TypeId}{k:Nat},X[q]?=some (.ref (.own e))->Z[q]?=some (.ref (.v k))->k∈yg X Z
 |[],Z,q,e,k,h,_=>by simp at h
 |_::_,[],q,e,k,_,h=>by simp at h
 |Q::X,v::Z,0,e,k,U,R=>by simp at U R;subst U R;simp[yg,M1]
 |Q::X,v::Z,q+1,e,k,U,R=>by
  simp only[yg,axS];right;exact NX (q:=q) (by simpa using U) (by simpa using R)
def NY:∀{a b:List Nat},jV (a++b)=true->jV b=true/\∀x∈a,x∉b
 |[],b,h=>⟨h,by simp⟩
 |x::a,b,h=>by
  simp only[axY,jV,axI] at h;obtain⟨X,U⟩:=NY h.2;refine⟨X,λy Z=> ?_⟩;rcases axT.1 Z with rfl|Z;intro R;have:=h.1;simp[R] at this;exact U y Z
def adS:∀{Q:List LK}{X:List SV}{q U:Nat}{e P:TypeId}{k Z:Nat},jV (yg Q X)=true->Q[q]?=some (.ref (.own e))->X[q]?=some (.ref (.v k))->Q[U]?=some (.ref (.own P))->X[U]?=some (.ref (.v Z))->q≠U->k≠Z
 |[],X,q,U,e,P,k,Z,_,h,_,_,_,_=>by simp at h
 |_::_,[],q,U,e,P,k,Z,_,_,h,_,_,_=>by simp at h
 |I::Q,v::X,0,0,e,P,k,Z,_,_,_,_,_,h=>absurd rfl h
 |I::Q,v::X,0,U+1,e,P,k,Z,R,N,M,L,J,_=>by
  simp at N M;subst N M;simp only[yg] at R;have:=(NY R).2 k (by simp[M1]);intro H;subst H;exact this (NX (q:=U) (by simpa using L) (by simpa using J))
 |I::Q,v::X,q+1,0,e,P,k,Z,R,N,M,L,J,_=>by
  simp at L J;subst L J;simp only[yg] at R;have:=(NY R).2 Z (by simp[M1]);intro H;subst H;exact this (NX (q:=q) (by simpa using N) (by simpa using M))
 |I::Q,v::X,q+1,U+1,e,P,k,Z,R,N,M,L,J,G=>by
  simp only[yg] at R;exact adS (NY R).1 (by simpa using N) (by simpa using M) (by simpa using L) (by simpa using J) (by omega)
def ao.head{ty:Ty}{Q:dA}{a1:Act}(bv:s.bd=true)(ei:O.i.length=s.ni)(eb:O.b.length=s.nb)(er:O.r.length=s.rs.length)
  (B:bl s O V Z N e)(R1:ao f m D ty e N Z a1 t)(hT:uk Q U 0 s.tmps Z.tmps=true)(hB:oU Q 0 s.boxes Z.boxes=true)(hf:oV Z Q.ks (gT Q Z)=true)
  (hR:uj (fH Q s) Z.rs=true)(hO:CE (fH Q s) (CD Q Z)=true)(b5:Z.pd=s.pd):
  ao f m D ty (e.take s.boxes.length) (O.ext ((gT Q Z).map (SV.xv N))) (m6 Q U s) a1 t:=by
 obtain⟨b6,b7⟩:SV.cq O.i.length O.b.length O.r.length (aD s.boxes) s.tmps=true/\SV.m5 O.i.length O.b.length O.r.length (aD s.boxes) s.boxes=true:=by
  simp only[S.bd,axI] at bv;rw[ei,eb,er];exact bv
 have al:=Vl (O1:=N) hf;have a0:O.r.length=(fH Q s).length:=by rw[an9];exact er
 obtain⟨c1,a5⟩:=adF hf;generalize a8:(gT Q Z).map (SV.xv N)=C at*;obtain⟨e1,e2,e3,e4⟩:=sJ Q.ks {s with av:=s.av+1,rs:=fH Q s};obtain⟨l1,l2,l3⟩:=uB Q.ks C {s with av:=s.av+1,rs:=fH Q s} O al ei eb a0;have bk:=yA s.boxes O C V;have b8:=NU (V:=e.take s.boxes.length) Q.ks C {s with av:=s.av+1,rs:=fH Q s} O al ei eb a0;have br:=adG Q.ks {s with av:=s.av+1,rs:=fH Q s};have bs:Q.ks.length=Q.tm.length+Q.cl.length:=by simp[dA.ks]
 have a2:∀i,aD (pP Q (((({s with av:=s.av+1,rs:=fH Q s}:S).bE Q.ks).1).drop Q.tm.length) 0 s.boxes) i=true->aD s.boxes i=true/\i<s.boxes.length:=by
  intro i A;unfold aD at A;rw[JU] at A;have:(bF s.boxes i).isSome=true:=by simpa using A
  obtain⟨b,J⟩:=ax1.1 this;exact⟨this,(axJ.1 (gG.1 J)).1⟩
 have ca:∀v:SV,v.bd O.i.length O.b.length O.r.length (aD s.boxes)=true->v.den (O.ext C) (e.take s.boxes.length)=v.den N e:=by
  intro v o;rw[B.ext.den o];refine SV.cB bk.agree (λk n=> ?_) v o;have a3:k<s.boxes.length:=by
   obtain⟨b,J⟩:=ax1.1 n;exact(axJ.1 (gG.1 J)).1
  rw[yH a3];exact B.ext.ad k n
 have cc:∀(q:Nat)(k:LK)(v w:SV),Q.ks[q]?=some k->(gT Q Z)[q]?=some w->(({s with av:=s.av+1,rs:=fH Q s}:S).bE Q.ks).1[q]?=some v->v.den (O.ext C) (e.take s.boxes.length)=w.den N e/\v≠ .any:=by
  intro q k v w n hw o;have d:C[q]?=some (w.xv N):=by rw[<-a8];simp[hw]
  obtain⟨P,M⟩:=b8 q k _ v n d o;exact⟨P.trans (adE (V1:=e) (a5 q k w n hw)).1,M⟩
 have ch:∀v:SV,v.bd O.i.length O.b.length O.r.length (aD s.boxes)=true->v.eL (O.ext C) (e.take s.boxes.length)=v.eL N e:=by
  intro v o;rw[Uq B.ext.agree B.ext.ad v o];refine Uq bk.agree (λk n=> ?_) v o;have a3:k<s.boxes.length:=by
   obtain⟨b,J⟩:=ax1.1 n;exact(axJ.1 (gG.1 J)).1
  rw[yH a3];exact B.ext.ad k n
 have cp:∀(q:Nat)(k:LK)(v w:SV),Q.ks[q]?=some k->(gT Q Z)[q]?=some w->(({s with av:=s.av+1,rs:=fH Q s}:S).bE Q.ks).1[q]?=some v->v.eL (O.ext C) (e.take s.boxes.length)=w.eL N e:=by
  intro q k v w n hw o;have d:C[q]?=some (w.xv N):=by rw[<-a8];simp[hw]
  rw[NV (V:=e.take s.boxes.length) Q.ks C {s with av:=s.av+1,rs:=fH Q s} O al ei eb a0 q k _ v n d o];exact an8 (a5 q k w n hw)
 have bt:∀(k:Nat)(X:RK)(I:RV),(fH Q s)[k]?=some X->O.r[k]?=some I->∃e1,Z.rs[k]?=some e1/\N.r[k]?=some I/\(X=.dead\/e1=X):=by
  intro k X I P M;have n:k<O.r.length:=(axJ.1 M).1;have ct:k<N.r.length:=azI n B.ext.lr;have cv:N.r[k]?=some I:=by
   have:=B.ext.agree.r k n;simp only[aa.rv,axN,M,ayo] at this;rw[axK ct] at this⊢;simpa using this
  obtain⟨L,h3,h4⟩:=adR hR k X P;exact⟨L,h3,cv,h4⟩
 have bx:∀(q:Nat)(X:RK)(I:RV),Q.ks[q]?=some (.ref X)->C[q]?=some (.r I)->(∃F:Nat,(gT Q Z)[q]?=some (.ref (.v F))/\Z.rs[F]?=some X/\N.r[F]?=some I)\/(I=.mk (.slice none 0 0) []/\∃R sh,X=.sl R\/X=.own R\/X=.mr sh):=by
  intro q X I P M;rw[<-a8,axO] at M;cases hw:(gT Q Z)[q]? with
  |none=>rw[hw] at M;cases M
  |some w=>
   rw[hw] at M;simp only[axR,axM] at M;have a6:=a5 q _ w P hw;unfold yi at a6;split at a6;rename_i af;cases af;rename_i af;cases af;rename_i L k af;cases af;simp only[SV.xv,XV.r.injEq] at M;have bX:Z.rs[k]?=some X:=by simpa using a6
   refine .inl ⟨k,rfl,bX, ?_⟩;rw[<-M];exact qX R1 bX;rename_i L af;cases af;simp only[SV.xv,XV.r.injEq,RE.rv] at M;exact .inr ⟨M.symm,_,⟨0,0,0,false,false⟩,.inl rfl⟩;rename_i L af;cases af;simp only[SV.xv,XV.r.injEq,RE.rv] at M;exact .inr ⟨M.symm,_,⟨0,0,0,false,false⟩,.inr (.inl rfl)⟩;rename_i L af;cases af;simp only[SV.xv,XV.r.injEq,RE.rv] at M;exact .inr ⟨M.symm,0,_,.inr (.inr rfl)⟩;cases a6
 simp only[CE,axI] at hO;obtain⟨cx,cy⟩:=hO;have b0:∀(q:Nat)(X:TypeId)(F:Nat),Q.ks[q]?=some (.ref (.own X))->(gT Q Z)[q]?=some (.ref (.v F))->∀L,(fH Q s)[F]?=some L->L=.dead:=by
  intro q X F P M L h3;have:=axU.1 cy F (NX P M);simp only[ayb,decide_eq_true_eq] at this;rcases this with h4|h4;have:=(axJ.1 h3).1;omega;rw[h4] at h3;cases h3;rfl
 refine⟨⟨R1.mem.base, ?_, ?_, ?_, ?_⟩, ?_,l1,l2,l3, ?_, ?_, ?_, ?_⟩;intro i A;obtain⟨P,M⟩:=a2 i A;rw[yH M];exact R1.mem.own i (B.mono i P);intro i j A hj;obtain⟨P,M⟩:=a2 i A;obtain⟨h3,h4⟩:=a2 j hj;rw[yH M,yH h4];exact R1.mem.inj i j (B.mono i P) (B.mono j h3);intro i R cs h;simp only[m6] at h;rw[JU,ayg] at h;cases J:bF s.boxes i with
 |none=>rw[J] at h;cases h
 |some x=>
  obtain⟨t0,a9⟩:=x;rw[J] at h;simp only[axR,axM,azq] at h;obtain⟨rfl,rfl⟩:=h;obtain⟨a7,b1,b2⟩:=Vn hB i t0 a9 J;rw[ayg] at b2;obtain⟨cI,bb⟩:=adO b2;have a3:i<s.boxes.length:=(axJ.1 (gG.1 J)).1;rw[yH a3,R1.mem.box i t0 a7 b1];congr 2;apply ayf;intro j;rw[SV.cg,SV.cg,axO,axO,adM,ayg];cases d:a9[j]? with
  |none=>
   have:a7[j]?=none:=by
    rw[ayC] at d⊢;omega
   simp[this]
  |some x=>
   obtain⟨y,hy⟩:∃y,a7[j]?=some y:=by
    have:j<a9.length:=(axJ.1 d).1;exact⟨a7[j],axK (by omega)⟩
   rw[hy];simp only[axR,axM];cases hp:aba i j Q.cl ((({s with av:=s.av+1,rs:=fH Q s}:S).bE Q.ks).1.drop Q.tm.length) with
   |some v=>
    obtain⟨q,k,hq,o⟩:=adJ hp;rw[ayq] at o;simp only[ayo];refine(cp (Q.tm.length+q) k v y ?_ ?_ o).symm;simp[dA.ks,axP,hq];simp[gT,axP,hq,ab2,b1,hy]
   |none=>
    have hn:=adK (by rw[ay9,br,bs];omega) hp;rcases bb j x y d hy with P|P;rw[ayg] at P;rw[hn] at P;cases P;subst P;simp only[aAe];exact(ch x (qT (o8 b7 J) d)).symm
 have bf:=C3 (PP:=λX I=>aX t ty X I/\∀b,cu ty X I b->∀i,aD s.boxes i=true->ad e i≠b) Q.ks C {s with av:=s.av+1,rs:=fH Q s} O al a0 ?_ ?_;intro k X I P M;obtain⟨h3,h4⟩:=bf k X I P M;refine⟨h3,λb J i A=> ?_⟩;obtain⟨h5,h6⟩:=a2 i A;rw[yH h6];exact h4 b J i h5
 
 intro q X I P M;rcases bx q X I P M with⟨F,_,g2,H⟩|⟨rfl,R,sh,g⟩;have:=R1.mem.ref F X I g2 H;exact⟨this.1,λb J i A=>this.2 b J i (B.mono i A)⟩;have hn:∀b,¬cu ty (.sl R) (.mk (.slice none 0 0) []) b:=λb J=>by
  cases J with
  |deep X v b3 i j ag c z k b u=>simp at u
 rcases g with rfl|rfl|rfl;exact⟨yD none 0,λb J=>(hn b J).elim⟩;refine⟨aX.own R _ (yD none 0) (λl c h=>by cases h;rfl),λb J=> ?_⟩;cases J with
 |own X I b J=>exact(hn b J).elim
 exact⟨aX.mr sh [] (λi ag h=>by simp at h) (λi j ag c k h=>by simp at h) (λi j ag c h=>by simp at h) (λi j ag c z k h=>by simp at h),λb J=>by cases J⟩;intro k X I P M;obtain⟨e1,u,g2,H⟩:=bt k X I P M;have:=R1.mem.ref k e1 I u g2;rcases H with rfl|rfl;exact⟨aX.dead _ (FC this.1),λb J=>by cases J⟩;exact⟨this.1,λb J i A=>this.2 b J i (B.mono i A)⟩;simp[m6,NW];have:=B.len;rw[R1.dX];omega;have P:=R1.bY;rw[b5,B.ext.agree.y,<-FX C O] at P;simp only[m6];rw[Vi];exact P;simp only[m6,adN];rw[R1.size,(Vm hT).1];intro R sv h;simp only[m6] at h;rw[adL,ayg] at h;cases d:s.tmps[R]? with
 |none=>rw[d] at h;cases h
 |some x=>
  rw[d] at h;simp only[axR,axM] at h;obtain⟨cI,bb⟩:=Vm hT;obtain⟨y,hy⟩:∃y,Z.tmps[R]?=some y:=by
   have:R<s.tmps.length:=(axJ.1 d).1;exact⟨Z.tmps[R],axK (by omega)⟩
  cases hp:qQ R Q.tm ((({s with av:=s.av+1,rs:=fH Q s}:S).bE Q.ks).1) with
  |some v=>
   rw[hp] at h;simp only[ayo] at h;subst h;obtain⟨q,k,hq,o⟩:=adH hp;have hc:=(cc q k v y (adP hq) (adQ hq hy) o);rcases R1.tmps R y hy with P|P;subst P;have:=a5 q k .any (adP hq) (adQ hq hy);rcases k with _|_|(_|_|_|_|_)<;>simp[yi] at this;right;rw[hc.1];exact P
  |none=>
   rw[hp] at h;simp only[aAe] at h;split at h;exact .inl h.symm;rename_i c0;subst h;have hn:=adI (by rw[br,bs];omega) hp;rcases bb R x y d hy with P|P|P;rw[ayg] at P;rw[hn] at P;cases P;rw[ayg] at P;exact absurd P c0;subst P;rcases R1.tmps R x hy with M|M;exact .inl M;right;rw[ca x (qT b6 d)];exact M
 intro k X I b P M h3;simp only[m6] at P;have bf:∃F:Nat,Z.rs[F]?=some (RK.own X)/\N.r[F]?=some I/\∀(G:Nat)(L:RK)(E:RV),G≠k->(m6 Q U s).rs[G]?=some L->(O.ext C).r[G]?=some E->uq ty L E b->∃ac:Nat,ac≠F/\Z.rs[ac]?=some L/\N.r[ac]?=some E:=by
  have other:∀(G:Nat)(L:RK)(E:RV),(m6 Q U s).rs[G]?=some L->(O.ext C).r[G]?=some E->uq ty L E b->
    ((fH Q s)[G]?=some L/\Z.rs[G]?=some L/\N.r[G]?=some E)\/∃q ac:Nat,Q.ks[q]?=some (.ref L)/\(gT Q Z)[q]?=some (.ref (.v ac))/\Z.rs[ac]?=some L/\N.r[ac]?=some E/\G=(fH Q s).length+Az (Q.ks.take q):=by
   intro G L E u g2 H;rcases FY Q.ks C {s with av:=s.av+1,rs:=fH Q s} O al a0 G L E u g2 with⟨p1,p2⟩|⟨q,p1,p2,p3⟩;obtain⟨e1,q1,q2,q3⟩:=bt G L E p1 p2;rcases q3 with rfl|rfl;rcases H with H|⟨⟨R,ht⟩,_⟩;cases H;cases ht;exact .inl ⟨p1,q1,q2⟩;rcases bx q L E p1 p2 with⟨F,q1,q2,q3⟩|⟨rfl,R,sh,q⟩;exact .inr ⟨q,F,p1,q1,q2,q3,p3⟩;exfalso;rcases H with H|⟨_,H⟩;rcases q with rfl|rfl|rfl;cases H with
   |deep X v b3 i j ag c z k b u=>simp at u
   cases H with
   |own X I b H=>cases H with
    |deep X v b3 i j ag c z k b u=>simp at u
   cases H;simp[RV.iN] at H
  rcases other k (.own X) I P M (.inr ⟨⟨X,rfl⟩,h3⟩) with⟨p1,p2,p3⟩|⟨q,F,p1,p2,p3,p4,p5⟩;refine⟨k,p2,p3,λG L E g0 u g2 H=> ?_⟩;rcases other G L E u g2 H with⟨r1,r2,r3⟩|⟨q',ac,r1,r2,r3,r4,r5⟩;exact⟨G,g0,r2,r3⟩;refine⟨ac,λa4=> ?_,r3,r4⟩;subst a4;rw[p2] at r3;cases r3;have:=b0 q' X ac r1 r2 _ p1;cases this;refine⟨F,p3,p4,λG L E g0 u g2 H=> ?_⟩;rcases other G L E u g2 H with⟨r1,r2,r3⟩|⟨q',ac,r1,r2,r3,r4,r5⟩;refine⟨G,λa4=> ?_,r2,r3⟩;subst a4;rw[p3] at r2;cases r2;have:=b0 q X G p1 p2 _ r1;cases this;refine⟨ac,λa4=> ?_,r3,r4⟩;subst a4;rw[p3] at r3;cases r3;by_cases b4:q=q';subst b4;exact g0 (by rw[r5,p5]);exact adS cx p1 p2 r1 r2 b4 rfl
 obtain⟨F,u,g2,H⟩:=bf;have R:=R1.bw F X I b u g2 h3;refine⟨R.own,R.mem,λi A=> ?_,λG L E q1 q2 q3 q4=> ?_,R.inner⟩;obtain⟨h5,h6⟩:=a2 i A;rw[yH h6];exact R.box i (B.mono i h5);obtain⟨ac,r1,r2,r3⟩:=H G L E q1 q2 q3 q4;exact R.alone ac L E r1 r2 r3 q4
end
structure jE(p:Sp)(d:bh):Prop where
 pt:p.ty=d.ty
 Vo:p.P.follows .mixedOrders=true
 jF:fK p.P d.ty
 Cw:Va p.P d
 AB:∀g,(d.sig g).isSome=true\/(d.inl g).isSome=true->∀args W,(callFunc g args).run p.P W=.ok (.enter g args) W
 NZ:∀ch W b o,p.w0.heap.size<=b->p.R (.panicked ch) W->p.R (.panicked ch) (W.putObj b o)
 inl:∀g c nt rs,d.inl g=some (c,nt,rs)->∃fn,p.P.funcs[g]?=some fn/\fn.body=some c/\fn.ntmps=nt/\fn.results.toList=rs
section
variable{p:Sp}{d:bh}
def ao.adT{f:List Nat}{m:World}{D:bB}{V:List Nat}{O:aa}{s:S}{a:Act}{W:World}(R:ao f m D d.ty V O s a W){t:Nat}{b:BE}{v:Bool}(X:s.tmps.getD t .any=.bool b)(Q:b.den O=v):
  ao f m D d.ty V O {s with tmps:=s.tmps.set t (.bool (.c v))} a W:=by
 refine⟨R.mem,R.dX,R.ei,R.eb,R.er,R.bY,by simpa using R.size,λi P h=> ?_,R.bw⟩;simp only[ayD] at h;split at h;rename_i N;subst N;split at h;rename_i U;cases h;have M:s.tmps[t]?=some (.bool b):=by
  rw[axN,axK U] at X;rw[axK U];simpa using X
 rcases R.tmps t _ M with Z|Z;cases Z;right;rw[Z];simp[SV.den,BE.den,Q];cases h;exact R.tmps i P h
end
end
variable{r:S}{c:BE}{M:List SV}{H:OM}{R:Option Nat}{I:TypeId}{b:BI}{x:Oper}{g:FuncId}
section
mutual
def IE.cF{V U R Q P N:Nat}(Z:V<=Q)(X:U<=P)(W:R<=N):∀(e:IE),e.bd V U R=true->e.bd Q P N=true
 |.c n,_=>IE.aK.1 _
 |.v k,h=>by simp[IE.aK] at h⊢;omega
 |.bin o k a b,h=>by simp[IE.aK] at h⊢;exact⟨IE.cF Z X W a h.1,IE.cF Z X W b h.2⟩
 |.conv k a,h=>by simp[IE.aK] at h⊢;exact IE.cF Z X W a h
 |.len r,h=>by simp[IE.aK] at h⊢;exact RE.cF Z X W r h
 |.mm m a b,h=>by simp[IE.aK] at h⊢;exact⟨IE.cF Z X W a h.1,IE.cF Z X W b h.2⟩
 |.bT b x y,h=>by simp[IE.aK] at h⊢;exact⟨⟨BE.cF Z X W b h.1.1,IE.cF Z X W x h.1.2⟩,IE.cF Z X W y h.2⟩
 |.cell r i j,h=>by simp[IE.aK] at h⊢;exact⟨RE.cF Z X W r h.1,IE.cF Z X W i h.2⟩
 |.jS r i,h=>by simp[IE.aK] at h⊢;exact⟨RE.cF Z X W r h.1,IE.cF Z X W i h.2⟩
 |.look r n a b c j,h=>by simp[IE.aK] at h⊢;exact⟨⟨⟨RE.cF Z X W r h.1.1.1,IE.cF Z X W a h.1.1.2⟩,IE.cF Z X W b h.1.2⟩,IE.cF Z X W c h.2⟩
def BE.cF{V U R Q P N:Nat}(Z:V<=Q)(X:U<=P)(W:R<=N):∀(e:BE),e.bd V U R=true->e.bd Q P N=true
 |.c n,_=>BE.aK.1 _
 |.v k,h=>by simp[BE.aK] at h⊢;omega
 |.cmp o a b,h=>by simp[BE.aK] at h⊢;exact⟨IE.cF Z X W a h.1,IE.cF Z X W b h.2⟩
 |.not a,h=>by simp[BE.aK] at h⊢;exact BE.cF Z X W a h
 |.and a b,h=>by simp[BE.aK] at h⊢;exact⟨BE.cF Z X W a h.1,BE.cF Z X W b h.2⟩
 |.beq a b,h=>by simp[BE.aK] at h⊢;exact⟨BE.cF Z X W a h.1,BE.cF Z X W b h.2⟩
 |.bT b x y,h=>by simp[BE.aK] at h⊢;exact⟨⟨BE.cF Z X W b h.1.1,BE.cF Z X W x h.1.2⟩,BE.cF Z X W y h.2⟩
 |.cell r i j,h=>by simp[BE.aK] at h⊢;exact⟨RE.cF Z X W r h.1,IE.cF Z X W i h.2⟩
 |.seq a b,h=>by simp[BE.aK] at h⊢;exact⟨RE.cF Z X W a h.1,RE.cF Z X W b h.2⟩
 |.look r n a b c j,h=>by simp[BE.aK] at h⊢;exact⟨⟨⟨RE.cF Z X W r h.1.1.1,IE.cF Z X W a h.1.1.2⟩,IE.cF Z X W b h.1.2⟩,IE.cF Z X W c h.2⟩
 |.has r n a b c,h=>by simp[BE.aK] at h⊢;exact⟨⟨⟨RE.cF Z X W r h.1.1.1,IE.cF Z X W a h.1.1.2⟩,IE.cF Z X W b h.1.2⟩,IE.cF Z X W c h.2⟩
def RE.cF{Z X W V U R:Nat}(Q:Z<=V)(P:X<=U)(N:W<=R):∀(e:RE),e.bd Z X W=true->e.bd V U R=true
 |.v k,h=>by simp[RE.aK] at h⊢;omega
 |.cell r i j k,h=>by simp[RE.aK] at h⊢;exact⟨RE.cF Q P N r h.1,IE.cF Q P N i h.2⟩
 |.k v,_=>RE.aK.2.2 _
end
def N0{ty:Ty}{s V:S}:∀{r:RE}{e:RK},(∀(k:Nat)(e:RK),r.root=some k->s.rs[k]?=some e->∃Z,V.rs[k]?=some Z/\Z.rd=e.rd)->e≠ .aq->r.kind ty s=e->r.kind ty V=e
 |.v k,e,bp,X,h=>by
  simp only[RE.kind,axN] at h⊢;cases W:s.rs[k]? with
  |none=>rw[W] at h;exact absurd (show e=.aq from h.symm) X
  |some q=>
   rw[W] at h;obtain⟨Z,U,R⟩:=bp k q rfl W;rw[U];simp only[ayo] at h⊢;rw[R];exact h
 |.cell r i j P,e,bp,X,h=>by
  simp only[RE.kind] at h⊢;split at h;rename_i Z Q;rw[N0 (r:=r) bp (by simp) Q];exact h;exact absurd h.symm X
 |.k v,e,bp,X,h=>by cases v<;>exact h
def yI{ty:Ty}{s s':S}(h:s.rs=s'.rs):∀r:RE,r.kind ty s=r.kind ty s'
 |.v k=>by simp only[RE.kind,h]
 |.cell r i j k=>by simp only[RE.kind,yI h r]
 |.k v=>by cases v<;>rfl
def ww(ty:Ty)(s Z:S):Prop:=∀(r:RE)(e:RK),e≠ .aq->r.kind ty s=e->r.kind ty Z=e
def ww.uC{ty:Ty}(h:r.rs=Z.rs):ww ty Z r:=λX e _ W=>by rw[yI h];exact W
def aoa{ty:Ty}(bp:ww ty Z r){X:CT}{y:SV}(h:EZ ty Z X J y=some c):EZ ty r X J y=some c:=by
 unfold EZ at h⊢;split at h;exact h;exact h;split at h;rename_i W;rw[if_pos ⟨bp _ _ (by simp) W.1,bp _ _ (by simp) W.2⟩];exact h;cases h;cases h
def adU{ty:Ty}{s X:S}(bp:ww ty s X):∀{Z:List CT}{x y:List SV}{e:BE},nS ty s Z x y=some e->nS ty X Z x y=some e
 |[],[],[],e,h=>h
 |c::Z,x::U,y::R,e,h=>by
  simp only[nS] at h⊢;split at h;rename_i a b W V;rw[aoa bp W,adU bp V];exact h;cases h
 |[],[],_::_,e,h=>by simp[nS] at h
 |[],_::_,_,e,h=>by simp[nS] at h
 |_::_,[],_,e,h=>by simp[nS] at h
 |_::_,_::_,[],e,h=>by simp[nS] at h
def adV{ty:Ty}(bp:ww ty Z r){X:Option TI}{y:List SV}(h:E0 ty Z X M y=some c):E0 ty r X M y=some c:=by
 unfold E0 at h⊢;split at h;exact adU bp h;cases h
section
variable{ty:Ty}{D:List (Nat×Nat×Nat)}{O:aa}
def N1{M:Op}{X:PR}(V:∀x∈M.operands.toList,r.ev D x=Z.ev D x)(Q:looks M=true->abd M=false->ww ty Z r)
  (ac:∀t x X w i G,M=.load t x->Z.ev D x=.el X w i G->∀e,e≠ .aq->X.kind ty Z=e->X.kind ty r=e)
  (C:∀i,vU D Z M=some i->bF r.boxes i=bF Z.boxes i)(h:bz ty D Z M=X)(U:∀w,X≠ .no w):bz ty D r M=X:=by
 cases M with
 |move x=>have W:=V x (by simp[Op.operands]);simp only[bz] at h⊢;rw[W];exact h
 |assign x=>have W:=V x (by simp[Op.operands]);simp only[bz] at h⊢;rw[W];exact h
 |pick c x y=>
  have W:=V c (by simp[Op.operands]);have P:=V x (by simp[Op.operands]);have B:=V y (by simp[Op.operands]);simp only[bz] at h⊢;rw[W,P,B];exact h
 |load t x=>
  have W:=V x (by simp[Op.operands]);simp only[bz] at h⊢;rw[W];split at h;rename_i l i G J N;rw[Ju (C i (by simp only[vU,N]))];exact h;rename_i l X w i G J N;split at h;rename_i e R;rw[ac t x X w i G rfl N _ (by simp) R];exact h;exact absurd h.symm (U _);rename_i l e ks A J N;have I:((ug A).bind λi=>i6 r.boxes i)=(ug A).bind λi=>i6 Z.boxes i:=by
   cases hl:ug A with
   |none=>rfl
   |some i=>exact Ju (C i (by simp only[vU,N];exact hl))
  rw[I];exact h;exact absurd h.symm (U _)
 |fieldAddr t x f=>have W:=V x (by simp[Op.operands]);simp only[bz] at h⊢;rw[W];exact h
 |field t x f=>have W:=V x (by simp[Op.operands]);simp only[bz] at h⊢;rw[W];exact h
 |indexAddr t x y=>
  have W:=V x (by simp[Op.operands]);have P:=V y (by simp[Op.operands]);simp only[bz] at h⊢;rw[W,P];split at h;exact h;exact h;exact h;split at h;rename_i J R;rw[(Q rfl rfl) _ _ (by simp) R,J];exact h;exact absurd h.symm (U _);exact h;exact h;exact absurd h.symm (U _)
 |index t x y=>
  have W:=V x (by simp[Op.operands]);have P:=V y (by simp[Op.operands]);simp only[bz] at h⊢;rw[W,P];split at h;exact h;exact h;split at h;rename_i R;rw[(Q rfl rfl) _ _ (by simp) R];exact h;exact absurd h.symm (U _);exact absurd h.symm (U _)
 |binOp M t x y t2=>
  have W:=V x (by simp[Op.operands]);have P:=V y (by simp[Op.operands]);simp only[bz] at h⊢;rw[W,P];split at h;exact h;exact h;exact h;split at h;rename_i F H;simp only[(Q rfl rfl) _ _ (by simp) F,(Q rfl rfl) _ _ (by simp) H];exact h;rename_i F H;simp only[(Q rfl rfl) _ _ (by simp) F,(Q rfl rfl) _ _ (by simp) H];exact h;exact absurd h.symm (U _);exact h;exact h;split at h;rename_i e R;rw[adV (Q rfl rfl) R];exact h;rename_i e R;rw[adV (Q rfl rfl) R];exact h;exact absurd h.symm (U _);exact absurd h.symm (U _)
 |unOp M t x=>have W:=V x (by simp[Op.operands]);simp only[bz] at h⊢;rw[W];exact h
 |convert t1 t2 x=>have W:=V x (by simp[Op.operands]);simp only[bz] at h⊢;rw[W];exact h
 |makeInterface t x=>have W:=V x (by simp[Op.operands]);simp only[bz] at h⊢;rw[W];exact h
 |makeFunc fn first j=>
  have W:j.toList.map (r.ev D)=j.toList.map (Z.ev D):=ax7 λx N=>V x (by simp[Op.operands];exact .inr (by simpa using N))
  simp only[bz] at h⊢;rw[W];exact h
 |extract x i=>have W:=V x (by simp[Op.operands]);simp only[bz] at h⊢;rw[W];exact h
 |nilCheck x=>have W:=V x (by simp[Op.operands]);simp only[bz] at h⊢;rw[W];exact h
 |slice t x z v mx=>
  have W:=V x (by simp[Op.operands]);have P:z.map (r.ev D)=z.map (Z.ev D):=by
   cases z with
   |none=>rfl
   |some y=>simp only[axR];rw[V y (by simp[Op.operands])]
  have B:v.map (r.ev D)=v.map (Z.ev D):=by
   cases v with
   |none=>rfl
   |some y=>simp only[axR];rw[V y (by simp[Op.operands])]
  simp only[bz] at h⊢;rw[W,P,B];exact h
 |build t parts=>
  have W:(parts.toList.map λp=>(p.1,r.ev D p.2))=parts.toList.map λp=>(p.1,Z.ev D p.2):=ax7 λp hp=>by rw[V p.2 (by simp[Op.operands];exact⟨p.1,by simpa using hp⟩)]
  simp only[bz] at h⊢;rw[W];exact h
 |lookup t x ix ok=>
  have W:=V x (by simp[Op.operands]);have P:=V ix (by simp[Op.operands]);simp only[bz] at h⊢;rw[W,P];split at h;rename_i k e n ag ab q i J N;have H:=C i (by simp only[vU,N]);unfold MM at h⊢;rw[H];split at h;rename_i te a b c bt cs g1 g2 g3;split at h;exact absurd h.symm (U _);rename_i af;rw[if_neg af];split at h;rename_i u;rw[if_pos u];split at h;rename_i X nk ka va;split at h;rename_i E;have:X.mX ty r ⟨k,e,n,ag,te.d.isAgg⟩=true:=by
   simp only[axI] at E;have g:=E.1.1.1.1.1;unfold RE.mX at g⊢;rcases aAt.1 g with o|o;rw[decide_eq_true ((Q rfl rfl) X _ (by simp) (of_decide_eq_true o))];rfl;rw[o];simp
  simp only[axI] at E;simp only[this,E,aza,if_true];exact h;exact absurd h.symm (U _);exact absurd h.symm (U _);rename_i u;rw[if_neg u];exact h;exact absurd h.symm (U _);exact absurd h.symm (U _)
 |call c=>
  have W:c.args.toList.map (r.ev D)=c.args.toList.map (Z.ev D):=ax7 λx N=>V x (by simp[Op.operands,Call.operands];exact .inr (by simpa using N))
  cases I:c.callee with
  |builtin b=>
   cases b with
   |len=>
    simp only[bz,I] at h⊢;rw[W];split at h;exact h;rename_i t X al F H;split at h;rename_i J R;simp only[(Q rfl rfl) _ _ (by simp) R,J];exact h;rename_i J R;simp only[(Q rfl rfl) _ _ (by simp) R,J];exact h;exact absurd h.symm (U _);exact h;exact absurd h.symm (U _)
   |min=>simp only[bz,I] at h⊢;rw[W];exact h
   |max=>simp only[bz,I] at h⊢;rw[W];exact h
   |_=>simp only[bz,I] at h;exact absurd h.symm (U _)
  |value f=>simp only[bz,I] at h;exact absurd h.symm (U _)
  |invoke X m=>simp only[bz,I] at h;exact absurd h.symm (U _)
 |_=>simp only[bz] at h;exact absurd h.symm (U _)
end
def PR.uD(s:S)(O:aa)(v:SV):PR->Prop
 |.ok x=>v=x
 |.az b x=>b.den O=true/\b.bd s.ni s.nb s.rs.length=true/\v=x
 |_=>False
def N2{r:PR}(h:r.uD Z N J):r.gives N J:=by
 cases r with
 |ok x=>exact h
 |az b x=>exact⟨h.1,h.2.2⟩
 |no w=>exact h
def eA(B:Array Oper)(m:OM)(s:S)(O:aa):Option Bool:=match m.o.guard with
 |none=>some true
 |some (j,Z)=>match(B[j]?).bind (·.dst) with
  |some d=>match s.tmps[d]? with
   |some (.bool b)=>if b.bd s.ni s.nb s.rs.length then some (b.den O==Z) else none
   |some (.bm [])=>some false
   |_=>none
  |none=>none
def QV(u:bh)(B:Array Oper)(O:aa)(m:OM)(s:S)(v:SV)(l:Nat):Prop:=
 (eA B m s O=some false/\v=.bm []/\l=0)\/
 (eA B m s O=some true/\(∀x∈m.o.op.operands.toList,(s.ev u.gl x).cR=false)/\match m.o.op with
  |.pick c x y=>∃e:BE,s.ev u.gl c=.bool e/\e.bd s.ni s.nb s.rs.length=true/\v=(if e.den O then s.ev u.gl x else s.ev u.gl y)/\l=0
  |.load t x=>(bz u.ty u.gl s (.load t x)).uD s O v/\l=I8 m.bc (s.ev u.gl x)
  |op=>(bz u.ty u.gl s op).uD s O v/\l=0)
def OR.C4(s:S)(O:aa)(Z:S):OR->Prop
 |.ok x=>Z=x
 |.az b x=>b.den O=true/\b.bd s.ni s.nb s.rs.length=true/\Z=x
 |.split b X W=>b.bd s.ni s.nb s.rs.length=true/\Z=if b.den O then X else W
 |.no _=>False
def fe(u:bh)(m:OM)(s:S)(O:aa)(Z:S):Prop:=(dR u m s).C4 s O Z
def FZ{u:bh}(h:fe u H Z N r):(dR u H Z).gives N r:=by
 unfold fe at h;cases X:dR u H Z<;>rw[X] at h;exact h;exact⟨h.1,h.2.2⟩;exact h.2;exact h
def adW{W:PR}:(oT Z R X W).C4 Z N r<->∃v,W.uD Z N v/\r=Z.bQ R v X:=by
 cases W with
 |ok v=>exact⟨λh=>⟨v,rfl,h⟩,λ⟨w,V,U⟩=>by cases V;exact U⟩
 |az b v=>
  simp only[oT];split;rename_i Q;exact⟨λh=>⟨v,⟨h.1,h.2.1,rfl⟩,h.2.2⟩,λ⟨w,⟨V,U,P⟩,M⟩=>⟨V,U,by rw[M,P]⟩⟩;rename_i Q;exact⟨λh=>h.elim,λ⟨w,⟨V,U,P⟩,M⟩=>absurd U Q⟩
 |no w=>exact⟨λh=>h.elim,λ⟨w,V,U⟩=>V.elim⟩
def F0(p:Sp)(u:bh)(s:S)(O:aa)(g:FuncId)(X:List SV)(K:aa->SV->S->Prop):Prop:=
 ∃N Z l,u.sig g=some N/\fb u.ty N=some Z/\vX u.ty N ((s.cut X Z).bE Z).1=some l/\(s.da X&&mq Z)=true/\
  ∀V W,gY p.S0 p.w0 V O (qO (nT (SV.lE X) 0 s.boxes)) p.ty (Jf X s.rs) W->Calls p.P g (SV.ap O V X).toArray W λ
   |.returned v,U=>∃Q,cV Z Q/\v=(one l).den (O.ext Q) V/\Below W.heap.size W U/\Fw p.ty U W.heap.size (O.mw p.ty (Jf X s.rs)) Z Q/\K (O.ext Q) (one l) ((s.cut X Z).bE Z).2
   |.panicked M,U=>Below W.heap.size W U/\p.R (.panicked M) U
   |.outgrown,_=>False
def pg(o:Option BI)(f:BI->Prop)(g:Prop):Prop:=match o with
 |some b=>f b
 |none=>g
def mz(o:Option (SV×aY))(f:SV->aY->Prop)(g:Prop):Prop:=match o with
 |some (v,Z)=>f v Z
 |none=>g
def cJ(p:Sp)(u:bh)(B:Array Oper)(A:sy)(Z:aa->S->Prop)(X:aa->SV->S->Prop)(W:OM->List OM->aa->S->Nat->List SV->Prop):List OM->aa->S->Prop
 |[],O,s=>Z O s
 |m::V,O,s=>
  (eA B m s O=some false/\cJ p u B A Z X W V O (s.put m.o.dst (.bm [])))\/
  (eA B m s O=some true/\match db u s m.o with
   |.call (.fn g) U=>mz (A g U s) (λv P=>s.bd=true/\cJ p u B A Z X W V O ((s.plus P).put m.o.dst v)) (F0 p u s O g U λN v R=>cJ p u B A Z X W V N (R.put m.o.dst v))
   |.call (.yl n) U=>m.so=true/\W m V O s n U
   |.aW v=>X O v s
   |.no=>False
   |.op=>pg (cP u m.o m.bc m.dr s) (λb=>b.az.den O=true/\∀Q,CS p.ty p.S0 p.w0 b.e b.x s.rs O Q->cJ p u B A Z X W V (O.add (.r Q)) b.s) (∃R,fe u m s O R/\cJ p u B A Z X W V O R))
def wz(s:S)(O:aa)(Z:Fx):Prop:=∀x∈Z,x.1.den O=x.2/\x.1.bd s.ni s.nb s.rs.length=true
def Vp{p:Sp}{L:List LC}{W:Fx}{t f:Fx->T}(U:wz Z N W)(h:(ye Z W c t f).aG p N L):
  c.bd Z.ni Z.nb Z.rs.length=true/\∃Q,wz Z N Q/\(if c.den N then(t Q).aG p N L else(f Q).aG p N L):=by
 have M:pW N W:=λx R=>(U x R).1
 have bv:∀v,I9 W c=some v->c.bd Z.ni Z.nb Z.rs.length=true:=by
  intro v X;unfold I9 at X;split at X;exact BE.aK.1 _;cases P:W.find? (λx=>x.1.same c) with
  |none=>rw[P] at X;cases X
  |some x=>
   have H:=az0 P;rw[<-BE.bn _ _ H];exact(U x (azm P)).2
 unfold ye at h;split at h;rename_i X;exact⟨bv _ X,W,U,by rw[NJ M X];exact h⟩;rename_i X;exact⟨bv _ X,W,U,by rw[NJ M X];exact h⟩;split at h;rename_i J;simp only[T.aG] at h;refine⟨J, ?_⟩;have I:∀v,c.den N=v->wz Z N ((c,v)::W):=λv V x R=>by
  rcases axT.1 R with rfl|R;exact⟨V,J⟩;exact U x R
 cases V:c.den N;exact⟨_,I _ V,by simpa using h.2 V⟩;exact⟨_,I _ V,by simpa using h.1 V⟩;exact h.elim
section
variable{p:Sp}{u:bh}{B:Array Oper}{A:sy}{L:List LC}{E:YH}{k:S->T}{C:SV->S->T}
def dG(s:S)(d:Option Nat)(v:SV):(s.put d v).ni=s.ni/\(s.put d v).nb=s.nb/\(s.put d v).rs=s.rs:=by cases d<;>exact⟨rfl,rfl,rfl⟩
def adX(h:(dR u H Z).gives N r):r.ni=Z.ni/\r.nb=Z.nb/\r.rs=Z.rs:=by
 unfold dR at h;split at h;exact h.elim;split at h;split at h;split at h;cases h;exact dG _ _ _;exact h.elim;exact h.elim;split at h;split at h;cases h;exact dG _ _ _;exact h.elim;exact h.elim;split at h;split at h;split at h;split at h;cases h;exact dG _ _ _;exact h.elim;exact h.elim;exact h.elim;exact h.elim;split at h;split at h;split at h;cases h;exact dG _ _ _;exact h.elim;exact h.elim;exact h.elim;split at h;simp only[OR.gives] at h;split at h<;>(subst h;exact dG _ _ _);exact h.elim;obtain⟨v,-,rfl⟩:=wq h;exact dG _ _ _;obtain⟨v,-,rfl⟩:=wq h;exact dG _ _ _
def JV{k:RK}{x:LE}(h:gO Z R c I k x U e=some b):b.s.ni=Z.ni/\b.s.nb=Z.nb/\b.s.rs.length=Z.rs.length+1:=by
 obtain⟨-,-,rfl⟩:=uy h;refine⟨(dG _ _ _).1,(dG _ _ _).2.1, ?_⟩;simp only;rw[(dG _ _ _).2.2];simp[wn,wm]
def adY{o:Oper}{bc X:Bool}{s:S}{b:BI}(h:cP u o bc X s=some b):b.s.ni=s.ni/\b.s.nb=s.nb/\b.s.rs.length=s.rs.length+1:=by
 unfold cP at h;split at h;split at h;split at h;split at h;split at h;split at h;cases h;split at h;exact JV h;cases h;cases h;cases h;cases h;cases h;split at h;split at h;split at h;exact JV h;cases h;cases h;cases h;split at h;cases h;split at h;split at h;split at h;split at h;exact JV h;cases h;cases h;cases h;cases h;split at h;cases h
 ·split at h
  all_goals first
   |cases h
   |(split at h
     split at h;exact JV h;cases h;cases h)
 split at h;cases h;split at h;split at h;split at h;split at h;cases Z:gO s none (qN _ (.len (.v _))) _ (.own _) _ [_] _ with
 |none=>rw[Z] at h;cases h
 |some R=>
  rw[Z] at h;simp only[axR,axM] at h;subst h;obtain⟨W,V,U⟩:=JV Z;refine⟨?_, ?_, ?_⟩;simp only;rw[(dG _ _ _).1];exact W;simp only;rw[(dG _ _ _).2.1];exact V;simp only;rw[(dG _ _ _).2.2];exact U
 cases h;cases h;cases h;cases h;cases h
def adZ{W:PR}(h:oT Z R X W=.az c r):c.bd Z.ni Z.nb Z.rs.length=true:=by
 cases W with
 |ok v=>cases h
 |az U v=>
  simp only[oT] at h;split at h;rename_i V;cases h;exact V;cases h
 |no w=>cases h
def aob(h:dR u H Z=.az c r):c.bd Z.ni Z.nb Z.rs.length=true:=by
 unfold dR at h;split at h;cases h;split at h
 ·(repeat' split at h)<;>cases h
 ·(repeat' split at h)<;>cases h
 ·(repeat' split at h)<;>cases h
 ·(repeat' split at h)<;>cases h
 ·(repeat' split at h)<;>cases h
 exact adZ h;exact adZ h
structure AC(B:Array Oper)(A:sy):Prop where
 q:∀(g:FuncId)(args:List SV)(s:S)(d:Option Nat)(v:SV)(l:Nat),A g args (s.bQ d v l)=A g args s
 z:∀(g:FuncId)(s:S)(n:Nat)(t:TypeId)(cs:List SV)(d:Option Nat)(w:SV),dL s.boxes n=true->A g [] ((s.bN n t cs).put d w)=A g [] s
 Vq:∀(g:FuncId)(args:List SV)(s:S)(r:SV×aY),A g args s=some r->M5 B=true
def ad0{W:aY}(h:aD Z.boxes X=true):bF (Z.plus W).boxes X=bF Z.boxes X:=by
 obtain⟨b,V⟩:=ax1.1 h;have U:=(axJ.1 (gG.1 V)).1;simp only[bU,S.plus,axL U]
def ad1{W:aY}(h:dL Z.boxes X=true):dL (Z.plus W).boxes X=true:=by
 have V:=(jZ h).2;simp only[dL,S.plus,axL V] at h⊢;exact h
def Vr{g:Cy}(h:db u Z x=.call g M):um x.op=true:=by
 unfold db at h;split at h;split at h<;>cases h
 ·rename_i c W;rw[W];cases X:c.callee with
  |value f=>simp[um,X]
  |invoke r m=>rw[X] at h;cases h
  |builtin b=>
   rw[X] at h;exfalso;revert h;cases b<;>simp only
   all_goals first
    |(intro h;cases h;done)
    |(split<;>intro h<;>first|(cases h;done)|(split at h<;>cases h))
 cases h
def ad2(X:Fb x.op=true)(h:db u Z x=.call (.fn g) M):M=[]:=by
 unfold Fb at X;split at X;rename_i c W;split at X;rename_i f V;have U:c.args.toList=[]:=by simpa using X
 simp only[db,W,V,S.ev,sn,U,List.any_nil,ax3,if_false,ay2,ax2,CK.call.injEq,Cy.fn.injEq] at h;exact h.2.symm;cases X;cases X
def AD(p:Sp)(k:S->T)(L:List LC)(O:aa)(s:S):Prop:=(k s).aG p O L
def yJ(p:Sp)(C:SV->S->T)(L:List LC)(O:aa)(v:SV)(s:S):Prop:=(C v s).aG p O L
def yK(p:Sp)(u:bh)(B:Array Oper)(A:sy)(E:YH)(k:S->T)(C:SV->S->T)(L:List LC)(m:OM)(Z:List OM)(O:aa)(s:S)(n:Nat)(W:List SV):Prop:=
 (∀V∈Z,V.dr=true)/\∃X,wz s O X/\(uo u A E (.yl n) W s (λv U=>kD u (uo u A E) B k C Z (U.put m.o.dst v) (lH s X)) C).aG p O L
def C5(an:p.ty=u.ty):∀(l:List OM)(s:S)(fx:Fx)(O:aa),O.i.length=s.ni->O.b.length=s.nb->O.r.length=s.rs.length->(kD u (uo u A E) B k C l s fx).aG p O L->wz s O fx->
  (∀m∈l,m.dr=true)->cJ p u B A (AD p k L) (yJ p C L) (yK p u B A E k C L) l O s
 |[],s,fx,O,_,_,_,h,_,_=>h
 |m::X,s,fx,O,F,D,z,h,a1,bb=>by
  have a3:m.dr=true:=bb m (by simp);have ag:∀m∈X,m.dr=true:=λm' br=>bb m' (by simp[br])
  have bs:vZ u m s=none:=by simp[vZ,a3]
  have bt:yf u m s=none:=by simp[yf,a3]
  have bx:∀c f,vY u m s c f=none:=λc f=>by simp[vY,a3]
  have a4:∀(s:S)(d:Option Nat)(v:SV),(s.put d v).ni=s.ni/\(s.put d v).nb=s.nb/\(s.put d v).rs=s.rs:=λs d v=>by cases d<;>exact⟨rfl,rfl,rfl⟩
  have bf:∀(Z:S)(U:Fx),Z.ni=s.ni->Z.nb=s.nb->Z.rs=s.rs->wz s O U->wz Z O U:=λZ U h1 Q h3 hf x a=>by rw[h1,Q,h3];exact hf x a
  have a5:∀U,wz s O U->(aa1 u (uo u A E) m s (kD u (uo u A E) B k C X) C U).aG p O L->
    (match db u s m.o with
     |.call (.fn g) I=>mz (A g I s) (λv ex=>s.bd=true/\cJ p u B A (AD p k L) (yJ p C L) (yK p u B A E k C L) X O ((s.plus ex).put m.o.dst v)) (F0 p u s O g I λO' v Z=>cJ p u B A (AD p k L) (yJ p C L) (yK p u B A E k C L) X O' (Z.put m.o.dst v))
     |.call (.yl n) I=>m.so=true/\yK p u B A E k C L m X O s n I
     |.aW v=>yJ p C L O v s
     |.no=>False
     |.op=>pg (cP u m.o m.bc m.dr s) (λb=>b.az.den O=true/\∀rv,CS p.ty p.S0 p.w0 b.e b.x s.rs O rv->cJ p u B A (AD p k L) (yJ p C L) (yK p u B A E k C L) X (O.add (.r rv)) b.s)
      (∃Z,fe u m s O Z/\cJ p u B A (AD p k L) (yJ p C L) (yK p u B A E k C L) X O Z):Prop):=by
   intro U ac h;unfold aa1 at h;rw[bs] at h;simp only[bt,bx] at h;cases hc:db u s m.o with
   |call g0 I=>
    rw[hc] at h;cases g0 with
    |yl n=>
     simp only at h⊢;split at h;rename_i bX;exact⟨bX,ag,U,ac,h⟩;exact h.elim
    |fn g=>
    simp only[uo] at h;simp only;cases bk:A g I s with
    |some ve=>
     obtain⟨v,ex⟩:=ve;rw[bk] at h;simp only at h;split at h;rename_i P;refine⟨P, ?_⟩;obtain⟨N,M,J⟩:=a4 (s.plus ex) m.o.dst v;refine C5 an X _ _ O (by rw[N];exact F) (by rw[M];exact D) (by rw[J];exact z) h (λx a=> ?_) ag;rw[N,M,J];exact ac x (ayr.1 a).1;exact h.elim
    |none=>
    rw[bk] at h;simp only[wa] at h;simp only[mz];split at h;rename_i ts b0;split at h;rename_i ks b1;split at h;rename_i l hl;split at h;rename_i P;refine⟨ts,ks,l,b0,b1,hl,P,λV W R=> ?_⟩;simp only[T.aG] at h;refine(h O.y V W R).mono ?_;intro e W' he;cases e with
    |returned v=>
     obtain⟨xs,h1,Q,h3,h4,h5⟩:=he;have hy:(O.ext xs).at O.y=O.ext xs:=by have:=FX xs O;unfold aa.at;rw[<-this]
     rw[hy] at Q;refine⟨xs,h1,Q,h3,h4, ?_⟩;obtain⟨l1,l2,l3⟩:=uB ks xs (s.cut I ks) O h1 F D (z.trans (AA I ks s.rs).len.symm);have al:=a4 ((s.cut I ks).bE ks).2 m.o.dst (one l);refine C5 an X _ _ _ (by rw[al.1];exact l1) (by rw[al.2.1];exact l2) (by rw[al.2.2];exact l3) h5 ?_ ag;intro x a;obtain⟨a6,b2⟩:=ayr.1 a;obtain⟨H,bv⟩:=ac x a6;have b3:=As xs O;have a7:=Nv xs O;refine⟨by rw[BE.cB b3 _ (by rw[F,D,z];exact bv)];exact H, ?_⟩;rw[al.1,al.2.1,al.2.2,<-l1,<-l2,<-l3];exact BE.cF (by rw[<-F];exact a7.1) (by rw[<-D];exact a7.2.1) (by rw[<-z];exact a7.2.2) _ bv
    |panicked ch=>exact he
    |outgrown=>exact he
    exact h.elim;exact h.elim;exact h.elim;exact h.elim
   |aW v=>rw[hc] at h;exact h
   |no=>rw[hc] at h;exact h
   |op=>
    rw[hc] at h;simp only at h⊢;cases a8:cP u m.o m.bc m.dr s with
    |some b=>
     rw[a8] at h;obtain⟨hn,h⟩:=h;refine⟨hn,λrv b4=> ?_⟩;obtain⟨N,M,J⟩:=adY a8;have b5:(O.add (.r rv)).r.length=b.s.rs.length:=by simp[aa.add,J,z]
     refine C5 an X b.s _ _ (by rw[N];exact F) (by rw[M];exact D) b5 (h rv b4) ?_ ag;intro x a;obtain⟨a6,b2⟩:=ayr.1 a;obtain⟨H,bv⟩:=ac x a6;refine⟨by rw[BE.cB (Nj O (.r rv)) _ (by rw[F,D,z];exact bv)];exact H, ?_⟩;exact BE.cF (by omega) (by omega) (by omega) _ bv
    |none=>
    rw[a8] at h;simp only[pg] at h⊢;have a2:∀Z a0,wz s O a0->fe u m s O Z->(kD u (uo u A E) B k C X Z a0).aG p O L->∃Z,fe u m s O Z/\cJ p u B A (AD p k L) (yJ p C L) (yK p u B A E k C L) X O Z:=by
     intro Z a0 hf hG hs;obtain⟨N,M,J⟩:=adX (FZ hG);exact⟨Z,hG,C5 an X Z a0 O (by rw[N];exact F) (by rw[M];exact D) (by rw[J];exact z) hs (bf Z a0 N M J hf) ag⟩
    split at h;rename_i Z af;exact a2 Z U ac (by unfold fe;rw[af];rfl) h;rename_i b Z af;refine a2 Z U ac ?_ h.2;unfold fe;rw[af];exact⟨h.1,aob af,rfl⟩;rename_i b s1 s2 af;obtain⟨bv,w,t,Q⟩:=Vp ac h;cases hv:b.den O;exact a2 s2 w t (by unfold fe;rw[af];simp[OR.C4,hv,bv]) (by simpa[hv] using Q);exact a2 s1 w t (by unfold fe;rw[af];simp[OR.C4,hv,bv]) (by simpa[hv] using Q);exact h.elim
  have a9:∀U,wz s O U->(kD u (uo u A E) B k C X (s.put m.o.dst (.bm [])) U).aG p O L->cJ p u B A (AD p k L) (yJ p C L) (yK p u B A E k C L) X O (s.put m.o.dst (.bm [])):=by
   intro U hf h;obtain⟨N,M,J⟩:=a4 s m.o.dst (.bm []);exact C5 an X _ U O (by rw[N];exact F) (by rw[M];exact D) (by rw[J];exact z) h (bf _ U N M J hf) ag
  simp only[kD,MZ] at h;cases j:m.o.guard with
  |none=>
   rw[j] at h;exact .inr ⟨by simp[eA,j],a5 fx a1 h⟩
  |some q=>
   obtain⟨jj,b6⟩:=q;rw[j] at h;simp only at h;split at h;rename_i d H;split at h;rename_i b P;cases b6;simp only[ax3,if_false] at h;obtain⟨bv,w,t,Q⟩:=Vp a1 h;cases G:b.den O;exact .inr ⟨by simp[eA,j,H,P,bv,G],a5 w t (by simpa[G] using Q)⟩;exact .inl ⟨by simp[eA,j,H,P,bv,G],a9 w t (by simpa[G] using Q)⟩;simp only[if_true] at h;obtain⟨bv,w,t,Q⟩:=Vp a1 h;cases G:b.den O;exact .inl ⟨by simp[eA,j,H,P,bv,G],a9 w t (by simpa[G] using Q)⟩;exact .inr ⟨by simp[eA,j,H,P,bv,G],a5 w t (by simpa[G] using Q)⟩;rename_i P;exact .inl ⟨by simp[eA,j,H,P],a9 fx a1 h⟩;exact h.elim;exact h.elim
end
end
variable{h:Bool}{l:List OM}
section
section
variable{p:Sp}{cf:bh}{ops:Array Oper}{a:sy}
structure iw(cf:bh)(ops:Array Oper)(o:Oper)(s:S)(O:aa)(s':S)(O':aa):Prop where
 tm:∀t∈gE ops o,s'.tmps[t]?=s.tmps[t]?
 kd:looks o.op=true->abd o.op=false->ww cf.ty s s'
 kl:∀t x r w i off,o.op=.load t x->s.ev cf.gl x=.el r w i off->∀e,e≠ .aq->r.kind cf.ty s=e->r.kind cf.ty s'=e
 li:s.ni<=s'.ni
 lb:s.nb<=s'.nb
 lr:s.rs.length<=s'.rs.length
 ag:fl O O' s.ni s.nb s.rs.length
def iw.uC{o:Oper}{s Z:S}{O:aa}(W:∀t∈gE ops o,Z.tmps[t]?=s.tmps[t]?)(X:Z.rs=s.rs)(V:Z.ni=s.ni)(U:Z.nb=s.nb):iw cf ops o s O Z O:=
 ⟨W,λ_ _=>ww.uC X,λt x r w i R _ _=>ww.uC X r,azo V.symm,azo U.symm,azo (by rw[X]),fl.refl _ _ _ _⟩
def iw.ev{o:Oper}{s Z:S}{O W:aa}(h:iw cf ops o s O Z W)(X:List (Nat×Nat×Nat)):∀x∈o.op.operands.toList,Z.ev X x=s.ev X x:=by
 intro x V;cases x with
 |tmp t=>
  have:t∈gE ops o:=by
   unfold gE;exact ayy _ (ayZ.2 ⟨.tmp t,V,rfl⟩)
  simp only[S.ev,sn,axN,h.tm t this]
 |const v=>rfl
 |global g=>rfl
 |func f=>rfl
def iw.guard{m:OM}{s X:S}{O U:aa}(h:iw cf ops m.o s O X U){b:Bool}(Z:eA ops m s O=some b):eA ops m X U=some b:=by
 unfold eA at Z⊢;cases W:m.o.guard with
 |none=>rw[W] at Z;exact Z
 |some q=>
  obtain⟨j,P⟩:=q;rw[W] at Z;simp only at Z⊢;cases V:(ops[j]?).bind (·.dst) with
  |none=>rw[V] at Z;cases Z
  |some d=>
   rw[V] at Z;simp only at Z⊢;have Q:X.tmps[d]?=s.tmps[d]?:=h.tm d (by unfold gE;rw[W];exact azl _ (by simp[V]));rw[Q];split at Z;rename_i e N;split at Z;rename_i R;rw[if_pos (BE.cF h.li h.lb h.lr _ R),BE.cB h.ag _ R];exact Z;cases Z;exact Z;cases Z
def ad3{R:aa}(h:iw cf ops x Z N r R)(Q:∀i,vU cf.gl Z x.op=some i->bF r.boxes i=bF Z.boxes i)
  (W:(bz cf.ty cf.gl Z x.op).uD Z N J):(bz cf.ty cf.gl r x.op).uD r R J:=by
 have M:bz cf.ty cf.gl r x.op=bz cf.ty cf.gl Z x.op:=by
  cases V:bz cf.ty cf.gl Z x.op with
  |ok X=>exact N1 (ty:=cf.ty) (h.ev cf.gl) h.kd h.kl Q V (λw U=>by cases U)
  |az b X=>exact N1 (ty:=cf.ty) (h.ev cf.gl) h.kd h.kl Q V (λw U=>by cases U)
  |no w=>rw[V] at W;exact W.elim
 rw[M];cases V:bz cf.ty cf.gl Z x.op with
 |ok X=>rw[V] at W;exact W
 |az b X=>
  rw[V] at W;obtain⟨L,P,I⟩:=W;exact⟨by rw[BE.cB h.ag _ P];exact L,BE.cF h.li h.lb h.lr _ P,I⟩
 |no w=>rw[V] at W;exact W.elim
def Vs{L:aa}(h:iw cf ops H.o Z N r L)(I:∀i,vU cf.gl Z H.o.op=some i->bF r.boxes i=bF Z.boxes i)(E:QV cf ops N H Z J X):QV cf ops L H r J X:=by
 rcases E with⟨R,Q,W⟩|⟨R,Q,W⟩;exact .inl ⟨h.guard R,Q,W⟩;refine .inr ⟨h.guard R,λx G=>by rw[h.ev cf.gl x G];exact Q x G, ?_⟩;have V:=h.ev cf.gl;cases P:H.o.op with
 |pick c x y=>
  rw[P] at W V;obtain⟨e,D,F,C,B⟩:=W;refine⟨e,by rw[V c (by simp[Op.operands])];exact D,BE.cF h.li h.lb h.lr _ F, ?_,B⟩;rw[BE.cB h.ag _ F,V x (by simp[Op.operands]),V y (by simp[Op.operands])];exact C
 |load t x=>
  have U:=λ(M:(bz cf.ty cf.gl Z H.o.op).uD Z N J)=>ad3 (cf:=cf) h I M
  rw[P] at W V U;exact⟨U W.1,by rw[V x (by simp[Op.operands])];exact W.2⟩
 |_=>
  have U:=λ(M:(bz cf.ty cf.gl Z H.o.op).uD Z N J)=>ad3 (cf:=cf) h I M
  rw[P] at W U;exact⟨U W.1,W.2⟩
def aoc(h:ke x.op=true):db cf Z x=.op:=by
 unfold db;cases W:x.op<;>rw[W] at h<;>simp[ke] at h<;>try rfl
 rename_i c;cases X:c.callee with
 |builtin b=>cases b<;>simp[X] at h<;>simp[X]
 |value f=>simp[X] at h
 |invoke r m=>simp[X] at h
def C6(s:S)(d:Option Nat)(v:SV):s.bQ d v 0=s.put d v:=by simp[S.bQ]
def F1(L:ke H.o.op=true)(V:eA ops H Z N=some true):fe cf H Z N r<->∃v l,QV cf ops N H Z v l/\r=Z.bQ H.o.dst v l:=by
 unfold fe dR QV;by_cases U:(H.o.op.operands.toList.any λx=>(Z.ev cf.gl x).cR)=true;simp only[U,if_true];constructor;exact λh=>h.elim
 rintro⟨v,l,h|h,-⟩;rw[V] at h;cases h.1;obtain⟨x,P,J⟩:=ayh.1 U;have:=h.2.1 x P;rw[this] at J;cases J
 ·have I:∀x∈H.o.op.operands.toList,(Z.ev cf.gl x).cR=false:=by
   intro x P;cases C:(Z.ev cf.gl x).cR;rfl;exact absurd (ayh.2 ⟨x,P,C⟩) U
  have M:¬eA ops H Z N=some false:=by rw[V];simp
  have G:∀(R:Nat),(oT Z H.o.dst R (bz cf.ty cf.gl Z H.o.op)).C4 Z N r<->∃v l,((eA ops H Z N=some false/\v=.bm []/\l=0)\/(eA ops H Z N=some true/\(∀x∈H.o.op.operands.toList,(Z.ev cf.gl x).cR=false)/\(bz cf.ty cf.gl Z H.o.op).uD Z N v/\l=R))/\r=Z.bQ H.o.dst v l:=by
   intro R;rw[adW];constructor;rintro⟨v,X,W⟩;exact⟨v,R,.inr ⟨V,I,X,rfl⟩,W⟩;rintro⟨v,l,h|⟨-,-,X,rfl⟩,Q⟩;exact absurd h.1 M;exact⟨v,X,Q⟩
  rw[if_neg U];cases F:H.o.op<;>rw[F] at L G<;>simp only[ke,ax3] at L
  case pick c x y=>
   simp only;cases A:Z.ev cf.gl c with
   |bool e=>
    constructor;rintro⟨X,W⟩;refine⟨if e.den N then Z.ev cf.gl x else Z.ev cf.gl y,0,.inr ⟨V,by rw[<-F];exact I,e,rfl,X,rfl,rfl⟩, ?_⟩;rw[C6,W];split<;>rfl;rintro⟨v,l,h|⟨-,-,B,X,W,E,D⟩,Q⟩;exact absurd h.1 M;cases X;subst D;refine⟨W, ?_⟩;rw[Q,C6,E];split<;>rfl
   |_=>
    constructor;exact λh=>h.elim
    rintro⟨v,l,h|⟨-,-,B,X,W,E,D⟩,Q⟩;exact absurd h.1 M;cases X
  all_goals exact G _
variable{k:aa->S->Prop}{n:aa->SV->S->Prop}{u:OM->List OM->aa->S->Nat->List SV->Prop}
def ad4(X:ke x.op=true):cP cf x h true Z=none:=by
 unfold cP;cases V:x.op<;>rw[V] at X<;>simp only[ke,ax3] at X<;>try rfl
 rename_i c;cases W:c.callee with
 |builtin b=>cases b<;>simp[W] at X<;>simp[W]
 |value f=>simp[W] at X
 |invoke r m=>simp[W] at X
def ad5(Q:H.dr=true)(R:ke H.o.op=true):cJ p cf ops a k n u (H::l) N Z<->∃v X,QV cf ops N H Z v X/\cJ p cf ops a k n u l N (Z.bQ H.o.dst v X):=by
 simp only[cJ,aoc R,Q,ad4 R,pg];constructor;rintro(⟨U,W⟩|⟨U,M,W,V⟩);exact⟨.bm [],0,.inl ⟨U,rfl,rfl⟩,by rw[C6];exact W⟩;obtain⟨v,X,P,rfl⟩:=(F1 (ops:=ops) R U).1 W;exact⟨v,X,P,V⟩;rintro⟨v,X,U,W⟩;rcases U with⟨V,rfl,rfl⟩|V;rw[C6] at W;exact .inl ⟨V,W⟩;exact .inr ⟨V.1,_,(F1 (ops:=ops) R V.1).2 ⟨v,X,.inr V,rfl⟩,W⟩
end
end
section
section
variable{p:Sp}{A:bh}{B:Array Oper}{C:sy}
def ja(h:R≠some X):(Z.put R J).tmps[X]?=Z.tmps[X]?:=by
 cases R with
 |none=>rfl
 |some R=>simp only[S.put,qL];rw[ays (λe=>h (by rw[e]))]
def F2(h:R≠some v):(Z.bQ R J X).tmps[v]?=Z.tmps[v]?:=by
 unfold S.bQ;rw[ja h]
def jb(s:S)(d:Option Nat)(v:SV):(s.put d v).boxes=s.boxes:=by cases d<;>rfl
def yL(s:S)(d:Option Nat)(v:SV)(l:Nat):(s.bQ d v l).boxes=s.boxes:=by unfold S.bQ;rw[jb]
def N3(s:S)(d:Option Nat)(v:SV):(s.put d v).lk=s.lk:=by cases d<;>rfl
def Vt{e:Option Nat}{w:SV}(h:∀x,R=some x->e≠some x):(Z.put R J).put e w=(Z.put e w).put R J:=by
 cases R with
 |none=>cases e<;>rfl
 |some R=>
  cases e with
  |none=>rfl
  |some e=>
   have X:R≠e:=λW=>h R rfl (by rw[W])
   simp only[S.put,qL];rw[List.set_comm _ _ X]
def JW{s:S}{d e:Option Nat}{v w:SV}{l:Nat}(h:∀x,d=some x->e≠some x):(s.bQ d v l).put e w=(s.put e w).bQ d v l:=by
 unfold S.bQ;rw[Vt h];cases e<;>rfl
def aod{e:Option Nat}{w:SV}(h:∀x,R=some x->e≠some x):(Z.bQ R J X).bQ e w v=(Z.bQ e w v).bQ R J X:=by
 have W:(Z.bQ R J X).bQ e w v={(Z.bQ R J X).put e w with lk:=Z.lk|||X|||v}:=by
  unfold S.bQ;cases e<;>cases R<;>rfl
 have V:(Z.bQ e w v).bQ R J X={(Z.bQ e w v).put R J with lk:=Z.lk|||v|||X}:=by
  unfold S.bQ;cases e<;>cases R<;>rfl
 rw[W,V,Nat.or_assoc,Nat.or_comm X v,<-Nat.or_assoc];have U:(Z.bQ R J X).put e w={(Z.put R J).put e w with lk:=Z.lk|||X}:=by unfold S.bQ;cases e<;>cases R<;>rfl
 have Q:(Z.bQ e w v).put R J={(Z.put e w).put R J with lk:=Z.lk|||v}:=by unfold S.bQ;cases e<;>cases R<;>rfl
 rw[U,Q,Vt h]
def aoe(s:S)(d:Option Nat)(v:SV)(l n:Nat)(t:TypeId)(Z:List SV):(s.bQ d v l).bN n t Z=(s.bN n t Z).bQ d v l:=by
 unfold S.bQ S.bN;cases d<;>rfl
structure Vu(B:Array Oper)(x y:OM)(dx:Nat):Prop where
 xd:x.dr=true
 yd:y.dr=true
 qx:ke x.o.op=true
 np:Fa y.o.op=false
 dst:x.o.dst=some dx
 ry:dx∉gE B y.o
 dy:y.o.dst≠some dx
 rx:dx∉gE B x.o
 yx:∀d,y.o.dst=some d->d∉gE B x.o
 rc:ul y.o.op=true->abd x.o.op=true->x.bc=true/\y.bc=true
 rb:yk y.o.op=true->looks x.o.op=true->abd x.o.op=true/\x.bc=true/\y.bc=true
def ad6{y:OM}(h:M3 B H y=true):∃U,Vu B H y U:=by
 unfold M3 at h;simp only[axI,ax0] at h;obtain⟨⟨⟨⟨⟨⟨⟨N,M⟩,L⟩,J⟩,Z⟩,W⟩,Q⟩,V⟩:=h;cases R:H.o.dst with
 |none=>rw[R] at Z;cases Z
 |some U=>
  rw[R] at Z;simp only[axI,ax0,bne_iff_ne] at Z;obtain⟨⟨P,I⟩,O⟩:=Z;refine⟨U,N,M,L,J,R, ?_,I, ?_, ?_, ?_, ?_⟩;intro X;rw[ayj.2 X] at P;cases P;intro X;rw[ayj.2 X] at O;cases O;intro d G X;rw[G] at W;simp only[ax0] at W;rw[ayj.2 X] at W;cases W;intro a b;simp only[a,b,aAz,aA7,axI] at Q;exact Q;intro a b;simp only[a,b,aAz,aA7,axI] at V;exact⟨V.1.1,V.1.2,V.2⟩
def F3(h:∀X∈x.op.operands.toList,r.ev A.gl X=Z.ev A.gl X):db A r x=db A Z x:=by
 unfold db;cases U:x.op<;>rw[U] at h<;>try rfl
 case panic X=>simp only;rw[h X (by simp[Op.operands])]
 case call c=>
  simp only;cases R:c.callee with
  |value f=>
   have Q:=h f (by simp[Op.operands,Call.operands,R]);have V:c.args.toList.map (r.ev A.gl)=c.args.toList.map (Z.ev A.gl):=ax7 λX P=>h X (by simp[Op.operands,Call.operands];exact .inr (by simpa using P))
   have O:(c.args.toList.any λX=>(r.ev A.gl X).cR)=c.args.toList.any λX=>(Z.ev A.gl X).cR:=by
    have N:=aAH (f:=r.ev A.gl) (p:=SV.cR) (l:=c.args.toList);have M:=aAH (f:=Z.ev A.gl) (p:=SV.cR) (l:=c.args.toList);rw[show(c.args.toList.any λX=>(r.ev A.gl X).cR)=(c.args.toList.map (r.ev A.gl)).any SV.cR from N.symm,V,M];rfl
   simp only[Q,V,O]
  |invoke W m=>rfl
  |builtin b=>
   cases b<;>try rfl
   cases L:c.args.toList with
   |nil=>rfl
   |cons X W=>
    cases W with
    |nil=>simp only;rw[h X (by simp[Op.operands,Call.operands];exact .inr (by have J:X∈c.args.toList:=(by rw[L];simp);simpa using J))]
    |cons y W=>rfl
def Vv(h:db A Z x=.aW J):Fa x.op=true:=by
 unfold db at h;split at h;rename_i X;rw[X];rfl;rename_i c X;split at h;split at h;split at h<;>cases h;split at h<;>cases h;cases h;cases h;rename_i W;rw[X];simp[Fa,W];cases h;cases h
def sK(s:S)(d:Nat):Prop:=s.tmps[d]?=none\/∃w,s.tmps[d]?=some w/\w.bd s.ni s.nb s.rs.length (aD s.boxes)=true
def Vw{X W V:Nat}{U:Nat->Bool}:∀{l:List SV}{d:Nat}{v:SV},SV.cq X W V U (l.set d v)=true->(l[d]?=none\/∃w,l[d]?=some w/\w.bd X W V U=true)->SV.cq X W V U l=true
 |[],d,v,h,_=>rfl
 |x::R,0,v,h,Z=>by
  simp only[aBg,SV.fa,axI] at h⊢;refine⟨?_,h.2⟩;rcases Z with Z|Z;simp at Z;simpa using Z
 |x::R,d+1,v,h,Z=>by
  simp only[List.set_cons_succ,SV.fa,axI] at h⊢;exact⟨h.1,Vw h.2 (by simpa using Z)⟩
def F4{s:S}{dx:Nat}{v:SV}{l:Nat}{cs:List SV}(h:(s.bQ (some dx) v l).da cs=true)(Z:sK s dx):s.da cs=true:=by
 simp only[S.da,S.bd,S.bQ,S.put,qL,axI] at h⊢;exact⟨⟨Vw h.1.1 Z,h.1.2⟩,h.2⟩
def aof{V:Ty}{U:List (Nat×Nat×Nat)}{W:Op}(h:(bz V U Z W).gives N J):ke W=true:=by
 cases W with
 |call c=>
  cases X:c.callee with
  |builtin b=>cases b<;>simp only[bz,X,PR.gives] at h<;>simp[ke,X]
  |value f=>simp only[bz,X,PR.gives] at h
  |invoke r m=>simp only[bz,X,PR.gives] at h
 |_=>first|rfl|(simp only[bz,PR.gives] at h)
def aog{y:OM}(d:Vu B H y X)(b:sK Z X)(hg:eA B y Z N=some true)
  (h:fe A y (Z.bQ (some X) J v) N r):∃V,fe A y Z N V/\r=V.bQ (some X) J v/\(∀t,y.o.dst≠some t->V.tmps[t]?=Z.tmps[t]?)/\V.ni=Z.ni/\V.nb=Z.nb/\V.rs=Z.rs/\
   ∀i,aD Z.boxes i=true->bF V.boxes i=bF Z.boxes i\/(ul y.o.op=true/\(y.bc=true->(Z.lk|||v).testBit (2*i)=false)/\(i6 Z.boxes i).isSome=true):=by
 have an:iw A B y.o (Z.bQ (some X) J v) N Z N:=iw.uC (λt U=>(F2 (λe=>d.ry (by cases e;exact U))).symm) rfl rfl rfl;have ac:iw A B y.o Z N (Z.bQ (some X) J v) N:=iw.uC (λt U=>F2 (λe=>d.ry (by cases e;exact U))) rfl rfl rfl;have E:=ac.ev A.gl;have af:∀z,(some X:Option Nat)=some z->y.o.dst≠some z:=λz I=>by cases I;exact d.dy
 by_cases D:ke y.o.op=true;have a0:=ac.guard hg;obtain⟨w,l',a,rfl⟩:=(F1 (ops:=B) D a0).1 h;have a1:=Vs (cf:=A) an (λi _=>by rw[yL]) a;refine⟨Z.bQ y.o.dst w l',(F1 (ops:=B) D hg).2 ⟨w,l',a1,rfl⟩,aod af,λt U=>F2 U,(dG _ _ _).1,(dG _ _ _).2.1,(dG _ _ _).2.2,λi _=>.inl (by rw[yL])⟩;unfold fe dR at h;split at h;exact h.elim;rename_i hk;have g:¬(y.o.op.operands.toList.any λz=>(Z.ev A.gl z).cR)=true:=by
  intro hh;obtain⟨z,ag,a2⟩:=ayh.1 hh;exact hk (ayh.2 ⟨z,ag,by rw[E z ag];exact a2⟩)
 have f:∀(n:Nat)(t:TypeId)(G:List SV)(w:SV),n<Z.boxes.length->fe A y Z N ((Z.bN n t G).put y.o.dst w)->r=((Z.bQ (some X) J v).bN n t G).put y.o.dst w->
   (∀i,aD Z.boxes i=true->i=n->ul y.o.op=true/\(y.bc=true->(Z.lk|||v).testBit (2*i)=false)/\(i6 Z.boxes i).isSome=true)->
   ∃V,fe A y Z N V/\r=V.bQ (some X) J v/\(∀t,y.o.dst≠some t->V.tmps[t]?=Z.tmps[t]?)/\V.ni=Z.ni/\V.nb=Z.nb/\V.rs=Z.rs/\
    ∀i,aD Z.boxes i=true->bF V.boxes i=bF Z.boxes i\/(ul y.o.op=true/\(y.bc=true->(Z.lk|||v).testBit (2*i)=false)/\(i6 Z.boxes i).isSome=true):=by
  intro n t G w hn h1 h2 h3;refine⟨_,h1, ?_,λt U=>ja U,(dG _ _ _).1,(dG _ _ _).2.1,(dG _ _ _).2.2,λi R=> ?_⟩;rw[h2,aoe,JW af];by_cases al:i=n;exact .inr (h3 i R al);left;rw[jb,S.bN,uv al]
 split at h;rename_i t W;split at h;rename_i ti U;split at h;rename_i Q;simp only[axI] at Q;have P:=F4 Q.1 b;have M:Bq Z.boxes y.ix t=true:=Q.2;have L:dL Z.boxes y.ix=true:=o9 M;refine f y.ix t (cA ti) _ (jZ L).2 ?_ h (λi R e=>by subst e;rw[(jZ L).1] at R;cases R);unfold fe dR;rw[if_neg g];simp only[W,U,P,M,aza,if_true];rfl;exact h.elim;exact h.elim;rename_i t z W;have I:=E z (by rw[W];simp[Op.operands]);split at h;rename_i ti U;rw[I] at h;split at h;rename_i Q;simp only[axI] at Q;obtain⟨⟨⟨C,m⟩,k⟩,c4⟩:=Q;have P:=F4 m b;have M:Bq Z.boxes y.ix t=true:=c4;have L:dL Z.boxes y.ix=true:=o9 M;refine f y.ix t _ _ (jZ L).2 ?_ h (λi R e=>by subst e;rw[(jZ L).1] at R;cases R);unfold fe dR;rw[if_neg g];simp only[W,U,C,P,k,M,aza,if_true];rfl;exact h.elim;exact h.elim;rename_i t a6 parts W;have I:(parts.toList.map λp=>(p.1,(Z.bQ (some X) J v).ev A.gl p.2))=parts.toList.map λp=>(p.1,Z.ev A.gl p.2):=ax7 λp hp=>by rw[E p.2 (by rw[W];simp[Op.operands];exact⟨p.1,by simpa using hp⟩)]
 split at h;rename_i e ab q U;split at h;rename_i te a3;rw[I] at h;split at h;rename_i G hf;split at h;rename_i Q;simp only[axI] at Q;obtain⟨⟨C,m⟩,k⟩:=Q;have P:=F4 C b;have M:Bq Z.boxes y.ix e=true:=k;have L:dL Z.boxes y.ix=true:=o9 M;refine f y.ix e G _ (jZ L).2 ?_ h (λi R e=>by subst e;rw[(jZ L).1] at R;cases R);unfold fe dR;rw[if_neg g];simp only[W,U,a3,hf,P,m,M,aza,if_true];rfl;exact h.elim;exact h.elim;exact h.elim;exact h.elim;rename_i t z u W;have I:=E z (by rw[W];simp[Op.operands]);have hu:=E u (by rw[W];simp[Op.operands]);rw[I,hu] at h;split at h;rename_i ti i a7 U R;rw[yL] at h;split at h;rename_i bt G P;split at h;rename_i Q;simp only[axI,ax0] at Q;obtain⟨⟨⟨⟨C,m⟩,k⟩,c4⟩,F⟩:=Q;have a4:(Z.bQ (some X) J v).lk=Z.lk|||v:=N3 _ _ _;rw[a4] at F;have a5:(y.bc&&Z.lk.testBit (2*i))=false:=by
  cases hr:y.bc;rfl;rw[hr,azy,azb] at F;simp only[ayp] at F;simp[F.1]
 refine f i bt _ _ (axJ.1 (gG.1 (ut P).1)).1 ?_ h (λj hj e=> ?_);unfold fe dR;rw[if_neg g];simp only[W,U,R,P,C,m,k,c4,a5,aza,Bool.not_false,if_true];rfl;subst e;refine⟨by rw[W];rfl,λhr=> ?_,by rw[P];rfl⟩;rw[hr,azy] at F;exact F;exact h.elim;exact h.elim;exact h.elim;rename_i c z u W;exact absurd (by rw[W];rfl) D;rename_i t z W;exact absurd (by rw[W];rfl) D;rename_i o1 o2 o3 o4 o5 o6;exfalso;obtain⟨w,a,-⟩:=adW.1 h;refine D ?_;exact aof (N2 a)
def aoh{W:Ty}(h:Z.rs=r.rs)(k:RK)(X:RE):X.fits W Z k=X.fits W r k:=by
 unfold RE.fits;cases k<;>simp only[yI h X]
def ad7{Z:Ty}{s X:S}(h:s.rs=X.rs):∀(ab:List CT)(W:List SV),jx Z s ab W=jx Z X ab W
 |[],[]=>rfl
 |[],_::_=>rfl
 |_::_,[]=>rfl
 |c::V,v::U=>by
  simp only[jx,ad7 h V U];congr 1;cases c<;>cases v<;>simp only[oS,aoh h]
def AE{Z:Ty}{s s':S}(h:s.rs=s'.rs){ab:List CT}:∀{l:List (List SV)},kb Z s ab l=kb Z s' ab l
 |[]=>rfl
 |r::X=>by simp only[kb,ad7 h ab r,AE h (l:=X)]
def aoi{W:Ty}{V:TI}{y:SV}{r:LE×BE×List Nat}(h:nU W (Z.bQ (some X) J v) I V y=some r):nU W Z I V y=some r:=by
 unfold nU at h⊢;split at h;simp only[yI (s:=Z) (s':=Z.bQ (some X) J v) rfl];exact h;rw[yL] at h;split at h;rename_i U;simp only[AE (s:=Z) (s':=Z.bQ (some X) J v) rfl];exact h;cases h;cases h
def aoj{s:S}{W:Nat}{v:SV}{l:Nat}{e:TypeId}{bc:Bool}{y:SV}{V:LE}{n:BE}{X:List Nat}(h:su (s.bQ (some W) v l) e bc y=some (V,n,X)):su s e bc y=some (V,n,X)/\∀k∈X,bc=true->(s.lk|||l).testBit (2*k+1)=false:=by
 have Q:(s.bQ (some W) v l).lk=s.lk|||l:=N3 _ _ _;unfold su at h⊢;split at h;rename_i k;split at h;rename_i U;cases h;have P:s.rs[k]?=some (.own e):=U.1;have Z:=U.2;rw[Q] at Z;simp only[ax0,aAj] at Z;refine⟨?_,λM R O=> ?_⟩;rw[if_pos];refine⟨P, ?_⟩;simp only[ax0,aAj];rcases Z with Z|Z;exact .inl Z;rw[azb,ayp] at Z;exact .inr Z.1;simp at R;subst R;rcases Z with Z|Z;rw[O] at Z;cases Z;exact Z;cases h;rename_i r L;split at h;rename_i N;cases h;simp[N];cases h;cases h;exact⟨rfl,by simp⟩;cases h
variable{D:aa->S->Prop}{E:aa->SV->S->Prop}{F:OM->List OM->aa->S->Nat->List SV->Prop}
def aok(Z:List LK)(s:S)(d:Option Nat)(v:SV)(l:Nat):((s.bQ d v l).bE Z).1=(s.bE Z).1/\((s.bQ d v l).bE Z).2=(s.bE Z).2.bQ d v l:=by
 induction Z generalizing s with
 |nil=>exact⟨rfl,rfl⟩
 |cons k Z X=>
  simp only[S.bE];have W:((s.bQ d v l).fresh k).1=(s.fresh k).1/\((s.bQ d v l).fresh k).2=(s.fresh k).2.bQ d v l:=by
   cases k<;>cases d<;>exact⟨rfl,rfl⟩
  rw[W.1,W.2];exact⟨by rw[(X _).1],(X _).2⟩
def aol(h:QV A B N H Z J X)(Q:eA B H Z N=some true){x:Operand}{P:Nat}(M:H.o.op=.load I x)(V:Z.ev A.gl x=.loc v P):aD Z.boxes v=true/\(H.bc=true->X=1<<<(2*v)):=by
 rcases h with h|⟨-,-,h⟩;rw[Q] at h;cases h.1;rw[M] at h;obtain⟨W,L⟩:=h;refine⟨?_,λG=>by rw[L,V,G];rfl⟩;have W:=N2 W;simp only[bz,V] at W;cases U:A.ty I with
 |none=>rw[U] at W;exact W.elim
 |some F=>
  rw[U] at W;simp only at W;cases R:bF Z.boxes v with
  |none=>rw[show i6 Z.boxes v=none by simp[i6,R]] at W;exact W.elim
  |some b=>simp[aD,R]
def aom(h:QV A B N H Z J X)(P:eA B H Z N=some true){x:Operand}{e:IE}{L:List Int}(G:H.o.op=.load I x)(V:Z.ev A.gl x=.dI e L M)(U:ug M=some v):aD Z.boxes v=true/\(H.bc=true->X=1<<<(2*v)):=by
 rcases h with h|⟨-,-,h⟩;rw[P] at h;cases h.1;rw[G] at h;obtain⟨W,F⟩:=h;refine⟨?_,λE=>by rw[F,V,E];simp[I8,U]⟩;have W:=N2 W;simp only[bz,V] at W;cases R:A.ty I with
 |none=>rw[R] at W;exact W.elim
 |some D=>
  rw[R] at W;simp only[U,azW] at W;cases Q:bF Z.boxes v with
  |none=>rw[show i6 Z.boxes v=none by simp[i6,Q]] at W;exact W.elim
  |some b=>simp[aD,Q]
def ad8(h:QV A B N H Z J X)(P:eA B H Z N=some true)(V:vU A.gl Z H.o.op=some v):aD Z.boxes v=true/\((abd H.o.op=true/\(H.bc=true->X=1<<<(2*v)))\/i6 Z.boxes v=none):=by
 unfold vU at V;split at V;rename_i t x U;split at V;rename_i j F R;cases V;obtain⟨W,M⟩:=aol h P U R;exact⟨W,.inl ⟨by rw[U];rfl,M⟩⟩;rename_i e E D R;obtain⟨W,M⟩:=aom h P U R V;exact⟨W,.inl ⟨by rw[U];rfl,M⟩⟩;cases V;rename_i t x C z U;split at V;rename_i j R;cases V;rcases h with h|⟨-,-,h⟩;rw[P] at h;cases h.1;rw[U] at h;have W:=N2 h.1;simp only[bz,R] at W;split at W;rename_i k e n y ab q w u I;cases I;unfold MM at W;split at W;rename_i r a b c G g f d L;refine⟨by simp[aD,L],.inr ?_⟩;have:oO G=true:=by
  split at W;exact W.elim;split at W;rename_i Q;simp at Q;rw[Q];decide;split at W;rename_i Q;simp at Q;rw[Q];decide;exact W.elim
 simp[i6,L,this];exact W.elim;exact W.elim;cases V;cases V
def F5{o:Oper}{bc:Bool}{s:S}{b:BI}(h:cP A o bc true s=some b):pQ o.op=true:=by
 unfold cP at h;cases X:o.op<;>rw[X] at h<;>simp only[if_true,aBc] at h<;>try cases h
 rfl;rename_i c;cases Z:c.callee with
 |builtin W=>cases W<;>simp[Z] at h<;>simp[pQ,Z]
 |_=>simp[Z] at h
def Vx(h:pQ H.o.op=true)(X:fe A H Z N r):False:=by
 unfold fe dR at X;split at X;exact X;cases V:H.o.op<;>rw[V] at h X<;>simp[pQ] at h;simp[bz,oT,OR.C4] at X;rename_i c;cases W:c.callee with
 |builtin U=>cases U<;>simp[W] at h<;>simp[bz,W,oT,OR.C4] at X
 |_=>simp[W] at h
def ad9{k:RK}{x:LE}(Q:sK Z X)(P:R≠some X)
  (h:gO (Z.bQ (some X) J v) R c I k x U e=some b):
  ∃W,gO Z R c I k x U e=some W/\b={W with s:=W.s.bQ (some X) J v}/\(∀t,R≠some t->W.s.tmps[t]?=Z.tmps[t]?)/\W.s.ni=Z.ni/\W.s.nb=Z.nb/\W.s.rs=i7 e 0 (gr U 0 Z.rs)++[k]/\W.s.boxes=Z.boxes:=by
 unfold gO at h⊢;split at h;rename_i V;cases h;simp only[axI] at V;obtain⟨⟨⟨O,N⟩,M⟩,L⟩:=V;have H:Z.bd=true:=by
  have:Z.da []=true:=F4 (dx:=X) (v:=J) (l:=v) (cs:=[]) (by simp[S.da,O,SV.fa]) Q;simp only[S.da,axI] at this;exact this.1
 rw[if_pos (by simp only[axI];exact⟨⟨⟨H,N⟩,M⟩,L⟩)];refine⟨_,rfl, ?_,λt G=>ja G,(dG _ _ _).1,(dG _ _ _).2.1,(dG _ _ _).2.2,jb _ _ _⟩;congr 1;exact JW (s:={Z with rs:=i7 e 0 (gr U 0 Z.rs)++[k]}) (d:=some X) (e:=R) (v:=J) (w:=.ref (.v Z.rs.length)) (l:=v) (λz F=>by cases F;exact P);cases h
def aon{y:OM}(P:Vu B H y X)(L:sK Z X)(U:∀z∈y.o.op.operands.toList,Z.ev A.gl z=(Z.bQ (some X) J v).ev A.gl z)
  (h:cP A y.o y.bc y.dr (Z.bQ (some X) J v)=some b):
  ∃W V O G,cP A y.o y.bc y.dr Z=some W/\b={W with s:=W.s.bQ (some X) J v}/\(∀t,y.o.dst≠some t->W.s.tmps[t]?=Z.tmps[t]?)/\W.s.ni=Z.ni/\W.s.nb=Z.nb/\W.s.rs=i7 O 0 (gr V 0 Z.rs)++[G]/\W.s.boxes=Z.boxes/\
   (∀k∈V,y.bc=true->(Z.lk|||v).testBit (2*k+1)=false)/\(yk y.o.op=false->V=[]):=by
 have R:=F5 (by rw[P.yd] at h;exact h);unfold cP at h⊢;cases F:y.o.op<;>rw[F] at R h U<;>simp[pQ] at R;rename_i t n m;simp only at h⊢;rw[U n (by simp[Op.operands]),U m (by simp[Op.operands])];split at h;rename_i e ab q E D C w u;split at h;rename_i Q r;split at h;rename_i j;obtain⟨W,N,M,i,g,f,d,a⟩:=ad9 L P.dy h;have ac:(E.same D&&kb A.ty Z Q.ab [cA Q]&&Q.ab.length !=0)=true:=by
  rw[<-AE (s:=Z.bQ (some X) J v) (s':=Z) rfl];exact j
 rw[if_pos ac];exact⟨W,[],[],_,N,M,i,g,f,d,a,by simp,λ_=>rfl⟩;cases h;cases h;cases h;rename_i c;cases bi:c.callee with
 |builtin bb=>
  cases bb<;>simp[bi] at R;simp only[bi] at h⊢;have af:c.args.toList.map (Z.ev A.gl)=c.args.toList.map ((Z.bQ (some X) J v).ev A.gl):=ax7 λz hz=>U z (by simp[Op.operands,Call.operands];exact .inr (by simpa using hz))
  rw[af];split at h;rename_i t t2 x0 y0 w u;split at h;rename_i e ab q e2 al I C an;split at h;rename_i Q r;split at h;cases h;rename_i ag;rw[if_neg ag];split at h;rename_i la n1 V lb n2 O N M;obtain⟨q1,I⟩:=aoj N;have q3:=aoi M;rw[q1,q3];obtain⟨W,k1,k2,k3,k4,k5,k6,k7⟩:=ad9 L P.dy h;exact⟨W,V,O,_,k1,k2,k3,k4,k5,k6,k7,I,λh=>by simp[yk,bi] at h⟩;cases h;cases h;cases h;cases h
 |_=>simp[bi] at R
def aoo(a9:AC B C){y:OM}(bb:y.so=false)(bf:M3 B H y=true)(ha:∀d,H.o.dst=some d->sK Z d)
  (e1:N.i.length=Z.ni)(e2:N.b.length=Z.nb)(e3:N.r.length=Z.rs.length)
  (h:cJ p A B C D E F (H::y::l) N Z):cJ p A B C D E F (y::H::l) N Z:=by
 obtain⟨G,Q⟩:=ad6 bf;obtain⟨v,X,P,h⟩:=(ad5 Q.xd Q.qx).1 h;rw[Q.dst] at h;have al:=ha G Q.dst;have a0:∀z,(some G:Option Nat)=some z->y.o.dst≠some z:=λz hz=>by cases hz;exact Q.dy
 have af:iw A B y.o (Z.bQ (some G) v X) N Z N:=iw.uC (λt J=>(F2 (λe=>Q.ry (by cases e;exact J))).symm) rfl rfl rfl;have ag:∀(f:S)(O':aa),(eA B H Z N=some false->eA B H f O'=some false)->(eA B H Z N=some true->iw A B H.o Z N f O')->(eA B H Z N=some true->∀i,vU A.gl Z H.o.op=some i->bF f.boxes i=bF Z.boxes i)->cJ p A B C D E F l O' (f.bQ (some G) v X)->cJ p A B C D E F (H::l) O' f:=by
  intro f O' bk hs hb hr;refine(ad5 Q.xd Q.qx).2 ⟨v,X, ?_,by rw[Q.dst];exact hr⟩;cases c:eA B H Z N with
  |none=>rcases P with P|P<;>(rw[c] at P;cases P.1)
  |some b=>
   cases b;rcases P with P|P;exact .inl ⟨bk P.1,P.2⟩;rw[c] at P;cases P.1;exact Vs (hs c) (hb c) P
 simp only[cJ] at h;rcases h with⟨h1,U⟩|⟨h1,U⟩;refine .inl ⟨af.guard h1, ?_⟩;rw[JW a0] at U;have j:iw A B H.o Z N (Z.put y.o.dst (.bm [])) N:=iw.uC (λt J=>ja (λe=>Q.yx t e J)) (dG _ _ _).2.2 (dG _ _ _).1 (dG _ _ _).2.1;refine ag _ _ j.guard (λ_=>j) (λ_ i _=>by rw[jb]) U
 ·refine .inr ⟨af.guard h1, ?_⟩;have hg:eA B y Z N=some true:=af.guard h1;have br:db A Z y.o=db A (Z.bQ (some G) v X) y.o:=F3 (af.ev A.gl);rw[br];cases an:db A (Z.bQ (some G) v X) y.o with
  |call g0 I=>
   rw[an] at U;rcases g0 with g|n
   rotate_left
   have h3:=U.1;rw[bb] at h3;cases h3;have bs:C g I (Z.bQ (some G) v X)=C g I Z:=a9.q _ _ _ _ _ _;show mz _ _ _;have U:mz _ _ _:=U;rw[bs] at U;cases a4:C g I Z with
   |some ve=>
    obtain⟨pv,ex⟩:=ve;rw[a4] at U;obtain⟨bt,U⟩:=U;have bx:Z.bd=true:=by
     have:=F4 (s:=Z) (dx:=G) (v:=v) (l:=X) (cs:=[]) (by simp only[S.da,bt,SV.fa,aza]) al;simp only[S.da,axI] at this;exact this.1
    have bX:(((Z.bQ (some G) v X).plus ex).put y.o.dst pv)=(((Z.plus ex).put y.o.dst pv).bQ (some G) v X):=by
     rw[<-JW a0];rfl
    rw[bX] at U;have j:iw A B H.o Z N ((Z.plus ex).put y.o.dst pv) N:=iw.uC (λt J=>ja (λe=>Q.yx t e J)) (dG _ _ _).2.2 (dG _ _ _).1 (dG _ _ _).2.1;refine⟨bx,ag _ _ j.guard (λ_=>j) (λc i hi=> ?_) U⟩;rw[jb];exact ad0 (ad8 P c hi).1
   |none=>
   rw[a4] at U;simp only[mz] at U⊢;obtain⟨ts,M,r,c1,c2,c3,c4,c5⟩:=U;obtain⟨f1,f2⟩:=aok M (Z.cut I M) (some G) v X;have b0:(Z.da I&&mq M)=true:=by
    simp only[axI] at c4⊢;exact⟨F4 c4.1 al,c4.2⟩
   refine⟨ts,M,r,c1,c2,by rw[<-f1];exact c3,b0,λV W R=> ?_⟩;refine(c5 V W (by rw[yL];exact R)).mono ?_;intro e W' a;cases e with
   |returned u=>
    obtain⟨xs,q1,q2,q3,q4,q5⟩:=a;refine⟨xs,q1,q2,q3,q4, ?_⟩;have q5:cJ p A B C D E F l (N.ext xs) ((((Z.cut I M).bQ (some G) v X).bE M).2.put y.o.dst (one r)):=q5;rw[f2,JW a0] at q5;obtain⟨b1,b2,b3,b4⟩:=sJ M (Z.cut I M);obtain⟨l1,l2,l3⟩:=uB M xs (Z.cut I M) N q1 e1 e2 (e3.trans (AA I M Z.rs).len.symm);have a1:=Nv xs N;have a5:ww A.ty Z ((((Z.cut I M).bE M).2).put y.o.dst (one r)):=by
     intro q e a L;refine N0 (λk e _ L=> ?_) a L;rw[(dG _ _ _).2.2];obtain⟨e',g1,g2⟩:∃e',(yj I M Z.rs)[k]?=some e'/\e'.rd=e.rd:=by
      unfold yj;split;refine⟨uh ((Je I Z.rs.length).contains k) e,by rw[FM,L];simp, ?_⟩;cases e<;>simp only[uh]<;>try rfl
      split<;>rfl;exact⟨e,L,rfl⟩
     exact⟨e',adB M (Z.cut I M) k e' g1,g2⟩
    have j:iw A B H.o Z N ((((Z.cut I M).bE M).2).put y.o.dst (one r)) (N.ext xs):=by
     refine⟨λt J=> ?_,λ_ _=>a5,λt H r w i a6 _ _=>a5 r, ?_, ?_, ?_, ?_⟩;rw[ja (λe=>Q.yx t e J),b2];rfl;rw[(dG _ _ _).1,<-l1,<-e1];exact a1.1;rw[(dG _ _ _).2.1,<-l2,<-e2];exact a1.2.1;rw[(dG _ _ _).2.2,<-l3,<-e3];exact a1.2.2;rw[<-e1,<-e2,<-e3];exact As xs N
    exact ag _ _ j.guard (λ_=>j) (λ_ i _=>by rw[jb,b1];rfl) q5
   |panicked ch=>exact a
   |outgrown=>exact a
  |aW w=>
   have:=Vv an;rw[Q.np] at this;cases this
  |no=>rw[an] at U;exact U
  |op=>
   rw[an] at U;simp only at U⊢;cases a2:cP A y.o y.bc y.dr (Z.bQ (some G) v X) with
   |some b1=>
    rw[a2] at U;obtain⟨hn,U⟩:=U;obtain⟨b,b5,b6,kk,g1,g2,g3,g4,g5,g6,g7,g8,g9⟩:=aon Q al (af.ev A.gl) a2;rw[g1];subst g2;refine⟨hn,λrv b7=>ag _ _ ?_ ?_ ?_ (U rv b7)⟩;intro b8;have ca:iw A B {H.o with op:=.move (.const undef)} Z N b.s (N.add (.r rv)):=⟨λt J=>g3 t (λe=>Q.yx t e (by
     unfold gE at J⊢;refine(axS.1 J).elim (λh=> ?_) (λh=>azl _ h);simp[Op.operands] at h)),λh=>by simp[looks] at h,λt x0 r w i a6 h=>by simp at h,azo g4.symm,azo g5.symm,by rw[g6];simp[wn,wm],by rw[<-e1,<-e2,<-e3];exact Nj N (.r rv)⟩
    exact ca.guard (m:={H with o:={H.o with op:=.move (.const undef)}}) b8;intro c;have a7:∀(k:Nat)(e:RK),k∉b5->Z.rs[k]?=some e->∃e',b.s.rs[k]?=some e'/\e'.rd=e.rd:=by
     intro k e cc L;have cl:k<Z.rs.length:=(axJ.1 L).1;refine⟨uh (b6.contains k) e, ?_, ?_⟩;rw[g6,axL (by simp[wn,wm];exact cl),FM,FL,L];simp[cc];cases e<;>simp only[uh]<;>try rfl
     split<;>rfl
    refine⟨λt J=>g3 t (λe=>Q.yx t e J),λcp ct=> ?_,λt x0 r w i a6 ho hx e a L=> ?_,azo g4.symm,azo g5.symm,by rw[g6];simp[wn,wm],by rw[<-e1,<-e2,<-e3];exact Nj N (.r rv)⟩;cases ac:yk y.o.op with
    |true=>
     have:=(Q.rb ac cp).1;rw[ct] at this;cases this
    |false=>
     intro r e a L;exact N0 (λk e _ L=>a7 k e (by rw[g9 ac];simp) L) a L
    refine N0 (λk e cv L=>a7 k e ?_ L) a L;intro a3;have ac:yk y.o.op=true:=by
     cases ac:yk y.o.op with
     |true=>rfl
     |false=>rw[g9 ac] at a3;cases a3
    obtain⟨-,r1,r2⟩:=Q.rb ac (by rw[ho];rfl);have a8:=g8 k a3 r2;rcases P with P|⟨-,-,P⟩;rw[c] at P;cases P.1;rw[ho] at P;have:=P.2;rw[hx,r1] at this;simp only[I8,cv,if_true] at this;rw[this,azb] at a8;simp[aAg] at a8;intro _ i _;rw[g7]
   |none=>
   rw[a2] at U;have cx:cP A y.o y.bc y.dr Z=none:=by
    cases hb:cP A y.o y.bc y.dr Z with
    |none=>rfl
    |some b=>
     exfalso;have cy:=F5 (by rw[Q.yd] at hb;exact hb);obtain⟨s2,h3,-⟩:=U;exact Vx cy h3
   rw[cx];simp only[pg] at U⊢;obtain⟨s2,h3,h4⟩:=U;obtain⟨f,g1,g2,g3,g4,g5,g6,g7⟩:=aog Q al hg h3;subst g2;have j:iw A B H.o Z N f N:=iw.uC (λt J=>g3 t (λe=>Q.yx t e J)) g6 g4 g5;refine⟨f,g1,ag f N j.guard (λ_=>j) ?_ h4⟩;intro c i hi;obtain⟨k1,k2⟩:=ad8 P c hi;rcases g7 i k1 with k3|⟨k3,k4,k5⟩;exact k3;rcases k2 with⟨k2,k6⟩|k2;obtain⟨r1,r2⟩:=Q.rc k3 k2;have:=k4 r2;rw[k6 r1,azb] at this;simp[aAg] at this;rw[k2] at k5;cases k5
end
end
section
section
variable{p:Sp}{cf:bh}{A:Array Oper}{B:sy}{C:aa->S->Prop}{E:aa->SV->S->Prop}{F:OM->List OM->aa->S->Nat->List SV->Prop}
def aea(h:(dR cf H Z).gives N r):∀t,H.o.dst≠some t->r.tmps[t]?=Z.tmps[t]?:=by
 intro q X;unfold dR at h;split at h;exact h.elim;split at h;split at h;split at h;cases h;rw[ja X];rfl;exact h.elim;exact h.elim;split at h;split at h;cases h;rw[ja X];rfl;exact h.elim;exact h.elim;split at h;split at h;split at h;split at h;cases h;rw[ja X];rfl;exact h.elim;exact h.elim;exact h.elim;exact h.elim;split at h;split at h;split at h;cases h;rw[ja X];rfl;exact h.elim;exact h.elim;exact h.elim;split at h;simp only[OR.gives] at h;split at h<;>(subst h;rw[ja X]);exact h.elim;obtain⟨v,-,rfl⟩:=wq h;rw[F2 X];obtain⟨v,-,rfl⟩:=wq h;rw[F2 X]
def Vy{o:Oper}{bc:Bool}{s:S}{b:BI}(h:cP cf o bc true s=some b):∀t,o.dst≠some t->b.s.tmps[t]?=s.tmps[t]?:=by
 intro q R;have W:∀{az:BE}{e:TypeId}{k:RK}{x:LE}{V U:List Nat},gO s o.dst az e k x V U=some b->b.s.tmps[q]?=s.tmps[q]?:=by
  intro az e k x V U h;obtain⟨-,-,rfl⟩:=uy h;simp only;rw[ja R]
 have Z:=F5 h;unfold cP at h;cases Q:o.op<;>rw[Q] at Z h<;>simp[pQ] at Z;simp only at h;split at h;split at h;split at h;exact W h;cases h;cases h;cases h;rename_i c;cases X:c.callee with
 |builtin P=>
  cases P<;>simp[X] at Z;simp only[X] at h;split at h;split at h;split at h;split at h;cases h;split at h;exact W h;cases h;cases h;cases h;cases h
 |_=>simp[X] at Z
def Vz{Z X W:Nat}{V:Nat->Bool}:∀{l m:List SV},SV.cq Z X W V (l++m)=true<->SV.cq Z X W V l=true/\SV.cq Z X W V m=true
 |[],m=>by simp[SV.fa]
 |x::U,m=>by simp[SV.fa,Vz (l:=U),and_assoc]
def qY{Z X W:Nat}{V:Nat->Bool}:∀{l:List SV},SV.cq Z X W V l=true<->∀v∈l,v.bd Z X W V=true
 |[]=>by simp[SV.fa]
 |x::U=>by simp[SV.fa,qY (l:=U)]
def aop{W:Nat}{V:Nat->Bool}(Z:Value):(I2 Z).bd X v W V=true:=by
 have U:∀w,(EY w).bd X v W V=true:=λw=>by cases w<;>simp[EY,SV.aK,IE.aK,BE.aK,RE.aK]
 cases Z<;>try simp[I2,SV.aK,IE.aK,BE.aK,RE.aK]
 rw[qY];intro x R;obtain⟨w,-,rfl⟩:=aya.1 R;exact U w
def wA(X:Z.bd=true){x:Operand}(W:sx x=true):(Z.ev cf.gl x).bd Z.ni Z.nb Z.rs.length (aD Z.boxes)=true:=by
 simp only[S.bd,axI] at X;cases x with
 |tmp t=>
  simp only[S.ev,sn,axN];cases V:Z.tmps[t]? with
  |none=>simp[SV.aK]
  |some v=>exact qT X.1 V
 |const v=>exact aop v
 |global g=>cases W
 |func f=>simp[S.ev,SV.aK,SV.fa]
def VA{Z:Nat}{W:Nat->Bool}(h:J.bd X v Z W=true):SV.cq X v Z W J.cells=true:=by
 cases J<;>simp only[SV.cells,SV.fa,azH]<;>first|exact h|(simp only[SV.aK] at h;exact h)
def VB{Z X W:Nat}{V:Nat->Bool}:∀{vs l:List SV}{U:Nat},SV.cq Z X W V l=true->SV.cq Z X W V vs=true->SV.cq Z X W V (iK l U vs)=true
 |[],l,U,h,_=>h
 |v::vs,l,U,h,R=>by
  simp only[SV.fa,axI] at R;rw[iK];refine VB (vs:=vs) ?_ R.2;rw[qY] at h⊢;intro x P;rcases ayQ P with Q|Q;exact h x Q;rw[Q];exact R.1
def aeb{W V U:Nat}{R:Nat->Bool}{place:Nat->Option (Nat×Nat)}:∀{Q:List (Nat×SV)}{X l:List SV},SV.cq W V U R X=true->(∀q∈Q,q.2.bd W V U R=true)->uf place X Q=some l->SV.cq W V U R l=true
 |[],X,l,h,_,Z=>by simp[uf] at Z;subst Z;exact h
 |(i,v)::r,X,l,h,P,Z=>by
  simp only[uf] at Z;split at Z;cases Z;split at Z;cases Z;exact aeb (VB h (VA (P (i,v) azt))) (λq O=>P q (ayV _ O)) Z
def N4{Z:Nat}{W:Nat->Bool}(V:TI):SV.cq X v Z W (cA V)=true:=by
 rw[qY];intro x U;obtain⟨c,-,rfl⟩:=aya.1 U;cases c<;>simp[xX,SV.aK,IE.aK,BE.aK,RE.aK]
def aec{Z X W:Nat}{V:Nat->Bool}{l:List SV}(h:SV.cq Z X W V l=true):∀n,SV.cq Z X W V (ss n l)=true
 |0=>rfl
 |n+1=>by rw[ss,Vz];exact⟨h,aec h n⟩
mutual
def SV.JX{X W V:Nat}{U R:Nat->Bool}(h:∀i,U i=true->R i=true):∀(v:SV),v.bd X W V U=true->v.bd X W V R=true
 |.int _ _,Z=>by simp only[SV.aK] at Z⊢;exact Z
 |.bool _,Z=>by simp only[SV.aK] at Z⊢;exact Z
 |.ref _,Z=>by simp only[SV.aK] at Z⊢;exact Z
 |.loc i _,Z=>by simp only[SV.aK] at Z⊢;exact h i Z
 |.fy i _ _ _,Z=>by simp only[SV.aK] at Z⊢;exact h i Z
 |.el _ _ _ _,Z=>by simp only[SV.aK] at Z⊢;exact Z
 |.agg l,Z=>by simp only[SV.aK] at Z⊢;exact SV.AF h l Z
 |.bm l,Z=>by simp only[SV.aK] at Z⊢;exact SV.AF h l Z
 |.fn _ l,Z=>by simp only[SV.aK] at Z⊢;exact SV.AF h l Z
 |.dV _ x,Z=>by simp only[SV.aK] at Z⊢;exact SV.JX h x Z
 |.yl _,_=>by simp only[SV.aK]
 |.any,_=>by simp only[SV.aK]
 |.mp i,Z=>by simp only[SV.aK] at Z⊢;exact h i Z
 |.dI _ _ Q,Z=>by simp only[SV.aK,axI] at Z⊢;exact⟨Z.1,SV.AF h Q Z.2⟩
def SV.AF{X W V:Nat}{U R:Nat->Bool}(h:∀i,U i=true->R i=true):∀(l:List SV),SV.cq X W V U l=true->SV.cq X W V R l=true
 |[],_=>rfl
 |x::Q,Z=>by simp only[SV.fa,axI] at Z⊢;exact⟨SV.JX h x Z.1,SV.AF h Q Z.2⟩
end
def yM{W V U:Nat}{R:Nat->Bool}:∀{l:aY},SV.m5 W V U R l=true<->∀(i:Nat)(b:TypeId×List SV),bF l i=some b->SV.cq W V U R b.2=true
 |[]=>by simp[SV.m5,bU]
 |none::X=>by
  simp only[SV.m5,yM (l:=X)];exact⟨λh i b Z=>by cases i with
   |zero=>simp[bU] at Z
   |succ i=>exact h i b (by simpa[bU] using Z),λh i b Z=>h (i+1) b (by simpa[bU] using Z)⟩
 |some x::X=>by
  simp only[SV.m5,axI,yM (l:=X)];exact⟨λh i b Z=>by cases i with
   |zero=>simp[bU] at Z;subst Z;exact h.1
   |succ i=>exact h.2 i b (by simpa[bU] using Z),λh=>⟨h 0 x (by simp[bU]),λi b Z=>h (i+1) b (by simpa[bU] using Z)⟩⟩
def S.more(s:S)(n:Nat)(t:TypeId)(Z:List SV)(d:Option Nat)(w:SV):S:=(s.bN n t Z).put d w
def aed(V:Z.bd=true)(H:dL Z.boxes X=true)(L:Z.da M=true)(G:J.bd Z.ni Z.nb Z.rs.length (λi=>i==X)=true):(Z.more X I M R J).bd=true:=by
 have P:=(jZ H).2;have U:∀i,aD Z.boxes i=true->aD (Z.boxes.set X (some (I,M))) i=true:=λi W=>(lO P).2 (.inr W)
 simp only[S.da,S.bd,axI] at V L;simp only[S.more,S.bd,axI];obtain⟨F,E,D⟩:=dG (Z.bN X I M) R J;rw[F,E,D,jb];simp only[S.bN];refine⟨?_, ?_⟩;rw[qY];intro v O;cases R with
 |none=>exact SV.JX U v (qY.1 V.1 v O)
 |some R=>
  simp only[S.put,qL] at O;rcases ayQ O with N|N;exact SV.JX U v (qY.1 V.1 v N);rw[N];exact SV.JX (λi W=>by simp at W;subst W;exact(lO P).2 (.inl rfl)) J G
 rw[yM];intro i b Q;by_cases W:i=X;subst W;rw[CW P] at Q;cases Q;exact SV.AF U M L.2;rw[uv W] at Q;exact SV.AF U _ (yM.1 V.2 i b Q)
def VC(g:dW H.o.op=true)(f:H.o.op.operands.toList.all sx=true)(h:fe cf H Z N r):
  ∃t P w,r=Z.more H.ix t P H.o.dst w/\dL Z.boxes H.ix=true/\(∀d c b,w.bd d c b (λi=>i==H.ix)=true)/\
   ∀(X:S)(G:aa),(∀x∈H.o.op.operands.toList,X.ev cf.gl x=Z.ev cf.gl x)->X.bd=true->dL X.boxes H.ix=true->X.da P=true/\fe cf H X G (X.more H.ix t P H.o.dst w):=by
 unfold fe dR at h;split at h;exact h.elim;rename_i a;have A:∀x∈H.o.op.operands.toList,sx x=true:=axU.1 f;have D:∀X:S,(∀x∈H.o.op.operands.toList,X.ev cf.gl x=Z.ev cf.gl x)->¬(H.o.op.operands.toList.any λz=>(X.ev cf.gl z).cR)=true:=by
  intro X V hh;obtain⟨z,v,ac⟩:=ayh.1 hh;exact a (ayh.2 ⟨z,v,by rw[<-V z v];exact ac⟩)
 split at h;rename_i t W;split at h;rename_i F M;split at h;rename_i U;simp only[axI] at U;refine⟨t,cA F,.loc H.ix 0,h,o9 U.2,λ_ _ _=>by simp[SV.aK],λX G V Q L=> ?_⟩;have R:X.da (cA F)=true:=by simp only[S.da,Q,azy];exact N4 F
 refine⟨R, ?_⟩;unfold fe dR;rw[if_neg (D X V)];have J:Bq X.boxes H.ix t=true:=by simp[Bq,L,FJ U.2]
 simp only[W,M,R,J,aza,if_true];rfl;exact h.elim;exact h.elim;rename_i t z W;split at h;rename_i F M;split at h;rename_i U;simp only[axI] at U;obtain⟨⟨⟨u,n⟩,E⟩,m⟩:=U;refine⟨t,(Z.ev cf.gl z).cells,.loc H.ix 0,h,o9 m,λ_ _ _=>by simp[SV.aK],λX G V Q L=> ?_⟩;have I:=V z (by rw[W];simp[Op.operands]);have R:X.da (Z.ev cf.gl z).cells=true:=by
  simp only[S.da,Q,azy];rw[<-I];exact VA (wA Q (A z (by rw[W];simp[Op.operands])))
 refine⟨R, ?_⟩;unfold fe dR;rw[if_neg (D X V)];have J:Bq X.boxes H.ix t=true:=by simp[Bq,L,FJ m]
 simp only[W,M,I,u,R,E,J,aza,if_true];rfl;exact h.elim;exact h.elim;rename_i t C parts W;split at h;rename_i e ab q M;split at h;rename_i te af;split at h;rename_i P l;split at h;rename_i U;simp only[axI] at U;obtain⟨⟨u,n⟩,E⟩:=U;refine⟨e,P,.fy H.ix 0 C C,h,o9 E,λ_ _ _=>by simp[SV.aK],λX G V Q L=> ?_⟩;have I:(parts.toList.map λp=>(p.1,X.ev cf.gl p.2))=parts.toList.map λp=>(p.1,Z.ev cf.gl p.2):=ax7 λp B=>by rw[V p.2 (by rw[W];simp[Op.operands];exact⟨p.1,by simpa using B⟩)]
 have R:X.da P=true:=by
  simp only[S.da,Q,azy];refine aeb (aec (N4 te) C) (λq k=> ?_) l;rw[<-I] at k;obtain⟨j,B,rfl⟩:=aya.1 k;exact wA Q (A j.2 (by rw[W];simp[Op.operands];exact⟨j.1,by simpa using B⟩))
 refine⟨R, ?_⟩;unfold fe dR;rw[if_neg (D X V)];have J:Bq X.boxes H.ix e=true:=by simp[Bq,L,FJ E]
 simp only[W,M,af,I,l,R,n,J,aza,if_true];rfl;exact h.elim;exact h.elim;exact h.elim;exact h.elim
 all_goals(rename_i W;simp[dW,W] at g)<;>skip
def JY(h:dW x.op=true):db cf Z x=.op:=by
 unfold db;cases X:x.op<;>rw[X] at h<;>simp[dW] at h<;>rfl
def F6{s:S}{o:Oper}{bc Z:Bool}(h:dW o.op=true)(X:Z=true):cP cf o bc Z s=none:=by
 subst X;unfold cP;cases W:o.op<;>rw[W] at h<;>simp[dW] at h<;>first|rfl|simp
def uE(s:S)(n:Nat)(t:TypeId)(Z:List SV)(d:Option Nat)(w:SV):(s.more n t Z d w).ni=s.ni/\(s.more n t Z d w).nb=s.nb/\(s.more n t Z d w).rs=s.rs:=dG _ _ _
def F7(h:R≠some v):(Z.more X I M R J).tmps[v]?=Z.tmps[v]?:=ja h
def yN(s:S)(n:Nat)(t:TypeId)(Z:List SV)(d:Option Nat)(w:SV):(s.more n t Z d w).boxes=s.boxes.set n (some (t,Z)):=jb _ _ _
def yO{e:Option Nat}{w:SV}(h:∀x,R=some x->e≠some x):(Z.put R J).more X I M e w=(Z.more X I M e w).put R J:=by
 unfold S.more;have:(Z.put R J).bN X I M=(Z.bN X I M).put R J:=by cases R<;>rfl
 rw[this,Vt h]
def VD{s:S}{n n':Nat}{Z:TypeId}{X:List SV}{d e:Option Nat}{w:SV}(h:∀x,d=some x->e≠some x)(W:n≠n'):(s.more n I M d J).more n' Z X e w=(s.more n' Z X e w).more n I M d J:=by
 show((s.bN n I M).put d J).more n' Z X e w=_;rw[yO h];unfold S.more;have:((s.bN n I M).bN n' Z X).put e w=((s.bN n' Z X).put e w).bN n I M:=by
  have V:(s.bN n I M).bN n' Z X=(s.bN n' Z X).bN n I M:=by simp only[S.bN];rw[List.set_comm _ _ W]
  rw[V];cases e<;>rfl
 rw[this]
def aee:∀{l:List SV}{R Q P:Nat}{W:Nat->Bool}{i:Nat},SV.cq R Q P W l=true->i∈SV.lE l->W i=true:=by
 have N:∀(n:Nat)(l:List SV),SizeOf.sizeOf l<n->∀{R Q P:Nat}{W:Nat->Bool}{i:Nat},SV.cq R Q P W l=true->i∈SV.lE l->W i=true:=by
  intro n;induction n with
  |zero=>intro l h;omega
  |succ n V=>
   intro l U R Q P W i X Z;cases l with
   |nil=>simp[SV.lE] at Z
   |cons x O=>
    simp only[SV.fa,axI] at X;simp only[SV.lE,axS] at Z;simp only[List.cons.sizeOf_spec] at U;rcases Z with Z|Z;cases x with
    |loc j o=>simp[SV.Cx] at Z;subst Z;simpa only[SV.aK] using X.1
    |fy j a b c=>simp[SV.Cx] at Z;subst Z;simpa only[SV.aK] using X.1
    |agg m=>exact V m (by simp at U;omega) (by simpa only[SV.aK] using X.1) Z
    |bm m=>exact V m (by simp at U;omega) (by simpa only[SV.aK] using X.1) Z
    |fn f m=>exact V m (by simp at U;omega) (by simpa only[SV.aK] using X.1) Z
    |dV t y=>exact V [y] (by
     have M:0<SizeOf.sizeOf O:=by cases O<;>simp<;>omega
     simp at U⊢;omega) (by simpa[SV.fa,SV.aK] using X.1) (by simpa[SV.lE,SV.Cx] using Z)
    |mp j=>simp[SV.Cx] at Z;subst Z;simpa only[SV.aK] using X.1
    |dI e L m=>exact V m (by simp at U;omega) (by have:=X.1;simp only[SV.aK,axI] at this;exact this.2) Z
    |_=>simp[SV.Cx] at Z
    exact V O (by omega) X.2 Z
 intro l R Q P W i;exact N _ l (Nat.lt_succ_self _)
def aef{l:aY}{x:TypeId×List SV}(h:X∉U)(V:dL l X=true):nT U 0 (l.set X (some x))=nT U 0 l:=by
 apply ayf;intro i;rw[NQ,NQ,ayg];by_cases Z:i=X;subst Z;have W:=(jZ V).2;rw[azh W,axK W];simp[h];rw[ays (λe=>Z e.symm)]
def aeg(Z:List LK)(s:S)(n:Nat)(t:TypeId)(X:List SV)(d:Option Nat)(w:SV):((s.more n t X d w).bE Z).1=(s.bE Z).1/\((s.more n t X d w).bE Z).2=(s.bE Z).2.more n t X d w:=by
 induction Z generalizing s with
 |nil=>exact⟨rfl,rfl⟩
 |cons k Z W=>
  simp only[S.bE];have V:((s.more n t X d w).fresh k).1=(s.fresh k).1/\((s.more n t X d w).fresh k).2=(s.fresh k).2.more n t X d w:=by
   cases k<;>cases d<;>exact⟨rfl,rfl⟩
  rw[V.1,V.2];exact⟨by rw[(W _).1],(W _).2⟩
def N5(s:S)(Z:List SV)(X:List LK)(n:Nat)(t:TypeId)(W:List SV)(d:Option Nat)(w:SV):(s.more n t W d w).cut Z X=(s.cut Z X).more n t W d w:=by cases d<;>rfl
def aoq(h:(Z.put R J).bd=true)(X:∀e,R=some e->sK Z e):Z.bd=true:=by
 cases R with
 |none=>exact h
 |some R=>
  simp only[S.bd,S.put,qL,axI] at h⊢;exact⟨Vw h.1 (X R rfl),h.2⟩
def aeh{d:Option Nat}{W:TypeId}{k:RK}{x:LE}(P:(Z.more X I M R J).bd=true)(O:∀q,R=some q->d≠some q)
  (h:gO Z d c W k x U e=some b):gO (Z.more X I M R J) d c W k x U e=some {b with s:=b.s.more X I M R J}:=by
 unfold gO at h⊢;split at h;rename_i V;cases h;simp only[axI] at V;obtain⟨⟨⟨C,N⟩,L⟩,H⟩:=V;obtain⟨G,F,Q⟩:=uE Z X I M R J;rw[if_pos (by simp only[axI];rw[G,F,Q];exact⟨⟨⟨P,N⟩,L⟩,H⟩)];congr 2;rw[Q,yO (λq E D=>O q D E)];cases R<;>rfl;cases h
def aor{W:Ty}{e:TypeId}{V:TI}{y:SV}{r:LE×BE×List Nat}(Q:dL Z.boxes X=true)(h:nU W Z e V y=some r):nU W (Z.more X I M R J) e V y=some r:=by
 have bp:(Z.more X I M R J).rs=Z.rs:=(uE _ _ _ _ _ _).2.2;unfold nU at h⊢;split at h;simp only[yI bp];exact h;rename_i i O N L;rw[yN];split at h;rename_i U;have P:i≠X:=λe=>by subst e;have:=(jZ Q).1;simp[aD,(ut U).1] at this
 rw[Ju (uv P)];simp only[U,AE bp];exact h;cases h;cases h
def aei{e:TypeId}{y:SV}:su (Z.more X I M R J) e h y=su Z e h y:=by
 have bp:(Z.more X I M R J).rs=Z.rs:=(uE _ _ _ _ _ _).2.2;have W:(Z.more X I M R J).lk=Z.lk:=N3 _ _ _;unfold su;simp only[bp,W]
def aos{o:Oper}{bc:Bool}{s:S}{n:Nat}{t:TypeId}{X:List SV}{Z:Option Nat}{w:SV}{b:BI}(Q:dL s.boxes n=true)(U:(s.more n t X Z w).bd=true)(R:∀q,Z=some q->o.dst≠some q)
  (W:∀z∈o.op.operands.toList,(s.more n t X Z w).ev cf.gl z=s.ev cf.gl z)(h:cP cf o bc true s=some b):cP cf o bc true (s.more n t X Z w)=some {b with s:=b.s.more n t X Z w}:=by
 have bp:(s.more n t X Z w).rs=s.rs:=(uE _ _ _ _ _ _).2.2;have V:=F5 h;unfold cP at h⊢;cases P:o.op<;>rw[P] at V h W<;>simp[pQ] at V;rename_i x O N;simp only at h⊢;rw[W O (by simp[Op.operands]),W N (by simp[Op.operands])];split at h;rename_i e ab q M v L J I;split at h;rename_i H G;split at h;rename_i F;rw[AE bp,if_pos F];exact aeh U R h;cases h;cases h;cases h;rename_i c;cases bi:c.callee with
 |builtin E=>
  cases E<;>simp[bi] at V;simp only[bi] at h⊢;have D:c.args.toList.map ((s.more n t X Z w).ev cf.gl)=c.args.toList.map (s.ev cf.gl):=ax7 λz C=>W z (by simp[Op.operands,Call.operands];exact .inr (by simpa using C))
  rw[D];split at h;rename_i u r m l J I;split at h;rename_i e ab q k j i L g;split at h;rename_i H G;split at h;cases h;rename_i B;rw[if_neg B,aei];split at h;rename_i f d a lb M ac A y;rw[A,aor Q y];exact aeh U R h;cases h;cases h;cases h;cases h
 |_=>simp[bi] at V
mutual
def SV.cF{U R Q P O N:Nat}{M L:Nat->Bool}(X:U<=P)(W:R<=O)(V:Q<=N)(h:∀i,M i=true->L i=true):∀(v:SV),v.bd U R Q M=true->v.bd P O N L=true
 |.int _ e,Z=>by simp only[SV.aK] at Z⊢;exact IE.cF X W V e Z
 |.bool e,Z=>by simp only[SV.aK] at Z⊢;exact BE.cF X W V e Z
 |.ref e,Z=>by simp only[SV.aK] at Z⊢;exact RE.cF X W V e Z
 |.loc i _,Z=>by simp only[SV.aK] at Z⊢;exact h i Z
 |.fy i _ _ _,Z=>by simp only[SV.aK] at Z⊢;exact h i Z
 |.el r _ i _,Z=>by simp only[SV.aK,axI] at Z⊢;exact⟨RE.cF X W V r Z.1,IE.cF X W V i Z.2⟩
 |.agg l,Z=>by simp only[SV.aK] at Z⊢;exact SV.F8 X W V h l Z
 |.bm l,Z=>by simp only[SV.aK] at Z⊢;exact SV.F8 X W V h l Z
 |.fn _ l,Z=>by simp only[SV.aK] at Z⊢;exact SV.F8 X W V h l Z
 |.dV _ x,Z=>by simp only[SV.aK] at Z⊢;exact SV.cF X W V h x Z
 |.yl _,_=>by simp only[SV.aK]
 |.any,_=>by simp only[SV.aK]
 |.mp i,Z=>by simp only[SV.aK] at Z⊢;exact h i Z
 |.dI e _ J,Z=>by simp only[SV.aK,axI] at Z⊢;exact⟨IE.cF X W V e Z.1,SV.F8 X W V h J Z.2⟩
def SV.F8{X W V U R Q:Nat}{P O:Nat->Bool}(N:X<=U)(M:W<=R)(L:V<=Q)(h:∀i,P i=true->O i=true):∀(l:List SV),SV.cq X W V P l=true->SV.cq U R Q O l=true
 |[],_=>rfl
 |x::J,Z=>by simp only[SV.fa,axI] at Z⊢;exact⟨SV.cF N M L h x Z.1,SV.F8 N M L h J Z.2⟩
end
def JZ{s':S}(X:Z.bd=true)(V:Z.ni<=s'.ni)(U:Z.nb<=s'.nb)(Q:Z.rs.length<=s'.rs.length)(O:s'.tmps=Z.tmps)(N:s'.boxes=Z.boxes)(M:J.bd s'.ni s'.nb s'.rs.length (aD s'.boxes)=true):(s'.put R J).bd=true:=by
 simp only[S.bd,axI] at X⊢;obtain⟨L,I,H⟩:=dG s' R J;rw[L,I,H,jb,N];rw[N] at M;refine⟨?_, ?_⟩;rw[qY];intro u W;cases R with
 |none=>
  simp only[S.put,O] at W;exact SV.cF V U Q (λ_ h=>h) u (qY.1 X.1 u W)
 |some R=>
  simp only[S.put,qL,O] at W;rcases ayQ W with P|P;exact SV.cF V U Q (λ_ h=>h) u (qY.1 X.1 u P);rw[P];exact M
 rw[yM];exact λi b G=>SV.F8 V U Q (λ_ h=>h) _ (yM.1 X.2 i b G)
def VE:∀(Z:List LK)(s:S),s.ni<=(s.bE Z).2.ni/\s.nb<=(s.bE Z).2.nb/\s.rs.length<=(s.bE Z).2.rs.length
 |[],s=>⟨axQ _,axQ _,axQ _⟩
 |k::Z,s=>by
  have:=VE Z (s.fresh k).2;simp only[S.bE];cases k<;>simp[S.fresh] at this⊢<;>omega
def aej{pr:Nat->Bool}:∀(Z:List LK)(s:S),SV.cq (s.bE Z).2.ni (s.bE Z).2.nb (s.bE Z).2.rs.length pr (s.bE Z).1=true
 |[],s=>rfl
 |k::Z,s=>by
  have X:=aej (pr:=pr) Z (s.fresh k).2;have W:=VE Z (s.fresh k).2;simp only[S.bE,SV.fa,axI];refine⟨?_,X⟩;cases k<;>simp only[S.fresh,SV.aK,IE.aK,BE.aK,RE.aK,decide_eq_true_eq]<;>simp[S.fresh] at W<;>omega
def aek{P:Ty}{X W V:Nat}{U:Nat->Bool}:∀{Q:List TypeId}{l r:List SV},SV.cq X W V U l=true->vX P Q l=some r->SV.cq X W V U r=true
 |[],l,r,_,h=>by simp[vX] at h;subst h;rfl
 |t::Q,l,r,Z,h=>by
  simp only[vX] at h;split at h;rename_i O J;split at h;rename_i I N;cases h;have M:SV.cq X W V U (l.drop O.ab.length)=true:=by rw[qY] at Z⊢;exact λv R=>Z v (ayL R)
  simp only[SV.fa,axI];refine⟨?_,aek M N⟩;split;simp only[SV.aK];rw[qY] at Z⊢;exact λv R=>Z v (ayP R)
  rw[axN];cases L:l[0]? with
  |none=>simp[SV.aK]
  |some v=>exact qT Z L
  cases h;cases h
def aot{Z:Nat}{W:Nat->Bool}(h:SV.cq X v Z W M=true):(one M).bd X v Z W=true:=by
 unfold one;split;simp only[SV.fa,azH] at h;exact h;simp only[SV.aK];exact h
def aou(W:Z.bd=true){X:List LK}{V:List TypeId}{r:List SV}(h:vX cf.ty V ((Z.cut M X).bE X).1=some r):((((Z.cut M X).bE X).2).put R (one r)).bd=true:=by
 obtain⟨U,Q,L,J⟩:=sJ X (Z.cut M X);obtain⟨P,O,N⟩:=VE X (Z.cut M X);refine JZ W P O ?_ Q U (aot (aek (aej X _) h));have:=(AA M X Z.rs).len;simp only[S.cut] at N⊢;omega
def J0{o:Oper}{bc:Bool}{s:S}{b:BI}(h:cP cf o bc true s=some b):s.bd=true/\b.s.bd=true/\b.s.boxes=s.boxes:=by
 have U:∀{az:BE}{e:TypeId}{k:RK}{x:LE}{X W:List Nat},gO s o.dst az e k x X W=some b->s.bd=true/\b.s.bd=true/\b.s.boxes=s.boxes:=by
  intro az e k x X W h;obtain⟨R,-,rfl⟩:=uy h;refine⟨R, ?_,jb _ _ _⟩;exact JZ (s':={s with rs:=i7 W 0 (gr X 0 s.rs)++[k]}) R (axQ _) (axQ _) (by simp[wn,wm]) rfl rfl (by simp[SV.aK,RE.aK,wn,wm])
 have Z:=F5 h;unfold cP at h;cases Q:o.op<;>rw[Q] at Z h<;>simp[pQ] at Z;simp only at h;split at h;split at h;split at h;exact U h;cases h;cases h;cases h;rename_i c;cases V:c.callee with
 |builtin P=>
  cases P<;>simp[V] at Z;simp only[V] at h;split at h;split at h;split at h;split at h;cases h;split at h;exact U h;cases h;cases h;cases h;cases h
 |_=>simp[V] at Z
def VF(V:dW H.o.op=true)(X:fe cf H Z N r):Z.bd=true:=by
 unfold fe dR at X;split at X;exact X.elim
 ·cases U:H.o.op<;>rw[U] at V X<;>simp[dW] at V<;>simp only at X
  all_goals
   (repeat' split at X)
   all_goals first
    |exact X.elim
    |(rename_i W;simp only[axI,S.da] at W;first|exact W.1.1|exact W.1.1.2.1|exact W.1.1.1)
def aov{X:TI}(W:H.o.op=.alloc I)(V:cf.ty I=some X)(U:oO I=false)(R:Z.bd=true)(Q:dL Z.boxes H.ix=true):fe cf H Z N (Z.more H.ix I (cA X) H.o.dst (.loc H.ix 0)):=by
 have P:Z.da (cA X)=true:=by simp only[S.da,R,azy];exact N4 X
 unfold fe dR;rw[if_neg (by rw[W];simp[Op.operands])];have M:Bq Z.boxes H.ix I=true:=by simp[Bq,Q,U]
 simp only[W,V,P,M,aza,if_true];rfl
def aow{X:TI}(W:H.o.op=.alloc I)(V:cf.ty I=some X)(h:fe cf H Z N r):r=Z.more H.ix I (cA X) H.o.dst (.loc H.ix 0):=by
 unfold fe dR at h;rw[if_neg (by rw[W];simp[Op.operands])] at h;simp only[W,V] at h;split at h;exact h;exact h.elim
structure aox(A:Array Oper)(x y:OM):Prop where
 xy:∀q,x.o.dst=some q->y.o.dst≠some q
 yx:∀q,y.o.dst=some q->x.o.dst≠some q
 ry:∀q,x.o.dst=some q->q∉gE A y.o
 rx:∀q,y.o.dst=some q->q∉gE A x.o
def ael{y:OM}(h:M4 A H y=true):aox A H y:=by
 unfold M4 at h;simp only[axI] at h;obtain⟨X,W⟩:=h;have V:∀q,H.o.dst=some q->y.o.dst≠some q:=λq Z=>by rw[Z] at X;simp at X;exact X.2
 exact⟨V,λq Z U=>V q U Z,λq Z=>by rw[Z] at X;simp at X;exact X.1,λq Z=>by rw[Z] at W;simpa using W⟩
def VG(X:∀t∈gE A x,Z.tmps[t]?=r.tmps[t]?):∀z∈x.op.operands.toList,Z.ev cf.gl z=r.ev cf.gl z:=by
 intro z W;cases z with
 |tmp t=>
  have:t∈gE A x:=by unfold gE;exact ayy _ (ayZ.2 ⟨.tmp t,W,rfl⟩)
  simp only[S.ev,sn,axN,X t this]
 |_=>rfl
def aem(X:∀t∈gE A H.o,Z.tmps[t]?=r.tmps[t]?)(W:Z.ni=r.ni)(V:Z.nb=r.nb)(U:Z.rs=r.rs):eA A H Z N=eA A H r N:=by
 unfold eA;cases R:H.o.guard with
 |none=>rfl
 |some q=>
  obtain⟨j,P⟩:=q;simp only;cases Q:(A[j]?).bind (·.dst) with
  |none=>rfl
  |some d=>
   simp only;rw[X d (by unfold gE;rw[R];exact azl _ (by simp[Q])),W,V,U]
def aen(h:db cf Z x=.call (.fn g) M)(W:Z.bd=true)(R:x.op.operands.toList.all sx=true):SV.cq Z.ni Z.nb Z.rs.length (aD Z.boxes) M=true:=by
 have V:∀X∈x.op.operands.toList,sx X=true:=axU.1 R;unfold db at h;split at h;split at h<;>cases h;rename_i c U;split at h;rename_i f Q;split at h;rename_i L J P;split at h;cases h;cases h;rw[Vz];refine⟨?_, ?_⟩;rw[qY];intro v O;obtain⟨z,N,rfl⟩:=aya.1 O;exact wA W (V z (by rw[U];simp[Op.operands,Call.operands];exact .inr (by simpa using N)));have:=wA (cf:=cf) W (V f (by rw[U];simp[Op.operands,Call.operands,Q]));rw[P] at this;simpa only[SV.aK] using this;split at h<;>cases h;cases h;cases h;split at h;split at h<;>cases h;cases h;cases h;cases h
def aoy{K E:aa->SV->S->Prop}{P:List SV}(H:dL Z.boxes X=true)(D:SV.cq Z.ni Z.nb Z.rs.length (aD Z.boxes) M=true)(z:(Z.more X I P R J).bd=true)
  (h:F0 p cf Z N g M K)(y:∀C (L:List TypeId)(Q:List LK)(r:List SV),vX cf.ty L ((Z.cut M Q).bE Q).1=some r->K C (one r) ((Z.cut M Q).bE Q).2->E C (one r) (((Z.cut M Q).bE Q).2.more X I P R J)):F0 p cf (Z.more X I P R J) N g M E:=by
 obtain⟨L,Q,r,x,v,B,A,q⟩:=h;obtain⟨o,m,G⟩:=uE Z X I P R J;obtain⟨l,k⟩:=aeg Q (Z.cut M Q) X I P R J;have j:X∉SV.lE M:=λf=>by have:=aee D f;rw[(jZ H).1] at this;cases this
 have c:nT (SV.lE M) 0 (Z.more X I P R J).boxes=nT (SV.lE M) 0 Z.boxes:=by rw[yN];exact aef j H
 simp only[axI,S.da] at A;refine⟨L,Q,r,x,v,by rw[N5,l];exact B, ?_,λV W U=> ?_⟩;simp only[axI,S.da];refine⟨⟨z, ?_⟩,A.2⟩;rw[o,m,G,yN];exact SV.AF (λi b=>(lO (jZ H).2).2 (.inr b)) M D;rw[c,G] at U;refine(q V W U).mono ?_;intro e W' F;cases e with
 |returned u=>
  obtain⟨a,q1,q2,q3,q4,q5⟩:=F;refine⟨a,q1,q2,q3,by rw[G];exact q4, ?_⟩;rw[N5,k];exact y _ L Q r B q5
 |panicked ch=>exact F
 |outgrown=>exact F
def aoz{K F:aa->SV->S->Prop}{P:List SV}(E:dL Z.boxes X=true)(D:SV.cq Z.ni Z.nb Z.rs.length (aD Z.boxes) M=true)(x:Z.bd=true)
  (h:F0 p cf (Z.more X I P R J) N g M K)(v:∀C (L:List TypeId)(Q:List LK)(r:List SV),vX cf.ty L ((Z.cut M Q).bE Q).1=some r->K C (one r) (((Z.cut M Q).bE Q).2.more X I P R J)->F C (one r) ((Z.cut M Q).bE Q).2):F0 p cf Z N g M F:=by
 obtain⟨L,Q,r,q,o,H,B,m⟩:=h;obtain⟨p1,p2,A⟩:=uE Z X I P R J;obtain⟨l,k⟩:=aeg Q (Z.cut M Q) X I P R J;have j:X∉SV.lE M:=λi=>by have:=aee D i;rw[(jZ E).1] at this;cases this
 have f:nT (SV.lE M) 0 (Z.more X I P R J).boxes=nT (SV.lE M) 0 Z.boxes:=by rw[yN];exact aef j E
 simp only[axI,S.da] at B;rw[N5,l] at H;refine⟨L,Q,r,q,o,H, ?_,λV W U=> ?_⟩;simp only[axI,S.da];exact⟨⟨x,D⟩,B.2⟩;refine(m V W (by rw[f,A];exact U)).mono ?_;intro e W' G;cases e with
 |returned u=>
  obtain⟨c,b,a,q3,z,y⟩:=G;rw[A] at z;rw[N5,k] at y;exact⟨c,b,a,q3,z,v _ L Q r H y⟩
 |panicked ch=>exact G
 |outgrown=>exact G
def aoA(af:AC A B){y:OM}(bs:H.so=false)(a0:Fc A H y=true)(bt:∀d,H.o.dst=some d->sK Z d)(P:dL Z.boxes y.ix=true)(hz:∀t,y.o.op=.alloc t->CJ cf t=true)
  (h:cJ p cf A B C E F (H::y::l) N Z):cJ p cf A B C E F (y::H::l) N Z:=by
 unfold Fc at a0;simp only[axI] at a0;obtain⟨⟨⟨⟨⟨⟨⟨⟨a1,a6⟩,hy⟩,a2⟩,I⟩,bx⟩,a7⟩,bX⟩,a8⟩:=a0;have a2:y.o.guard=none:=by simpa using a2
 have D:=ael bX;obtain⟨t,G⟩:∃t,y.o.op=.alloc t:=by cases G:y.o.op<;>rw[G] at hy<;>simp[CI] at hy;exact⟨_,rfl⟩
 have ag:=hz t G;simp only[CJ,axI,ax0] at ag;obtain⟨ag,b0⟩:=ag;obtain⟨V,ht⟩:=ax1.1 ag;have w:dW y.o.op=true:=by rw[G];rfl
 have a9:∀(s':S)(M:aa),eA A y s' M=some true:=λs' M=>by simp[eA,a2]
 have u:∀{M:aa}{m:S},cJ p cf A B C E F (y::l) M m->m.bd=true/\cJ p cf A B C E F l M (m.more y.ix t (cA V) y.o.dst (.loc y.ix 0)):=by
  intro M m hr;simp only[cJ,a9,JY w,F6 w a6,pg] at hr;rcases hr with⟨R,_⟩|⟨_,s3,X,Q⟩;cases R;have:=aow G ht X;subst this;exact⟨VF w X,Q⟩
 have done:Z.bd=true->cJ p cf A B C E F (H::l) N (Z.more y.ix t (cA V) y.o.dst (.loc y.ix 0))->cJ p cf A B C E F (y::H::l) N Z:=by
  intro W X;rw[cJ];refine .inr ⟨a9 Z N, ?_⟩;rw[JY w];simp only[F6 w a6,pg];exact⟨_,aov G ht b0 W P,X⟩
 have al:Z.bd=true->(Z.more y.ix t (cA V) y.o.dst (.loc y.ix 0)).bd=true:=λW=>aed W P (by simp only[S.da,W,azy];exact N4 V) (by simp[SV.aK])
 obtain⟨p1,p2,p3⟩:=uE Z y.ix t (cA V) y.o.dst (.loc y.ix 0);have k:eA A H (Z.more y.ix t (cA V) y.o.dst (.loc y.ix 0)) N=eA A H Z N:=aem (λq hq=>F7 (λe=>D.rx q e hq)) p1 p2 p3;have j:∀z∈H.o.op.operands.toList,(Z.more y.ix t (cA V) y.o.dst (.loc y.ix 0)).ev cf.gl z=Z.ev cf.gl z:=VG (λq hq=>F7 (λe=>D.rx q e hq));rw[cJ] at h;rcases h with⟨R,X⟩|⟨R,X⟩
 ·obtain⟨g1,g2⟩:=u X;refine done (aoq g1 bt) ?_;rw[cJ];refine .inl ⟨by rw[k];exact R, ?_⟩;rw[<-yO D.xy];exact g2
 ·cases U:db cf Z H.o with
  |call g0 a3=>
   rw[U] at X;rcases g0 with g|n
   rotate_left
   have Q:=X.1;rw[bs] at Q;cases Q;have L:mz _ _ _:=X;clear X;cases i:B g a3 Z with
   |some ve=>
    obtain⟨pv,a⟩:=ve;rw[i] at L;obtain⟨W,L⟩:=L;have hR:=af.Vq _ _ _ _ i;have a4:Fb H.o.op=true:=by simpa[hR,Vr U] using a8
    have a5:=ad2 a4 U;subst a5;refine done W ?_;rw[cJ];refine .inr ⟨by rw[k];exact R, ?_⟩;rw[F3 j,U];show mz _ _ _;rw[show B g [] (Z.more y.ix t (cA V) y.o.dst (.loc y.ix 0))=some (pv,a) from(af.z _ _ _ _ _ _ _ P).trans i];refine⟨al W, ?_⟩;have b1:=(jZ P).2;have b2:(Z.more y.ix t (cA V) y.o.dst (.loc y.ix 0)).plus a=(Z.plus a).more y.ix t (cA V) y.o.dst (.loc y.ix 0):=by
     have:(Z.bN y.ix t (cA V)).plus a=(Z.plus a).bN y.ix t (cA V):=by
      simp only[S.bN,S.plus,List.set_append_left _ _ b1]
     unfold S.more;rw[<-this];cases y.o.dst<;>rfl
    rw[b2,<-yO D.xy];exact(u L).2
   |none=>
   rw[i] at L;simp only[mz] at L;have X:=L;have W:Z.bd=true:=by obtain⟨ts,ks,r,c1,c2,c3,c4,c5⟩:=X;simp only[axI,S.da] at c4;exact c4.1.1
   refine done W ?_;rw[cJ];refine .inr ⟨by rw[k];exact R, ?_⟩;rw[F3 j,U];show mz _ _ _;have b3:B g a3 (Z.more y.ix t (cA V) y.o.dst (.loc y.ix 0))=none:=by
    cases hh:B g a3 (Z.more y.ix t (cA V) y.o.dst (.loc y.ix 0)) with
    |none=>rfl
    |some r=>
     exfalso;have hR:=af.Vq _ _ _ _ hh;have a4:Fb H.o.op=true:=by simpa[hR,Vr U] using a8
     have a5:=ad2 a4 U;subst a5;have:=(af.z g Z y.ix t (cA V) y.o.dst (.loc y.ix 0) P).symm.trans hh;rw[i] at this;cases this
   rw[b3];simp only[mz];refine aoy P (aen U W a7) (al W) X (λM ts ks r _ hr=> ?_);rw[<-yO D.xy];exact(u hr).2
  |aW v=>
   exfalso;have hp:=Vv U;cases an:H.o.op<;>rw[an] at I hp<;>simp[Fa,dW,pQ,um] at hp I;rename_i c;cases bi:c.callee<;>simp[bi] at hp I;rename_i bb;cases bb<;>simp at hp I
  |no=>rw[U] at X;exact X.elim
  |op=>
   rw[U] at X;simp only at X;cases W:cP cf H.o H.bc H.dr Z with
   |some b=>
    rw[W] at X;obtain⟨hn,X⟩:=X;rw[a1] at W;obtain⟨q1,q2,q3⟩:=J0 W;refine done q1 ?_;rw[cJ];refine .inr ⟨by rw[k];exact R, ?_⟩;rw[F3 j,U];simp only;rw[a1,aos P (al q1) D.yx j W];refine⟨hn,λrv bf=> ?_⟩;rw[p3] at bf;exact(u (X rv bf)).2
   |none=>
    rw[W] at X;obtain⟨m,Q,h4⟩:=X;have ac:dW H.o.op=true:=by
     simp only[ayb] at I;rcases I with(J|J)|J;exact J;exact(Vx J Q).elim
     ·exfalso;cases an:H.o.op<;>rw[an] at J<;>simp[um] at J;rename_i c;cases bi:c.callee<;>simp[bi] at J;rename_i f;simp only[db,an,bi] at U
      (repeat' split at U)<;>cases U
    have bk:H.ix≠y.ix:=by simpa[ac] using bx
    have br:=VF ac Q;obtain⟨tx,cx,wx,rfl,g2,g3,g4⟩:=VC ac a7 Q;refine done br ?_;rw[cJ];refine .inr ⟨by rw[k];exact R, ?_⟩;rw[JY ac];simp only[F6 ac a1,pg];refine⟨_,(g4 _ N j (al br) ?_).2, ?_⟩;unfold dL at g2⊢;rw[yN,ays (λe=>bk e.symm)];exact g2;rw[VD D.yx (λe=>bk e.symm)];exact(u h4).2
def aeo{d:Option Nat}{W:TypeId}{k:RK}{x:LE}(O:Z.bd=true)(N:∀q,R=some q->d≠some q)
  (h:gO (Z.more X I M R J) d c W k x U e=some b):∃V,gO Z d c W k x U e=some V/\b={V with s:=V.s.more X I M R J}:=by
 obtain⟨L,H,P⟩:=uE Z X I M R J;unfold gO at h⊢;split at h;rename_i Q;cases h;simp only[axI] at Q;rw[L,H,P] at Q;obtain⟨⟨⟨B,G⟩,F⟩,E⟩:=Q;rw[if_pos (by simp only[axI];exact⟨⟨⟨O,G⟩,F⟩,E⟩)];refine⟨_,rfl, ?_⟩;congr 1;rw[P,yO (λq D C=>N q C D)];cases R<;>rfl;cases h
def aoB{V:Ty}{e:TypeId}{U:TI}{y:SV}{r:LE×BE×List Nat}(Q:dL Z.boxes X=true)(W:y.bd Z.ni Z.nb Z.rs.length (aD Z.boxes)=true)(h:nU V (Z.more X I M R J) e U y=some r):nU V Z e U y=some r:=by
 have bp:(Z.more X I M R J).rs=Z.rs:=(uE _ _ _ _ _ _).2.2;unfold nU at h⊢;split at h;simp only[yI bp] at h;exact h;rename_i i N L H;rw[yN] at h;have P:i≠X:=λe=>by subst e;simp only[SV.aK] at W;rw[(jZ Q).1] at W;cases W
 rw[Ju (uv P)] at h;split at h;rename_i O;simp only[AE bp] at h
 first|exact h|(rw[O];exact h)
 cases h;cases h
def aoC{o:Oper}{bc:Bool}{s:S}{n:Nat}{t:TypeId}{X:List SV}{Z:Option Nat}{w:SV}{Q:BI}(J:dL s.boxes n=true)(U:s.bd=true)(P:∀q,Z=some q->o.dst≠some q)(I:o.op.operands.toList.all sx=true)
  (W:∀z∈o.op.operands.toList,(s.more n t X Z w).ev cf.gl z=s.ev cf.gl z)(h:cP cf o bc true (s.more n t X Z w)=some Q):∃b,cP cf o bc true s=some b/\Q={b with s:=b.s.more n t X Z w}:=by
 have bp:(s.more n t X Z w).rs=s.rs:=(uE _ _ _ _ _ _).2.2;have O:∀x∈o.op.operands.toList,sx x=true:=axU.1 I;have V:=F5 h;unfold cP at h⊢;cases H:o.op<;>rw[H] at V h W O<;>simp[pQ] at V;rename_i k G F;simp only at h⊢;rw[W G (by simp[Op.operands]),W F (by simp[Op.operands])] at h;split at h;rename_i e ab q E j D C N;split at h;rename_i B A;split at h;rename_i M;rw[AE bp] at M;rw[if_pos M];exact aeo U P h;cases h;cases h;cases h;rename_i c;cases bi:c.callee with
 |builtin y=>
  cases y<;>simp[bi] at V;simp only[bi] at h⊢;have v:c.args.toList.map ((s.more n t X Z w).ev cf.gl)=c.args.toList.map (s.ev cf.gl):=ax7 λz R=>W z (by simp[Op.operands,Call.operands];exact .inr (by simpa using R))
  rw[v] at h;split at h;rename_i i g f L C N;have u:L.bd s.ni s.nb s.rs.length (aD s.boxes)=true:=by
   have:L∈c.args.toList.map (s.ev cf.gl):=by rw[N];simp
   obtain⟨z,R,rfl⟩:=aya.1 this;exact wA U (O z (by simp[Op.operands,Call.operands];exact .inr (by simpa using R)))
  split at h;rename_i e ab q d a q2 D ac;split at h;rename_i B A;split at h;cases h;rename_i r;rw[if_neg r];rw[aei] at h;split at h;rename_i la n1 af lb E ag m l;rw[m,aoB J u l];exact aeo U P h;cases h;cases h;cases h;cases h
 |_=>simp[bi] at V
def aoD(ct:AC A B){y:OM}(cv:y.so=false)(a7:Jg A H y=true)
  (h:cJ p cf A B C E F (H::y::l) N Z):cJ p cf A B C E F (y::H::l) N Z:=by
 unfold Jg at a7;simp only[axI] at a7;obtain⟨⟨⟨⟨⟨⟨⟨⟨⟨⟨b5,a3⟩,ag⟩,dy⟩,a8⟩,cx⟩,a2⟩,al⟩,cI⟩,c0⟩,c1⟩:=a7;have a8:H.o.guard=none:=by simpa using a8
 have D:=ael c0;have b6:∀(M:S)(O':aa),eA A H M O'=some true:=λM O'=>by simp[eA,a8]
 rw[cJ] at h;rcases h with⟨h1,_⟩|⟨_,h2⟩;rw[b6] at h1;cases h1;rw[JY ag] at h2;simp only[F6 ag b5,pg] at h2;obtain⟨s1,h3,h4⟩:=h2;have Q:=VF ag h3;obtain⟨t,I,w,rfl,J,hw,tr⟩:=VC ag cx h3;have dz:Z.da I=true:=(tr Z N (λ_ _=>rfl) Q J).1;obtain⟨p1,p2,p3⟩:=uE Z H.ix t I H.o.dst w;have a9:eA A y (Z.more H.ix t I H.o.dst w) N=eA A y Z N:=aem (λq W=>F7 (λe=>D.ry q e W)) p1 p2 p3;have an:∀z∈y.o.op.operands.toList,(Z.more H.ix t I H.o.dst w).ev cf.gl z=Z.ev cf.gl z:=VG (λq W=>F7 (λe=>D.ry q e W));have a0:∀{O':aa}{M:S},(∀q,y.o.dst≠some q->M.tmps[q]?=Z.tmps[q]?)->M.bd=true->dL M.boxes H.ix=true->cJ p cf A B C E F l O' (M.more H.ix t I H.o.dst w)->cJ p cf A B C E F (H::l) O' M:=by
  intro O' M ht a1 c2 hr;rw[cJ];refine .inr ⟨b6 _ _, ?_⟩;rw[JY ag];simp only[F6 ag b5,pg];exact⟨_,(tr M O' (VG (λq W=>ht q (λe=>D.rx q e W))) a1 c2).2,hr⟩
 rw[cJ] at h4;rcases h4 with⟨h5,V⟩|⟨h5,V⟩;rw[cJ];refine .inl ⟨by rw[<-a9];exact h5, ?_⟩;refine a0 (λq W=>ja W) (JZ (s':=Z) Q (axQ _) (axQ _) (axQ _) rfl rfl (by simp[SV.aK,SV.fa])) (by rw[jb];exact J) ?_;rw[yO D.yx];exact V
 ·rw[cJ];refine .inr ⟨by rw[<-a9];exact h5, ?_⟩;rw[F3 an] at V;cases m:db cf Z y.o with
  |call g0 bf=>
   rw[m] at V;rcases g0 with g|n
   rotate_left
   have h3:=V.1;rw[cv] at h3;cases h3;have b7:∀M,B g bf M=none:=λM=>by
    cases hh:B g bf M with
    |none=>rfl
    |some r=>
     exfalso;have hR:=ct.Vq _ _ _ _ hh;simp[hR,Vr m] at c1
   have hP:mz _ _ _:=V;clear V;rw[b7] at hP;simp only[mz] at hP;have V:=hP;show mz _ _ _;rw[b7];simp only[mz];refine aoz J (aen m Q a2) Q V (λO' ts ks r hm hr=> ?_);obtain⟨b1,b2,b3,b4⟩:=sJ ks (Z.cut bf ks);refine a0 (λq W=>by rw[ja W,b2];rfl) (aou Q hm) (by rw[jb,b1];exact J) ?_;rw[yO D.yx];exact hr
  |aW v=>
   exfalso;have hp:=Vv m;cases a4:y.o.op<;>rw[a4] at al hp<;>simp[Fa,dW,pQ,um,Aj,ul] at hp al;rename_i c;cases bi:c.callee<;>simp[bi] at hp al;rename_i bb;cases bb<;>simp at hp al
  |no=>rw[m] at V;exact V.elim
  |op=>
   rw[m] at V;show pg _ _ _;have V:pg _ _ _:=V;cases a5:cP cf y.o y.bc y.dr (Z.more H.ix t I H.o.dst w) with
   |some b1=>
    rw[a5] at V;obtain⟨hn,V⟩:=V;rw[a3] at a5⊢;obtain⟨b,g1,rfl⟩:=aoC J Q D.xy a2 an a5;rw[g1];obtain⟨q1,q2,q3⟩:=J0 g1;refine⟨hn,λrv c3=> ?_⟩;refine a0 (Vy g1) q2 (by rw[q3];exact J) (V rv (by rw[p3];exact c3))
   |none=>
    rw[a5] at V;obtain⟨c4,P,h8⟩:=V;by_cases G:Aj y.o.op=true
    
    have W:ke y.o.op=true:=by cases U:y.o.op<;>rw[U] at G<;>simp[Aj] at G<;>rfl
    have dT:abd y.o.op=false:=by cases U:y.o.op<;>rw[U] at G<;>simp[Aj] at G<;>rfl
    rw[a3,ad4 W];simp only[pg];obtain⟨v,X,hv,rfl⟩:=(F1 (ops:=A) W h5).1 P;have c5:iw cf A y.o (Z.more H.ix t I H.o.dst w) N Z N:=iw.uC (λq W=>(F7 (λe=>D.ry q e W)).symm) p3.symm p1.symm p2.symm;have R:=Vs c5 (λi hi=>by
     unfold vU at hi;cases U:y.o.op<;>rw[U] at G hi<;>simp[Aj] at G<;>cases hi) hv
    have b8:eA A y Z N=some true:=by rw[<-a9];exact h5
    refine⟨_,(F1 (ops:=A) W b8).2 ⟨v,X,R,rfl⟩, ?_⟩;have c6:v.bd Z.ni Z.nb Z.rs.length (aD Z.boxes)=true:=by
     have af:∀z∈y.o.op.operands.toList,sx z=true:=axU.1 a2;rcases R with R|⟨-,-,R⟩;rw[b8] at R;cases R.1;cases U:y.o.op<;>rw[U] at G R af<;>simp[Aj] at G;rename_i z;have:=R.1;simp only[bz,PR.uD] at this;rw[this];exact wA Q (af z (by simp[Op.operands]));rename_i z;have:=R.1;simp only[bz,PR.uD] at this;rw[this];exact wA Q (af z (by simp[Op.operands]));rename_i st z f;have k:=wA (cf:=cf) Q (af z (by simp[Op.operands]));have:=R.1;simp only[bz] at this;split at this;rename_i hz;rw[hz] at k;split at this;split at this;split at this;exact this.elim;rw[this];exact k;exact this.elim;exact this.elim;rename_i hz;rw[hz] at k;split at this;split at this;split at this;exact this.elim;rw[this];exact k;exact this.elim;exact this.elim;exact this.elim
    have c7:X=0:=by
     rcases R with R|⟨-,-,R⟩;exact R.2.2;cases U:y.o.op<;>rw[U] at G R<;>simp[Aj] at G<;>exact R.2
    subst c7;rw[C6] at h8⊢;refine a0 (λq W=>ja W) (JZ (s':=Z) Q (axQ _) (axQ _) (axQ _) rfl rfl c6) (by rw[jb];exact J) ?_;rw[yO D.yx];exact h8;by_cases bk:ul y.o.op=true;obtain⟨t',z,u,U⟩:∃t z u,y.o.op=.store t z u:=by cases U:y.o.op<;>rw[U] at bk<;>simp[ul] at bk;exact⟨_,_,_,rfl⟩
    have af:∀z∈y.o.op.operands.toList,sx z=true:=axU.1 a2;have br:cP cf y.o y.bc y.dr Z=none:=by rw[a3];simp[cP,U]
    rw[br];simp only[pg];have hz:=an z (by rw[U];simp[Op.operands]);have hu:=an u (by rw[U];simp[Op.operands]);have k:=wA (cf:=cf) Q (af z (by rw[U];simp[Op.operands]));have c8:=wA (cf:=cf) Q (af u (by rw[U];simp[Op.operands]));unfold fe dR at P;split at P;exact P.elim;rename_i L;have c9:¬(y.o.op.operands.toList.any λz=>(Z.ev cf.gl z).cR)=true:=by
     intro hh;obtain⟨zz,ca,dc⟩:=ayh.1 hh;exact L (ayh.2 ⟨zz,ca,by rw[an zz ca];exact dc⟩)
    simp only[U,hz,hu] at P;split at P;rename_i ti i a dd hi;have bs:i≠H.ix:=λe=>by subst e;rw[hi] at k;simp only[SV.aK] at k;rw[(jZ J).1] at k;cases k
    rw[yN,Ju (uv bs)] at P;split at P;rename_i bt ac cc;obtain⟨bx,-⟩:=ut cc;split at P;rename_i a6;have df:(Z.more H.ix t I H.o.dst w).lk=Z.lk:=N3 _ _ _;rw[df] at a6;have d0:((Z.ev cf.gl u).cells.length==ti.ab.length)=true:=by simp only[axI] at a6;exact a6.1.1.1.1
    refine⟨(Z.bN i bt (iK ac a (Z.ev cf.gl u).cells)).put y.o.dst (.bm []), ?_, ?_⟩;unfold fe dR;rw[if_neg c9];simp only[U,dd,hi,cc];rw[if_pos a6];rfl;have dk:((Z.bN i bt (iK ac a (Z.ev cf.gl u).cells)).put y.o.dst (.bm [])).bd=true:=by
     have ch:i<Z.boxes.length:=(axJ.1 (gG.1 bx)).1;have dn:∀j,aD (Z.boxes.set i (some (bt,iK ac a (Z.ev cf.gl u).cells))) j=aD Z.boxes j:=λj=>by
      by_cases hj:j=i;subst hj;simp[aD,CW ch,bx];simp[aD,uv hj]
     have ds:aD (Z.boxes.set i (some (bt,iK ac a (Z.ev cf.gl u).cells)))=aD Z.boxes:=funext dn;have a1:=Q;simp only[S.bd,axI] at a1;have br:(Z.bN i bt (iK ac a (Z.ev cf.gl u).cells)).bd=true:=by
      simp only[S.bd,S.bN,ds,axI];refine⟨a1.1, ?_⟩;rw[yM];intro j b hj;by_cases cl:j=i;subst cl;rw[CW ch] at hj;cases hj;exact VB (yM.1 a1.2 j _ bx) (VA c8);rw[uv cl] at hj;exact yM.1 a1.2 j b hj
     exact JZ (s':=Z.bN i bt (iK ac a (Z.ev cf.gl u).cells)) br (axQ _) (axQ _) (axQ _) rfl rfl (by simp[SV.aK,SV.fa])
    refine a0 (λq W=>by rw[ja W];rfl) dk ?_ ?_;rw[jb];unfold dL at J⊢;simp only[S.bN];rw[ays bs];exact J;have dx:c4=((Z.more H.ix t I H.o.dst w).bN i bt (iK ac a (Z.ev cf.gl u).cells)).put y.o.dst (.bm []):=P;subst dx;have:((Z.bN i bt (iK ac a (Z.ev cf.gl u).cells)).put y.o.dst (.bm [])).more H.ix t I H.o.dst w=((Z.more H.ix t I H.o.dst w).bN i bt (iK ac a (Z.ev cf.gl u).cells)).put y.o.dst (.bm []):=
     VD (s:=Z) (n:=i) (n':=H.ix) (d:=y.o.dst) (e:=H.o.dst) D.yx bs
    rw[this];exact h8;exact P.elim;exact P.elim;exact P.elim;have bX:dW y.o.op=true:=by
     simp only[ayb] at al;rcases al with(((L|L)|L)|L)|L;exact L;exact(Vx L P).elim
     ·exfalso;cases a4:y.o.op<;>rw[a4] at L<;>simp[um] at L;rename_i c;cases bi:c.callee<;>simp[bi] at L;rename_i f;simp only[db,a4,bi] at m
      (repeat' split at m)<;>cases m
     exact absurd L G;exact absurd L bk
    have b0:H.ix≠y.ix:=by simpa[bX] using cI
    rw[F6 bX a3];simp only[pg];obtain⟨d1,cy,wy,rfl,k2,k3,k4⟩:=VC bX a2 P;have cp:dL Z.boxes y.ix=true:=by
     unfold dL at k2⊢;rw[yN,ays b0] at k2;exact k2
    obtain⟨m1,m2⟩:=k4 Z N (λz hz=>(an z hz).symm) Q cp;refine⟨_,m2,a0 (λq W=>F7 W) (aed Q cp m1 (k3 _ _ _)) ?_ ?_⟩;unfold dL at J⊢;rw[yN,ays (λe=>b0 e.symm)];exact J;rw[VD D.yx (λe=>b0 e.symm)];exact h8
def aoE(V:AC A B){y:OM}(W:pR A H y=true)(U:∀d,H.o.dst=some d->sK Z d)(Q:dW y.o.op=true->dL Z.boxes y.ix=true)(P:∀t,y.o.op=.alloc t->CJ cf t=true)
  (M:N.i.length=Z.ni)(L:N.b.length=Z.nb)(J:N.r.length=Z.rs.length)
  (h:cJ p cf A B C E F (H::y::l) N Z):cJ p cf A B C E F (y::H::l) N Z:=by
 unfold pR at W;simp only[axI,ax0,ayb] at W;obtain⟨⟨I,R⟩,W⟩:=W;rcases W with(X|X)|X;exact aoo V R X U M L J h;have G:dW y.o.op=true:=by
  unfold Fc at X;simp only[axI] at X;have:=X.1.1.1.1.1.1.2;cases D:y.o.op<;>rw[D] at this<;>simp[CI] at this;rfl
 exact aoA V I X U (Q G) P h;exact aoD V R X h
def aep(h:(dR cf H Z).gives N r):∀n,dL Z.boxes n=true->(dW H.o.op=true->n≠H.ix)->dL r.boxes n=true:=by
 intro q X U;have V:∀{t:TypeId}{R:List SV}{d:Option Nat}{w:SV}{i:Nat},q≠i->dL ((Z.bN i t R).put d w).boxes q=true:=by
  intro t R d w i Q;rw[jb];unfold dL at X⊢;simp only[S.bN];rw[ays (λe=>Q e.symm)];exact X
 unfold dR at h;split at h;exact h.elim;split at h;rename_i t W;split at h;split at h;cases h;exact V (U (by rw[W];rfl));exact h.elim;exact h.elim;rename_i t x W;split at h;split at h;cases h;exact V (U (by rw[W];rfl));exact h.elim;exact h.elim;rename_i t l M W;split at h;split at h;split at h;split at h;cases h;exact V (U (by rw[W];rfl));exact h.elim;exact h.elim;exact h.elim;exact h.elim;split at h;split at h;rename_i L R P;split at h;cases h;refine V (λe=> ?_);subst e;have:=(jZ X).1;simp[aD,(ut P).1] at this;exact h.elim;exact h.elim;exact h.elim;split at h;simp only[OR.gives] at h;split at h<;>(subst h;rw[jb];exact X);exact h.elim;obtain⟨v,-,rfl⟩:=wq h;rw[yL];exact X;obtain⟨v,-,rfl⟩:=wq h;rw[yL];exact X
def aoF(h:(dR cf H Z).gives N r):∀i,aD Z.boxes i=true->aD r.boxes i=true:=by
 intro q X;have W:∀{t:TypeId}{V:List SV}{d:Option Nat}{w:SV}{i:Nat},aD ((Z.bN i t V).put d w).boxes q=true:=by
  intro t V d w i;rw[jb];unfold aD at X⊢;simp only[bU] at X⊢;simp only[S.bN];by_cases U:i=q;subst U;have P:i<Z.boxes.length:=by
   cases R:Z.boxes[i]? with
   |none=>rw[R] at X;cases X
   |some b=>exact(axJ.1 R).1
  rw[azh P];rfl;rw[ays U];exact X
 unfold dR at h;split at h;exact h.elim;split at h;rename_i t Q;split at h;split at h;cases h;exact W;exact h.elim;exact h.elim;rename_i t x Q;split at h;split at h;cases h;exact W;exact h.elim;exact h.elim;rename_i t l M Q;split at h;split at h;split at h;split at h;cases h;exact W;exact h.elim;exact h.elim;exact h.elim;exact h.elim;split at h;split at h;rename_i L V J;split at h;cases h;exact W;exact h.elim;exact h.elim;exact h.elim;split at h;simp only[OR.gives] at h;split at h<;>(subst h;rw[jb];exact X);exact h.elim;obtain⟨v,-,rfl⟩:=wq h;rw[yL];exact X;obtain⟨v,-,rfl⟩:=wq h;rw[yL];exact X
structure pY(s s':S):Prop where
 i:s.ni<=s'.ni
 b:s.nb<=s'.nb
 r:s.rs.length<=s'.rs.length
 bx:∀i,aD s.boxes i=true->aD s'.boxes i=true
def pY.put(s:S)(d:Option Nat)(v:SV):pY s (s.put d v):=
 ⟨azo (dG _ _ _).1.symm,azo (dG _ _ _).2.1.symm,azo (congrArg azO (dG s d v).2.2).symm,λi h=>by rw[jb];exact h⟩
def pY.trans{b:S}(h:pY Z b)(k:pY b r):pY Z r:=⟨ayt h.i k.i,ayt h.b k.b,ayt h.r k.r,λi X=>k.bx i (h.bx i X)⟩
def aoG{l1:List OM}(d:H.dr=true)(af:H.so=false)(D:N.i.length=Z.ni)(z:N.b.length=Z.nb)(y:N.r.length=Z.rs.length)(h:cJ p cf A B C E F (H::l1) N Z)
  (q:∀m U,m.i.length=U.ni->m.b.length=U.nb->m.r.length=U.rs.length->(∀t,H.o.dst≠some t->U.tmps[t]?=Z.tmps[t]?)->(∀n,dL Z.boxes n=true->(dW H.o.op=true->n≠H.ix)->dL U.boxes n=true)->pY Z U->cJ p cf A B C E F l1 m U->cJ p cf A B C E F l m U):cJ p cf A B C E F (H::l) N Z:=by
 simp only[cJ] at h⊢;rcases h with⟨c,X⟩|⟨c,X⟩;exact .inl ⟨c,q _ _ (by rw[(dG _ _ _).1];exact D) (by rw[(dG _ _ _).2.1];exact z) (by rw[(dG _ _ _).2.2];exact y) (λt k=>ja k) (λn J _=>by rw[jb];exact J) (pY.put _ _ _) X⟩
 ·refine .inr ⟨c, ?_⟩;cases f:db cf Z H.o with
  |call g0 j=>
   rw[f] at X;rcases g0 with g|n
   rotate_left
   have P:=X.1;rw[af] at P;cases P;have X:mz _ _ _:=X;show mz _ _ _;cases ac:B g j Z with
   |some ve=>
    obtain⟨pv,ex⟩:=ve;rw[ac] at X;exact⟨X.1,q _ _ (by rw[(dG _ _ _).1];exact D) (by rw[(dG _ _ _).2.1];exact z) (by rw[(dG _ _ _).2.2];exact y) (λt k=>ja k) (λn J _=>by rw[jb];exact ad1 J) (pY.trans (b:=Z.plus ex) ⟨axQ _,axQ _,axQ _,λi w=>by unfold aD;rw[ad0 w];exact w⟩ (pY.put _ _ _)) X.2⟩
   |none=>
   rw[ac] at X;obtain⟨ts,M,r,c1,c2,c3,c4,c5⟩:=X;refine⟨ts,M,r,c1,c2,c3,c4,λV W R=>(c5 V W R).mono ?_⟩;intro e W' a;cases e with
   |returned u=>
    obtain⟨xs,L,I,G,q4,q5⟩:=a;obtain⟨b1,b2,b3,b4⟩:=sJ M (Z.cut j M);obtain⟨l1,l,l3⟩:=uB M xs (Z.cut j M) N L D z (y.trans (AA j M Z.rs).len.symm);refine⟨xs,L,I,G,q4,q _ _ (by rw[(dG _ _ _).1];exact l1) (by rw[(dG _ _ _).2.1];exact l) (by rw[(dG _ _ _).2.2];exact l3) (λt k=>by rw[ja k,b2];rfl) (λn J _=>by rw[jb,b1];exact J) (pY.trans (b:=((Z.cut j M).bE M).2) ⟨by rw[<-D,<-l1];exact(yA [] _ _ []).li,by rw[<-z,<-l];exact(yA [] _ _ []).lb,by rw[<-y,<-l3];exact(yA [] _ _ []).lr,λi w=>by rw[b1];exact w⟩ (pY.put _ _ _)) q5⟩
   |panicked ch=>exact a
   |outgrown=>exact a
  |aW v=>rw[f] at X;exact X
  |no=>rw[f] at X;exact X
  |op=>
   rw[f] at X;simp only at X⊢;cases Q:cP cf H.o H.bc H.dr Z with
   |some b=>
    rw[Q] at X;obtain⟨L,I,G⟩:=adY Q;exact⟨X.1,λrv ag=>q _ _ (by rw[L];exact D) (by rw[I];exact z) (by simp[aa.add,G,y]) (Vy (by rw[d] at Q;exact Q)) (λn J _=>by rw[(J0 (by rw[d] at Q;exact Q)).2.2];exact J) ⟨by rw[L];exact axQ _,by rw[I];exact axQ _,by rw[G];omega,λi w=>by rw[(J0 (by rw[d] at Q;exact Q)).2.2];exact w⟩ (X.2 rv ag)⟩
   |none=>
    rw[Q] at X;obtain⟨U,P,h4⟩:=X;obtain⟨L,I,G⟩:=adX (FZ P);exact⟨U,P,q _ _ (by rw[L];exact D) (by rw[I];exact z) (by rw[G];exact y) (aea (FZ P)) (aep (FZ P)) ⟨by rw[L];exact axQ _,by rw[I];exact axQ _,by rw[G];exact axQ _,aoF (FZ P)⟩ h4⟩
def aeq{y:OM}(h:pR A H y=true):H.so=false/\y.so=false:=by
 unfold pR at h;simp only[axI,ax0] at h;exact h.1
def aoH{y:OM}(h:pR A H y=true):H.dr=true:=by
 unfold pR at h;simp only[axI,ayb] at h;replace h:=h.2;rcases h with(h|h)|h;exact(ad6 h).elim λ_ c=>c.xd
 unfold Fc at h;simp only[axI] at h;exact h.1.1.1.1.1.1.1.1;unfold Jg at h;simp only[axI] at h;exact h.1.1.1.1.1.1.1.1.1.1
end
end
section
section
variable{p:Sp}{u:bh}{k:Array Oper}{A:sy}{Kn:aa->S->Prop}{Kp:aa->SV->S->Prop}{Yp:OM->List OM->aa->S->Nat->List SV->Prop}
def F9(s:S)(m:OM):Prop:=∀d,m.o.dst=some d->sK s d
def VH(W:pY Z r)(V:r.tmps[X]?=Z.tmps[X]?)(h:sK Z X):sK r X:=by
 rcases h with h|⟨w,h,U⟩;exact .inl (V.trans h);exact .inr ⟨w,V.trans h,SV.cF W.i W.b W.r W.bx _ U⟩
def F9.other(h:F9 Z H)(W:∀e,R=some e->H.o.dst≠some e):F9 (Z.put R J) H:=by
 intro e X;have:=(pY.put Z R J);exact VH this (ja (λV=>W e V X)) (h e X)
def VI(s:S)(m:OM):Prop:=dW m.o.op=true->dL s.boxes m.ix=true
def aer(U:AC k A){m:OM}{W:List OM}:∀(Z:List OM)(s:S)(O:aa),(∀x∈Z,pR k x m=true)->(∀x∈Z,F9 s x)->VI s m->(Z.Pairwise λa b=>∀d,a.o.dst=some d->b.o.dst≠some d)->(∀x∈Z,dW x.o.op=true->dW m.o.op=true->m.ix≠x.ix)->(∀t,m.o.op=.alloc t->CJ u t=true)->
  O.i.length=s.ni->O.b.length=s.nb->O.r.length=s.rs.length->cJ p u k A Kn Kp Yp (Z++m::W) O s->cJ p u k A Kn Kp Yp (m::(Z++W)) O s
 |[],s,O,_,_,_,_,_,_,_,_,_,h=>h
 |x::Z,s,O,R,Q,P,E,N,M,L,J,I,h=>by
  have V:=R x (by simp);have D:x.dr=true:=aoH V;have C:=(aeq V).1;have H:=ax5.1 E;have:cJ p u k A Kn Kp Yp (x::m::(Z++W)) O s:=aoG (l1:=Z++m::W) D C L J I h (λB z w v q n l j g=>
   aer U Z z B (λy X=>R y (by simp[X])) (λy X e G=>VH j (n e (λf=>H.1 y X e f G)) (Q y (by simp[X]) e G))
    (λF=>l m.ix (P F) (λc=>N x (by simp) c F)) H.2 (λy X=>N y (by simp[X])) M w v q g)
  exact aoE U V (Q x (by simp)) P M L J I this
def VJ{D:bB}{s:S}{a:Act}{W:World}{O:aa}{V:List Nat}(R:ao p.S0 p.w0 D u.ty V O s a W){m:OM}{b:Bool}(h:eA k m s O=some b):Region.wanted m.o (yielded k a.tmps)=b:=by
 unfold eA at h;cases Z:m.o.guard with
 |none=>rw[Z] at h;cases h;simp[Region.wanted,Z]
 |some q=>
  obtain⟨j,Q⟩:=q;rw[Z] at h;simp only at h;split at h;rename_i d P;have U:=adw R P;split at h;rename_i e X;split at h;cases h;have:=U.1 e X;simp only[Region.wanted,Z,this];cases e.den O<;>cases Q<;>rfl;cases h;rename_i X;cases h;simp[Region.wanted,Z,U.2 X];cases h;cases h
def N6(p:Sp)(u:bh)(A:sy):Prop:=∀(g:FuncId)(Z:List SV)(s:S)(v:SV)(X:aY),A g Z s=some (v,X)->
 ∀(D:bB)(O:aa)(V:List Nat)(a:Act)(W:World),s.bd=true->ao p.S0 p.w0 D u.ty V O s a W->dC u.gl O->(∀Z W,(callFunc g Z).run p.P W=.ok (.enter g Z) W)/\
  Calls p.P g (SV.ap O V Z).toArray W λe R=>∃U,e=.returned (v.den O U)/\ao p.S0 p.w0 D u.ty U O (s.plus X) a R/\bl s O V (s.plus X) O U
structure J1(k:Array Oper)(bs:List Nat)(listed:Array Bool)(rem:List OM):Prop where
 mem:∀m∈rem,k[m.j]?=some m.o
 un:∀i,i<k.size->(listed.getD i true=false<->∃m∈rem,m.j=i)
 sz:listed.size=k.size
 dn:∀(j:Nat)(o:Oper),k[j]?=some o->listed.getD j false=true->∀e∈iM o,listed.getD e false=true
 pr:rem.Pairwise λx y=>(bs.getD y.j 0).testBit x.j=true\/pR k x y=true
 tp:∀xs m ys,rem=xs++m::ys->∀e∈iM m.o,listed.getD e false=true\/∃x∈xs,x.j=e
 nd:rem.Pairwise λx y=>x.j≠y.j
 ds:rem.Pairwise λa b=>∀d,a.o.dst=some d->b.o.dst≠some d
 so:∀xs m ys,rem=xs++m::ys->m.so=true->ys.Pairwise λx y=>(bs.getD y.j 0).testBit x.j=true
def aes{e:Edge}(h:e∈x.after)(Z:Region.binds .any e=true):e.on∈iM x:=aya.2 ⟨e,ayr.2 ⟨by simpa using h,Z⟩,rfl⟩
def aet(h:X∈iM x):∃e∈x.after,Region.binds .any e=true/\e.on=X:=by
 obtain⟨e,Z,rfl⟩:=aya.1 h;obtain⟨W,V⟩:=ayr.1 Z;exact⟨e,by simpa using W,V,rfl⟩
structure Ga(k:Array Oper)(bs:List Nat):Prop where
 lt:∀(j:Nat)(o:Oper),k[j]?=some o->∀e∈iM o,e<j
 cl:∀(j:Nat)(o:Oper),k[j]?=some o->∀i,i<k.size->(bs.getD j 0).testBit i=true->i∈iM o\/∃e∈iM o,(bs.getD e 0).testBit i=true
def aoI{listed:Array Bool}(X:Ga k U)(P:J1 k U listed l):∀(j:Nat)(o:Oper),k[j]?=some o->(∀e∈iM o,listed.getD e false=true)->∀i,i<k.size->(U.getD j 0).testBit i=true->listed.getD i false=true:=by
 intro j;induction j using az3 with
 |_ j O=>
  intro o Z W i V N;rcases X.cl j o Z i V N with h|⟨e,R,h⟩;exact W i h;have M:=X.lt j o Z e R;have L:j<k.size:=(ax9.1 Z).1;have Q:k[e]?=some k[e]:=az1 (by omega);exact O e M k[e] Q (P.dn e _ Q (W e R)) i V h
def C7(a:Array Bool)(i j:Nat)(b:Bool)(Z:i<a.size):(a.setIfInBounds i true).getD j b=if j=i then true else a.getD j b:=by
 by_cases h:j=i;subst h;simp[Z];simp[azF (Ne.symm h),h]
def aoJ{listed:Array Bool}{Q:List OM}(Z:J1 k U listed (l++H::Q))(v:∀e∈iM H.o,listed.getD e false=true):J1 k U (listed.setIfInBounds H.j true) (l++Q):=by
 have y:=Z.mem H (by simp);have u:H.j<k.size:=(ax9.1 y).1;have I:H.j<listed.size:=by rw[Z.sz];exact u
 have N:aBh (l++Q) (l++H::Q):=azY (aAa _) (azP _ _);have t:∀x∈l++Q,x.j≠H.j:=by
  intro x X;have F:=Z.nd;rw[ayc] at F;rcases axS.1 X with h|h;exact F.2.2 x h H (by simp);exact Ne.symm ((ax5.1 F.2.1).1 x h)
 refine⟨λx X=>Z.mem x (N.subset X),λi s=> ?_,by simp[Z.sz],λj o E M e O=> ?_,Z.pr.sublist N, ?_,Z.nd.sublist N,Z.ds.sublist N, ?_⟩;rw[C7 _ _ _ _ I];by_cases D:i=H.j;subst D;simp only[if_true,aBi,false_iff];rintro⟨x,X,M⟩;exact t x X M;rw[if_neg D,Z.un i s];constructor;rintro⟨x,X,rfl⟩;refine⟨x, ?_,rfl⟩;simp only[axS,axT] at X⊢;rcases X with h|h|h;exact .inl h;subst h;exact absurd rfl D;exact .inr h;rintro⟨x,X,rfl⟩;exact⟨x,N.subset X,rfl⟩;rw[C7 _ _ _ _ I];rw[C7 _ _ _ _ I] at M;split;rfl;by_cases w:j=H.j;subst w;rw[y] at E;cases E;exact v e O;rw[if_neg w] at M;exact Z.dn j o E M e O;intro C P L B e O;rw[C7 _ _ _ _ I];by_cases G:e=H.j;left;rw[if_pos G];rw[if_neg G];rcases aAF.1 B with⟨V,R,W⟩|⟨V,R,W⟩
 
 have:=Z.tp (l++H::V) P L (by rw[W];simp) e O;rcases this with h|⟨x,X,J⟩;exact .inl h;right;refine⟨x, ?_,J⟩;rw[R];simp only[axS,axT] at X⊢;rcases X with h|h|h;exact .inl h;subst h;exact absurd J.symm G;exact .inr h
 
 cases V with
 |nil=>
  simp at R W;subst R;have:=Z.tp (l++[H]) P L (by rw[<-W];simp) e O;rcases this with h|⟨x,X,J⟩;exact .inl h;right;refine⟨x, ?_,J⟩;simp only[axS,ayY] at X;rcases X with h|h;exact h;subst h;exact absurd J.symm G
 |cons z V=>
  simp only[axY,ayH] at W;obtain⟨rfl,W⟩:=W;have:=Z.tp C P (V++H::Q) (by rw[R];simp) e O;exact this
 intro C P L B A;rcases aAF.1 B with⟨V,R,W⟩|⟨V,R,W⟩;exact Z.so (l++H::V) P L (by rw[W];simp) A;cases V with
 |nil=>
  simp at R W;subst R;exact Z.so (l++[H]) P L (by rw[<-W];simp) A
 |cons z V=>
  simp only[axY,ayH] at W;obtain⟨rfl,W⟩:=W;have:=Z.so C P (V++H::Q) (by rw[R];simp) A;rw[W];exact this.sublist (azY (aAa _) (azP _ _))
def aoK{F:Fence}(E:nc F)(r:jE p u)(a3:N6 p u A){D:bB}{Q:Exit->Act->World->Prop}(HP:∀ch a' I pd y,cL p.w0 D pd y a'.defers I->p.R (.panicked ch) I->Q (.panic ch) a' I)
     {a:Act}(h:cJ p u k A Kn Kp Yp (H::l) N Z)(R:ao p.S0 p.w0 D u.ty U N Z a t)(q:dC u.gl N)(hm:k[H.j]?=some H.o)(a2:H.dr=true)
  {K:Act->World->Prop}(hK:∀x O' i a' I,bl Z N U x O' i->(∀M,H.o.dst≠some M->x.tmps[M]?=Z.tmps[M]?)->(∀X,dL Z.boxes X=true->(dW H.o.op=true->X≠H.ix)->dL x.boxes X=true)->ao p.S0 p.w0 D u.ty i O' x a' I->cJ p u k A Kn Kp Yp l O' x->K a' I)
  (a4:∀v,Kp N v Z->Q (.panic [{v:=v.den N U,recovered:=false}]) a t)
  (hY:∀yn C,db u Z H.o=.call (.yl yn) C->H.so=true->Yp H l N Z yn C->H.o.wpIn F X p.P a t K Q):wpOpIn F X p.P k Q H.j K a t:=by
 unfold wpOpIn;rw[hm];simp only;simp only[cJ] at h;rcases h with⟨h1,J⟩|⟨h1,J⟩;rw[VJ R h1];exact⟨λf _=>E.fn f,hK _ N U _ t ((bl.refl _ _ _).put _ _) (λM ht=>ja ht) (λX B _=>by rw[jb];exact B) (R.put H.o.dst (.bm [])) J⟩
 ·rw[VJ R h1];simp only[if_true];cases G:db u Z H.o with
  |call g0 C=>
   rw[G] at J;rcases g0 with g|yn
   rotate_left
   exact hY yn C G J.1 J.2;have J:mz _ _ _:=J;cases al:A g C Z with
   |some ve=>
    obtain⟨pv,ex⟩:=ve;rw[al] at J;obtain⟨an,a0⟩:=a3 g C Z pv ex al D N U a t J.1 R q;refine⟨λf _=>E.fn f, ?_⟩;have ac:∀c,H.o.op≠ .defer c:=λc af=>by simp[db,af] at G
    rw[Oper.semAt_eq _ _ _ ac,NP R q G an,Oper.uponIn_enter];refine⟨λhd=>by rw[E.wv] at hd;simp at hd,CallsIn.mono (E.calls a0) (λe I d=> ?_)⟩;obtain⟨i,rfl,w,hl⟩:=d;exact hK _ N i _ I (hl.put _ _) (λM ht=>ja ht) (λX B _=>by rw[jb];exact ad1 B) (w.put H.o.dst pv) J.2
   |none=>
   rw[al] at J;obtain⟨ts,ks,L,c1,c2,c3,c4,c5⟩:=J;simp only[S.da,axI] at c4;obtain⟨⟨hb,-⟩,a5⟩:=c4;have an:=r.AB g (.inl (by rw[c1];rfl));have a0:=c5 U t (by rw[r.pt];exact(R.mem.Uo _).km (acO _ _));refine⟨λf _=>E.fn f, ?_⟩;have ac:∀c,H.o.op≠ .defer c:=λc af=>by simp[db,af] at G
   rw[Oper.semAt_eq _ _ _ ac,NP R q G an,Oper.uponIn_enter];refine⟨λhd=>by rw[E.wv] at hd;simp at hd,CallsIn.mono (E.calls a0) (λe I d=> ?_)⟩;cases e with
   |returned v=>
    obtain⟨xs,q1,q2,q3,q4,q5⟩:=d;rw[r.pt] at q4;obtain⟨e1,e2,e3,e4⟩:=sJ ks (Z.cut C ks);subst q2;have R1:ao p.S0 p.w0 D u.ty U N (Z.cut C ks) a t:=R.km (AA C ks Z.rs);have w:=(R1.called (JG hb (AA C ks Z.rs).len) a5 q1 q3 (λb hb=>adD R hb) q4).put H.o.dst (one L);refine hK _ (N.ext xs) U _ I (bl.put (s:=Z) ⟨yA _ _ _ _,by rw[e1];exact λ_ h=>h,by rw[e1];exact axQ _,by rw[e3];exact axQ _⟩ _ _) (λM ht=>by rw[ja ht,e2];rfl) (λX B _=>by rw[jb,e1];exact B) w q5
   |panicked ch=>exact HP ch a I _ _ (R.bY.below d.1) d.2
   |outgrown=>exact d.elim
  |aW v=>
   rw[G] at J;refine⟨λf _=>E.fn f, ?_⟩;have ac:∀c,H.o.op≠ .defer c:=λc af=>by simp[db,af] at G
   rw[Oper.semAt_eq _ _ _ ac,ady R q G];exact a4 v J
  |no=>rw[G] at J;exact J.elim
  |op=>
   rw[G] at J;simp only at J;cases z:cP u H.o H.bc H.dr Z with
   |some b=>
    rw[z] at J;obtain⟨B,J⟩:=J;obtain⟨v,I,rv,a1,a6,w,hl⟩:=UY R r.jF q z B;exact yF E a1 (Vg z) (hK b.s _ U _ I hl (Vy (by rw[a2] at z;exact z)) (λX B _=>by rw[(J0 (by rw[a2] at z;exact z)).2.2];exact B) w (J rv (by rw[r.pt];exact a6)))
   |none=>
   rw[z] at J;obtain⟨x,h3,h4⟩:=J;have ag:=FZ h3;obtain⟨v,I,i,a1,w,hl⟩:=JJ R r.jF q H ag;exact yF E a1 (JR ag) (hK x N i _ I hl (aea ag) (aep ag) w h4)
def aoL{X:Type}{W Z:List X}{m x:X}(h:x∈(W++Z).dropLast):x∈(W++m::Z).dropLast:=by
 rw[azL (by simp)];cases Z with
 |nil=>
  rw[azf] at h;exact ayy _ ((aA1 _).subset h)
 |cons y Z=>
  rw[azL (by simp)] at h;rcases axS.1 h with h|h;exact ayy _ h;rw[List.dropLast_cons_cons];exact azl _ (ayV _ h)
def aoM(bx:AC k A)(bX:N6 p u A){Kn:List LC->aa->S->Prop}{Kp:List LC->aa->SV->S->Prop}{Yp:List LC->OM->List OM->aa->S->Nat->List SV->Prop}{F:Fence}(hF:nc F)(ok:jE p u){D:bB}{Q:Exit->Act->World->Prop}(HP:∀ch C Z pd y,cL p.w0 D pd y C.defers Z->p.R (.panicked ch) Z->Q (.panic ch) C Z)(hC:Ga k U)
  {s0:S}{O0:aa}{V0:List Nat}{L0:List LC}
  (hk:∀M N J C Z I,bl s0 O0 V0 M N J->bZ s0.av L0 I->ao p.S0 p.w0 D u.ty J N M C Z->Kn I N M->Q .normal C Z)
  (a9:∀v M N J C Z I,bl s0 O0 V0 M N J->bZ s0.av L0 I->ao p.S0 p.w0 D u.ty J N M C Z->Kp I N v M->Q (.panic [{v:=v.den N J,recovered:=false}]) C Z)
  (hy:∀(L:List LC)(m:OM)(bb:List OM)(s:S)(O:aa)(V:List Nat)(a:Act)(W:World)(yn:Nat)(a1:List SV)(B:Ending->World->Prop),bl s0 O0 V0 s O V->bZ s0.av L0 L->ao p.S0 p.w0 D u.ty V O s a W->dC u.gl O->Yp L m bb O s yn a1->
   (∀v M N J Z I,bl s O V M N J->bZ s.av L I->ao p.S0 p.w0 D u.ty J N M a Z->cJ p u k A (Kn I) (Kp I) (Yp I) bb N (M.put m.o.dst v)->B (.returned (v.den N J)) Z)->
   (∀v M N J Z I,bl s O V M N J->bZ s.av L I->ao p.S0 p.w0 D u.ty J N M a Z->Kp I N v M->B (.panicked [{v:=v.den N J,recovered:=false}]) Z)->
   (∀ch Z pd y,cL p.w0 D pd y a.defers Z->p.R (.panicked ch) Z->B (.panicked ch) Z)->
   ∀(m:Nat),YieldAt F m p.P (O.y.getD yn 0) (SV.ap O V a1).toArray W B):
  ∀(ac:Nat)(listed:Array Bool)(w:List OM)(s:S)(O:aa)(V:List Nat)(a:Act)(W:World)(L:List LC),w.length=ac->J1 k U listed w->(∀m∈w,m.dr=true)->(∀m∈w,∀t,m.o.op=.alloc t->CJ u t=true)->(w.Pairwise λa b=>dW a.o.op=true->dW b.o.op=true->a.ix≠b.ix)->(((∀m∈w,VI s m)/\(∀m∈w.dropLast,F9 s m))\/(w.Pairwise λx y=>(U.getD y.j 0).testBit x.j=true))->bl s0 O0 V0 s O V->bZ s0.av L0 L->ao p.S0 p.w0 D u.ty V O s a W->dC u.gl O->cJ p u k A (Kn L) (Kp L) (Yp L) w O s->
   wpAnyIn F X p.P .any k Q ac listed a W:=by
 intro ac;induction ac with
 |zero=>
  intro listed w s O V a W L a2 z a4 hZ bd q hl hL R hg h;have b0:w=[]:=ayl.1 a2;subst b0;refine⟨?_,hk s O V a W L hl hL R h⟩;cases hr:Region.ready .any k listed with
  |nil=>rfl
  |cons i r=>
   obtain⟨h1,o,ho,-⟩:=mem_ready.1 (show i∈Region.ready .any k listed by rw[hr];simp);have:=(z.un i (ax9.1 ho).1).1 h1;obtain⟨m,hm,-⟩:=this;cases hm
 |succ ac ih=>
  intro listed w s O V a W L a2 z a4 hZ bd q hl hL R hg h;refine⟨λhr=> ?_,λi hi=> ?_⟩
  
  exfalso;cases w with
  |nil=>simp at a2
  |cons m l=>
   have af:=z.mem m (by simp);have:m.j∈Region.ready .any k listed:=by
    refine mem_ready.2 ⟨(z.un m.j (ax9.1 af).1).2 ⟨m,by simp,rfl⟩,m.o,af,λe he hb=> ?_⟩;rcases z.tp [] m l rfl e.on (aes he hb) with h1|⟨x,H,-⟩;exact h1;cases H
   rw[hr] at this;cases this
  obtain⟨h1,o,ho,b1⟩:=mem_ready.1 hi;obtain⟨m,hm,rfl⟩:=(z.un i (ax9.1 ho).1).1 h1;obtain⟨G,l,rfl⟩:=aBj hm;have af:=z.mem m hm;rw[af] at ho;cases ho;have hd:∀e∈iM m.o,listed.getD e false=true:=λe he=>by
   obtain⟨ed,h2,h3,rfl⟩:=aet he;exact b1 ed h2 h3
  have bf:∀x∈G,¬(U.getD m.j 0).testBit x.j=true:=by
   intro x H h2;have b2:=z.mem x (by simp[H]);have a5:x.j<k.size:=(ax9.1 b2).1;have h3:=aoI hC z m.j m.o af hd x.j a5 h2;have h4:=(z.un x.j a5).2 ⟨x,by simp[H],rfl⟩;have b3:x.j<listed.size:=by rw[z.sz];exact a5
   simp[b3] at h3 h4;rw[h3] at h4;cases h4
  have bk:∀x∈G,pR k x m=true:=by
   intro x H;have b4:=(ayc.1 z.pr).2.2 x H m (by simp);rcases b4 with h2|h2;exact absurd h2 (bf x H);exact h2
  have a6:=ayc.1 z.ds;have ag:=ayc.1 bd;have hb:cJ p u k A (Kn L) (Kp L) (Yp L) (m::(G++l)) O s:=by
   rcases q with⟨a7,q⟩|q;exact aer bx G s O bk (λx H=>q x (by rw[azL (by simp)];exact ayy _ H)) (a7 m hm) a6.1 (λx H al a3 e=>ag.2.2 x H m (by simp) al a3 e.symm) (hZ m hm) R.ei R.eb R.er h;cases G with
   |nil=>exact h
   |cons x G=>exact absurd ((ayc.1 q).2.2 x (by simp) m (by simp)) (bf x (by simp))
  have br:∀(M:S)(N:aa)(J:List Nat)(C:Act)(Z:World)(I:List LC),(((∀m∈G++l,VI M m)/\(∀m∈(G++l).dropLast,F9 M m))\/((G++l).Pairwise λx y=>(U.getD y.j 0).testBit x.j=true))->bl s0 O0 V0 M N J->bZ s0.av L0 I->ao p.S0 p.w0 D u.ty J N M C Z->dC u.gl N->cJ p u k A (Kn I) (Kp I) (Yp I) (G++l) N M->wpAnyIn F X p.P .any k Q ac (listed.setIfInBounds m.j true) C Z:=
   λM N J C Z I b5 g an B b6 a0=>ih _ (G++l) M N J C Z I (by simp at a2⊢;omega) (aoJ z hd) (λx H=>a4 x (by rcases axS.1 H with E|E<;>simp[E])) (λx H=>hZ x (by rcases axS.1 H with E|E<;>simp[E]))
    (ayc.2 ⟨ag.1,(ax5.1 ag.2.1).2,λa ha b hb=>ag.2.2 a ha b (by simp[hb])⟩) b5 g an B b6 a0
  have b7:aBh (G++l) (G++m::l):=azY (aAa _) (azP _ _);refine aoK hF ok bX HP hb R hg af (a4 m hm) (λM N J C Z g b8 ca B a0=> ?_) (λv hv=>a9 v s O V a W L hl hL R hv) (λyn a1 hc bt cc=> ?_);refine br M N J C Z L ?_ (hl.trans g) hL B (hg.ext g.ext) a0;rcases q with⟨a7,q⟩|q;left;refine⟨λx H al=>ca x.ix (a7 x (by rcases axS.1 H with E|E<;>simp[E]) al) (λa3=>by
   rcases axS.1 H with E|E;exact ag.2.2 x E m (by simp) al a3;exact λe=>(ax5.1 ag.2.1).1 x E a3 al e.symm),λx H=> ?_⟩
  intro d a8;have cl:m.o.dst≠some d:=by
   rcases axS.1 ((aA1 _).subset H) with E|E;exact a6.2.2 x E m (by simp) d a8;intro he;exact(ax5.1 a6.2.1).1 x E d he a8
  exact VH ⟨by rw[<-R.ei,<-B.ei];exact g.ext.li,by rw[<-R.eb,<-B.eb];exact g.ext.lb,by rw[<-R.er,<-B.er];exact g.ext.lr,g.mono⟩ (b8 d cl) (q x (aoL H) d a8);exact .inr (q.sublist b7);have cp:G=[]:=by
   cases G with
   |nil=>rfl
   |cons x G=>
    have:=(aeq (bk x (by simp))).2;rw[bt] at this;cases this
  subst cp;have cs:l.Pairwise λx y=>(U.getD y.j 0).testBit x.j=true:=z.so [] m l rfl bt
  have hY:=hy L m l s O V a W yn a1 (λe Z=>match e with
    |.returned v=>wpAnyIn F X p.P .any k Q ac (listed.setIfInBounds m.j true) (a.put m.o.dst v) Z
    |.panicked ch=>Q (.panic ch) a Z
    |.outgrown=>LetsOut Q) hl hL R hg cc
   (λv M N J Z I g an B a0=>br (M.put m.o.dst v) N J _ Z I (.inr cs) (hl.trans (g.put _ _)) (hL.trans an hl.av) (B.put m.o.dst v) (hg.ext g.ext) a0)
   (λv M N J Z I g an B hs=>a9 v M N J a Z I (hl.trans g) (hL.trans an hl.av) B hs)
   (λch Z pd y q hR=>HP ch a Z pd y q hR) (X-1)
  obtain⟨fn,cI,assign,body,ct,cv⟩:=hY;refine⟨λf _=>hF.fn f, ?_⟩;have cx:∀c,m.o.op≠ .defer c:=λc cy=>by simp[db,cy] at hc
  rw[Oper.semAt_eq _ _ _ cx,adx R hg hc,ct];rw[Oper.uponIn_round];refine⟨λhd=>by rw[hF.wv] at hd;simp at hd,RoundIn.mono cv (λe Z he=> ?_)⟩;cases e<;>exact he
end
end
section
def N7:Option Nat->Fence
 |none=>Fence.wide
 |some l=>Fence.wide.inRound l
def yP:∀i,nc (N7 i)
 |none=>an3
 |some l=>adu l
def aoN:∀i,(N7 i).round=i
 |none=>rfl
 |some _=>rfl
def nc.room{F:Fence}(X:nc F)(n:Nat):F.room n:=λd Z=>by rw[X.wv] at Z;cases Z
def gZ(i:Option Nat)(o:FuncId)(P:Program)(c:Code)(Q:Exit->Act->World->Prop)(a:Act)(w:World):Prop:=
 ∀(b:Frame)(k:List Item)(Z:List Frame),b.roundOf=i->b.fn=o->
  ∃e X W,Q e X W/\ArrivesIn (Machine.fenced P Fence.wide) P (lone (b.atR a (.code c::k)) Z w) b k Z e X W
section
variable{i:Option Nat}{o:FuncId}{P:Program}{Q:Exit->Act->World->Prop}{a:Act}{w:World}
def yQ{c:Code}{n:Nat}(h:c.wpIn (N7 i) n P Q a w):gZ i o P c Q a w:=by
 intro b k X W _;obtain⟨e,V,U,R,Z⟩:=h b k X (W.trans (aoN i).symm) ((yP i).fn _) ((yP i).room _);rw[(yP i).eq] at Z;exact⟨e,V,U,R,Z⟩
def aoO{c:Code}{Z:Exit->Act->World->Prop}(h:gZ i o P c Q a w)(X:∀e a w,Q e a w->Z e a w):gZ i o P c Z a w:=
 λb k W V U=>let⟨e,R,O,q,r⟩:=h b k W V U;⟨e,R,O,X _ _ _ q,r⟩
def VK{x y:Code}(h:gZ i o P x (Exit.then (gZ i o P y Q) Q) a w):gZ i o P (Code.seq x y) Q a w:=by
 intro b k R O N;have Z:(lone (b.atR a (.code (.seq x y)::k)) R w).fenced P Fence.wide:=fenced_wide _ _;obtain⟨e,V,U,X,W⟩:=h b (.code y::k) R O N;cases e with
 |normal=>
  obtain⟨M,L,J,I,H⟩:=X b k R O N;exact⟨M,L,J,I,.of_steps (.head Z stepR_seq W) H⟩
 |exit id=>exact⟨_,V,U,X,.of_steps (.one Z stepR_seq) (.pass (x:=.code y) rfl (λ_ _=>.inl (by simp)) W)⟩
 |goto l=>exact⟨_,V,U,X,.of_steps (.one Z stepR_seq) (.pass (x:=.code y) rfl (λ_ _=>.inl (by simp)) W)⟩
 |ret=>exact⟨_,V,U,X,.of_steps (.one Z stepR_seq) (.pass (x:=.code y) rfl (λ_ _=>.inl (by simp)) W)⟩
 |panic G=>exact⟨_,V,U,X,.of_steps (.one Z stepR_seq) (.pass (x:=.code y) rfl (λ_ _=>.inl (by simp)) W)⟩
 |outgrown=>exact⟨_,V,U,X,.of_steps (.one Z stepR_seq) (.pass (x:=.code y) rfl (λ_ _=>.inl (by simp)) W)⟩
def aoP{c:Code}(h:gZ i o P c (Exit.inBlock X Q) a w):gZ i o P (Code.block X c) Q a w:=by
 intro b k F E D;have Z:(lone (b.atR a (.code (.block X c)::k)) F w).fenced P Fence.wide:=fenced_wide _ _;obtain⟨e,U,R,W,V⟩:=h b (.inBlock X::k) F E D;cases e with
 |normal=>exact⟨.normal,U,R,W,.head Z stepR_block (StepsIn.trans V (.one (fenced_wide _ _) stepR_inBlock))⟩
 |exit N=>
  by_cases hid:N=X;simp only[Exit.inBlock,hid,if_true] at W;exact⟨.normal,U,R,W,.head Z stepR_block (V.1 k (by simp[exitTo,hid]))⟩;simp only[Exit.inBlock,hid,if_false] at W;have this:(X==N)=false:=by simp;exact λh=>hid h.symm
  have M:exitTo N (.inBlock X::k)=exitTo N k:=by simp[exitTo,this]
  exact⟨.exit N,U,R,W,λL O=>.head Z stepR_block (V.1 L (by rw[M];exact O)),
   λJ O=>let⟨I,H,G⟩:=V.2 J (by rw[M];exact O);⟨I,H,.head Z stepR_block G⟩⟩
 |goto l=>
  have M:gotoIn l (.inBlock X::k)=gotoIn l k:=by simp[gotoIn]
  exact⟨_,U,R,W,λL O=>.head Z stepR_block (V.1 L (by rw[M];exact O)),
   λJ O=>let⟨I,H,G⟩:=V.2 J (by rw[M];exact O);⟨I,H,.head Z stepR_block G⟩⟩
 |ret=>exact⟨_,U,R,W,.of_steps (.one Z stepR_block) V⟩
 |panic C=>exact⟨_,U,R,W,.of_steps (.one Z stepR_block) V⟩
 |outgrown=>exact⟨_,U,R,W,.of_steps (.one Z stepR_block) V⟩
def aoQ{c:Code}(h:gZ i o P c (λe a w=>(∀l,e≠ .goto l)/\Q e a w) a w):gZ i o P (Code.scope c) Q a w:=by
 intro b k Z L J;have X:(lone (b.atR a (.code (.scope c)::k)) Z w).fenced P Fence.wide:=fenced_wide _ _;have W:step P (lone (b.atR a (.code (.scope c)::k)) Z w)=.next (lone (b.atR a (.code c::.inScope c::k)) Z w):=step_lone_go (by simp[stepG,stepG.exec,Frame.atR])
 have I:∀a w,step P (lone (b.atR a (.inScope c::k)) Z w)=.next (lone (b.atR a k) Z w):=λa w=>step_lone_go (by simp[stepG,stepG.exec,Frame.atR])
 obtain⟨e,U,R,⟨H,O⟩,V⟩:=h b (.inScope c::k) Z L J;cases e with
 |normal=>exact⟨.normal,U,R,O,.head X W (StepsIn.trans V (.one (fenced_wide _ _) (I _ _)))⟩
 |exit id=>
  have M:exitTo id (.inScope c::k)=exitTo id k:=by simp[exitTo]
  exact⟨.exit id,U,R,O,λG N=>.head X W (V.1 G (by rw[M];exact N)),λF N=>let⟨E,D,C⟩:=V.2 F (by rw[M];exact N);⟨E,D,.head X W C⟩⟩
 |goto l=>exact absurd rfl (H l)
 |ret=>exact⟨_,U,R,O,.of_steps (.one X W) V⟩
 |panic B=>exact⟨_,U,R,O,.of_steps (.one X W) V⟩
 |outgrown=>exact⟨_,U,R,O,.of_steps (.one X W) V⟩
def N8{c:Operand}{x y:Code}{t:Bool}(Z:a.eval c=.bool t)(h:gZ i o P (if t then x else y) Q a w):gZ i o P (Code.cond c x y) Q a w:=by
 intro b k X W V;obtain⟨e,U,R,O,N⟩:=h b k X W V;exact⟨e,U,R,O,.of_steps (.one (fenced_wide _ _) (stepR_cond Z)) N⟩
def J2(i:Option Nat)(o:FuncId)(P:Program)(c:Code)(Q:Exit->Act->World->Prop):Nat->Act->World->Prop
 |0,_,_=>False
 |m+1,a,w=>gZ i o P c (Exit.then (J2 i o P c Q m) Q) a w
def aeu{c:Code}(m:Nat)(h:J2 i o P c Q m a w):gZ i o P (Code.loop c) Q a w:=by
 intro b k U M L;have J:∀m a w,J2 i o P c Q m a w->
   ∃e O N,Q e O N/\ArrivesIn (Machine.fenced P Fence.wide) P (lone (b.atR a (.code c::.inLoop c::k)) U w) b k U e O N:=by
  intro m;induction m with
  |zero=>intro a w h;exact h.elim
  |succ m I=>
   intro a w h;obtain⟨e,Z,X,W,V⟩:=h b (.inLoop c::k) U M L;have R:∀{e:Exit},e≠ .normal->ArrivesIn (Machine.fenced P Fence.wide) P (lone (b.atR a (.code c::.inLoop c::k)) U w) b (.inLoop c::k) U e Z X->ArrivesIn (Machine.fenced P Fence.wide) P (lone (b.atR a (.code c::.inLoop c::k)) U w) b k U e Z X:=
    λH G=>.pass (x:=.inLoop c) rfl (λ_ _=>.inl H) G
   cases e with
   |normal=>
    obtain⟨F,E,D,C,B⟩:=I Z X W;exact⟨F,E,D,C,.of_steps (StepsIn.trans V (.one (fenced_wide _ _) stepR_inLoop)) B⟩
   |exit id=>exact⟨_,Z,X,W,R (by simp) V⟩
   |goto l=>exact⟨_,Z,X,W,R (by simp) V⟩
   |ret=>exact⟨_,Z,X,W,R (by simp) V⟩
   |panic A=>exact⟨_,Z,X,W,R (by simp) V⟩
   |outgrown=>exact⟨_,Z,X,W,R (by simp) V⟩
 obtain⟨e,O,N,W,V⟩:=J m a w h;exact⟨e,O,N,W,.of_steps (.one (fenced_wide _ _) stepR_loop) V⟩
def aoR{c:Code}(I:Nat->Act->World->Prop)(X:Nat)(R:I X a w)
  (round:∀n a w,I n a w->gZ i o P c (Exit.then (λV U=>∃W,W<n/\I W V U) Q) a w):gZ i o P (Code.loop c) Q a w:=by
 refine aeu (X+1) ?_;have O:∀N n a w,n<N->I n a w->J2 i o P c Q N a w:=by
  intro N;induction N with
  |zero=>intro n a w h;omega
  |succ N M=>
   intro n a w H L;refine aoO (round n a w L) ?_;intro e V U Z;cases e with
   |normal=>
    obtain⟨W,G,J⟩:=Z;exact M W V U (by omega) J
   |exit id=>exact Z
   |goto l=>exact Z
   |ret=>exact Z
   |panic F=>exact Z
   |outgrown=>exact Z
 exact O (X+1) X a w (by omega) R
def VL(i:Option Nat)(o:FuncId)(P:Program)(l:Nat)(Q:Exit->Act->World->Prop)(Z:Act):Ending->World->Prop
 |.returned _,X=>∃V W,(Instr.endLoop l).run P X=.ok V W/\
   (match V with
    |none=>Q .normal Z W
    |some c=>gZ i o P c Q Z W)
 |.panicked chain,X=>Q (.panic chain) Z X
 |.outgrown,_=>False
def aoS{g:Operand}{X:Array Tmp}{assign body:Code}
  (h:∃(l:Nat)(mark:List Deferred)(W:World)(d:Deferred)(V:World)(f:FuncId)(U:Array Value)(R:World),
   (Instr.enterLoop o a.tmps X assign body i).run P w=.ok (l,mark) W/\
   (resolve a.eval (rangeCall g l) 0).run P W=.ok d V/\
   (invoke d.target d.args).run P V=.ok (.enter f U) R/\
   Calls P f U R (VL i o P l Q {a with defers:=mark++a.defers})):
  gZ i o P (Code.rangeFunc g X assign body) Q a w:=by
 intro b k Z M L;obtain⟨l,mark,W,d,V,f,U,R,J,A,z,O⟩:=h;obtain⟨p,O⟩:=(callsIn_wide (n:=0)).2 O;rw[<-M,<-L] at J;have I:(lone (b.atR a (.code (.rangeFunc g X assign body)::k)) Z w).fenced P Fence.wide:=fenced_wide _ _;have H:=stepR_rangeFunc (P:=P) (b:=b) (a:=a) (k:=k) (cs:=Z) (w:=w) J A z;obtain⟨e,y,m,N,G,j,F⟩:=O (b.atR {a with defers:=mark++a.defers} (.inRangeFunc l::k)::Z) (room_wide _);cases e with
 |outgrown=>exact N.elim
 |returned v=>
  obtain⟨E,D,x,C⟩:=N;have B:StepsIn (Machine.fenced P Fence.wide) P (lone (b.atR a (.code (.rangeFunc g X assign body)::k)) Z w) (lone (b.atR {a with defers:=mark++a.defers} ((E.map Item.code).toList++k)) Z D):=by
   refine .head I H (StepsIn.trans G (.head (fenced_wide _ _) ?_ (.one (fenced_wide _ _) (stepR_endRangeFunc x))));rw[<-finish_atR_inRangeFunc l v];exact step_leave_returned F
  cases E with
  |none=>exact⟨.normal,_,D,C,B⟩
  |some c=>
   obtain⟨u,t,s,r,q⟩:=C b k Z M L;exact⟨u,t,s,r,.of_steps B q⟩
 |panicked chain=>
  refine⟨.panic chain,_,y,N,.inRangeFunc l::k,.head I H (StepsIn.trans G (.one (fenced_wide _ _) ?_))⟩;rw[<-Frame.raise_atR];exact step_leave_panicked F
end
def J3{P:Program}{V:Func}{c:Code}{Z:Array Value}{R:Ending->World->Prop}
  (G:P.funcs[g]?=some V)(A:V.body=some c)
  (h:gZ none g P c (bodyPostM Fence.wide 0 P V R) {tmps:=Z++aAr (V.ntmps-Z.size) undef,defers:=[]} t):Calls P g Z t R:=by
 refine(callsIn_wide (n:=0)).1 ⟨trivial,λF D=> ?_⟩;let b:Frame:={(default:Frame) with fn:=g,kind:=.normal,roundOf:=none};have z:Frame.enter P g Z .normal=
   b.atR {tmps:=Z++aAr (V.ntmps-Z.size) undef,defers:=[]} [.code c]:=by
  simp[Frame.enter,Frame.atR,G,A,b]
 obtain⟨e,X,E,W,U⟩:=h b [] F rfl rfl;rw[<-z] at U;cases e with
 |normal=>
  obtain⟨O,N,M,L,J,I,H⟩:=leaves_stepsInM X.defers .returning E {b.atR X [] with mode:=.returning} F rfl rfl rfl G rfl trivial D W;exact⟨O,N,M,L,ComesIn.of_steps (StepsIn.trans U (.one (fenced_wide _ _) (stepR_end rfl))) J,I,H⟩
 |ret=>
  obtain⟨C,B⟩:=U.1 rfl;obtain⟨O,N,M,L,J,I,H⟩:=leaves_stepsInM X.defers .returning E {b.atR X C with mode:=.returning} F rfl rfl rfl G rfl trivial D W;exact⟨O,N,M,L,ComesIn.of_steps B J,I,H⟩
 |panic chain=>
  obtain⟨C,B⟩:=U;obtain⟨O,N,M,L,J,I,H⟩:=leaves_stepsInM X.defers (.panicking chain) E {b.atR X C with mode:=.panicking chain} F rfl rfl rfl G rfl trivial D W;exact⟨O,N,M,L,ComesIn.of_steps B J,I,H⟩
 |exit id=>exact W.elim
 |goto l=>exact W.elim
 |outgrown=>exact⟨.outgrown,E,b,W,U.resolve_left (by simp[b]),rfl,trivial⟩
def aoT(P:Program)(l:Nat)(R:Ending->World->Prop):Exit->Act->World->Prop
 |.normal,_,w=>∃v Z,(Instr.endRound l none).run P w=.ok v Z/\R (.returned v) Z
 |.ret,_,w=>∃v Z,(Instr.endRound l (some .ret)).run P w=.ok v Z/\R (.returned v) Z
 |.exit id,_,w=>∃v Z,(Instr.endRound l (some (.exit id))).run P w=.ok v Z/\R (.returned v) Z
 |.panic X,a,w=>a.defers=[]/\R (.panicked X) w
 |_,_,_=>False
def aoU{F:Fence}(u:nc F){P:Program}{s:Func}{A:Array Value}{assign body:Code}{R:Ending->World->Prop}(r:P.funcs[g]?=some s)
  (h:gZ (some v) g P assign (λe L J=>(e=.normal/\∃z,(Instr.beginRound v).run P J=.ok () z/\gZ (some v) g P body (aoT P v R) L z)\/∃E,e=.panic E/\L.defers=[]/\R (.panicked E) J)
   {tmps:=A,defers:=[]} t):
  RoundIn F X P v g A assign body t R:=by
 refine⟨u.fn g,λc O hr=> ?_⟩;let b:Frame:={(default:Frame) with fn:=g,kind:=.normal,roundOf:=some v};have q:Frame.round v g A assign body .normal=b.atR {tmps:=A,defers:=[]} [.code assign,.beginRound,.code body]:=by
  simp[Frame.round,Frame.atR,b]
 have ac:(Fence.wide.inRound v).room ((c::O).length+1+X):=(adu v).room _;obtain⟨e,L,J,p,I⟩:=h b [.beginRound,.code body] (c::O) rfl rfl;rw[<-q] at I;rw[u.eq];have Gb:∀(m:Machine)(H:Act)(N:World)(chain:List PanicEntry)(M:List Item),H.defers=[]->StepsIn (Machine.fenced P Fence.wide) P m (lone {b.atR H M with mode:=.panicking chain} (c::O) N)->StepsIn (Machine.fenced P Fence.wide) P m (lone (c.raise chain) O N):=by
  intro m H N chain M D V;have o:({b.atR H M with mode:=.panicking chain}:Frame).leaving P N (.panicked chain):=⟨rfl,D,s,r⟩;exact StepsIn.trans V (.one (fenced_wide _ _) (step_leave_panicked o))
 rcases p with⟨rfl,z,k,j⟩|⟨E,rfl,D,U⟩;have y:StepsIn (Machine.fenced P Fence.wide) P (lone (b.atR L [.beginRound,.code body]) (c::O) J) (lone (b.atR L [.code body]) (c::O) z):=
  .one (fenced_wide _ _) (stepR_beginRound rfl k)
 obtain⟨i,H,N,G,x⟩:=j b [] (c::O) rfl rfl;cases i with
 |normal=>
  obtain⟨Z,C,B,U⟩:=G;exact⟨.returned Z,C,U,(StepsIn.trans I y).trans (StepsIn.trans x (.one (fenced_wide _ _) (stepR_round_end rfl rfl B)))⟩
 |ret=>
  obtain⟨Z,C,B,U⟩:=G;obtain⟨d,V⟩:=x.2 rfl;exact⟨.returned Z,C,U,(StepsIn.trans I y).trans (StepsIn.trans V (.one (fenced_wide _ _) (stepR_round_ret rfl rfl B)))⟩
 |exit id=>
  obtain⟨Z,C,B,U⟩:=G;obtain⟨d,hk,V⟩:=x.2 rfl rfl;exact⟨.returned Z,C,U,(StepsIn.trans I y).trans (StepsIn.trans V (.one (fenced_wide _ _) (stepR_round_exit rfl rfl hk B)))⟩
 |goto W=>exact G.elim
 |panic chain=>
  obtain⟨D,U⟩:=G;obtain⟨M,V⟩:=x;exact⟨.panicked chain,N,U,Gb _ H N chain M D ((StepsIn.trans I y).trans V)⟩
 |outgrown=>exact G.elim
 obtain⟨M,V⟩:=I;exact⟨.panicked E,J,U,Gb _ L J E M D V⟩
end
section
mutual
def IE.cS(O:aa)(y:List Nat):∀(e:IE),e.den (O.at y)=e.den O
 |.c n=>by simp[IE.den]
 |.v k=>by simp[IE.den,aa.at]
 |.bin o k a b=>by simp only[IE.den];rw[IE.cS O y a,IE.cS O y b]
 |.conv k a=>by simp only[IE.den];rw[IE.cS O y a]
 |.len r=>by simp only[IE.den];rw[RE.jG O y r]
 |.mm m a b=>by simp only[IE.den];rw[IE.cS O y a,IE.cS O y b]
 |.bT b x z=>by simp only[IE.den];rw[BE.cS O y b,IE.cS O y x,IE.cS O y z]
 |.cell r i j=>by simp only[IE.den];rw[RE.jG O y r,IE.cS O y i]
 |.jS r i=>by simp only[IE.den];rw[RE.jG O y r,IE.cS O y i]
 |.look r n a b c j=>by simp only[IE.den];rw[RE.jG O y r,IE.cS O y a,IE.cS O y b,IE.cS O y c]
def BE.cS(O:aa)(y:List Nat):∀(e:BE),e.den (O.at y)=e.den O
 |.c b=>by simp[BE.den]
 |.v k=>by simp[BE.den,aa.at]
 |.cmp o a b=>by simp only[BE.den];rw[IE.cS O y a,IE.cS O y b]
 |.not a=>by simp only[BE.den];rw[BE.cS O y a]
 |.and a b=>by simp only[BE.den];rw[BE.cS O y a,BE.cS O y b]
 |.beq a b=>by simp only[BE.den];rw[BE.cS O y a,BE.cS O y b]
 |.bT b x z=>by simp only[BE.den];rw[BE.cS O y b,BE.cS O y x,BE.cS O y z]
 |.cell r i j=>by simp only[BE.den];rw[RE.jG O y r,IE.cS O y i]
 |.seq a b=>by simp only[BE.den];rw[RE.jG O y a,RE.jG O y b]
 |.look r n a b c j=>by simp only[BE.den];rw[RE.jG O y r,IE.cS O y a,IE.cS O y b,IE.cS O y c]
 |.has r n a b c=>by simp only[BE.den];rw[RE.jG O y r,IE.cS O y a,IE.cS O y b,IE.cS O y c]
def RE.jG(O:aa)(y:List Nat):∀(e:RE),e.rv (O.at y)=e.rv O
 |.v k=>by simp[RE.rv,aa.rv,aa.at]
 |.cell r i j k=>by simp only[RE.rv];rw[RE.jG O y r,IE.cS O y i]
 |.k v=>by simp[RE.rv]
end
def SV.VM(O:aa)(y:List Nat)(v:SV):v.xv (O.at y)=v.xv O:=by
 cases v<;>simp[SV.xv,IE.cS,BE.cS,RE.jG]
def SV.aoV(O:aa)(y:List Nat)(v:SV):v.bu (O.at y)=v.bu O:=by
 cases v<;>simp[SV.bu,IE.cS,BE.cS,RE.jG]
def SV.N9(O:aa)(y:List Nat):SV.bu (O.at y)=SV.bu O:=funext (SV.aoV O y)
def LE.C8(O:aa)(y:List Nat):∀(e:LE),e.rows (O.at y)=e.rows O
 |.ref r=>by simp only[LE.rows,RE.jG]
 |.lit l=>by simp only[LE.rows,SV.N9]
 |.jr a b=>by simp only[LE.rows];rw[LE.C8 O y a,LE.C8 O y b]
 |.mW n X=>by simp only[LE.rows,SV.N9,IE.cS]
 |.set a i U Z=>by simp only[LE.rows,SV.N9,IE.cS];rw[LE.C8 O y a]
 |.sub a R Q=>by simp only[LE.rows,IE.cS];rw[LE.C8 O y a]
 |.ins a n Z=>by simp only[LE.rows,SV.N9];rw[LE.C8 O y a]
def J4:∀(Z:List XV)(O:aa)(y:List Nat),(O.at y).ext Z=(O.ext Z).at y
 |[],O,y=>rfl
 |x::Z,O,y=>by
  simp only[aa.ext];rw[<-J4 Z (O.add x) y];cases x<;>rfl
def aoW{C:Ty}{x:LE}{Z:List RK}{X:RV}(h:CS C U t I x Z (N.at e) X):CS C U t I x Z N X:=by
 obtain⟨R,Q,P⟩:=h;rw[LE.C8] at R;exact⟨R,Q,P⟩
def ph(p:Sp):∀(t:T)(O:aa)(L:List LC)(y:List Nat),t.aG p O L->t.aG p (O.at y) L
 |.out e s,O,L,y,h=>h
 |.ret v G Q,O,L,y,h=>h
 |.aW v,O,L,y,h=>h
 |.node b t f,O,L,y,h=>by
  simp only[T.aG,BE.cS] at h⊢;exact⟨λZ=>ph p t O L y (h.1 Z),λZ=>ph p f O L y (h.2 Z)⟩
 |.az b t,O,L,y,h=>by
  simp only[T.aG,BE.cS] at h⊢;exact⟨h.1,ph p t O L y h.2⟩
 |.call f l G Q F eP t,O,L,y,h=>by
  simp only[T.aG] at h⊢;intro E V W R;refine(h E V W R).mono ?_;intro e c P;cases e with
  |returned v=>
   obtain⟨N,X,U,M,C,B⟩:=P;refine⟨N,X, ?_,M,C, ?_⟩;rw[J4];exact U;rw[J4];exact ph p t _ L y B
  |panicked ch=>exact P
  |outgrown=>exact P
 |.loop av F x0 t,O,L,y,h=>by
  simp only[T.aG] at h⊢;obtain⟨I,A,X,U⟩:=h;refine⟨I,A, ?_,λN z w=> ?_⟩;have:SV.xv (O.at y)=SV.xv O:=funext (SV.VM O y);rw[this];exact X;rw[J4];exact ph p t _ _ y (U N z w)
 |.back av x,O,L,y,h=>by
  have:SV.xv (O.at y)=SV.xv O:=funext (SV.VM O y);simp only[T.aG] at h⊢;rw[this];exact h
 |.new e x Q ac t,O,L,y,h=>by
  simp only[T.aG] at h⊢;intro J u;exact ph p t (O.add (.r J)) L y (h J (aoW u))
 |.rows k x Q t,O,L,y,h=>by
  simp only[T.aG] at h⊢;have:eI x (O.at y)=eI x O:=by simp only[eI,LE.C8]
  rw[this];exact ph p t (O.add (.r (eI x O))) L y h
 |.ey g q t f,O,L,y,h=>by
  simp only[T.aG,BE.cS] at h⊢;exact⟨λZ=>ph p t O L y (h.1 Z),λZ=>ph p f O L y (h.2 Z)⟩
 |.pick n g q t f,O,L,y,h=>by
  simp only[T.aG,IE.cS,BE.cS] at h⊢;refine⟨λj X U M=>ph p t (O.add (.i j)) L y (h.1 j X U ?_),λZ=>ph p f O L y (h.2 Z)⟩;have:=BE.cS (O.add (.i j)) y g;rw[<-this];exact M
 |.dq f g e m st r Q t,O,L,y,h=>by
  simp only[T.aG,RE.jG] at h⊢;obtain⟨H,X,U⟩:=h;refine⟨H, ?_,ph p t (O.add (.r (.mk (r.rv O).val H))) L y U⟩;rw[<-X];cases m with
  |cz k o as=>simp only[kX,show IE.den (O.at y)=IE.den O from funext λe=>IE.cS O y e]
  |lex cs d=>rfl
  |ratio n d=>rfl
 |.stuck _,_,_,_,h=>h
mutual
def SV.J5{O:aa}{y:List Nat}{n:Nat}(Z:∀m,m≠n->y.getD m 0=O.y.getD m 0)(V:List Nat):∀(v:SV),v.sD n=false->v.den (O.at y) V=v.den O V
 |.int _ e,_=>by simp only[SV.den,IE.cS]
 |.bool e,_=>by simp only[SV.den,BE.cS]
 |.ref e,_=>by simp only[SV.den,RE.den,RE.jG]
 |.loc i _,_=>rfl
 |.el r _ i _,_=>by simp only[SV.den,RE.den,RE.jG,IE.cS]
 |.fy _ _ _ _,_=>rfl
 |.agg l,h=>by simp only[SV.den];rw[SV.Gc Z V l h]
 |.bm l,h=>by simp only[SV.den];rw[SV.Gc Z V l h]
 |.fn _ l,h=>by simp only[SV.den];rw[SV.Gc Z V l h]
 |.dV _ x,h=>by simp only[SV.den];rw[SV.J5 Z V x h]
 |.yl m,h=>by
  simp only[SV.sD,beq_eq_false_iff_ne] at h;simp only[SV.den,aa.at];rw[Z m h]
 |.any,_=>rfl
 |.mp _,_=>rfl
 |.dI e U X,h=>by simp only[SV.den,IE.cS];rw[SV.Gc Z V X h]
def SV.Gc{O:aa}{y:List Nat}{n:Nat}(Z:∀m,m≠n->y.getD m 0=O.y.getD m 0)(V:List Nat):∀(l:List SV),SV.m7 n l=false->SV.ap (O.at y) V l=SV.ap O V l
 |[],_=>rfl
 |x::X,h=>by
  simp only[SV.m7,ayp] at h;simp only[SV.ap];rw[SV.J5 Z V x h.1,SV.Gc Z V X h.2]
end
def SV.aoX(Z:∀m,m≠X->U.getD m 0=N.y.getD m 0)(V:List Nat)(v:SV)(h:v.sD X=false):v.eL (N.at U) V=v.eL N V:=by
 have R:=SV.J5 Z V v h;cases v<;>simp only[SV.eL]<;>try rw[R]
 exact RE.jG N U _
def SV.aev{O:aa}{y:List Nat}{n:Nat}(Z:∀m,m≠n->y.getD m 0=O.y.getD m 0)(V:List Nat):∀(l:List SV),SV.m7 n l=false->SV.cg (O.at y) V l=SV.cg O V l
 |[],_=>rfl
 |x::X,h=>by
  simp only[SV.m7,ayp] at h;have:=SV.aev Z V X h.2;simp only[SV.cg,axV] at this⊢;rw[SV.aoX Z V x h.1,this]
def aew{n:Nat}:∀{l:List SV},SV.m7 n l=false->∀v∈l,v.sD n=false
 |[],_,v,h=>by cases h
 |x::X,h,v,Z=>by
  simp only[SV.m7,ayp] at h;rcases axT.1 Z with rfl|Z;exact h.1;exact aew h.2 v Z
def VN{n:Nat}:∀{bx:aY},sF n bx=false->∀(i:Nat)(t:TypeId)(Z:List SV),bF bx i=some (t,Z)->SV.m7 n Z=false
 |[],_,i,t,Z,h=>by simp[bU] at h
 |none::U,X,0,t,Z,h=>by simp[bU] at h
 |some x::U,X,0,t,Z,h=>by
  simp only[sF,ayp] at X;simp[bU] at h;rw[h] at X;exact X.1
 |none::U,X,i+1,t,Z,h=>VN (bx:=U) X i t Z (by simpa[bU] using h)
 |some x::U,X,i+1,t,Z,h=>by
  simp only[sF,ayp] at X;exact VN (bx:=U) X.2 i t Z (by simpa[bU] using h)
section
variable{E:List Nat}{q:World}{D:bB}{C:Ty}{V:List Nat}{O:aa}{s:S}{a:Act}{W:World}
def gY.at{Z:aY}{P:List RK}(R:gY E q V O Z C P W)(N:∀m,m≠X->U.getD m 0=O.y.getD m 0)(M:sF X Z=false):gY E q V (O.at U) Z C P W:=
 ⟨R.base,R.own,R.inj,λi t Q h=>by rw[SV.aev N V Q (VN M i t Q h)];exact R.box i t Q h,R.ref⟩
def aoY{w:World}(h:dM U t w)(Q:t.heap.size<=X)(o:Obj):dM U t (w.putObj X o):=
 ⟨h.os,h.tape,h.output,by have:=h.size;simpa[World.putObj] using this,λk Z R=>(World.putObj_heap_other (by omega)).trans (h.block k Z R)⟩
def aX.cells{k:RK}{U:RV}(h:aX W C k U)(Z:cu C k U X):∃P t N,W.heap[X]?=some (.cells P t N):=by
 induction h generalizing X with
 |sl e A M L R u r J q p o Q=>
  cases Z with
  |here e a M L R=>
   have I:R[0]?=some R[0]:=axK (by omega);obtain⟨n,X,m,H,G,-⟩:=J 0 _ I;cases H;exact G
  |deep e v R i j F c z k X E B x w=>exact Q i j F c z k E B x w
 |str s=>cases Z
 |aq v h=>cases Z
 |own e U h l Q=>
  cases Z with
  |own e U X Z=>exact Q Z
 |dead U h=>cases Z
 |mr g R=>cases Z
def gY.obj{P:aY}{N:List RK}(R:gY E q V O P C N W){o:Obj}(M:W.heap[X]?=some o)(L:FH o=true)(H:q.heap.size<=X)(J:Obj):gY E q V O P C N (W.putObj X J):=by
 have G:∀U Z t Q,W.heap[U]?=some (.cells Z t Q)->U≠X:=λU Z t Q h e=>by subst e;rw[M] at h;cases h;exact acG L _ _ _ rfl
 refine⟨aoY R.base H J,R.own,R.inj,λi t Z h=> ?_,λk e F B A=> ?_⟩;have:=R.box i t Z h;rw[World.putObj_heap_other (λe=>by subst e;rw[M] at this;cases this;exact acH L _ _ rfl)];exact this;obtain⟨I,z⟩:=R.ref k e F B A;refine⟨I.FI (λU x=> ?_) (by simp[World.putObj]),z⟩;obtain⟨Z,t,Q,w⟩:=I.cells x;exact World.putObj_heap_other (G _ _ _ _ w)
def ur.obj{Z:aY}{U:List RK}{R:RV}(h:ur E q V O Z C U W X I R v){b:Nat}{o:Obj}(P:W.heap[b]?=some o)(N:FH o=true)(M:Obj):ur E q V O Z C U (W.putObj b M) X I R v:=by
 refine h.world (World.putObj_heap_other ?_);obtain⟨L,J,H,-,Q,-⟩:=h.mem;intro I;subst I;rw[P] at Q;cases Q;exact acG N _ _ _ rfl
def ao.obj(R:ao E q D C V O s a W){b:Nat}{o:Obj}(X:W.heap[b]?=some o)(U:FH o=true)(P:q.heap.size<=b)(Z:Obj){D':bB}{pd:List kV}{a':Act}(Q:a'.tmps=a.tmps)
  (N:cL q D' pd O.y a'.defers (W.putObj b Z)):ao E q D' C V O {s with pd:=pd} a' (W.putObj b Z):=
 ⟨R.mem.obj X U P Z,R.dX,R.ei,R.eb,R.er,N,by rw[Q];exact R.size,λt M h=>by rw[Q];exact R.tmps t M h,λk e L J I H G=>(R.bw k e L J I H G).obj X U Z⟩
def n8:List Nat->World->World
 |[],W=>W
 |d::ms,W=>n8 ms (W.putObj d (.deferred none))
def ao.n8:∀{ms:List Nat}{a:Act}{W:World},ao E q D C V O s a W->a.defers=ms.map i9++D.base->ao E q D C V O s {a with defers:=D.base} (n8 ms W)
 |[],a,W,R,h=>by
  have:({a with defers:=D.base}:Act)=a:=by cases a;simp at h;subst h;rfl
  rw[this];exact R
 |d::ms,a,W,R,h=>by
  obtain⟨L,X,J,P,N⟩:=R.bY.kh;have I:L=d::ms:=by
   rw[h] at X;have X:=aAI X;have H:∀(l Z:List Nat),l.map i9=Z.map i9->l=Z:=by
    intro l;induction l with
    |nil=>intro Z h;cases Z<;>simp at h;rfl
    |cons x k G=>
     intro Z h;cases Z with
     |nil=>simp at h
     |cons z F=>
      simp only[axV,ayH,i9,Deferred.mk.injEq,Target.collected.injEq] at h;obtain⟨⟨rfl,-⟩,h⟩:=h;rw[G F h]
   exact(H _ _ X).symm
  subst I;have U:=N d (by simp);have B:cL q D s.pd O.y (ms.map i9++D.base) (W.putObj d (.deferred none)):=by
   refine⟨R.bY.len,R.bY.oZ,λn l r A w v=> ?_,R.bY.inj,ms,rfl,λu=>(by have:=J u;cases this),(azu.1 P).2,λt M=> ?_⟩;obtain⟨p,Q,o⟩:=R.bY.cH n l r A w v;exact⟨p,(World.putObj_heap_other (λe=>by subst e;rw[U.1] at Q;cases Q)).trans Q,o⟩;have:=N t (by simp only[axY,axT];exact .inr M);refine⟨(World.putObj_heap_other (λe=>by subst e;exact(azu.1 P).1 M)).trans this.1,this.2⟩
  have m:=R.obj U.1 rfl U.2 (.deferred none) (D':=D) (pd:=s.pd) (a':={a with defers:=ms.map i9++D.base}) rfl B;exact ao.n8 (a:={a with defers:=ms.map i9++D.base}) (W:=W.putObj d (.deferred none)) m rfl
def cL.n8:∀{ms:List Nat}{pd:List kV}{y:List Nat}{W:World},cL q D pd y (ms.map i9++D.base) W->cL q D pd y D.base (n8 ms W)
 |[],pd,y,W,h=>h
 |d::ms,pd,y,W,h=>by
  obtain⟨N,X,M,R,Q⟩:=h.kh;have L:N=d::ms:=by
   have X:=aAI X;have J:∀(l Z:List Nat),l.map i9=Z.map i9->l=Z:=by
    intro l;induction l with
    |nil=>intro Z h;cases Z<;>simp at h;rfl
    |cons x u I=>
     intro Z h;cases Z with
     |nil=>simp at h
     |cons z H=>
      simp only[axV,ayH,i9,Deferred.mk.injEq,Target.collected.injEq] at h;obtain⟨⟨rfl,-⟩,h⟩:=h;rw[I H h]
   exact(J _ _ X).symm
  subst L;have G:=Q d (by simp);refine cL.n8 (ms:=ms) (W:=W.putObj d (.deferred none)) ⟨h.len,h.oZ,λn l r F E C=> ?_,h.inj,ms,rfl,λB=>(by have:=M B;cases this),(azu.1 R).2,λA P=> ?_⟩;obtain⟨w,U,v⟩:=h.cH n l r F E C;exact⟨w,(World.putObj_heap_other (λe=>by subst e;rw[G.1] at U;cases U)).trans U,v⟩;have:=Q A (by simp only[axY,axT];exact .inr P);exact⟨(World.putObj_heap_other (λe=>by subst e;exact(azu.1 R).1 P)).trans this.1,this.2⟩
end
def J6{P:World->Prop}{B:Nat}(h:∀W b o,B<=b->P W->P (W.putObj b o)):∀{Z:List Nat}{W:World},(∀d∈Z,B<=d)->P W->P (n8 Z W)
 |[],W,_,X=>X
 |d::Z,W,U,X=>J6 (W:=W.putObj d (.deferred none)) h (λx R=>U x (by simp[R])) (h W d _ (U d (by simp)) X)
def pZ{P:Program}{X:Func}{U:Array Value}{R:Ending->World->Prop}{u:FrameMode}{Q:List Deferred}(N:u≠ .run):∀{Z:List Nat}{W:World},Z.Nodup->(∀d∈Z,W.heap[d]?=some (.deferred (some [])))->
  LeavesInM Fence.wide 0 P X U R Q u (n8 Z W)->LeavesInM Fence.wide 0 P X U R (Z.map i9++Q) u W
 |[],W,_,_,h=>h
 |d::Z,W,J,M,h=>by
  obtain⟨I,H⟩:=azu.1 J;refine⟨N,.inl ⟨d,_,rfl,run_takeDeferred (M d (by simp)),pZ N H (λG L=> ?_) h⟩⟩;exact(World.putObj_heap_other (λe=>by subst e;exact I L)).trans (M G (by simp[L]))
section
variable{E:List Nat}{q:World}{D G:bB}{C:Ty}{V:List Nat}{O:aa}{s:S}{a:Act}{W:World}{pd:List kV}{y:List Nat}{F:List Deferred}
def cL.enter(h:cL q D pd y F W)(Z:(U++D.out).Nodup)(X:∀d∈U++D.out,W.heap[d]?=some (.deferred (some []))/\q.heap.size<=d)(R:Bool):cL q ⟨U++D.out,D.cH,R,[]⟩ pd y [] W:=
 ⟨h.len,h.oZ,h.cH,h.inj,[],rfl,λ_=>rfl,Z,X⟩
def cL.Gb{Z:List Nat}{U:Bool}(h:cL q ⟨Z++D.out,D.cH,U,[]⟩ pd y [] W)(R:D.rd=true->Z=[]):cL q D pd y (Z.map i9++D.base) W:=by
 obtain⟨X,Q,M,P,N⟩:=h.kh;have:X=[]:=by cases X<;>simp at Q;rfl
 subst this;exact⟨h.len,h.oZ,h.cH,h.inj,Z,rfl,R,P,N⟩
def cL.push{r:Loop}(h:cL q D pd y F W)(C:(U++D.out).Nodup)(B:∀X∈U++D.out,W.heap[X]?=some (.deferred (some []))/\q.heap.size<=X)
  (A:W.heap[X]?=some (.deferred (some [])))(z:X∉U++D.out)(x:q.heap.size<=X)(w:W.heap[v]?=some (.loop (nW r .ready)))(H:∀(n:Nat)(Q:Nat)(L:Loop),D.cH[n]?=some (Q,L)->Q≠v)(u:q.heap.size<=v):
  cL q ⟨X::(U++D.out),D.cH++[(v,r)],false,[]⟩ (pd++[.ready]) (y++[v]) [] W:=by
 refine⟨by simp[h.len],by simp[h.oZ],λn Q L t R Z=> ?_,λn P Q G E R Z=> ?_,[],rfl,λ_=>rfl,by simpa using⟨by simpa using z,C⟩,λp M=> ?_⟩;by_cases N:n<D.cH.length;rw[axL N] at R;rw[axL (by rw[<-h.len];exact N)] at Z;obtain⟨o,m,k⟩:=h.cH n Q L t R Z;exact⟨by rw[axL (by rw[h.oZ,<-h.len];exact N)];exact o,m,k⟩;have J:n=D.cH.length:=by
  have:=(axJ.1 R).1;simp at this;omega
 subst J;simp at R;obtain⟨rfl,rfl⟩:=R;rw[h.len] at Z;simp at Z;subst Z;refine⟨?_,w,u⟩;rw[h.len,<-h.oZ];simp;by_cases N:n<D.cH.length;rw[axL N] at R;by_cases I:P<D.cH.length;rw[axL I] at Z;exact h.inj n P Q G E R Z;have J:P=D.cH.length:=by
  have:=(axJ.1 Z).1;simp at this;omega
 subst J;simp at Z;obtain⟨rfl,rfl⟩:=Z;exact absurd rfl (H n _ G R);have j:n=D.cH.length:=by
  have:=(axJ.1 R).1;simp at this;omega
 subst j;simp at R;obtain⟨rfl,rfl⟩:=R;by_cases I:P<D.cH.length;rw[axL I] at Z;exact absurd rfl (H P _ E Z);have:=(axJ.1 Z).1;simp at this;omega;simp only[ax2,axT] at M;rcases M with rfl|M;exact⟨A,x⟩;exact B p M
def cL.pop{r:Loop}(h:cL q ⟨X::(U++D.out),D.cH++[(v,r)],false,[]⟩ pd y [] W)(L:D.rd=false):cL q D (pd.take D.cH.length) (y.take D.cH.length) ((X::U).map i9++D.base) W:=by
 obtain⟨N,J,x,I,H⟩:=h.kh;have:N=[]:=by cases N<;>simp at J;rfl
 subst this;have G:=h.len;have w:=h.oZ;simp at G;refine⟨by simp;omega,by simp;omega,λn P F E Z R=> ?_,λn C P B A Z R=> ?_,X::U,rfl,λM=>(by rw[L] at M;cases M),I,H⟩;have Q:=(axJ.1 Z).1;rw[ayi,if_pos Q] at R⊢;exact h.cH n P F E (by rw[axL Q];exact Z) R;have Q:=(axJ.1 Z).1;have z:=(axJ.1 R).1;exact h.inj n C P B A (by rw[axL Q];exact Z) (by rw[axL z];exact R)
def cL.put{r:Loop}(h:cL q D pd y F W)(N:W.heap[X]?=some (.loop r))(M:∀(n Z:Nat)(U:Loop),D.cH[n]?=some (Z,U)->Z≠X)(o:Obj):cL q D pd y F (W.putObj X o):=by
 obtain⟨L,J,I,H,R⟩:=h.kh;refine⟨h.len,h.oZ,λn Z U G P E=> ?_,h.inj,L,J,I,H,λd Q=>⟨?_,(R d Q).2⟩⟩;obtain⟨C,B,A⟩:=h.cH n Z U G P E;exact⟨C,(World.putObj_heap_other (M n Z U P)).trans B,A⟩;exact(World.putObj_heap_other (λe=>by subst e;have:=(R d Q).1;rw[N] at this;cases this)).trans (R d Q).1
def cL.VO{r:Loop}(h:cL q D pd y F W)(Z:D.cH[X]?=some (v,r))(I:kV):cL q D (pd.set X I) y F (W.putObj v (.loop (nW r I))):=by
 obtain⟨C,B,A,z,P⟩:=h.kh;have H:X<pd.length:=by rw[<-h.len];exact(axJ.1 Z).1
 have R:∃N,W.heap[v]?=some (.loop N):=⟨_,(h.cH X v r pd[X] Z (axK H)).2.1⟩;obtain⟨t,R⟩:=R;refine⟨by simp[h.len],by simp[h.oZ],λG x N w Q U=> ?_,h.inj,C,B,A,z,λd M=>⟨?_,(P d M).2⟩⟩;rw[ayD] at U;split at U;rename_i e;subst e;rw[Z] at Q;cases Q;simp only[axM] at U;subst U;obtain⟨L,E,J⟩:=h.cH X v r pd[X] Z (axK H);exact⟨L,World.putObj_heap_same (wl R),J⟩;rename_i e;obtain⟨L,E,J⟩:=h.cH G x N w Q U;exact⟨L,(World.putObj_heap_other (λu=>by subst u;exact e (h.inj X G _ _ _ Z Q))).trans E,J⟩;exact(World.putObj_heap_other (λe=>by subst e;have:=(P d M).1;rw[R] at this;cases this)).trans (P d M).1
def aex{O:aa}{V:List Nat}:∀(X:List Nat)(Q l:List SV)(A:Array Value),A.size=l.length->(∀(t:Nat)(Z:SV),l[t]?=some Z->Z=.any\/A[t]?=some (Z.den O V))->
  ((X.zip (SV.ap O V Q)).foldl (λ(P:Array Value)(x:Nat×Value)=>P.setIfInBounds x.1 x.2) A).size=(CM X Q l).length/\
  ∀(t:Nat)(Z:SV),(CM X Q l)[t]?=some Z->Z=.any\/((X.zip (SV.ap O V Q)).foldl (λ(P:Array Value)(x:Nat×Value)=>P.setIfInBounds x.1 x.2) A)[t]?=some (Z.den O V)
 |[],Q,l,A,U,h=>by simp only[List.zip_nil_left,List.foldl_nil,CM];exact⟨U,h⟩
 |p::X,[],l,A,U,h=>by simp only[SV.ap,List.zip_nil_right,List.foldl_nil,CM];exact⟨U,h⟩
 |p::X,v::N,l,A,U,h=>by
  simp only[SV.ap,azJ,ay8,CM];refine aex X N (l.set p v) (A.setIfInBounds p (v.den O V)) (by simp[U]) (λt Z R=> ?_);rw[ayD] at R;split at R;rename_i e;subst e;split at R;rename_i M;cases R;right;rw[Array.getElem?_setIfInBounds_self_of_lt (by rw[U];exact M)];cases R;rename_i e;rw[azF e];exact h t Z R
end
end
section
section
variable{p:Sp}{cf:bh}
def J7(bc:Nat->Bool)(Z X:Bool):∀(l:List Oper)(j n i:Nat)(m:OM),(ez bc Z X j n l)[i]?=some m->l[i]?=some m.o
 |[],j,n,i,m,h=>by simp[ez] at h
 |o::r,j,n,0,m,h=>by simp[ez] at h;simp[<-h]
 |o::r,j,n,i+1,m,h=>by simp[ez] at h;simpa using J7 bc Z X r _ _ i m h
def VP(bc:Nat->Bool)(Z X:Bool):∀(l:List Oper)(j n:Nat),(ez bc Z X j n l).length=l.length
 |[],j,n=>rfl
 |o::r,j,n=>by simp[ez,VP bc Z X r]
def VQ(bc:Nat->Bool)(Z X:Bool):∀(l:List Oper)(j n i:Nat)(m:OM),(ez bc Z X j n l)[i]?=some m->m.j=j+i
 |[],j,n,i,m,h=>by simp[ez] at h
 |o::r,j,n,0,m,h=>by simp[ez] at h;simp[<-h]
 |o::r,j,n,i+1,m,h=>by simp[ez] at h;have:=VQ bc Z X r _ _ i m h;omega
def VR(bc:Nat->Bool)(X Z:Bool):∀(l:List Oper)(j n i:Nat)(m:OM),(ez bc X Z j n l)[i]?=some m->m.dr=Z
 |[],j,n,i,m,h=>by simp[ez] at h
 |o::r,j,n,0,m,h=>by simp[ez] at h;simp[<-h]
 |o::r,j,n,i+1,m,h=>by simp[ez] at h;exact VR bc X Z r _ _ i m h
structure aey(m m':OM):Prop where
 o:m.o=m'.o
 ix:m.ix=m'.ix
 j:m.j=m'.j
 dr:m.dr=m'.dr
def VS{W:List Nat}:∀{l Z:List OM}{m:OM},m∈pS W Z l->∃X∈l,aey m X
 |[],Z,m,h=>by simp[pS] at h
 |x::l,Z,m,h=>by
  simp only[pS,axT] at h;rcases h with rfl|h;exact⟨x,by simp,rfl,rfl,rfl,rfl⟩;obtain⟨X,V,U⟩:=VS h;exact⟨X,by simp[V],U⟩
def aez{Z:List Nat}:∀{l:List OM},wc Z l=true->l.Pairwise λx y=>(Z.getD y.j 0).testBit x.j=true
 |[],_=>ayv
 |x::r,h=>by
  simp only[wc,axI] at h;exact ax5.2 ⟨λy X=>axU.1 h.1 y X,aez h.2⟩
def aeA{Z:List Nat}:∀{l X:List OM},(l.Pairwise λx y=>(Z.getD y.j 0).testBit x.j=true)->(pS Z X l).Pairwise λx y=>(Z.getD y.j 0).testBit x.j=true
 |[],X,_=>ayv
 |x::r,X,h=>by
  obtain⟨W,V⟩:=ax5.1 h;refine ax5.2 ⟨λy U=> ?_,aeA V⟩;obtain⟨R,Q,P⟩:=VS U;rw[P.j];exact W R Q
def aeB{U:List Nat}:∀{l X:List OM}(V:List OM)(m:OM)(Z:List OM),pS U X l=V++m::Z->m.so=true->Z.Pairwise λx y=>(U.getD y.j 0).testBit x.j=true
 |[],X,V,m,Z,h,_=>by cases V<;>simp[pS] at h
 |x::r,X,[],m,Z,h,W=>by
  simp only[pS,ax2,ayH] at h;obtain⟨R,rfl⟩:=h;subst R;simp only[axI] at W;exact aeA (ax5.1 (aez W.1.2)).2
 |x::r,X,z::Q,m,Z,h,W=>by
  simp only[pS,axY,ayH] at h;exact aeB Q m Z h.2 W
def VT:∀{l:List Nat},jV l=true->l.Pairwise (·≠·)
 |[],_=>ayv
 |x::X,h=>by
  simp only[jV,axI,ax0] at h;refine ax5.2 ⟨λy Z e=> ?_,VT h.2⟩;subst e;rw[ayj.2 Z] at h;cases h.1
def Oa:∀{l:List OM},jV (l.filterMap (·.o.dst))=true->l.Pairwise λa b=>∀d,a.o.dst=some d->b.o.dst≠some d
 |[],_=>ayv
 |x::W,h=>by
  cases X:x.o.dst with
  |none=>
   simp only[azZ,X] at h;exact ax5.2 ⟨λy _ d Z=>(by rw[X] at Z;cases Z),Oa h⟩
  |some d=>
   simp only[azZ,X,jV,axI,ax0] at h;refine ax5.2 ⟨λy V e Z U=> ?_,Oa h.2⟩;rw[X] at Z;cases Z;have:d∈W.filterMap (·.o.dst):=ayZ.2 ⟨y,V,U⟩;rw[ayj.2 this] at h;cases h.1
def aeC{Z:Array Oper}{X:List Nat}:∀{l:List OM},Ak Z X l=true->l.Pairwise λx y=>(X.getD y.j 0).testBit x.j=true\/pR Z x y=true
 |[],_=>ayv
 |x::V,h=>by
  simp only[Ak,axI] at h;refine ax5.2 ⟨λy W=> ?_,aeC h.2⟩;have:=axU.1 h.1 y W;simpa using this
def aeD{U:Array Oper}:∀{l:List OM}{done:List Nat},Al U done l=true->(∀m∈l,U[m.j]?=some m.o)->∀Z m W,l=Z++m::W->∀e∈iM m.o,e∈done\/∃x∈Z,x.j=e
 |[],done,_,_,Z,m,W,h=>by cases Z<;>simp at h
 |x::l,done,V,R,Z,m,W,h=>by
  simp only[Al,axI] at V;intro e Q;cases Z with
  |nil=>
   simp only[ax2,ayH] at h;obtain⟨rfl,-⟩:=h;rw[R x (by simp)] at V;exact .inl (ayj.1 (axU.1 V.1 e Q))
  |cons z P=>
   simp only[axY,ayH] at h;obtain⟨rfl,h⟩:=h;rcases aeD V.2 (λm O=>R m (by simp[O])) P m W h e Q with X|⟨y,N,X⟩;rcases axT.1 X with rfl|X;exact .inr ⟨x,by simp,rfl⟩;exact .inl X;exact .inr ⟨y,by simp[N],X⟩
def aeE{Z:Array Oper}(h:M6 Z.toList U=true):Ga Z U:=by
 have Q:∀(j:Nat)(o:Oper),Z[j]?=some o->(∀e∈iM o,e<j)/\∀i,i<Z.size->(U.getD j 0).testBit i=true->i∈iM o\/∃e∈iM o,(U.getD e 0).testBit i=true:=by
  intro j o X;have P:j<Z.size:=(ax9.1 X).1;have V:=axU.1 h j (by simpa using P);have O:Z.toList[j]?=some o:=by simpa using X
  rw[O] at V;simp only[axI] at V;refine⟨λe R=>by simpa using axU.1 V.1 e R,λi N M=> ?_⟩;have W:=axU.1 V.2 i (by simpa using N);simp only[M,aAz,aA7,ayb] at W;rcases W with W|W;exact .inl (ayj.1 W);obtain⟨e,R,L⟩:=ayh.1 W;exact .inr ⟨e,R,L⟩
 exact⟨λj o X=>(Q j o X).1,λj o X=>(Q j o X).2⟩
def qZ(Z:List Nat):∀(l:List SV)(n i:Nat),(oW Z n l)[i]?=(l[i]?).map λx=>if Z.contains (n+i) then .any else x
 |[],n,i=>by simp[oW]
 |x::X,n,0=>by simp[oW]
 |x::X,n,i+1=>by
  simp only[oW,ayk];rw[qZ Z X (n+1) i,show n+1+i=n+(i+1) by omega]
def Gd(Z:List Nat):∀(l:List SV)(n:Nat),(oW Z n l).length=l.length
 |[],n=>rfl
 |x::X,n=>by simp[oW,Gd Z X]
def aeF:∀{l:List Oper}{o:Oper}{t:TypeId},ajY cf l=true->o∈l->o.op=.alloc t->CJ cf t=true
 |[],o,t,_,h,_=>by simp at h
 |x::W,o,t,h,Z,X=>by
  simp only[ajY,axI] at h;rcases axT.1 Z with rfl|Z;have:=h.1;rw[X] at this;exact this;exact aeF h.2 Z X
def VU:∀{l:List OM},jV ((l.filter λm=>dW m.o.op).map (·.ix))=true->l.Pairwise λa b=>dW a.o.op=true->dW b.o.op=true->a.ix≠b.ix
 |[],_=>ayv
 |x::V,h=>by
  by_cases Z:dW x.o.op=true;rw[List.filter_cons_of_pos (by simpa using Z),axV,jV,axI] at h;refine ax5.2 ⟨λy X _ U e=> ?_,VU h.2⟩;have:x.ix∈(V.filter λm=>dW m.o.op).map (·.ix):=aya.2 ⟨y,ayr.2 ⟨X,by simpa using U⟩,e.symm⟩;have W:=h.1;rw[ayj.2 this] at W;cases W;rw[List.filter_cons_of_neg (by simpa using Z)] at h;exact ax5.2 ⟨λy X R=>absurd R Z,VU h⟩
def aoZ(bc:Nat->Bool)(X W:Bool)(V:aY):∀(l:List Oper){i:Nat}{m:OM},dW m.o.op=true->(ez bc X W 0 V.length l)[i]?=some m->dL (V++axW (jU l) none) m.ix=true:=by
 have R:∀(l:List Oper)(j n i:Nat)(m:OM),dW m.o.op=true->(ez bc X W j n l)[i]?=some m->n<=m.ix/\m.ix<n+jU l:=by
  intro l;induction l with
  |nil=>intro j n i m _ h;simp[ez] at h
  |cons o r Q=>
   intro j n i m Z h;have U:jU (o::r)=(if dW o.op then 1 else 0)+jU r:=by
    unfold jU;rw[List.filter_cons];split<;>simp<;>omega
   cases i with
   |zero=>
    simp only[ez,ayB,axM] at h;subst h;simp only at Z⊢;rw[U,if_pos Z];omega
   |succ i=>
    simp only[ez,ayk] at h;have:=Q _ _ i m Z h;rw[U];split at this<;>simp_all<;>omega
 intro l i m Z h;obtain⟨P,O⟩:=R l 0 _ i m Z h;unfold dL;rw[axP P,ayO,if_pos (by omega)]
def AG(p:Sp)(cf:bh)(G:List (Nat×Loop))(B:jD)(E:YH):Prop:=
 ∀(D:bB)(_:D.cH=G)(L:List LC)(n:Nat)(J:List SV)(s:S)(k I:SV->S->T)(O:aa)(V:List Nat)(a:Act)(W:World)(M:Ending->World->Prop),B.n7 s O V L->
  (E n J s k I).aG p O L->ao p.S0 p.w0 D cf.ty V O s a W->dC cf.gl O->
  (∀v U Z Q X N,bl s O V U Z Q->bZ s.av L N->ao p.S0 p.w0 D cf.ty Q Z U a X->(k v U).aG p Z N->M (.returned (v.den Z Q)) X)->
  (∀v U Z Q X N,bl s O V U Z Q->bZ s.av L N->ao p.S0 p.w0 D cf.ty Q Z U a X->(I v U).aG p Z N->M (.panicked [{v:=v.den Z Q,recovered:=false}]) X)->
  (∀H X C y,cL p.w0 D C y a.defers X->p.R (.panicked H) X->M (.panicked H) X)->
  ∀(F:Fence)(_:nc F)(m:Nat),YieldAt F m p.P (O.y.getD n 0) (SV.ap O V J).toArray W M
def C9(Z:List (Nat×Loop))(B:jD):AG p cf Z B fT:=λ_ _ _ _ _ _ _ _ _ _ _ _ _ _ h=>h.elim
def ao0{F:Fence}(hF:nc F)(ok:jE p cf){pc:sy}(a1:N6 p cf pc){D:bB}{B:jD}{yh:YH}(hY:AG p cf D.cH B yh){Q:Exit->Act->World->Prop}(HP:∀ch w G pd y,cL p.w0 D pd y w.defers G->p.R (.panicked ch) G->Q (.panic ch) w G){I:Array Oper}{a:Act}{L:List LC}{k:XE->S->T}(hB:B.n7 Z N U L)
  (c:Ff I Z.boxes.length=some l)(a3:ajY cf I.toList=true)(a4:AC I pc)(h:(kD cf (uo cf pc yh) I (k .normal) (λM=>k (.aW M)) l (Z.we I l) []).aG p N L)(R:ao p.S0 p.w0 D cf.ty U N Z a t)(hg:dC cf.gl N)
  (hk:∀A E u w G r,bl Z N U A E u->bZ Z.av L r->ao p.S0 p.w0 D cf.ty u E A w G->(k .normal A).aG p E r->Q .normal w G)
  (a5:∀M A E u w G r,bl Z N U A E u->bZ Z.av L r->ao p.S0 p.w0 D cf.ty u E A w G->(k (.aW M) A).aG p E r->Q (.panic [{v:=M.den E u,recovered:=false}]) w G):
  (Code.region v I true).wpIn F X p.P Q a t:=by
 unfold Ff at c;simp only at c;split at c;rename_i hc;simp only[axI,beq_iff_eq] at hc;obtain⟨⟨⟨⟨⟨⟨⟨c1,c2⟩,c3⟩,c4⟩,c5⟩,c8⟩,c6⟩,c7⟩:=hc;simp only[axM] at c;rw[c] at c2 c3 c4 c5 c6 c7 c8;have ag:∀m∈l,∃(i:Nat)(b:OM),(ez (Ji I.toList (lI I.toList)) false true 0 Z.boxes.length I.toList)[i]?=some b/\aey m b:=by
  intro m H;rw[<-c] at H;obtain⟨b,g,h2⟩:=VS H;rw[Fe] at g;obtain⟨i,-,z⟩:=ayZ.1 g;exact⟨i,b,z,h2⟩
 have al:∀m∈l,I[m.j]?=some m.o:=by
  intro m H;obtain⟨i,b,z,C⟩:=ag m H;have g:=J7 _ _ _ _ _ _ _ _ z;have h2:=VQ _ _ _ _ _ _ _ _ z;rw[C.j,C.o,h2,ayg];simpa using g
 have hW:J1 I (lI I.toList) (aAr I.size false) l:=by
  refine⟨al,λi z=> ?_,by simp,λj o ho hj=> ?_,aeC c3,λxs m ys he e hd=> ?_, ?_,Oa c4,λxs m ys he a6=>aeB xs m ys (c.trans he) a6⟩;constructor;intro _;have:=axU.1 c7 i (by simpa using z);obtain⟨m,H,hj⟩:=ayh.1 this;exact⟨m,H,by simpa using hj⟩;intro _;simp[z];exfalso;have a7:j<I.size:=(ax9.1 ho).1;simp[a7] at hj;rcases aeD c2 al xs m ys he e hd with g|g;cases g;exact .inr g;have:=VT c5;rw[azS] at this;exact this
 obtain⟨Rr,af⟩:=R.room (jU I.toList);have Rb:ao p.S0 p.w0 D cf.ty (U++axW (jU I.toList) 0) N (Z.we I l) a {t with drawn:=t.drawn+1}:=by
  have Rd:=Rr.drew;refine⟨Rd.mem,Rd.dX,Rd.ei,Rd.eb,Rd.er,Rd.bY,by simp only[S.we,Gd];exact Rr.size,λJ sv q=> ?_,Rd.bw⟩;simp only[S.we] at q;rw[qZ,ayg] at q;cases f:Z.tmps[J]? with
  |none=>rw[f] at q;cases q
  |some x=>
   rw[f] at q;simp only[axR,axM] at q;split at q;exact .inl q.symm;subst q;exact Rd.tmps J x f
 have an:bl Z N U (Z.we I l) N (U++axW (jU I.toList) 0):=⟨af.ext,af.mono,af.len,af.av⟩;refine wpIn_region_any ok.Vo ?_;refine aoM a4 a1 hF ok HP (aeE c1) (Kn:=AD p (k .normal)) (Kp:=yJ p (λM=>k (.aW M))) (Yp:=yK p cf I pc yh (k .normal) (λM=>k (.aW M))) (s0:=Z.we I l) (O0:=N) (V0:=U++axW (jU I.toList) 0) (L0:=L)
  (λA E u w G r hl hL R' C=>hk A E u w G r (an.trans hl) hL R' C) (λM A E u w G r hl hL R' C=>a5 M A E u w G r (an.trans hl) hL R' C)
  ?_
  I.size _ l (Z.we I l) N _ a _ L c6 hW (λm H=>by
   obtain⟨i,b,z,C⟩:=ag m H;rw[C.dr];exact VR _ _ _ _ _ _ _ _ z) (λm H J q=> ?_) (VU c8) (.inl ⟨λm H a8=> ?_, ?_⟩) (bl.refl _ _ _) (bZ.refl _ _) Rb hg ?_
 intro L2 m a9 s2 O2 V2 a2 W2 yn bb R' hl hL R2 bf bk br bs bt mm;obtain⟨bx,fx,bX,b0⟩:=bk;refine hY D rfl L2 yn bb s2 _ _ O2 V2 a2 W2 R' (hB.go (an.trans hl) hL) b0 R2 bf (λM A E u G r a0 b1 Rn C=> ?_) bs bt F hF mm;refine br M A E u G r a0 b1 Rn ?_;have ac:=dG A m.o.dst M;refine C5 ok.pt a9 _ _ E (by rw[ac.1];exact Rn.ei) (by rw[ac.2.1];exact Rn.eb) (by rw[ac.2.2];exact Rn.er) C ?_ bx;intro x f;obtain⟨b2,b4⟩:=ayr.1 f;obtain⟨hd,bv⟩:=bX x b2;have hE:=a0.ext;refine⟨by rw[BE.cB hE.agree _ (by rw[R2.ei,R2.eb,R2.er];exact bv)];exact hd, ?_⟩;rw[ac.1,ac.2.1,ac.2.2,<-Rn.ei,<-Rn.eb,<-Rn.er];exact BE.cF (by rw[<-R2.ei];exact hE.li) (by rw[<-R2.eb];exact hE.lb) (by rw[<-R2.er];exact hE.lr) _ bv;have g:=al m H;exact aeF a3 (ax4 (show I.toList[m.j]?=some m.o by simpa using g)) q;obtain⟨i,b,z,C⟩:=ag m H;rw[C.ix];exact aoZ _ _ _ Z.boxes _ (by rw[<-C.o];exact a8) z;intro m H d hd;have b3:d∈Am (l.dropLast.map (·.o)):=ayZ.2 ⟨m.o,aya.2 ⟨m,H,rfl⟩,hd⟩;unfold sK;simp only[S.we];rw[qZ,ayg];cases f:Z.tmps[d]? with
 |none=>exact .inl rfl
 |some x=>
  right;by_cases hb:(ab3 Z (Am (l.dropLast.map (·.o)))).contains d=true;exact⟨.any,by simp only[axR,hb,if_true],by simp[SV.aK]⟩;refine⟨x,by simp only[axR,hb];rfl, ?_⟩;have bv:x.bd Z.ni Z.nb Z.rs.length (aD Z.boxes)=true:=by
   cases hh:x.bd Z.ni Z.nb Z.rs.length (aD Z.boxes);exfalso;apply hb;exact ayj.2 (ayr.2 ⟨b3,by simp[f,hh]⟩);rfl
  exact SV.cF (axQ _) (axQ _) (axQ _) af.mono _ bv
 refine C5 ok.pt l _ [] N Rb.ei Rb.eb Rb.er h (λx f=>by cases f) (λm H=> ?_);obtain⟨i,b,z,C⟩:=ag m H;rw[C.dr];exact VR _ _ _ _ _ _ _ _ z;cases c
def uF(p:Sp)(cf:bh)(n:Nat):Prop:=
 ∀(D:bB)(B:jD)(H:YH)(N:Option Nat)(M:FuncId)(c:Code)(s:S)(k:XE->S->T)(L:List LC)(O:aa)(V:List Nat)(a:Act)(W:World)(Q:Exit->Act->World->Prop),
  AG p cf D.cH B H->B.n7 s O V L->D.rd=N.isSome->(N.isSome=true->gF c=false)->(∃E,p.P.funcs[M]?=some E)->
  (dJ cf n M c s H k).aG p O L->ao p.S0 p.w0 D cf.ty V O s a W->dC cf.gl O->
  (∀G X Z C y,cL p.w0 D C y X.defers Z->p.R (.panicked G) Z->Q (.panic G) X Z)->
  (∀e J U I X Z F,bl s O V J U I->bZ s.av L F->ao p.S0 p.w0 D cf.ty I U J X Z->(k e J).aG p U F->Q (e.to U I) X Z)->
  gZ N M p.P c Q a W
def Ob(p:Sp)(cf:bh)(n:Nat):Prop:=
 ∀(D:bB)(B:jD)(H:YH)(M:Option Nat)(U:FuncId)(x:Code)(s:S)(k:XE->S->T)(L:List LC)(O:aa)(V:List Nat)(a:Act)(W:World)(Q:Exit->Act->World->Prop),
  AG p cf D.cH B H->B.n7 s O V L->D.rd=M.isSome->(M.isSome=true->gF x=false)->(∃E,p.P.funcs[U]?=some E)->
  (∀C,(Code.first x).map (cf.loop U)≠some (.inv C))->
  (dJ cf n U (.loop x) s H k).aG p O L->ao p.S0 p.w0 D cf.ty V O s a W->dC cf.gl O->
  (∀G X Z A y,cL p.w0 D A y X.defers Z->p.R (.panicked G) Z->Q (.panic G) X Z)->
  (∀e J N I X Z F,bl s O V J N I->bZ s.av L F->ao p.S0 p.w0 D cf.ty I N J X Z->(k e J).aG p N F->Q (e.to N I) X Z)->
  J2 M U p.P x Q n a W
def ao1(l:uF p cf X)(j:Ob p cf X):Ob p cf (X+1):=by
 intro D B w A z x s k L O V a W Q u t r q o i h R m HP J;unfold dJ at h;simp only at h;show gZ A z p.P x _ a W;refine l D B w A z x s _ L O V a W _ u t r q o h R m (λg U N f y d c=>HP g U N f y d c) ?_;intro e I H G U N F Z M E C;cases e with
 |normal=>exact j D B w A z x I k F H G U N Q u (t.go Z M) r q o i C E (m.ext Z.ext) HP (λb s2 O2 V2 a2 W2 L2 ac af R2 ag=>J b s2 O2 V2 a2 W2 L2 (Z.trans ac) (M.trans af Z.av) R2 ag)
 |ret=>exact J .ret I H G U N F Z M E C
 |exit id=>exact J (.exit id) I H G U N F Z M E C
 |aW v=>exact J (.aW v) I H G U N F Z M E C
def ao.back{D E:bB}{M:List Nat}{P:aa}{L:S}{a C:Act}{W J:World}(R:ao U t D cf.ty e N Z a W)(B:Z.bd=true)
  (A:bl r N e L P M)(z:r.boxes=Z.boxes)(Q:ao U t E cf.ty M P L C J){D2:bB}{a2:Act}{H:List kV}(G:a2.tmps=a.tmps)(x:cL t D2 H P.y a2.defers J):ao U t D2 cf.ty M P {L with tmps:=Z.tmps,pd:=H} a2 J:=by
 obtain⟨w,-⟩:=R.uu B;refine⟨Q.mem,Q.dX,Q.ei,Q.eb,Q.er,x,by rw[G];exact R.size,λX v h=> ?_,Q.bw⟩;rw[G];rcases R.tmps X v h with I|I;exact .inl I;right;have F:=A.ext;rw[z] at F;rw[F.den (qT w h)];exact I
def ao.enter{D P:bB}{a:Act}{W:World}(R:ao U t D cf.ty e N Z a W)(Q:List SV)(n:Nat)(L:cL t P Z.pd N.y [] W):
  ao U t P cf.ty e N {Z with tmps:=Q++axW (n-Q.length) (.bm [])} {tmps:=(SV.ap N e Q).toArray++aAr (n-(SV.ap N e Q).toArray.size) undef,defers:=[]} W:=by
 refine⟨R.mem,R.dX,R.ei,R.eb,R.er,L,by simp,λX I h=> ?_,R.bw⟩;right;simp only[ay6,CR];by_cases M:X<Q.length;rw[axL M] at h;rw[aAA (by simpa using M)];simp[oY,h];rw[axP (by omega),ayO] at h;split at h;rename_i J;cases h;rw[Array.getElem?_append_right (by simp;omega)];simp only[ay6,CR,Array.getElem?_replicate];rw[if_pos J];rfl;cases h
def Oc(N:jE p cf)(hC:uF p cf X){D:bB}{B:jD}{yh:YH}(hY:AG p cf D.cH B yh):adv p cf D B (gU cf (λf c s k=>dJ cf X f c s yh k) yh):=by
 intro L g0 I s k kp O V a W H M h R z t ac r;cases g0 with
 |yl yn=>exact λF hF m=>hY D rfl L yn I s k kp O V a W H M h R z t ac r F hF m
 |fn g=>
 unfold gU at h;simp only at h;split at h;rename_i c nt rs q;refine⟨N.AB g (.inr (by rw[q];rfl)), ?_⟩;split at h;rename_i hb;simp only[S.da,axI] at hb;obtain⟨fn,hf,al,an,bp⟩:=N.inl g c nt rs q;refine J3 hf al ?_;obtain⟨ms,m1,m0,m2,m3⟩:=R.bY.kh;have RE:=R.enter I nt (R.bY.enter m2 m3 false);rw[<-an] at RE h;have a0:B.n7 {s with tmps:=I++axW (fn.ntmps-I.length) (.bm [])} O V L:=⟨⟨M.later.ext,M.later.mono,M.later.len,M.later.av⟩,M.NO⟩;refine hC ⟨ms++D.out,D.cH,false,[]⟩ B yh none g c _ _ L O V _ W _ hY a0 rfl (λhh=>by cases hh) ⟨fn,hf⟩ h RE z ?_ ?_;intro o U x pd y j hR;obtain⟨a1,J,q0,w,G⟩:=j.kh;rw[J] at j;have E:=(j.n8).Gb m0;rw[<-m1] at E;show LeavesInM Fence.wide 0 p.P fn U.tmps H U.defers (.panicking o) x;rw[J];exact pZ (by simp) (ayJ.1 w).1 (λd Q=>(G d (by simp[Q])).1) (r o _ pd y E (J6 (N.NZ o) (λd Q=>(G d (by simp[Q])).2) hR));intro e i u b U x L' C hL RR Z;have af:bl s O V {i with tmps:=s.tmps} u b:=⟨C.ext,C.mono,C.len,C.av⟩;obtain⟨a1,J,q0,w,G⟩:=RR.bY.kh;have R2:=RR.n8 J;have E:=R2.bY.Gb m0;rw[<-m1] at E;have RB:=R.back hb.1 C rfl R2 (D2:=D) (a2:=a) rfl E;have ag:∀l,pO cf i rs=some l->(k (one l) {i with tmps:=s.tmps}).aG p u L'->LeavesInM Fence.wide 0 p.P fn U.tmps H U.defers .returning x:=by
  intro l A Z;rw[J];refine pZ (by simp) (ayJ.1 w).1 (λd Q=>(G d (by simp[Q])).1) ⟨_,JS R2 N.jF (by rw[bp];exact A), ?_⟩;exact t _ _ u b _ L' af hL RB Z
 cases e with
 |normal=>
  simp only[Fh] at Z;split at Z;rename_i l A;exact ag l A Z;exact Z.elim
 |ret=>
  simp only[Fh] at Z;split at Z;rename_i l A;exact ag l A Z;exact Z.elim
 |aW v=>
  show LeavesInM Fence.wide 0 p.P fn U.tmps H U.defers (.panicking _) x;rw[J];exact pZ (by simp) (ayJ.1 w).1 (λd Q=>(G d (by simp[Q])).1) (ac v _ u b _ L' af hL RB Z)
 |exit id=>exact Z.elim
 exact h.elim;rename_i q;exact an7 N.pt (λg z=>N.AB g (.inl z)) D L g I s k O V a W H h R t r
end
end
section
mutual
def SV.Od(O:aa)(y:List Nat)(V:List Nat):∀(v:SV),v.wh=true->v.den (O.at y) V=v.den O V
 |.int k e,_=>by simp only[SV.den,IE.cS]
 |.bool b,_=>by simp only[SV.den,BE.cS]
 |.ref r,_=>by simp only[SV.den,RE.den,RE.jG]
 |.loc i o,_=>rfl
 |.el r w i o,_=>by simp only[SV.den,RE.den,RE.jG,IE.cS]
 |.fy a b c d,_=>rfl
 |.agg l,h=>by simp only[SV.wh] at h;simp only[SV.den];rw[SV.Ge O y V l h]
 |.bm l,h=>by simp only[SV.wh] at h;simp only[SV.den];rw[SV.Ge O y V l h]
 |.fn f l,h=>by simp only[SV.wh] at h;simp only[SV.den];rw[SV.Ge O y V l h]
 |.dV t x,h=>by simp only[SV.wh] at h;simp only[SV.den];rw[SV.Od O y V x h]
 |.yl n,h=>by simp[SV.wh] at h
 |.any,_=>rfl
 |.mp i,_=>rfl
 |.dI e X Z,h=>by simp only[SV.wh] at h;simp only[SV.den,IE.cS];rw[SV.Ge O y V Z h]
def SV.Ge(O:aa)(y:List Nat)(V:List Nat):∀(l:List SV),SV.sC l=true->SV.ap (O.at y) V l=SV.ap O V l
 |[],_=>rfl
 |x::Z,h=>by
  simp only[SV.sC,axI] at h;simp only[SV.ap];rw[SV.Od O y V x h.1,SV.Ge O y V Z h.2]
end
def Oe(O:aa)(y:List Nat)(V:List Nat):∀(l:List SV),SV.sC l=true->SV.cg (O.at y) V l=SV.cg O V l
 |[],_=>rfl
 |x::X,h=>by
  simp only[SV.sC,axI] at h;have Z:=Oe O y V X h.2;have W:=SV.Od O y V x h.1;simp only[SV.cg,axV] at Z⊢;rw[Z];congr 1;cases x<;>simp only[SV.eL]<;>first|rw[W]|(rw[RE.jG])
def J8:∀{l:aY}{i:Nat}{v:TypeId×List SV},An l=true->bF l i=some v->SV.sC v.2=true
 |[],i,v,_,h=>by simp[bU] at h
 |some x::X,0,v,Z,h=>by simp[An] at Z;simp[bU] at h;exact h▸Z.1
 |none::X,0,v,Z,h=>by simp[bU] at h
 |some x::X,i+1,v,Z,h=>by simp[An] at Z;exact J8 Z.2 (by simpa[bU] using h)
 |none::X,i+1,v,Z,h=>by simp[An] at Z;exact J8 Z (by simpa[bU] using h)
def Of:∀{a b:aY},jW a b=true->a=b
 |[],[],_=>rfl
 |[],_::_,h=>by simp[jW] at h
 |none::Z,none::X,h=>by simp only[jW] at h;rw[Of h]
 |none::Z,some y::X,h=>by simp[jW] at h
 |none::Z,[],h=>by simp[jW] at h
 |some x::Z,none::X,h=>by simp[jW] at h
 |some x::Z,[],h=>by simp[jW] at h
 |some x::Z,some y::X,h=>by
  simp only[jW,axI,beq_iff_eq] at h;have W:=SV.o7 _ _ h.1.2;rw[Of h.2];obtain⟨V,U⟩:=x;obtain⟨R,Q⟩:=y;simp only at h W;rw[h.1.1,W]
def J9(X:List SV)(Z:aY):(kE X Z).length=Z.length:=by
 unfold kE;split<;>simp
def Og{Z:aY}{x:TypeId×List SV}(h:bF (kE M Z) X=some x):bF Z X=some x:=by
 unfold kE at h;split at h;exfalso;simp only[bU] at h;rw[axO] at h;cases W:Z[X]? with
 |none=>rw[W] at h;cases h
 |some y=>rw[W] at h;cases h
 exact h
def VV{Z:aY}(h:aD (kE M Z) X=true):aD Z X=true:=by
 obtain⟨x,W⟩:=ax1.1 h;simp[aD,Og W]
def ao2{t:T}(h:Ub t=true)(p:Sp)(O:aa)(L:List LC):t.aG p O L:=by
 unfold Ub at h;split at h;simp[T.aG,BE.den];cases h
def ao3{X:aa}(h:fl N X N.i.length N.b.length N.r.length)(L:X.i.length=N.i.length)(J:X.b.length=N.b.length)(I:X.r.length=N.r.length):X=N:=by
 obtain⟨i,b,r,y⟩:=N;obtain⟨W,V,U,E⟩:=X;obtain⟨R,Q,P,M⟩:=h;simp only at R Q P M L J I;have H:W=i:=ayf λk=>by
  by_cases Z:k<i.length;have:=R k Z;simp only[axN,axK Z,axK (show k<W.length by omega),ayo] at this⊢;rw[this];rw[ax8 (by omega),ax8 (by omega)]
 have G:V=b:=ayf λk=>by
  by_cases Z:k<b.length;have:=Q k Z;simp only[axN,axK Z,axK (show k<V.length by omega),ayo] at this⊢;rw[this];rw[ax8 (by omega),ax8 (by omega)]
 have F:U=r:=ayf λk=>by
  by_cases Z:k<r.length;have:=P k Z;simp only[aa.rv,axN,axK Z,axK (show k<U.length by omega),ayo] at this⊢;rw[this];rw[ax8 (by omega),ax8 (by omega)]
 subst H G F M;rfl
def Oi(Z:List RK):my Z (Z.map RK.rd):=by
 refine⟨by simp,λk W h=> ?_⟩;rw[axO] at h;cases X:Z[k]? with
 |none=>rw[X] at h;cases h
 |some e=>
  rw[X] at h;simp only[axR,axM] at h;refine⟨e,rfl, ?_⟩;cases e<;>simp only[RK.rd] at h<;>first|exact .inl h.symm|exact .inr (.inr ⟨_,rfl,h.symm⟩)
def ao4(X:List SV)(Z:aY):kE X Z=Z\/∀i,bF (kE X Z) i=none:=by
 unfold kE;split;right;intro i;simp only[bU];rw[axO];cases Z[i]?<;>rfl;exact .inl rfl
section
variable{p:Sp}{m:bh}
def ao5(b6:∀G:Sp,G.P=p.P->jE G m->uF G m X)(ok:jE p m){ex:aY}(h:Fi m (λf c Z k=>dJ m X f c Z fT k) g M Z=some (J,ex))(b7:(m.inl g).isSome=true)
  {D:bB}{a:Act}(hb:Z.bd=true)(R:ao p.S0 p.w0 D m.ty U N Z a t)(hg:dC m.gl N):(∀M t,(callFunc g M).run p.P t=.ok (.enter g M) t)/\
  Calls p.P g (SV.ap N U M).toArray t λe W'=>∃V',e=.returned (J.den N V')/\ao p.S0 p.w0 D m.ty V' N (Z.plus ex) a W'/\bl Z N U (Z.plus ex) N V':=by
 unfold Fi at h;split at h;rename_i F hT;split at h;rename_i v0 c8;split at h;rename_i a8;cases h;simp only[axI] at a8;obtain⟨⟨⟨⟨⟨⟨⟨ca,cb⟩,cv⟩,cs⟩,ct⟩,b8⟩,cc⟩,cl⟩:=a8;have a9:=Of ct;obtain⟨cp,bb⟩:=R.uu hb;refine⟨ok.AB g (.inr b7), ?_⟩;obtain⟨S1,bf⟩:∃S1:List Nat,S1=((ax6 Z.boxes.length).filter (aD (kE M Z.boxes))).map (ad U):=⟨_,rfl⟩;have cx:∀i,aD (kE M Z.boxes) i=true->ad U i∈S1:=λi I=>by
  rw[bf];refine aya.2 ⟨i,ayr.2 ⟨ayR.2 ?_,I⟩,rfl⟩;obtain⟨x,u⟩:=ax1.1 I;have:=(axJ.1 (gG.1 u)).1
  rwa [J9] at this
 have bk:∀b∈S1,∃i,aD (kE M Z.boxes) i=true/\ad U i=b:=λb hb=>by
  rw[bf] at hb;obtain⟨i,I,rfl⟩:=aya.1 hb;exact⟨i,(ayr.1 I).2,rfl⟩
 obtain⟨G,al⟩:∃G:Sp,G={P:=p.P,ty:=p.ty,S0:=S1,w0:=t,D:=bB.none,R:=λe _=>(match e with|.panicked _=>False|_=>True),Q:=λ_ _ _=>True}:=⟨_,rfl⟩;have af:G.P=p.P:=by rw[al]
 have br:G.S0=S1:=by rw[al]
 have bs:G.w0=t:=by rw[al]
 have bx:∀ch W',¬G.R (.panicked ch) W':=λch W' q=>by rw[al] at q;exact q
 have bX:jE G m:=⟨by rw[al];exact ok.pt,by rw[af];exact ok.Vo,by rw[af];exact ok.jF,by rw[af];exact ok.Cw,by rw[af];exact ok.AB,λch t b o _ q=>(bx ch t q).elim,by rw[af];exact ok.inl⟩;have hS:=Oc (p:=G) bX (b6 G af bX) (D:=bB.none) (B:=⟨pT M Z,N.at [],U,[]⟩) (yh:=fT) (C9 _ _);have B0:ao G.S0 G.w0 bB.none m.ty U (N.at []) (pT M Z) ⟨#[],[]⟩ t:=by
  rw[br,bs];refine⟨⟨dM.refl _ _,λi I=>.inr (cx i I),λi j I A=>R.mem.inj i j (VV I) (VV A),λi L cs h=> ?_,λk e rv H h2=> ?_⟩,by simp only[pT,J9];exact R.dX,R.ei,R.eb,by simp only[pT,ayA];exact R.er, ?_,rfl,λL sv h=>by simp[pT] at h,λk e rv b H=> ?_⟩;rw[Oe _ _ _ _ (J8 cb h)];exact R.mem.box i L cs (Og h);have:=(R.mem.km (Oi Z.rs)).ref k e rv H h2;exact⟨this.1,λb hb i I=>this.2 b hb i (VV I)⟩;exact⟨rfl,rfl,λX l r st h=>by simp[bB.none] at h,λX n' l r r' h=>by simp[bB.none] at h,[],rfl,λ_=>rfl,by simp[bB.none],λd h=>by simp[bB.none] at h⟩;exfalso;simp only[pT,axO] at H;cases hk:Z.rs[k]? with
  |none=>rw[hk] at H;cases H
  |some x=>rw[hk] at H;cases x<;>simp[RK.rd] at H
 have cy:=hS [] (.fn g) M (pT M Z) _ _ (N.at []) U ⟨#[],[]⟩ t (λe W'=>∃V',e=.returned (J.den N V')/\ao p.S0 p.w0 D m.ty V' N (Z.plus (F.boxes.drop Z.boxes.length)) a W'/\bl Z N U (Z.plus (F.boxes.drop Z.boxes.length)) N V') ⟨bl.refl _ _ _,bZ.refl _ _⟩ (ao2 cl G (N.at []) []) B0 hg ?_ ?_ (λch W' pd y _ hR=>(bx ch W' hR).elim);have:=cy.2;rw[SV.Ge N [] U M ca,af] at this;exact this;intro v2 s2 O2 E W2 L2 hl _ C a0;split at a0;rename_i b0;simp only[axI,ab4,beq_iff_eq,decide_eq_true_eq] at b0;obtain⟨hv,⟨⟨ac,cI⟩,c0⟩,bp⟩:=b0;have hv:=SV.bn _ _ hv;subst hv;have ac:=Of ac;have c1:O2=N.at []:=by
  refine ao3 hl.ext.agree ?_ ?_ ?_;rw[C.ei,cI];exact R.ei.symm;rw[C.eb,c0];exact R.eb.symm;rw[C.er,bp];simp only[pT,ayA];exact R.er.symm
 subst c1;rw[br,bs] at C;have c9:Z.boxes.length<=F.boxes.length:=by
  have:=congrArg azO a9;rw[J9,azj] at this;omega
 have a4:∀i,i<Z.boxes.length->bF F.boxes i=bF (kE M Z.boxes) i:=λi I=>by
  have:=congrArg (λl=>bF l i) a9;simp only[bU,ayi,if_pos I] at this⊢;exact this
 have a1:∀i,aD (kE M Z.boxes) i=true->ad E i=ad U i:=λi I=>hl.ext.ad i I
 have a2:∀{i:Nat}{l:aY},aD l i=true->i<l.length:=λh=>by
  obtain⟨x,u⟩:=ax1.1 h;exact(axJ.1 (gG.1 u)).1
 have c2:∀i,Z.boxes.length<=i->aD F.boxes i=true->t.heap.size<=ad E i:=by
  intro i I q;rcases C.mem.own i (by rw[ac];exact q) with H|H;exact H;exfalso;obtain⟨j,A,c3⟩:=bk _ H;have a5:j<Z.boxes.length:=by have:=a2 A;rwa [J9] at this
  have c4:aD F.boxes j=true:=by simp only[aD,a4 j a5];exact A
  have:=C.mem.inj i j (by rw[ac];exact q) (by rw[ac];exact c4) (by rw[a1 j A];exact c3.symm);omega
 have hB:Below t.heap.size t W2:=by
  have hO:=C.mem.base;refine⟨hO.os,hO.tape,hO.output,hO.size,λk hk=> ?_⟩;by_cases b1:k∈S1;obtain⟨j,A,rfl⟩:=bk _ b1;have a5:j<Z.boxes.length:=by have:=a2 A;rwa [J9] at this
  obtain⟨x,u⟩:=ax1.1 A;obtain⟨bt,ag⟩:=x;have e1:=R.mem.box j bt ag (Og u);have e2:=C.mem.box j bt ag (by rw[ac,a4 j a5];exact u);rw[a1 j A] at e2;rw[e1,e2];congr 2;rw[Oe _ _ _ _ (J8 cb u)];refine Jv (fl.refl _ _ _ _) (λk hk=>a1 k ?_) _ (o8 bb (Og u));rcases ao4 M Z.boxes with hm|hm;rw[hm];exact hk;rw[hm j] at u;cases u;exact hO.block k hk b1
 have R0:=R.below hB;have c5:E.length=F.boxes.length:=by rw[C.dX,ac]
 have a3:∀i,i<Z.boxes.length->ad (U++E.drop Z.boxes.length) i=ad U i:=λi I=>by
  simp only[ad,axN];rw[axL (by rw[R.dX];exact I)]
 have a6:∀i,Z.boxes.length<=i->ad (U++E.drop Z.boxes.length) i=ad E i:=λi I=>by
  simp only[ad,axN];rw[axP (by rw[R.dX];exact I),R.dX,ayq,aA9 I]
 have b2:∀i,aD F.boxes i=true->ad (U++E.drop Z.boxes.length) i=ad E i:=λi I=>by
  by_cases z:i<Z.boxes.length;rw[a3 i z,a1 i (by simp only[aD,<-a4 i z];exact I)];exact a6 i (by omega)
 have iA:∀i,i<Z.boxes.length->bF (Z.plus (F.boxes.drop Z.boxes.length)).boxes i=bF Z.boxes i:=λi I=>by
  simp only[bU,S.plus,axL I]
 have b3:∀i,Z.boxes.length<=i->bF (Z.plus (F.boxes.drop Z.boxes.length)).boxes i=bF F.boxes i:=λi I=>by
  simp only[bU,S.plus];rw[axP I,ayq,aA9 I]
 have a7:∀k,aD Z.boxes k=true->ad (U++E.drop Z.boxes.length) k=ad U k:=λk hk=>a3 k (a2 hk)
 have an:∀i,aD (Z.plus (F.boxes.drop Z.boxes.length)).boxes i=true->(i<Z.boxes.length/\aD Z.boxes i=true/\ad (U++E.drop Z.boxes.length) i=ad U i)\/(Z.boxes.length<=i/\aD s2.boxes i=true/\ad (U++E.drop Z.boxes.length) i=ad E i/\t.heap.size<=ad E i):=λi I=>by
  by_cases z:i<Z.boxes.length;exact .inl ⟨z,by simpa only[aD,iA i z] using I,a3 i z⟩;have q:aD F.boxes i=true:=by simpa only[aD,b3 i (by omega)] using I
  exact .inr ⟨by omega,by rw[ac];exact q,a6 i (by omega),c2 i (by omega) q⟩
 have dc:p.w0.heap.size<=t.heap.size:=R.mem.base.size;refine⟨U++E.drop Z.boxes.length, ?_,⟨⟨R0.mem.base, ?_, ?_, ?_, ?_⟩, ?_,R.ei,R.eb,R.er,R0.bY,R.size, ?_, ?_⟩,⟨⟨fl.refl _ _ _ _,axQ _,axQ _,axQ _,a7⟩, ?_, ?_,axQ _⟩⟩;rw[SV.Od _ _ _ _ cv];have c6:v2.bd N.i.length N.b.length N.r.length (aD F.boxes)=true:=by rw[R.ei,R.eb,R.er];exact b8
 rw[SV.cB (fl.refl _ _ _ _) b2 v2 c6];intro i I;rcases an i I with⟨_,h2,h3⟩|⟨_,_,h3,h4⟩;rw[h3];exact R.mem.own i h2;rw[h3];exact .inl (by omega);intro i j I A b4;rcases an i I with⟨i1,i2,w⟩|⟨i1,i2,w,i4⟩<;>rcases an j A with⟨j1,j2,j3⟩|⟨j1,j2,j3,j4⟩;exact R.mem.inj i j i2 j2 (by rw[<-w,<-j3];exact b4);exfalso;have:=R.mem.lt i2;omega;exfalso;have:=R.mem.lt j2;omega;exact C.mem.inj i j i2 j2 (by rw[<-w,<-j3];exact b4);intro i L ag h;by_cases z:i<Z.boxes.length;rw[iA i z] at h;rw[a3 i z,R0.mem.box i L ag h];congr 2;exact(Jv (fl.refl _ _ _ _) a7 _ (o8 bb h)).symm;rw[b3 i (by omega)] at h;rw[a6 i (by omega),C.mem.box i L ag (by rw[ac];exact h)];congr 2;rw[Oe _ _ _ _ (J8 cs h)];have c7:SV.cq N.i.length N.b.length N.r.length (aD F.boxes) ag=true:=by rw[R.ei,R.eb,R.er];exact o8 cc h
 exact(Jv (fl.refl _ _ _ _) b2 _ c7).symm;intro k e rv H h2;refine⟨(R0.mem.ref k e rv H h2).1,λb b5 i I=> ?_⟩;rcases an i I with⟨i1,i2,w⟩|⟨i1,i2,w,i4⟩;rw[w];exact(R.mem.ref k e rv H h2).2 b b5 i i2;rw[w];have:=(R.mem.ref k e rv H h2).1.lt b5;omega;simp only[S.plus,axX,ay9,c5,R.dX];intro L sv h;rcases R.tmps L sv h with H|H;exact .inl H;right;rw[SV.cB (fl.refl _ _ _ _) a7 sv (qT cp h)];exact H;intro k e rv b H h2 h3;have T0:=R0.bw k e rv b H h2 h3;refine⟨T0.own,T0.mem,λi I=> ?_,T0.alone,T0.inner⟩;rcases an i I with⟨i1,i2,w⟩|⟨i1,i2,w,i4⟩;rw[w];exact T0.box i i2;rw[w];have:=(R.bw k e rv b H h2 h3).lt;omega;intro i I;have z:=a2 I;simp only[aD,iA i z];exact I;simp only[S.plus,axX];omega;exact a0.elim;intro v2 s2 O2 E W2 L2 hl _ C a0;exact a0.elim;cases h;cases h;cases h
end
def ao6(X:kE M r.boxes=kE M Z.boxes)(W:r.ni=Z.ni)(V:r.nb=Z.nb)(U:r.rs=Z.rs):pT M r=pT M Z:=by
 simp only[pT,X,W,V,U]
def aeG{m:bh}{X:FuncId->Code->S->(XE->S->T)->T}(W:kE M r.boxes=kE M Z.boxes)(V:r.ni=Z.ni)(U:r.nb=Z.nb)(R:r.rs=Z.rs)(Q:r.boxes.length=Z.boxes.length):Fi m X g M r=Fi m X g M Z:=by
 unfold Fi;rw[ao6 W V U R,W,V,U,R,Q]
def ao7(m:bh)(Z:Array Oper)(V:FuncId->Code->S->(XE->S->T)->T):AC Z (Ao m Z V):=by
 refine⟨λg U s d v l=> ?_,λg s n t Q d w P=> ?_,λg U s r h=> ?_⟩;unfold Ao;rw[aeG]<;>cases d<;>rfl
 ·unfold Ao;rw[aeG]<;>cases d<;>simp[S.bN,S.put,qL,kE,aBf]<;>(try apply ayf)<;>(try intro i)<;>(try simp[ayD])<;>(try(intro R;subst R;by_cases X:n<s.boxes.length;(· simp[X]);(· simp[X])))
 unfold Ao at h;split at h;rename_i W;simp only[axI] at W;exact W.1;cases h
def ao8{p:Sp}{m:bh}{Q:Array Oper}(N:∀Z:Sp,Z.P=p.P->jE Z m->uF Z m X)(M:jE p m):N6 p m (Ao m Q λf c s k=>dJ m X f c s fT k):=by
 intro g I s v H h D O V a W L R J;unfold Ao at h;split at h;rename_i U;simp only[axI] at U;exact ao5 N M h U.2 L R J;cases h
end
end
end Go.Proofs.YtieaiocljdpebaaGreatDoor.Y
