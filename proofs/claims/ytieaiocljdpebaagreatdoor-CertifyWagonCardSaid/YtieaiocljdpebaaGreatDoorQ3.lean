/- Part 3 of the proof; the last part says what is shown. -/
import Derived.Test.YtieaiocljdpebaaGreatDoorQ2
import Derived.StillTailTactics
import Derived.RangeFuncIn
import Derived.RangeFuncLeaves
import Derived.RangeFuncRecord
import Derived.RangeFuncSeq
import Derived.RangeFuncCalls
import Derived.LoopNIn
import Derived.LoopIn
import Derived.Sort.LoopGhostIn
set_option linter.defProp false
set_option linter.unusedVariables false
set_option linter.unusedSimpArgs false
set_option linter.unnecessarySimpa false
open Bool renaming and_eq_true→awF,not_eq_true'→awY,false_eq_true→aw0,or_eq_true→aw9,or_eq_false_iff→axo,and_self→axZ,true_and→ayu,and_true→ayG,and_eq_false_iff→azh,or_eq_true_iff→azs,not_true→azy,false_or→az6,true_or→aAa,true_eq_false→aAg
open List renaming getElem?_eq_some_iff→awG,getElem?_eq_getElem→awH,getElem?_append_left→awI,getD_eq_getElem?_getD→awK,getElem?_map→awL,getElem?_append_right→awM,mem_cons→awP,length_append→awQ,mem_append→awR,replicate→awS,map_cons→awT,all_eq_true→awU,cons_append→awV,nil_append→awX,mem_of_getElem?→aw1,pairwise_cons→aw2,range→aw3,getElem?_eq_none→aw4,map_congr_left→aw5,mem_map→aw7,pairwise_append→aw8,getElem?_take→axc,ext_getElem?→axd,any_eq_true→axe,contains_iff_mem→axg,getElem?_cons_succ→axh,getElem?_drop→axl,length_eq_zero_iff→axp,mem_filter→axr,getElem?_set_ne→axs,mem_append_left→axw,getElem?_cons_zero→axz,getElem?_eq_none_iff→axA,length_map→axB,getElem?_set→axC,nodup_append→axF,mem_of_mem_drop→axG,length_take→axJ,getElem?_replicate→axK,mem_of_mem_take→axL,mem_or_eq_of_mem_set→axM,size_toArray→axQ,mem_range→axR,mem_cons_of_mem→axS,mem_filterMap→axV,length_drop→axW,map_nil→ax0,foldl_cons→ax4,append_nil→aya,getElem?_set_self→ayc,mem_append_right→ayf,mem_of_find?_eq_some→ayg,mem_cons_self→ayp,nodup_cons→ayr,filterMap_cons→ayC,zip_cons_cons→ayH,mem_singleton→ayJ,dropLast_append_of_ne_nil→ayL,sublist_cons_self→ayO,pairwise_map→ayQ,length→ayW,find?_some→ayY,append_eq_append_iff→azF,any_map→azH,append_cancel_right→azI,dropLast_sublist→azX,map_set→aAd,set_cons_zero→aAe,Sublist→aAf,append_of_mem→aAh
open Option.some renaming injEq→awJ
open Nat renaming le_refl→awN,zero_add→axf,le_trans→axn,testBit_or→ax7,le_of_eq→ayi,lt_of_lt_of_le→ayo,lt_succ_self→ayx,strongRecOn→ay1,testBit_shiftLeft→aze,add_sub_cancel'→az8
open Option renaming map_some→awO,isSome_iff_exists→awZ,getD_some→axi,bind_some→ayV,getD_none→azc
open Array renaming getElem?_eq_some_iff→aw6,getElem?_setIfInBounds_ne→ayD,replicate→ayM,getElem?_eq_getElem→ayZ,getElem?_append_left→azz
open List.Pairwise renaming nil→axt
open List.cons renaming injEq→axH
open Prod.mk renaming injEq→ayl
open List.Sublist renaming append→ayX,refl→ay7
namespace Go.Proofs.YtieaiocljdpebaaGreatDoor.Y
open Go.RowKit
noncomputable section
section
section
variable{S0:List Nat}{w0:World}{D:bw}{ty:Ty}{β:List Nat}{ρ:aa}{s:S}{a:Act}{W:World}
def XV.at(k:LK):XV->Value
 |.i n=>match k with
  |.int k=>.int k n
  |_=>undef
 |.b x=>.bool x
 |.r v=>v.val
def XV.Jt(k:LK)(x:XV):RV:=match x with
 |.r v=>v
 |x=>.mk (x.at k) []
def anc{Z:S}{ρ1:aa}{β1:List Nat}{k:LK}{v:SV}(h:xG Z k v=true):(v.xv ρ1).Jt k=v.eE ρ1 β1:=by
 unfold xG at h;split at h;simp at h;subst h;rfl;rfl;rfl;rfl;rfl;rfl;cases h
def acJ{Z:S}{ρ1:aa}{β1:List Nat}{k:LK}{v:SV}(h:xG Z k v=true):(v.xv ρ1).at k=v.den ρ1 β1/\nx k (v.xv ρ1):=by
 unfold xG at h;split at h;simp at h;subst h;exact⟨rfl,trivial⟩;exact⟨rfl,trivial⟩;exact⟨rfl,trivial⟩;exact⟨rfl,trivial⟩;exact⟨rfl,trivial⟩;exact⟨rfl,trivial⟩;cases h
def acK{V:S}:∀{ks:List LK}{vs:List SV},oo V ks vs=true->ks.length=vs.length/\∀(q:Nat)(k:LK)(v:SV),ks[q]?=some k->vs[q]?=some v->xG V k v=true
 |[],[],_=>⟨rfl,λq k v h _=>by simp at h⟩
 |[],_::_,h=>by simp[oo] at h
 |_::_,[],h=>by simp[oo] at h
 |k::ks,v::vs,h=>by
  simp only[oo,awF] at h;obtain⟨U,R⟩:=acK h.2;refine⟨by simp[U],λq Q P Z X=> ?_⟩;cases q with
  |zero=>simp at Z X;subst Z X;exact h.1
  |succ q=>exact R q Q P (by simpa using Z) (by simpa using X)
def Ui{Z:S}{ρ1:aa}:∀{ks:List LK}{vs:List SV},oo Z ks vs=true->cR ks (vs.map (SV.xv ρ1))
 |[],[],_=>trivial
 |[],_::_,h=>by simp[oo] at h
 |_::_,[],h=>by simp[oo] at h
 |k::ks,v::vs,h=>by
  simp only[oo,awF] at h;exact⟨(acJ (β1:=[]) h.1).2,Ui h.2⟩
def Np:∀(ks:List LK)(xs:List XV)(s:S)(ρ:aa),cR ks xs->ρ.i.length=s.ni->ρ.b.length=s.nb->ρ.r.length=s.rs.length->
  ∀(q:Nat)(k:LK)(x:XV)(v:SV),ks[q]?=some k->xs[q]?=some x->(s.bz ks).1[q]?=some v->v.den (ρ.ext xs) β=x.at k/\v≠ .any
 |[],_,_,_,_,_,_,_,q,k,x,v,h,_,_=>by simp at h
 |_::_,[],_,_,h,_,_,_,q,k,x,v,_,_,_=>by simp[cR] at h
 |N::ks,P::xs,s,ρ,M,U,R,Q,0,k,x,v,Z,X,V=>by
  obtain⟨L,O⟩:=M;simp only[S.bz,axz,awJ] at Z X V;subst Z X V;have J:=zV xs (ρ.add P);simp only[aa.ext];cases N<;>cases P<;>simp[nx] at L;refine⟨?_,by simp[S.fresh]⟩;simp only[S.fresh,SV.den,IE.den,XV.at];rw[J.i _ (by simp[aa.add,U])];simp[aa.add,<-U];refine⟨?_,by simp[S.fresh]⟩;simp only[S.fresh,SV.den,BE.den,XV.at];rw[J.b _ (by simp[aa.add,R])];simp[aa.add,<-R];refine⟨?_,by simp[S.fresh]⟩;simp only[S.fresh,SV.den,RE.den,RE.rv,XV.at];rw[J.r _ (by simp[aa.add,Q])];simp[aa.add,aa.rv,<-Q]
 |N::ks,P::xs,s,ρ,M,U,R,Q,q+1,k,x,v,Z,X,V=>by
  obtain⟨L,O⟩:=M;simp only[S.bz,axh] at Z X V;simp only[aa.ext];cases N<;>cases P<;>simp[nx] at L;exact Np ks xs _ _ O (by simp[S.fresh,aa.add,U]) (by simp[S.fresh,aa.add,R]) (by simp[S.fresh,aa.add,Q]) q k x v Z X V;exact Np ks xs _ _ O (by simp[S.fresh,aa.add,U]) (by simp[S.fresh,aa.add,R]) (by simp[S.fresh,aa.add,Q]) q k x v Z X V;exact Np ks xs _ _ O (by simp[S.fresh,aa.add,U]) (by simp[S.fresh,aa.add,R]) (by simp[S.fresh,aa.add,Q]) q k x v Z X V
def Nq:∀(ks:List LK)(xs:List XV)(s:S)(ρ:aa),cR ks xs->ρ.i.length=s.ni->ρ.b.length=s.nb->ρ.r.length=s.rs.length->
  ∀(q:Nat)(k:LK)(x:XV)(v:SV),ks[q]?=some k->xs[q]?=some x->(s.bz ks).1[q]?=some v->v.eE (ρ.ext xs) β=x.Jt k
 |[],_,_,_,_,_,_,_,q,k,x,v,h,_,_=>by simp at h
 |_::_,[],_,_,h,_,_,_,q,k,x,v,_,_,_=>by simp[cR] at h
 |N::ks,P::xs,s,ρ,M,U,R,Q,0,k,x,v,Z,X,V=>by
  obtain⟨L,O⟩:=M;simp only[S.bz,axz,awJ] at Z X V;subst Z X V;have J:=zV xs (ρ.add P);simp only[aa.ext];cases N<;>cases P<;>simp[nx] at L
  skip
  simp only[S.fresh,SV.eE,SV.den,IE.den,XV.Jt,XV.at];rw[J.i _ (by simp[aa.add,U])];simp[aa.add,<-U]
  skip
  simp only[S.fresh,SV.eE,SV.den,BE.den,XV.Jt,XV.at];rw[J.b _ (by simp[aa.add,R])];simp[aa.add,<-R]
  skip
  simp only[S.fresh,SV.eE,RE.rv,XV.Jt];rw[J.r _ (by simp[aa.add,Q])];simp[aa.add,aa.rv,<-Q]
 |N::ks,P::xs,s,ρ,M,U,R,Q,q+1,k,x,v,Z,X,V=>by
  obtain⟨L,O⟩:=M;simp only[S.bz,axh] at Z X V;simp only[aa.ext];cases N<;>cases P<;>simp[nx] at L;exact Nq ks xs _ _ O (by simp[S.fresh,aa.add,U]) (by simp[S.fresh,aa.add,R]) (by simp[S.fresh,aa.add,Q]) q k x v Z X V;exact Nq ks xs _ _ O (by simp[S.fresh,aa.add,U]) (by simp[S.fresh,aa.add,R]) (by simp[S.fresh,aa.add,Q]) q k x v Z X V;exact Nq ks xs _ _ O (by simp[S.fresh,aa.add,U]) (by simp[S.fresh,aa.add,R]) (by simp[S.fresh,aa.add,Q]) q k x v Z X V
def acL:∀(ks:List LK)(s:S),(s.bz ks).1.length=ks.length
 |[],_=>rfl
 |k::ks,s=>by simp[S.bz,acL ks]
def acM{n:Nat}:∀{Z:List (Nat×LK)}{fr:List SV}{v:SV},qi n Z fr=some v->∃(q:Nat)(k:LK),Z[q]?=some (n,k)/\fr[q]?=some v
 |[],fr,v,h=>by simp[qi] at h
 |_::_,[],v,h=>by simp[qi] at h
 |(t,k)::r,x::xs,v,h=>by
  simp only[qi] at h;split at h;rename_i X;cases h;simp at X;subst X;exact⟨0,k,rfl,rfl⟩;obtain⟨q,V,U,R⟩:=acM h;exact⟨q+1,V,by simpa using U,by simpa using R⟩
def acN{n:Nat}:∀{Z:List (Nat×LK)}{fr:List SV},Z.length<=fr.length->qi n Z fr=none->Z.any (·.1==n)=false
 |[],fr,_,h=>rfl
 |_::_,[],X,h=>by simp at X
 |(t,k)::r,x::xs,X,h=>by
  simp only[qi] at h;split at h;cases h;rename_i V;simp only[List.any_cons,axo];exact⟨by simpa using V,acN (by simpa using X) h⟩
def acO{b n:Nat}:∀{cl:List (Nat×Nat×LK)}{fr:List SV}{v:SV},vJ b n cl fr=some v->∃(q:Nat)(k:LK),cl[q]?=some (b,n,k)/\fr[q]?=some v
 |[],fr,v,h=>by simp[vJ] at h
 |_::_,[],v,h=>by simp[vJ] at h
 |(R,t,k)::r,x::xs,v,h=>by
  simp only[vJ] at h;split at h;rename_i Z;cases h;simp at Z;obtain⟨rfl,rfl⟩:=Z;exact⟨0,k,rfl,rfl⟩;obtain⟨q,X,V,U⟩:=acO h;exact⟨q+1,X,by simpa using V,by simpa using U⟩
def acP{b n:Nat}:∀{cl:List (Nat×Nat×LK)}{fr:List SV},cl.length<=fr.length->vJ b n cl fr=none->cl.any (λc=>c.1==b&&c.2.1==n)=false
 |[],fr,_,h=>rfl
 |_::_,[],Z,h=>by simp at Z
 |(V,t,k)::r,x::xs,Z,h=>by
  simp only[vJ] at h;split at h;cases h;rename_i X;simp only[List.any_cons,axo];exact⟨by simpa using X,acP (by simpa using Z) h⟩
def acQ(Z:du)(ds:List Nat)(fr:List SV):∀(l:List SV)(n i:Nat),(vK Z ds fr n l)[i]?=(l[i]?).map λx=>(qi (n+i) Z.tm fr).getD (if ds.contains (n+i) then .any else x)
 |[],n,i=>by simp[vK]
 |x::xs,n,0=>by simp[vK]
 |x::xs,n,i+1=>by
  simp only[vK,axh];rw[acQ Z ds fr xs (n+1) i,show n+1+i=n+(i+1) by omega]
def acR(Z:du)(fr:List SV)(b:Nat):∀(l:List SV)(n i:Nat),(Ch Z fr b n l)[i]?=(l[i]?).map λx=>(vJ b (n+i) Z.cl fr).getD x
 |[],n,i=>by simp[Ch]
 |x::xs,n,0=>by simp[Ch]
 |x::xs,n,i+1=>by
  simp only[Ch,axh];rw[acR Z fr b xs (n+1) i,show n+1+i=n+(i+1) by omega]
def Ju(Z:du)(fr:List SV):∀(l:aX)(n i:Nat),bA (o8 Z fr n l) i=(bA l i).map λx=>(x.1,Ch Z fr (n+i) 0 x.2)
 |[],n,i=>by simp[o8,bP]
 |none::xs,n,0=>by simp[o8,bP]
 |some (t,cs)::xs,n,0=>by simp[o8,bP]
 |none::xs,n,i+1=>by
  have:=Ju Z fr xs (n+1) i;rw[show n+1+i=n+(i+1) by omega] at this;simpa[o8,bP] using this
 |some (t,cs)::xs,n,i+1=>by
  have:=Ju Z fr xs (n+1) i;rw[show n+1+i=n+(i+1) by omega] at this;simpa[o8,bP] using this
def Nr(Z:du)(fr:List SV):∀(l:aX)(n:Nat),(o8 Z fr n l).length=l.length
 |[],n=>rfl
 |none::xs,n=>by simp[o8,Nr Z fr xs]
 |some (t,cs)::xs,n=>by simp[o8,Nr Z fr xs]
def acS(Z:du)(ds:List Nat)(fr:List SV):∀(l:List SV)(n:Nat),(vK Z ds fr n l).length=l.length
 |[],n=>rfl
 |x::xs,n=>by simp[vK,acS Z ds fr xs]
def Uj{R:du}{ds:List Nat}:∀{l X:List SV}{n:Nat},tR R ds n l X=true->l.length=X.length/\∀(i:Nat)(x y:SV),l[i]?=some x->X[i]?=some y->R.tm.any (·.1==n+i)=true\/ds.contains (n+i)=true\/x=y
 |[],[],n,_=>⟨rfl,λi x y h _=>by simp at h⟩
 |[],_::_,n,h=>by simp[tR] at h
 |_::_,[],n,h=>by simp[tR] at h
 |x::xs,y::ys,n,h=>by
  simp only[tR,awF,aw9] at h;obtain⟨Q,P⟩:=Uj h.2;refine⟨by simp[Q],λi O N V U=> ?_⟩;cases i with
  |zero=>
   simp only[axz,awJ] at V U;subst V U;rcases h.1 with(Z|Z)|Z;exact .inl Z;exact .inr (.inl Z);exact .inr (.inr (SV.bl _ _ Z))
  |succ i=>
   have:=P i O N (by simpa using V) (by simpa using U);rw[show n+(i+1)=n+1+i by omega];exact this
def acT{R:du}{b:Nat}:∀{l Z:List SV}{n:Nat},Ci R b n l Z=true->l.length=Z.length/\∀(i:Nat)(x y:SV),l[i]?=some x->Z[i]?=some y->R.cl.any (λc=>c.1==b&&c.2.1==n+i)=true\/x=y
 |[],[],n,_=>⟨rfl,λi x y h _=>by simp at h⟩
 |[],_::_,n,h=>by simp[Ci] at h
 |_::_,[],n,h=>by simp[Ci] at h
 |x::xs,y::ys,n,h=>by
  simp only[Ci,awF,aw9] at h;obtain⟨Q,P⟩:=acT h.2;refine⟨by simp[Q],λi O N X V=> ?_⟩;cases i with
  |zero=>
   simp only[axz,awJ] at X V;subst X V;rcases h.1 with U|U;exact .inl U;exact .inr (SV.bl _ _ U)
  |succ i=>
   have:=P i O N (by simpa using X) (by simpa using V);rw[show n+(i+1)=n+1+i by omega];exact this
def Uk{R:du}:∀{l X:aX}{n:Nat},ol R n l X=true->∀(i:Nat)(t:TypeId)(cs:List SV),bA l i=some (t,cs)->∃cs',bA X i=some (t,cs')/\Ci R (n+i) 0 cs cs'=true
 |[],X,n,_,i,t,cs,h=>by simp[bP] at h
 |none::xs,[],n,Z,i,t,cs,h=>by simp[ol] at Z
 |none::xs,y::ys,n,Z,0,t,cs,h=>by simp[bP] at h
 |none::xs,y::ys,n,Z,i+1,t,cs,h=>by
  simp only[ol] at Z;obtain⟨cs',V,U⟩:=Uk Z i t cs (by simpa[bP] using h);exact⟨cs',by simpa[bP] using V,by rw[show n+(i+1)=n+1+i by omega];exact U⟩
 |some x::xs,[],n,Z,i,t,cs,h=>by simp[ol] at Z
 |some x::xs,none::ys,n,Z,i,t,cs,h=>by simp[ol] at Z
 |some x::xs,some y::ys,n,Z,0,t,cs,h=>by
  simp only[ol,awF,beq_iff_eq] at Z;simp only[bP,axz,awJ] at h⊢;subst h;exact⟨y.2,by rw[show(t:TypeId)=y.1 from Z.1.1],Z.1.2⟩
 |some x::xs,some y::ys,n,Z,i+1,t,cs,h=>by
  simp only[ol,awF] at Z;obtain⟨cs',V,U⟩:=Uk Z.2 i t cs (by simpa[bP] using h);exact⟨cs',by simpa[bP] using V,by rw[show n+(i+1)=n+1+i by omega];exact U⟩
def acU{Z:du}{q n:Nat}{k:LK}(X:Z.tm[q]?=some (n,k)):Z.ks[q]?=some k:=by
 have V:q<Z.tm.length:=(awG.1 X).1;unfold du.ks;rw[awI (by simpa using V),awL,X];rfl
def acV{Z:du}{X:S}{q n:Nat}{k:LK}{y:SV}(V:Z.tm[q]?=some (n,k))(U:X.tmps[n]?=some y):(gM Z X)[q]?=some y:=by
 have R:q<Z.tm.length:=(awG.1 V).1;unfold gM;rw[awI (by simpa using R),awL,V];simp[U]
def ya{β:List Nat}{n k:Nat}(h:k<n):ad (β.take n) k=ad β k:=by simp[ad,h]
def ane(Z:du)(s:S):(fy Z s).length=s.rs.length:=vT _ _ _
def acW:∀{l X:List RK},tQ l X=true->∀(k:Nat)(e:RK),l[k]?=some e->∃V,X[k]?=some V/\(e=.dead\/V=e)
 |[],X,_,k,e,h=>by simp at h
 |x::xs,[],h,_,_,_=>by simp[tQ] at h
 |x::xs,y::ys,h,0,e,Z=>by
  simp only[tQ,awF,aw9,decide_eq_true_eq] at h;simp at Z;subst Z;exact⟨y,rfl,h.1.imp id Eq.symm⟩
 |x::xs,y::ys,h,k+1,e,Z=>by
  simp only[tQ,awF] at h;exact acW h.2 k e (by simpa using Z)
def Ns:∀{ks:List LK}{vs:List SV}{q:Nat}{e:TypeId}{k:Nat},ks[q]?=some (.ref (.own e))->vs[q]?=some (.ref (.v k))->k∈xF ks vs
 |[],vs,q,e,k,h,_=>by simp at h
 |_::_,[],q,e,k,_,h=>by simp at h
 |V::ks,v::vs,0,e,k,Z,X=>by simp at Z X;subst Z X;simp[xF,Mu]
 |V::ks,v::vs,q+1,e,k,Z,X=>by
  simp only[xF,awR];right;exact Ns (q:=q) (by simpa using Z) (by simpa using X)
def Nt:∀{a b:List Nat},jJ (a++b)=true->jJ b=true/\∀x∈a,x∉b
 |[],b,h=>⟨h,by simp⟩
 |x::a,b,h=>by
  simp only[awV,jJ,awF] at h;obtain⟨X,V⟩:=Nt h.2;refine⟨X,λy Z=> ?_⟩;rcases awP.1 Z with rfl|Z;intro U;have:=h.1;simp[U] at this;exact V y Z
def acX:∀{ks:List LK}{vs:List SV}{q X:Nat}{e U:TypeId}{k Z:Nat},jJ (xF ks vs)=true->ks[q]?=some (.ref (.own e))->vs[q]?=some (.ref (.v k))->ks[X]?=some (.ref (.own U))->vs[X]?=some (.ref (.v Z))->q≠X->k≠Z
 |[],vs,q,X,e,U,k,Z,_,h,_,_,_,_=>by simp at h
 |_::_,[],q,X,e,U,k,Z,_,_,h,_,_,_=>by simp at h
 |N::ks,v::vs,0,0,e,U,k,Z,_,_,_,_,_,h=>absurd rfl h
 |N::ks,v::vs,0,X+1,e,U,k,Z,V,R,Q,P,O,_=>by
  simp at R Q;subst R Q;simp only[xF] at V;have:=(Nt V).2 k (by simp[Mu]);intro M;subst M;exact this (Ns (q:=X) (by simpa using P) (by simpa using O))
 |N::ks,v::vs,q+1,0,e,U,k,Z,V,R,Q,P,O,_=>by
  simp at P O;subst P O;simp only[xF] at V;have:=(Nt V).2 Z (by simp[Mu]);intro M;subst M;exact this (Ns (q:=q) (by simpa using R) (by simpa using Q))
 |N::ks,v::vs,q+1,X+1,e,U,k,Z,V,R,Q,P,O,L=>by
  simp only[xF] at V;exact acX (Nt V).1 (by simpa using R) (by simpa using Q) (by simpa using P) (by simpa using O) (by omega)
def ao.head{ty:Ty}{Z:du}{ds:List Nat}{Q:S}{ρ1:aa}{β1:List Nat}{a1:Act}{W1:World}(aO:s.bd=true)(ei:ρ.i.length=s.ni)(eb:ρ.b.length=s.nb)(er:ρ.r.length=s.rs.length)
  (L:bi s ρ β Q ρ1 β1)(E:ao S0 w0 D ty β1 ρ1 Q a1 W1)(hT:tR Z ds 0 s.tmps Q.tmps=true)(hB:ol Z 0 s.boxes Q.boxes=true)(hf:oo Q Z.ks (gM Z Q)=true)
  (hR:tQ (fy Z s) Q.rs=true)(hO:Cg (fy Z s) (Cf Z Q)=true)(b3:Q.pd=s.pd):
  ao S0 w0 D ty (β1.take s.boxes.length) (ρ.ext ((gM Z Q).map (SV.xv ρ1))) (mN Z ds s) a1 W1:=by
 obtain⟨b4,b5⟩:SV.ck ρ.i.length ρ.b.length ρ.r.length (aA s.boxes) s.tmps=true/\SV.mM ρ.i.length ρ.b.length ρ.r.length (aA s.boxes) s.boxes=true:=by
  simp only[S.bd,awF] at aO;rw[ei,eb,er];exact aO
 have af:=Ui (ρ1:=ρ1) hf;have ag:ρ.r.length=(fy Z s).length:=by rw[ane];exact er
 obtain⟨cI,a4⟩:=acK hf;generalize a7:(gM Z Q).map (SV.xv ρ1)=xs at*;obtain⟨e1,e2,e3,e4⟩:=sc Z.ks {s with al:=s.al+1,rs:=fy Z s};obtain⟨l1,l2,l3⟩:=ud Z.ks xs {s with al:=s.al+1,rs:=fy Z s} ρ af ei eb ag;have bb:=xT s.boxes ρ xs β;have b6:=Np (β:=β1.take s.boxes.length) Z.ks xs {s with al:=s.al+1,rs:=fy Z s} ρ af ei eb ag;have bf:=acL Z.ks {s with al:=s.al+1,rs:=fy Z s};have bk:Z.ks.length=Z.tm.length+Z.cl.length:=by simp[du.ks]
 have a0:∀i,aA (o8 Z (((({s with al:=s.al+1,rs:=fy Z s}:S).bz Z.ks).1).drop Z.tm.length) 0 s.boxes) i=true->aA s.boxes i=true/\i<s.boxes.length:=by
  intro i hi;unfold aA at hi;rw[Ju] at hi;have:(bA s.boxes i).isSome=true:=by simpa using hi
  obtain⟨b,R⟩:=awZ.1 this;exact⟨this,(awG.1 (gw.1 R)).1⟩
 have b7:∀v:SV,v.bd ρ.i.length ρ.b.length ρ.r.length (aA s.boxes)=true->v.den (ρ.ext xs) (β1.take s.boxes.length)=v.den ρ1 β1:=by
  intro v I;rw[L.ext.den I];refine SV.cu bb.agree (λk H=> ?_) v I;have a2:k<s.boxes.length:=by
   obtain⟨b,R⟩:=awZ.1 H;exact(awG.1 (gw.1 R)).1
  rw[ya a2];exact L.ext.ad k H
 have b8:∀(q:Nat)(k:LK)(v w:SV),Z.ks[q]?=some k->(gM Z Q)[q]?=some w->(({s with al:=s.al+1,rs:=fy Z s}:S).bz Z.ks).1[q]?=some v->v.den (ρ.ext xs) (β1.take s.boxes.length)=w.den ρ1 β1/\v≠ .any:=by
  intro q k v w H m I;have G:xs[q]?=some (w.xv ρ1):=by rw[<-a7];simp[m]
  obtain⟨X,V⟩:=b6 q k _ v H G I;exact⟨X.trans (acJ (β1:=β1) (a4 q k w H m)).1,V⟩
 have ca:∀v:SV,v.bd ρ.i.length ρ.b.length ρ.r.length (aA s.boxes)=true->v.eE (ρ.ext xs) (β1.take s.boxes.length)=v.eE ρ1 β1:=by
  intro v I;rw[Tj L.ext.agree L.ext.ad v I];refine Tj bb.agree (λk H=> ?_) v I;have a2:k<s.boxes.length:=by
   obtain⟨b,R⟩:=awZ.1 H;exact(awG.1 (gw.1 R)).1
  rw[ya a2];exact L.ext.ad k H
 have cc:∀(q:Nat)(k:LK)(v w:SV),Z.ks[q]?=some k->(gM Z Q)[q]?=some w->(({s with al:=s.al+1,rs:=fy Z s}:S).bz Z.ks).1[q]?=some v->v.eE (ρ.ext xs) (β1.take s.boxes.length)=w.eE ρ1 β1:=by
  intro q k v w H m I;have G:xs[q]?=some (w.xv ρ1):=by rw[<-a7];simp[m]
  rw[Nq (β:=β1.take s.boxes.length) Z.ks xs {s with al:=s.al+1,rs:=fy Z s} ρ af ei eb ag q k _ v H G I];exact anc (a4 q k w H m)
 have br:∀(k:Nat)(e:RK)(rv:RV),(fy Z s)[k]?=some e->ρ.r[k]?=some rv->∃e1,Q.rs[k]?=some e1/\ρ1.r[k]?=some rv/\(e=.dead\/e1=e):=by
  intro k e rv X V;have H:k<ρ.r.length:=(awG.1 V).1;have ch:k<ρ1.r.length:=ayo H L.ext.lr;have cp:ρ1.r[k]?=some rv:=by
   have:=L.ext.agree.r k H;simp only[aa.rv,awK,V,axi] at this;rw[awH ch] at this⊢;simpa using this
  obtain⟨U,B,h4⟩:=acW hR k e X;exact⟨U,B,cp,h4⟩
 have bs:∀(q:Nat)(e:RK)(rv:RV),Z.ks[q]?=some (.ref e)->xs[q]?=some (.r rv)->(∃N:Nat,(gM Z Q)[q]?=some (.ref (.v N))/\Q.rs[N]?=some e/\ρ1.r[N]?=some rv)\/(rv=.mk (.slice none 0 0) []/\∃t sh,e=.sl t\/e=.own t\/e=.mr sh):=by
  intro q e rv X V;rw[<-a7,awL] at V;cases m:(gM Z Q)[q]? with
  |none=>rw[m] at V;cases V
  |some w=>
   rw[m] at V;simp only[awO,awJ] at V;have a5:=a4 q _ w X m;unfold xG at a5;split at a5;rename_i A;cases A;rename_i A;cases A;rename_i U k A;cases A;simp only[SV.xv,XV.r.injEq] at V;have bt:Q.rs[k]?=some e:=by simpa using a5
   refine .inl ⟨k,rfl,bt, ?_⟩;rw[<-V];exact qu E bt;rename_i U A;cases A;simp only[SV.xv,XV.r.injEq,RE.rv] at V;exact .inr ⟨V.symm,_,⟨0,0,0,false,false⟩,.inl rfl⟩;rename_i U A;cases A;simp only[SV.xv,XV.r.injEq,RE.rv] at V;exact .inr ⟨V.symm,_,⟨0,0,0,false,false⟩,.inr (.inl rfl)⟩;rename_i U A;cases A;simp only[SV.xv,XV.r.injEq,RE.rv] at V;exact .inr ⟨V.symm,0,_,.inr (.inr rfl)⟩;cases a5
 simp only[Cg,awF] at hO;obtain⟨ct,cv⟩:=hO;have bx:∀(q:Nat)(e:TypeId)(N:Nat),Z.ks[q]?=some (.ref (.own e))->(gM Z Q)[q]?=some (.ref (.v N))->∀U,(fy Z s)[N]?=some U->U=.dead:=by
  intro q e N X V U B;have:=awU.1 cv N (Ns X V);simp only[aw9,decide_eq_true_eq] at this;rcases this with h4|h4;have:=(awG.1 B).1;omega;rw[h4] at B;cases B;rfl
 refine⟨⟨E.mem.base, ?_, ?_, ?_, ?_⟩, ?_,l1,l2,l3, ?_, ?_, ?_, ?_⟩;intro i hi;obtain⟨X,V⟩:=a0 i hi;rw[ya V];exact E.mem.own i (L.mono i X);intro i j hi hj;obtain⟨X,V⟩:=a0 i hi;obtain⟨B,h4⟩:=a0 j hj;rw[ya V,ya h4];exact E.mem.inj i j (L.mono i X) (L.mono j B);intro i t cs h;simp only[mN] at h;rw[Ju,axf] at h;cases R:bA s.boxes i with
 |none=>rw[R] at h;cases h
 |some x=>
  obtain⟨t0,a8⟩:=x;rw[R] at h;simp only[awO,awJ,ayl] at h;obtain⟨rfl,rfl⟩:=h;obtain⟨a6,b0,b1⟩:=Uk hB i t0 a8 R;rw[axf] at b1;obtain⟨cx,a9⟩:=acT b1;have a2:i<s.boxes.length:=(awG.1 (gw.1 R)).1;rw[ya a2,E.mem.box i t0 a6 b0];congr 2;apply axd;intro j;rw[SV.b9,SV.b9,awL,awL,acR,axf];cases G:a8[j]? with
  |none=>
   have:a6[j]?=none:=by
    rw[axA] at G⊢;omega
   simp[this]
  |some x=>
   obtain⟨y,f⟩:∃y,a6[j]?=some y:=by
    have:j<a8.length:=(awG.1 G).1;exact⟨a6[j],awH (by omega)⟩
   rw[f];simp only[awO,awJ];cases hp:vJ i j Z.cl ((({s with al:=s.al+1,rs:=fy Z s}:S).bz Z.ks).1.drop Z.tm.length) with
   |some v=>
    obtain⟨q,k,hq,I⟩:=acO hp;rw[axl] at I;simp only[axi];refine(cc (Z.tm.length+q) k v y ?_ ?_ I).symm;simp[du.ks,awM,hq];simp[gM,awM,hq,aa7,b0,f]
   |none=>
    have hn:=acP (by rw[axW,bf,bk];omega) hp;rcases a9 j x y G f with X|X;rw[axf] at X;rw[hn] at X;cases X;subst X;simp only[azc];exact(ca x (qn (oz b5 R) G)).symm
 have key:=CD (PP:=λe rv=>aT W1 ty e rv/\∀b,cn ty e rv b->∀i,aA s.boxes i=true->ad β1 i≠b) Z.ks xs {s with al:=s.al+1,rs:=fy Z s} ρ af ag ?_ ?_;intro k e rv X V;obtain⟨B,h4⟩:=key k e rv X V;refine⟨B,λb R i hi=> ?_⟩;obtain⟨h5,h6⟩:=a0 i hi;rw[ya h6];exact h4 b R i h5
 
 intro q e rv X V;rcases bs q e rv X V with⟨N,_,u,P⟩|⟨rfl,t,sh,g⟩;have:=E.mem.ref N e rv u P;exact⟨this.1,λb R i hi=>this.2 b R i (L.mono i hi)⟩;have hn:∀b,¬cn ty (.sl t) (.mk (.slice none 0 0) []) b:=λb R=>by
  cases R with
  |deep e v rows i j row c z k b J=>simp at J
 rcases g with rfl|rfl|rfl;exact⟨xW none 0,λb R=>(hn b R).elim⟩;refine⟨aT.own t _ (xW none 0) (λl c h=>by cases h;rfl),λb R=> ?_⟩;cases R with
 |own e rv b R=>exact(hn b R).elim
 exact⟨aT.mr sh [] (λi row h=>by simp at h) (λi j row c k h=>by simp at h) (λi j row c h=>by simp at h) (λi j row c z k h=>by simp at h),λb R=>by cases R⟩;intro k e rv X V;obtain⟨e1,J,u,P⟩:=br k e rv X V;have:=E.mem.ref k e1 rv J u;rcases P with rfl|rfl;exact⟨aT.dead _ (E0 this.1),λb R=>by cases R⟩;exact⟨this.1,λb R i hi=>this.2 b R i (L.mono i hi)⟩;simp[mN,Nr];have:=L.len;rw[E.dX];omega;have X:=E.bT;rw[b3,L.ext.agree.y,<-Fm xs ρ] at X;simp only[mN];rw[Uf];exact X;simp only[mN,acS];rw[E.size,(Uj hT).1];intro t sv h;simp only[mN] at h;rw[acQ,axf] at h;cases G:s.tmps[t]? with
 |none=>rw[G] at h;cases h
 |some x=>
  rw[G] at h;simp only[awO,awJ] at h;obtain⟨cx,a9⟩:=Uj hT;obtain⟨y,f⟩:∃y,Q.tmps[t]?=some y:=by
   have:t<s.tmps.length:=(awG.1 G).1;exact⟨Q.tmps[t],awH (by omega)⟩
  cases hp:qi t Z.tm ((({s with al:=s.al+1,rs:=fy Z s}:S).bz Z.ks).1) with
  |some v=>
   rw[hp] at h;simp only[axi] at h;subst h;obtain⟨q,k,hq,I⟩:=acM hp;have hc:=(b8 q k v y (acU hq) (acV hq f) I);rcases E.tmps t y f with X|X;subst X;have:=a4 q k .any (acU hq) (acV hq f);rcases k with _|_|(_|_|_|_|_)<;>simp[xG] at this;right;rw[hc.1];exact X
  |none=>
   rw[hp] at h;simp only[azc] at h;split at h;exact .inl h.symm;rename_i cy;subst h;have hn:=acN (by rw[bf,bk];omega) hp;rcases a9 t x y G f with X|X|X;rw[axf] at X;rw[hn] at X;cases X;rw[axf] at X;exact absurd X cy;subst X;rcases E.tmps t x f with V|V;exact .inl V;right;rw[b7 x (qn b4 G)];exact V
 intro k e rv b X V B;simp only[mN] at X;have key:∃N:Nat,Q.rs[N]?=some (RK.own e)/\ρ1.r[N]?=some rv/\∀(O:Nat)(U:RK)(M:RV),O≠k->(mN Z ds s).rs[O]?=some U->(ρ.ext xs).r[O]?=some M->tV ty U M b->∃F:Nat,F≠N/\Q.rs[F]?=some U/\ρ1.r[F]?=some M:=by
  have other:∀(O:Nat)(U:RK)(M:RV),(mN Z ds s).rs[O]?=some U->(ρ.ext xs).r[O]?=some M->tV ty U M b->
    ((fy Z s)[O]?=some U/\Q.rs[O]?=some U/\ρ1.r[O]?=some M)\/∃q F:Nat,Z.ks[q]?=some (.ref U)/\(gM Z Q)[q]?=some (.ref (.v F))/\Q.rs[F]?=some U/\ρ1.r[F]?=some M/\O=(fy Z s).length+z8 (Z.ks.take q):=by
   intro O U M J u P;rcases Fo Z.ks xs {s with al:=s.al+1,rs:=fy Z s} ρ af ag O U M J u with⟨n,d⟩|⟨q,n,d,p3⟩;obtain⟨e1,q1,q2,q3⟩:=br O U M n d;rcases q3 with rfl|rfl;rcases P with P|⟨⟨t,ht⟩,_⟩;cases P;cases ht;exact .inl ⟨n,q1,q2⟩;rcases bs q U M n d with⟨N,q1,q2,q3⟩|⟨rfl,t,sh,q⟩;exact .inr ⟨q,N,n,q1,q2,q3,p3⟩;exfalso;rcases P with P|⟨_,P⟩;rcases q with rfl|rfl|rfl;cases P with
   |deep e v rows i j row c z k b J=>simp at J
   cases P with
   |own e rv b P=>cases P with
    |deep e v rows i j row c z k b J=>simp at J
   cases P;simp[RV.iC] at P
  rcases other k (.own e) rv X V (.inr ⟨⟨e,rfl⟩,B⟩) with⟨n,d,p3⟩|⟨q,N,n,d,p3,p4,p5⟩;refine⟨k,d,p3,λO U M g0 J u P=> ?_⟩;rcases other O U M J u P with⟨r1,o,C⟩|⟨q',F,r1,o,C,r4,r5⟩;exact⟨O,g0,o,C⟩;refine⟨F,λa3=> ?_,C,r4⟩;subst a3;rw[d] at C;cases C;have:=bx q' e F r1 o _ n;cases this;refine⟨N,p3,p4,λO U M g0 J u P=> ?_⟩;rcases other O U M J u P with⟨r1,o,C⟩|⟨q',F,r1,o,C,r4,r5⟩;refine⟨O,λa3=> ?_,o,C⟩;subst a3;rw[p3] at o;cases o;have:=bx q e O n d _ r1;cases this;refine⟨F,λa3=> ?_,C,r4⟩;subst a3;rw[p3] at C;cases C;by_cases b2:q=q';subst b2;exact g0 (by rw[r5,p5]);exact acX ct n d r1 o b2 rfl
 obtain⟨N,J,u,P⟩:=key;have t:=E.cO N e rv b J u B;refine⟨t.own,t.mem,λi hi=> ?_,λO U M q1 q2 q3 q4=> ?_,t.inner⟩;obtain⟨h5,h6⟩:=a0 i hi;rw[ya h6];exact t.box i (L.mono i h5);obtain⟨F,r1,o,C⟩:=P O U M q1 q2 q3 q4;exact t.alone F U M r1 o C q4
end
structure jr(p:Sp)(cf:bc):Prop where
 pt:p.ty=cf.ty
 Ul:p.P.follows .mixedOrders=true
 jt:fA p.P cf.ty
 B8:T6 p.P cf
 Ab:∀g,(cf.sig g).isSome=true\/(cf.inl g).isSome=true->∀args W,(callFunc g args).run p.P W=.ok (.enter g args) W
 Nu:∀ch W b o,p.w0.heap.size<=b->p.R (.panicked ch) W->p.R (.panicked ch) (W.putObj b o)
 inl:∀g c nt rs,cf.inl g=some (c,nt,rs)->∃fn,p.P.funcs[g]?=some fn/\fn.body=some c/\fn.ntmps=nt/\fn.results.toList=rs
section
variable{p:Sp}{cf:bc}
def ao.acY{S0:List Nat}{w0:World}{D:bw}{β:List Nat}{ρ:aa}{s:S}{a:Act}{W:World}(R:ao S0 w0 D cf.ty β ρ s a W){t:Nat}{b:BE}{v:Bool}(X:s.tmps.getD t .any=.bool b)(U:b.den ρ=v):
  ao S0 w0 D cf.ty β ρ {s with tmps:=s.tmps.set t (.bool (.c v))} a W:=by
 refine⟨R.mem,R.dX,R.ei,R.eb,R.er,R.bT,by simpa using R.size,λi Q h=> ?_,R.cO⟩;simp only[axC] at h;split at h;rename_i hi;subst hi;split at h;rename_i V;cases h;have P:s.tmps[t]?=some (.bool b):=by
  rw[awK,awH V] at X;rw[awH V];simpa using X
 rcases R.tmps t _ P with Z|Z;cases Z;right;rw[Z];simp[SV.den,BE.den,U];cases h;exact R.tmps i Q h
end
end
section
mutual
def IE.cA{ni nb V U R Q:Nat}(Z:ni<=U)(X:nb<=R)(W:V<=Q):∀(e:IE),e.bd ni nb V=true->e.bd U R Q=true
 |.c n,_=>IE.aG.1 _
 |.v k,h=>by simp[IE.aG] at h⊢;omega
 |.bin o k a b,h=>by simp[IE.aG] at h⊢;exact⟨IE.cA Z X W a h.1,IE.cA Z X W b h.2⟩
 |.conv k a,h=>by simp[IE.aG] at h⊢;exact IE.cA Z X W a h
 |.len r,h=>by simp[IE.aG] at h⊢;exact RE.cA Z X W r h
 |.mm m a b,h=>by simp[IE.aG] at h⊢;exact⟨IE.cA Z X W a h.1,IE.cA Z X W b h.2⟩
 |.bY b x y,h=>by simp[IE.aG] at h⊢;exact⟨⟨BE.cA Z X W b h.1.1,IE.cA Z X W x h.1.2⟩,IE.cA Z X W y h.2⟩
 |.cell r i j,h=>by simp[IE.aG] at h⊢;exact⟨RE.cA Z X W r h.1,IE.cA Z X W i h.2⟩
 |.ku r i,h=>by simp[IE.aG] at h⊢;exact⟨RE.cA Z X W r h.1,IE.cA Z X W i h.2⟩
 |.look r n a b c j,h=>by simp[IE.aG] at h⊢;exact⟨⟨⟨RE.cA Z X W r h.1.1.1,IE.cA Z X W a h.1.1.2⟩,IE.cA Z X W b h.1.2⟩,IE.cA Z X W c h.2⟩
def BE.cA{ni nb V U R Q:Nat}(Z:ni<=U)(X:nb<=R)(W:V<=Q):∀(e:BE),e.bd ni nb V=true->e.bd U R Q=true
 |.c n,_=>BE.aG.1 _
 |.v k,h=>by simp[BE.aG] at h⊢;omega
 |.cmp o a b,h=>by simp[BE.aG] at h⊢;exact⟨IE.cA Z X W a h.1,IE.cA Z X W b h.2⟩
 |.not a,h=>by simp[BE.aG] at h⊢;exact BE.cA Z X W a h
 |.and a b,h=>by simp[BE.aG] at h⊢;exact⟨BE.cA Z X W a h.1,BE.cA Z X W b h.2⟩
 |.beq a b,h=>by simp[BE.aG] at h⊢;exact⟨BE.cA Z X W a h.1,BE.cA Z X W b h.2⟩
 |.bY b x y,h=>by simp[BE.aG] at h⊢;exact⟨⟨BE.cA Z X W b h.1.1,BE.cA Z X W x h.1.2⟩,BE.cA Z X W y h.2⟩
 |.cell r i j,h=>by simp[BE.aG] at h⊢;exact⟨RE.cA Z X W r h.1,IE.cA Z X W i h.2⟩
 |.seq a b,h=>by simp[BE.aG] at h⊢;exact⟨RE.cA Z X W a h.1,RE.cA Z X W b h.2⟩
 |.look r n a b c j,h=>by simp[BE.aG] at h⊢;exact⟨⟨⟨RE.cA Z X W r h.1.1.1,IE.cA Z X W a h.1.1.2⟩,IE.cA Z X W b h.1.2⟩,IE.cA Z X W c h.2⟩
 |.has r n a b c,h=>by simp[BE.aG] at h⊢;exact⟨⟨⟨RE.cA Z X W r h.1.1.1,IE.cA Z X W a h.1.1.2⟩,IE.cA Z X W b h.1.2⟩,IE.cA Z X W c h.2⟩
def RE.cA{ni nb Z X W V:Nat}(U:ni<=X)(R:nb<=W)(Q:Z<=V):∀(e:RE),e.bd ni nb Z=true->e.bd X W V=true
 |.v k,h=>by simp[RE.aG] at h⊢;omega
 |.cell r i j k,h=>by simp[RE.aG] at h⊢;exact⟨RE.cA U R Q r h.1,IE.cA U R Q i h.2⟩
 |.k v,_=>RE.aG.2.2 _
end
def Nv{ty:Ty}{s s':S}:∀{r:RE}{e:RK},(∀(k:Nat)(e:RK),r.root=some k->s.rs[k]?=some e->∃Z,s'.rs[k]?=some Z/\Z.rd=e.rd)->e≠ .ar->r.kind ty s=e->r.kind ty s'=e
 |.v k,e,aM,X,h=>by
  simp only[RE.kind,awK] at h⊢;cases W:s.rs[k]? with
  |none=>rw[W] at h;exact absurd (show e=.ar from h.symm) X
  |some q=>
   rw[W] at h;obtain⟨Z,V,U⟩:=aM k q rfl W;rw[V];simp only[axi] at h⊢;rw[U];exact h
 |.cell r i j Q,e,aM,X,h=>by
  simp only[RE.kind] at h⊢;split at h;rename_i Z R;rw[Nv (r:=r) aM (by simp) R];exact h;exact absurd h.symm X
 |.k v,e,aM,X,h=>by cases v<;>exact h
def yb{ty:Ty}{s s':S}(h:s.rs=s'.rs):∀r:RE,r.kind ty s=r.kind ty s'
 |.v k=>by simp only[RE.kind,h]
 |.cell r i j k=>by simp only[RE.kind,yb h r]
 |.k v=>by cases v<;>rfl
def v6(ty:Ty)(s s':S):Prop:=∀(r:RE)(e:RK),e≠ .ar->r.kind ty s=e->r.kind ty s'=e
def v6.ue{ty:Ty}{s s':S}(h:s'.rs=s.rs):v6 ty s s':=λr e _ Z=>by rw[yb h];exact Z
def anf{ty:Ty}{s s':S}(aM:v6 ty s s'){c:CT}{x y:SV}{e:BE}(h:Ep ty s c x y=some e):Ep ty s' c x y=some e:=by
 unfold Ep at h⊢;split at h;exact h;exact h;split at h;rename_i Z;rw[if_pos ⟨aM _ _ (by simp) Z.1,aM _ _ (by simp) Z.2⟩];exact h;cases h;cases h
def acZ{ty:Ty}{s s':S}(aM:v6 ty s s'):∀{cs:List CT}{x y:List SV}{e:BE},nj ty s cs x y=some e->nj ty s' cs x y=some e
 |[],[],[],e,h=>h
 |c::cs,x::xs,y::ys,e,h=>by
  simp only[nj] at h⊢;split at h;rename_i a b Z X;rw[anf aM Z,acZ aM X];exact h;cases h
 |[],[],_::_,e,h=>by simp[nj] at h
 |[],_::_,_,e,h=>by simp[nj] at h
 |_::_,[],_,e,h=>by simp[nj] at h
 |_::_,_::_,[],e,h=>by simp[nj] at h
def ac0{ty:Ty}{s s':S}(aM:v6 ty s s'){Z:Option TI}{x y:List SV}{e:BE}(h:Er ty s Z x y=some e):Er ty s' Z x y=some e:=by
 unfold Er at h⊢;split at h;exact acZ aM h;cases h
section
variable{ty:Ty}{gl:List (Nat×Nat×Nat)}{ρ:aa}
def Nw{s s':S}{op:Op}{r:PR}(X:∀x∈op.operands.toList,s'.ev gl x=s.ev gl x)(U:looks op=true->vM op=false->v6 ty s s')
  (B:∀t x r w i off,op=.load t x->s.ev gl x=.el r w i off->∀e,e≠ .ar->r.kind ty s=e->r.kind ty s'=e)
  (I:∀i,vC gl s op=some i->bA s'.boxes i=bA s.boxes i)(h:bq ty gl s op=r)(W:∀w,r≠ .no w):bq ty gl s' op=r:=by
 cases op with
 |move x=>have Z:=X x (by simp[Op.operands]);simp only[bq] at h⊢;rw[Z];exact h
 |assign x=>have Z:=X x (by simp[Op.operands]);simp only[bq] at h⊢;rw[Z];exact h
 |pick c x y=>
  have Z:=X c (by simp[Op.operands]);have R:=X x (by simp[Op.operands]);have H:=X y (by simp[Op.operands]);simp only[bq] at h⊢;rw[Z,R,H];exact h
 |load t x=>
  have Z:=X x (by simp[Op.operands]);simp only[bq] at h⊢;rw[Z];split at h;rename_i E i off P Q;rw[I4 (I i (by simp only[vC,Q]))];exact h;rename_i E r w i off P Q;split at h;rename_i e V;rw[B t x r w i off rfl Q _ (by simp) V];exact h;exact absurd h.symm (W _);rename_i E e ks vs P Q;have O:((tN vs).bind λi=>iP s'.boxes i)=(tN vs).bind λi=>iP s.boxes i:=by
   cases A:tN vs with
   |none=>rfl
   |some i=>exact I4 (I i (by simp only[vC,Q];exact A))
  rw[O];exact h;exact absurd h.symm (W _)
 |fieldAddr t x f=>have Z:=X x (by simp[Op.operands]);simp only[bq] at h⊢;rw[Z];exact h
 |field t x f=>have Z:=X x (by simp[Op.operands]);simp only[bq] at h⊢;rw[Z];exact h
 |indexAddr t x y=>
  have Z:=X x (by simp[Op.operands]);have R:=X y (by simp[Op.operands]);simp only[bq] at h⊢;rw[Z,R];split at h;exact h;exact h;exact h;split at h;rename_i P V;rw[(U rfl rfl) _ _ (by simp) V,P];exact h;exact absurd h.symm (W _);exact h;exact h;exact absurd h.symm (W _)
 |index t x y=>
  have Z:=X x (by simp[Op.operands]);have R:=X y (by simp[Op.operands]);simp only[bq] at h⊢;rw[Z,R];split at h;exact h;exact h;split at h;rename_i V;rw[(U rfl rfl) _ _ (by simp) V];exact h;exact absurd h.symm (W _);exact absurd h.symm (W _)
 |binOp op t x y t2=>
  have Z:=X x (by simp[Op.operands]);have R:=X y (by simp[Op.operands]);simp only[bq] at h⊢;rw[Z,R];split at h;exact h;exact h;exact h;split at h;rename_i M N;simp only[(U rfl rfl) _ _ (by simp) M,(U rfl rfl) _ _ (by simp) N];exact h;rename_i M N;simp only[(U rfl rfl) _ _ (by simp) M,(U rfl rfl) _ _ (by simp) N];exact h;exact absurd h.symm (W _);exact h;exact h;split at h;rename_i e V;rw[ac0 (U rfl rfl) V];exact h;rename_i e V;rw[ac0 (U rfl rfl) V];exact h;exact absurd h.symm (W _);exact absurd h.symm (W _)
 |unOp op t x=>have Z:=X x (by simp[Op.operands]);simp only[bq] at h⊢;rw[Z];exact h
 |convert o t2 x=>have Z:=X x (by simp[Op.operands]);simp only[bq] at h⊢;rw[Z];exact h
 |makeInterface t x=>have Z:=X x (by simp[Op.operands]);simp only[bq] at h⊢;rw[Z];exact h
 |makeFunc fn first D=>
  have Z:D.toList.map (s'.ev gl)=D.toList.map (s.ev gl):=aw5 λx Q=>X x (by simp[Op.operands];exact .inr (by simpa using Q))
  simp only[bq] at h⊢;rw[Z];exact h
 |extract x i=>have Z:=X x (by simp[Op.operands]);simp only[bq] at h⊢;rw[Z];exact h
 |nilCheck x=>have Z:=X x (by simp[Op.operands]);simp only[bq] at h⊢;rw[Z];exact h
 |slice t x lo hi l=>
  have Z:=X x (by simp[Op.operands]);have R:lo.map (s'.ev gl)=lo.map (s.ev gl):=by
   cases lo with
   |none=>rfl
   |some y=>simp only[awO];rw[X y (by simp[Op.operands])]
  have H:hi.map (s'.ev gl)=hi.map (s.ev gl):=by
   cases hi with
   |none=>rfl
   |some y=>simp only[awO];rw[X y (by simp[Op.operands])]
  simp only[bq] at h⊢;rw[Z,R,H];exact h
 |build t parts=>
  have Z:(parts.toList.map λp=>(p.1,s'.ev gl p.2))=parts.toList.map λp=>(p.1,s.ev gl p.2):=aw5 λp z=>by rw[X p.2 (by simp[Op.operands];exact⟨p.1,by simpa using z⟩)]
  simp only[bq] at h⊢;rw[Z];exact h
 |lookup t x ix j=>
  have Z:=X x (by simp[Op.operands]);have R:=X ix (by simp[Op.operands]);simp only[bq] at h⊢;rw[Z,R];split at h;rename_i k e n ag ab q i P Q;have N:=I i (by simp only[vC,Q]);unfold Mh at h⊢;rw[N];split at h;rename_i v a b c g cs g1 g2 g3;split at h;exact absurd h.symm (W _);rename_i u;rw[if_neg u];split at h;rename_i G;rw[if_pos G];split at h;rename_i r nk ka va;split at h;rename_i J;have:r.mI ty s' ⟨k,e,n,ag,v.d.isAgg⟩=true:=by
   simp only[awF] at J;have C:=J.1.1.1.1.1;unfold RE.mI at C⊢;rcases azs.1 C with F|F;rw[decide_eq_true ((U rfl rfl) r _ (by simp) (of_decide_eq_true F))];rfl;rw[F];simp
  simp only[awF] at J;simp only[this,J,axZ,if_true];exact h;exact absurd h.symm (W _);exact absurd h.symm (W _);rename_i G;rw[if_neg G];exact h;exact absurd h.symm (W _);exact absurd h.symm (W _)
 |call c=>
  have Z:c.args.toList.map (s'.ev gl)=c.args.toList.map (s.ev gl):=aw5 λx Q=>X x (by simp[Op.operands,Call.operands];exact .inr (by simpa using Q))
  cases O:c.callee with
  |builtin b=>
   cases b with
   |len=>
    simp only[bq,O] at h⊢;rw[Z];split at h;exact h;rename_i t r af M N;split at h;rename_i P V;simp only[(U rfl rfl) _ _ (by simp) V,P];exact h;rename_i P V;simp only[(U rfl rfl) _ _ (by simp) V,P];exact h;exact absurd h.symm (W _);exact h;exact absurd h.symm (W _)
   |min=>simp only[bq,O] at h⊢;rw[Z];exact h
   |max=>simp only[bq,O] at h⊢;rw[Z];exact h
   |_=>simp only[bq,O] at h;exact absurd h.symm (W _)
  |value f=>simp only[bq,O] at h;exact absurd h.symm (W _)
  |invoke r m=>simp only[bq,O] at h;exact absurd h.symm (W _)
 |_=>simp only[bq] at h;exact absurd h.symm (W _)
end
def PR.uf(s:S)(ρ:aa)(v:SV):PR->Prop
 |.ok x=>v=x
 |.az b x=>b.den ρ=true/\b.bd s.ni s.nb s.rs.length=true/\v=x
 |_=>False
def Nx{s:S}{ρ:aa}{v:SV}{r:PR}(h:r.uf s ρ v):r.gives ρ v:=by
 cases r with
 |ok x=>exact h
 |az b x=>exact⟨h.1,h.2.2⟩
 |no w=>exact h
def em(ops:Array Oper)(m:OM)(s:S)(ρ:aa):Option Bool:=match m.o.guard with
 |none=>some true
 |some (j,Z)=>match(ops[j]?).bind (·.dst) with
  |some d=>match s.tmps[d]? with
   |some (.bool b)=>if b.bd s.ni s.nb s.rs.length then some (b.den ρ==Z) else none
   |some (.bj [])=>some false
   |_=>none
  |none=>none
def QV(cf:bc)(ops:Array Oper)(ρ:aa)(m:OM)(s:S)(v:SV)(l:Nat):Prop:=
 (em ops m s ρ=some false/\v=.bj []/\l=0)\/
 (em ops m s ρ=some true/\(∀x∈m.o.op.operands.toList,(s.ev cf.gl x).cN=false)/\match m.o.op with
  |.pick c x y=>∃e:BE,s.ev cf.gl c=.bool e/\e.bd s.ni s.nb s.rs.length=true/\v=(if e.den ρ then s.ev cf.gl x else s.ev cf.gl y)/\l=0
  |.load t x=>(bq cf.ty cf.gl s (.load t x)).uf s ρ v/\l=ID m.aY (s.ev cf.gl x)
  |op=>(bq cf.ty cf.gl s op).uf s ρ v/\l=0)
def OR.CE(s:S)(ρ:aa)(s':S):OR->Prop
 |.ok x=>s'=x
 |.az b x=>b.den ρ=true/\b.bd s.ni s.nb s.rs.length=true/\s'=x
 |.split b Z X=>b.bd s.ni s.nb s.rs.length=true/\s'=if b.den ρ then Z else X
 |.no _=>False
def fc(cf:bc)(m:OM)(s:S)(ρ:aa)(s':S):Prop:=(dR cf m s).CE s ρ s'
def Fp{cf:bc}{m:OM}{s s':S}{ρ:aa}(h:fc cf m s ρ s'):(dR cf m s).gives ρ s':=by
 unfold fc at h;cases Z:dR cf m s<;>rw[Z] at h;exact h;exact⟨h.1,h.2.2⟩;exact h.2;exact h
def ac1{s s':S}{ρ:aa}{d:Option Nat}{l:Nat}{r:PR}:(oj s d l r).CE s ρ s'<->∃v,r.uf s ρ v/\s'=s.bL d v l:=by
 cases r with
 |ok v=>exact⟨λh=>⟨v,rfl,h⟩,λ⟨w,Z,X⟩=>by cases Z;exact X⟩
 |az b v=>
  simp only[oj];split;rename_i W;exact⟨λh=>⟨v,⟨h.1,h.2.1,rfl⟩,h.2.2⟩,λ⟨w,⟨Z,X,V⟩,U⟩=>⟨Z,X,by rw[U,V]⟩⟩;rename_i W;exact⟨λh=>h.elim,λ⟨w,⟨Z,X,V⟩,U⟩=>absurd X W⟩
 |no w=>exact⟨λh=>h.elim,λ⟨w,Z,X⟩=>Z.elim⟩
def Fq(p:Sp)(cf:bc)(s:S)(ρ:aa)(g:FuncId)(args:List SV)(K:aa->SV->S->Prop):Prop:=
 ∃Z ks l,cf.sig g=some Z/\eZ cf.ty Z=some ks/\vF cf.ty Z ((s.cut args ks).bz ks).1=some l/\(s.cU args&&me ks)=true/\
  ∀β W,gP p.S0 p.w0 β ρ (qg (nl (SV.ly args) 0 s.boxes)) p.ty (IM args s.rs) W->Calls p.P g (SV.ap ρ β args).toArray W λ
   |.returned v,W'=>∃xs,cR ks xs/\v=(one l).den (ρ.ext xs) β/\Below W.heap.size W W'/\EV p.ty W' W.heap.size (ρ.mg p.ty (IM args s.rs)) ks xs/\K (ρ.ext xs) (one l) ((s.cut args ks).bz ks).2
   |.panicked X,W'=>Below W.heap.size W W'/\p.R (.panicked X) W'
   |.outgrown,_=>False
def oD(o:Option BI)(f:BI->Prop)(g:Prop):Prop:=match o with
 |some b=>f b
 |none=>g
def mi(o:Option (SV×aX))(f:SV->aX->Prop)(g:Prop):Prop:=match o with
 |some (v,ex)=>f v ex
 |none=>g
def cD(p:Sp)(cf:bc)(ops:Array Oper)(u:rU)(Kn:aa->S->Prop)(Kp:aa->SV->S->Prop)(Yp:OM->List OM->aa->S->Nat->List SV->Prop):List OM->aa->S->Prop
 |[],ρ,s=>Kn ρ s
 |m::rest,ρ,s=>
  (em ops m s ρ=some false/\cD p cf ops u Kn Kp Yp rest ρ (s.put m.o.dst (.bj [])))\/
  (em ops m s ρ=some true/\match cV cf s m.o with
   |.call (.fn g) args=>mi (u g args s) (λv ex=>s.bd=true/\cD p cf ops u Kn Kp Yp rest ρ ((s.plus ex).put m.o.dst v)) (Fq p cf s ρ g args λρ' v s'=>cD p cf ops u Kn Kp Yp rest ρ' (s'.put m.o.dst v))
   |.call (.yl n) args=>m.so=true/\Yp m rest ρ s n args
   |.aS v=>Kp ρ v s
   |.no=>False
   |.op=>oD (cK cf m.o m.aY m.dr s) (λb=>b.az.den ρ=true/\∀rv,Ct p.ty p.S0 p.w0 b.e b.x s.rs ρ rv->cD p cf ops u Kn Kp Yp rest (ρ.add (.r rv)) b.s) (∃s',fc cf m s ρ s'/\cD p cf ops u Kn Kp Yp rest ρ s'))
def v7(s:S)(ρ:aa)(Z:Fx):Prop:=∀x∈Z,x.1.den ρ=x.2/\x.1.bd s.ni s.nb s.rs.length=true
def Um{p:Sp}{s:S}{ρ:aa}{L:List LC}{X:Fx}{b:BE}{t f:Fx->T}(V:v7 s ρ X)(h:(xD s X b t f).aD p ρ L):
  b.bd s.ni s.nb s.rs.length=true/\∃R,v7 s ρ R/\(if b.den ρ then(t R).aD p ρ L else(f R).aD p ρ L):=by
 have P:pl ρ X:=λx U=>(V x U).1
 have aO:∀v,IF X b=some v->b.bd s.ni s.nb s.rs.length=true:=by
  intro v Z;unfold IF at Z;split at Z;exact BE.aG.1 _;cases Q:X.find? (λx=>x.1.same b) with
  |none=>rw[Q] at Z;cases Z
  |some x=>
   have M:=ayY Q;rw[<-BE.bl _ _ M];exact(V x (ayg Q)).2
 unfold xD at h;split at h;rename_i Z;exact⟨aO _ Z,X,V,by rw[Nc P Z];exact h⟩;rename_i Z;exact⟨aO _ Z,X,V,by rw[Nc P Z];exact h⟩;split at h;rename_i O;simp only[T.aD] at h;refine⟨O, ?_⟩;have N:∀v,b.den ρ=v->v7 s ρ ((b,v)::X):=λv W x U=>by
  rcases awP.1 U with rfl|U;exact⟨W,O⟩;exact V x U
 cases W:b.den ρ;exact⟨_,N _ W,by simpa using h.2 W⟩;exact⟨_,N _ W,by simpa using h.1 W⟩;exact h.elim
section
variable{p:Sp}{cf:bc}{ops:Array Oper}{u:rU}{L:List LC}{yh:YH}{k:S->T}{kp:SV->S->T}
def dC(s:S)(d:Option Nat)(v:SV):(s.put d v).ni=s.ni/\(s.put d v).nb=s.nb/\(s.put d v).rs=s.rs:=by cases d<;>exact⟨rfl,rfl,rfl⟩
def ac2{m:OM}{s s':S}{ρ:aa}(h:(dR cf m s).gives ρ s'):s'.ni=s.ni/\s'.nb=s.nb/\s'.rs=s.rs:=by
 unfold dR at h;split at h;exact h.elim;split at h;split at h;split at h;cases h;exact dC _ _ _;exact h.elim;exact h.elim;split at h;split at h;cases h;exact dC _ _ _;exact h.elim;exact h.elim;split at h;split at h;split at h;split at h;cases h;exact dC _ _ _;exact h.elim;exact h.elim;exact h.elim;exact h.elim;split at h;split at h;split at h;cases h;exact dC _ _ _;exact h.elim;exact h.elim;exact h.elim;split at h;simp only[OR.gives] at h;split at h<;>(subst h;exact dC _ _ _);exact h.elim;obtain⟨v,-,rfl⟩:=vW h;exact dC _ _ _;obtain⟨v,-,rfl⟩:=vW h;exact dC _ _ _
def Jv{s:S}{d:Option Nat}{az:BE}{e:TypeId}{k:RK}{x:LE}{kill frz:List Nat}{b:BI}(h:gF s d az e k x kill frz=some b):b.s.ni=s.ni/\b.s.nb=s.nb/\b.s.rs.length=s.rs.length+1:=by
 obtain⟨-,-,rfl⟩:=ua h;refine⟨(dC _ _ _).1,(dC _ _ _).2.1, ?_⟩;simp only;rw[(dC _ _ _).2.2];simp[vU,vT]
def ac3{o:Oper}{aY X:Bool}{s:S}{b:BI}(h:cK cf o aY X s=some b):b.s.ni=s.ni/\b.s.nb=s.nb/\b.s.rs.length=s.rs.length+1:=by
 unfold cK at h;split at h;split at h;split at h;split at h;split at h;split at h;cases h;split at h;exact Jv h;cases h;cases h;cases h;cases h;cases h;split at h;split at h;split at h;exact Jv h;cases h;cases h;cases h;split at h;cases h;split at h;split at h;split at h;split at h;exact Jv h;cases h;cases h;cases h;cases h;split at h;cases h
 ·split at h
  all_goals first
   |cases h
   |(split at h
     split at h;exact Jv h;cases h;cases h)
 split at h;cases h;split at h;split at h;split at h;split at h;cases Z:gF s none (qf _ (.len (.v _))) _ (.own _) _ [_] _ with
 |none=>rw[Z] at h;cases h
 |some R=>
  rw[Z] at h;simp only[awO,awJ] at h;subst h;obtain⟨W,V,U⟩:=Jv Z;refine⟨?_, ?_, ?_⟩;simp only;rw[(dC _ _ _).1];exact W;simp only;rw[(dC _ _ _).2.1];exact V;simp only;rw[(dC _ _ _).2.2];exact U
 cases h;cases h;cases h;cases h;cases h
def ac4{s s':S}{d:Option Nat}{l:Nat}{r:PR}{b:BE}(h:oj s d l r=.az b s'):b.bd s.ni s.nb s.rs.length=true:=by
 cases r with
 |ok v=>cases h
 |az X v=>
  simp only[oj] at h;split at h;rename_i Z;cases h;exact Z;cases h
 |no w=>cases h
def ang{m:OM}{s s':S}{b:BE}(h:dR cf m s=.az b s'):b.bd s.ni s.nb s.rs.length=true:=by
 unfold dR at h;split at h;cases h;split at h
 ·(repeat' split at h)<;>cases h
 ·(repeat' split at h)<;>cases h
 ·(repeat' split at h)<;>cases h
 ·(repeat' split at h)<;>cases h
 ·(repeat' split at h)<;>cases h
 exact ac4 h;exact ac4 h
structure Ac(ops:Array Oper)(u:rU):Prop where
 q:∀(g:FuncId)(args:List SV)(s:S)(d:Option Nat)(v:SV)(l:Nat),u g args (s.bL d v l)=u g args s
 z:∀(g:FuncId)(s:S)(n:Nat)(t:TypeId)(cs:List SV)(d:Option Nat)(w:SV),dL s.boxes n=true->u g [] ((s.bI n t cs).put d w)=u g [] s
 Un:∀(g:FuncId)(args:List SV)(s:S)(r:SV×aX),u g args s=some r->Mx ops=true
def ac5{s:S}{ex:aX}{i:Nat}(h:aA s.boxes i=true):bA (s.plus ex).boxes i=bA s.boxes i:=by
 obtain⟨b,Z⟩:=awZ.1 h;have X:=(awG.1 (gw.1 Z)).1;simp only[bP,S.plus,awI X]
def ac6{s:S}{ex:aX}{n:Nat}(h:dL s.boxes n=true):dL (s.plus ex).boxes n=true:=by
 have Z:=(jO h).2;simp only[dL,S.plus,awI Z] at h⊢;exact h
def Uo{s:S}{o:Oper}{g:Ca}{args:List SV}(h:cV cf s o=.call g args):tT o.op=true:=by
 unfold cV at h;split at h;split at h<;>cases h
 ·rename_i c X;rw[X];cases Z:c.callee with
  |value f=>simp[tT,Z]
  |invoke r m=>rw[Z] at h;cases h
  |builtin b=>
   rw[Z] at h;exfalso;revert h;cases b<;>simp only
   all_goals first
    |(intro h;cases h;done)
    |(split<;>intro h<;>first|(cases h;done)|(split at h<;>cases h))
 cases h
def ac7{s:S}{o:Oper}{g:FuncId}{args:List SV}(Z:ED o.op=true)(h:cV cf s o=.call (.fn g) args):args=[]:=by
 unfold ED at Z;split at Z;rename_i c X;split at Z;rename_i f W;have V:c.args.toList=[]:=by simpa using Z
 simp only[cV,X,W,S.ev,ng,V,List.any_nil,aw0,if_false,ax0,awX,CK.call.injEq,Ca.fn.injEq] at h;exact h.2.symm;cases Z;cases Z
def Ad(p:Sp)(k:S->T)(L:List LC)(ρ:aa)(s:S):Prop:=(k s).aD p ρ L
def yc(p:Sp)(kp:SV->S->T)(L:List LC)(ρ:aa)(v:SV)(s:S):Prop:=(kp v s).aD p ρ L
def ye(p:Sp)(cf:bc)(ops:Array Oper)(u:rU)(yh:YH)(k:S->T)(kp:SV->S->T)(L:List LC)(m:OM)(rest:List OM)(ρ:aa)(s:S)(n:Nat)(args:List SV):Prop:=
 (∀X∈rest,X.dr=true)/\∃Z,v7 s ρ Z/\(tU cf u yh (.yl n) args s (λv s'=>kw cf (tU cf u yh) ops k kp rest (s'.put m.o.dst v) (lB s Z)) kp).aD p ρ L
def CF(z:p.ty=cf.ty):∀(l:List OM)(s:S)(C:Fx)(ρ:aa),ρ.i.length=s.ni->ρ.b.length=s.nb->ρ.r.length=s.rs.length->(kw cf (tU cf u yh) ops k kp l s C).aD p ρ L->v7 s ρ C->
  (∀m∈l,m.dr=true)->cD p cf ops u (Ad p k L) (yc p kp L) (ye p cf ops u yh k kp L) l ρ s
 |[],s,C,ρ,_,_,_,h,_,_=>h
 |m::rest,s,C,ρ,e1,M,J,h,j,a5=>by
  have ag:m.dr=true:=a5 m (by simp);have B:∀m∈rest,m.dr=true:=λm' a8=>a5 m' (by simp[a8])
  have a9:vH cf m s=none:=by simp[vH,ag]
  have bb:xE cf m s=none:=by simp[xE,ag]
  have bf:∀c f,vG cf m s c f=none:=λc f=>by simp[vG,ag]
  have an:∀(s:S)(d:Option Nat)(v:SV),(s.put d v).ni=s.ni/\(s.put d v).nb=s.nb/\(s.put d v).rs=s.rs:=λs d v=>by cases d<;>exact⟨rfl,rfl,rfl⟩
  have a6:∀(s':S)(Z:Fx),s'.ni=s.ni->s'.nb=s.nb->s'.rs=s.rs->v7 s ρ Z->v7 s' ρ Z:=λs' Z a X h3 w x F=>by rw[a,X,h3];exact w x F
  have a0:∀Z,v7 s ρ Z->(vI cf (tU cf u yh) m s (kw cf (tU cf u yh) ops k kp rest) kp Z).aD p ρ L->
    (match cV cf s m.o with
     |.call (.fn g) args=>mi (u g args s) (λv ex=>s.bd=true/\cD p cf ops u (Ad p k L) (yc p kp L) (ye p cf ops u yh k kp L) rest ρ ((s.plus ex).put m.o.dst v)) (Fq p cf s ρ g args λρ' v s'=>cD p cf ops u (Ad p k L) (yc p kp L) (ye p cf ops u yh k kp L) rest ρ' (s'.put m.o.dst v))
     |.call (.yl n) args=>m.so=true/\ye p cf ops u yh k kp L m rest ρ s n args
     |.aS v=>yc p kp L ρ v s
     |.no=>False
     |.op=>oD (cK cf m.o m.aY m.dr s) (λb=>b.az.den ρ=true/\∀rv,Ct p.ty p.S0 p.w0 b.e b.x s.rs ρ rv->cD p cf ops u (Ad p k L) (yc p kp L) (ye p cf ops u yh k kp L) rest (ρ.add (.r rv)) b.s)
      (∃s',fc cf m s ρ s'/\cD p cf ops u (Ad p k L) (yc p kp L) (ye p cf ops u yh k kp L) rest ρ s'):Prop):=by
   intro Z E h;unfold vI at h;rw[a9] at h;simp only[bb,bf] at h;cases hc:cV cf s m.o with
   |call g0 args=>
    rw[hc] at h;cases g0 with
    |yl n=>
     simp only at h⊢;split at h;rename_i bk;exact⟨bk,B,Z,E,h⟩;exact h.elim
    |fn g=>
    simp only[tU] at h;simp only;cases a7:u g args s with
    |some ve=>
     obtain⟨v,ex⟩:=ve;rw[a7] at h;simp only at h;split at h;rename_i V;refine⟨V, ?_⟩;obtain⟨U,Q,P⟩:=an (s.plus ex) m.o.dst v;refine CF z rest _ _ ρ (by rw[U];exact e1) (by rw[Q];exact M) (by rw[P];exact J) h (λx F=> ?_) B;rw[U,Q,P];exact E x (axr.1 F).1;exact h.elim
    |none=>
    rw[a7] at h;simp only[vL] at h;simp only[mi];split at h;rename_i ts br;split at h;rename_i ks bs;split at h;rename_i l hl;split at h;rename_i V;refine⟨ts,ks,l,br,bs,hl,V,λβ W R=> ?_⟩;simp only[T.aD] at h;refine(h ρ.y β W R).mono ?_;intro e W' he;cases e with
    |returned v=>
     obtain⟨xs,a,X,h3,h4,h5⟩:=he;have hy:(ρ.ext xs).at ρ.y=ρ.ext xs:=by have:=Fm xs ρ;unfold aa.at;rw[<-this]
     rw[hy] at X;refine⟨xs,a,X,h3,h4, ?_⟩;obtain⟨l1,l2,l3⟩:=ud ks xs (s.cut args ks) ρ a e1 M (J.trans (Aa args ks s.rs).len.symm);have A:=an ((s.cut args ks).bz ks).2 m.o.dst (one l);refine CF z rest _ _ _ (by rw[A.1];exact l1) (by rw[A.2.1];exact l2) (by rw[A.2.2];exact l3) h5 ?_ B;intro x F;obtain⟨a1,bt⟩:=axr.1 F;obtain⟨O,aO⟩:=E x a1;have bx:=zV xs ρ;have a2:=MW xs ρ;refine⟨by rw[BE.cu bx _ (by rw[e1,M,J];exact aO)];exact O, ?_⟩;rw[A.1,A.2.1,A.2.2,<-l1,<-l2,<-l3];exact BE.cA (by rw[<-e1];exact a2.1) (by rw[<-M];exact a2.2.1) (by rw[<-J];exact a2.2.2) _ aO
    |panicked ch=>exact he
    |outgrown=>exact he
    exact h.elim;exact h.elim;exact h.elim;exact h.elim
   |aS v=>rw[hc] at h;exact h
   |no=>rw[hc] at h;exact h
   |op=>
    rw[hc] at h;simp only at h⊢;cases a3:cK cf m.o m.aY m.dr s with
    |some b=>
     rw[a3] at h;obtain⟨hn,h⟩:=h;refine⟨hn,λrv b0=> ?_⟩;obtain⟨U,Q,P⟩:=ac3 a3;have b1:(ρ.add (.r rv)).r.length=b.s.rs.length:=by simp[aa.add,P,J]
     refine CF z rest b.s _ _ (by rw[U];exact e1) (by rw[Q];exact M) b1 (h rv b0) ?_ B;intro x F;obtain⟨a1,bt⟩:=axr.1 F;obtain⟨O,aO⟩:=E x a1;refine⟨by rw[BE.cu (MK ρ (.r rv)) _ (by rw[e1,M,J];exact aO)];exact O, ?_⟩;exact BE.cA (by omega) (by omega) (by omega) _ aO
    |none=>
    rw[a3] at h;simp only[oD] at h⊢;have af:∀s' t,v7 s ρ t->fc cf m s ρ s'->(kw cf (tU cf u yh) ops k kp rest s' t).aD p ρ L->∃s',fc cf m s ρ s'/\cD p cf ops u (Ad p k L) (yc p kp L) (ye p cf ops u yh k kp L) rest ρ s':=by
     intro s' t w hG hs;obtain⟨U,Q,P⟩:=ac2 (Fp hG);exact⟨s',hG,CF z rest s' t ρ (by rw[U];exact e1) (by rw[Q];exact M) (by rw[P];exact J) hs (a6 s' t U Q P w) B⟩
    split at h;rename_i s' D;exact af s' Z E (by unfold fc;rw[D];rfl) h;rename_i b s' D;refine af s' Z E ?_ h.2;unfold fc;rw[D];exact⟨h.1,ang D,rfl⟩;rename_i b s1 s2 D;obtain⟨aO,I,H,X⟩:=Um E h;cases hv:b.den ρ;exact af s2 I H (by unfold fc;rw[D];simp[OR.CE,hv,aO]) (by simpa[hv] using X);exact af s1 I H (by unfold fc;rw[D];simp[OR.CE,hv,aO]) (by simpa[hv] using X);exact h.elim
  have a4:∀Z,v7 s ρ Z->(kw cf (tU cf u yh) ops k kp rest (s.put m.o.dst (.bj [])) Z).aD p ρ L->cD p cf ops u (Ad p k L) (yc p kp L) (ye p cf ops u yh k kp L) rest ρ (s.put m.o.dst (.bj [])):=by
   intro Z w h;obtain⟨U,Q,P⟩:=an s m.o.dst (.bj []);exact CF z rest _ Z ρ (by rw[U];exact e1) (by rw[Q];exact M) (by rw[P];exact J) h (a6 _ Z U Q P w) B
  simp only[kw,Mt] at h;cases G:m.o.guard with
  |none=>
   rw[G] at h;exact .inr ⟨by simp[em,G],a0 C j h⟩
  |some q=>
   obtain⟨jj,b2⟩:=q;rw[G] at h;simp only at h;split at h;rename_i d O;split at h;rename_i b V;cases b2;simp only[aw0,if_false] at h;obtain⟨aO,I,H,X⟩:=Um j h;cases N:b.den ρ;exact .inr ⟨by simp[em,G,O,V,aO,N],a0 I H (by simpa[N] using X)⟩;exact .inl ⟨by simp[em,G,O,V,aO,N],a4 I H (by simpa[N] using X)⟩;simp only[if_true] at h;obtain⟨aO,I,H,X⟩:=Um j h;cases N:b.den ρ;exact .inl ⟨by simp[em,G,O,V,aO,N],a4 I H (by simpa[N] using X)⟩;exact .inr ⟨by simp[em,G,O,V,aO,N],a0 I H (by simpa[N] using X)⟩;rename_i V;exact .inl ⟨by simp[em,G,O,V],a4 C j h⟩;exact h.elim;exact h.elim
end
end
section
section
variable{p:Sp}{cf:bc}{ops:Array Oper}{u:rU}
structure gX(cf:bc)(ops:Array Oper)(o:Oper)(s:S)(ρ:aa)(s':S)(ρ':aa):Prop where
 tm:∀t∈gu ops o,s'.tmps[t]?=s.tmps[t]?
 kd:looks o.op=true->vM o.op=false->v6 cf.ty s s'
 kl:∀t x r w i off,o.op=.load t x->s.ev cf.gl x=.el r w i off->∀e,e≠ .ar->r.kind cf.ty s=e->r.kind cf.ty s'=e
 li:s.ni<=s'.ni
 lb:s.nb<=s'.nb
 lr:s.rs.length<=s'.rs.length
 ag:fj ρ ρ' s.ni s.nb s.rs.length
def gX.ue{o:Oper}{s s':S}{ρ:aa}(X:∀t∈gu ops o,s'.tmps[t]?=s.tmps[t]?)(Z:s'.rs=s.rs)(W:s'.ni=s.ni)(V:s'.nb=s.nb):gX cf ops o s ρ s' ρ:=
 ⟨X,λ_ _=>v6.ue Z,λt x r w i off _ _=>v6.ue Z r,ayi W.symm,ayi V.symm,ayi (by rw[Z]),fj.refl _ _ _ _⟩
def gX.ev{o:Oper}{s s':S}{ρ ρ':aa}(h:gX cf ops o s ρ s' ρ')(gl:List (Nat×Nat×Nat)):∀x∈o.op.operands.toList,s'.ev gl x=s.ev gl x:=by
 intro x Z;cases x with
 |tmp t=>
  have:t∈gu ops o:=by
   unfold gu;exact axw _ (axV.2 ⟨.tmp t,Z,rfl⟩)
  simp only[S.ev,ng,awK,h.tm t this]
 |const v=>rfl
 |global g=>rfl
 |func f=>rfl
def gX.guard{m:OM}{s s':S}{ρ ρ':aa}(h:gX cf ops m.o s ρ s' ρ'){b:Bool}(Z:em ops m s ρ=some b):em ops m s' ρ'=some b:=by
 unfold em at Z⊢;cases X:m.o.guard with
 |none=>rw[X] at Z;exact Z
 |some q=>
  obtain⟨j,R⟩:=q;rw[X] at Z;simp only at Z⊢;cases W:(ops[j]?).bind (·.dst) with
  |none=>rw[W] at Z;cases Z
  |some d=>
   rw[W] at Z;simp only at Z⊢;have U:s'.tmps[d]?=s.tmps[d]?:=h.tm d (by unfold gu;rw[X];exact ayf _ (by simp[W]));rw[U];split at Z;rename_i e Q;split at Z;rename_i V;rw[if_pos (BE.cA h.li h.lb h.lr _ V),BE.cu h.ag _ V];exact Z;cases Z;exact Z;cases Z
def ac8{o:Oper}{s s':S}{ρ ρ':aa}(h:gX cf ops o s ρ s' ρ')(V:∀i,vC cf.gl s o.op=some i->bA s'.boxes i=bA s.boxes i){v:SV}
  (Z:(bq cf.ty cf.gl s o.op).uf s ρ v):(bq cf.ty cf.gl s' o.op).uf s' ρ' v:=by
 have R:bq cf.ty cf.gl s' o.op=bq cf.ty cf.gl s o.op:=by
  cases X:bq cf.ty cf.gl s o.op with
  |ok x=>exact Nw (ty:=cf.ty) (h.ev cf.gl) h.kd h.kl V X (λw W=>by cases W)
  |az b x=>exact Nw (ty:=cf.ty) (h.ev cf.gl) h.kd h.kl V X (λw W=>by cases W)
  |no w=>rw[X] at Z;exact Z.elim
 rw[R];cases X:bq cf.ty cf.gl s o.op with
 |ok x=>rw[X] at Z;exact Z
 |az b x=>
  rw[X] at Z;obtain⟨Q,U,P⟩:=Z;exact⟨by rw[BE.cu h.ag _ U];exact Q,BE.cA h.li h.lb h.lr _ U,P⟩
 |no w=>rw[X] at Z;exact Z.elim
def Uq{m:OM}{s s':S}{ρ ρ':aa}(h:gX cf ops m.o s ρ s' ρ')(P:∀i,vC cf.gl s m.o.op=some i->bA s'.boxes i=bA s.boxes i){v:SV}{l:Nat}(M:QV cf ops ρ m s v l):QV cf ops ρ' m s' v l:=by
 rcases M with⟨V,U,Z⟩|⟨V,U,Z⟩;exact .inl ⟨h.guard V,U,Z⟩;refine .inr ⟨h.guard V,λx O=>by rw[h.ev cf.gl x O];exact U x O, ?_⟩;have X:=h.ev cf.gl;cases R:m.o.op with
 |pick c x y=>
  rw[R] at Z X;obtain⟨e,e1,N,L,J⟩:=Z;refine⟨e,by rw[X c (by simp[Op.operands])];exact e1,BE.cA h.li h.lb h.lr _ N, ?_,J⟩;rw[BE.cu h.ag _ N,X x (by simp[Op.operands]),X y (by simp[Op.operands])];exact L
 |load t x=>
  have W:=λ(Q:(bq cf.ty cf.gl s m.o.op).uf s ρ v)=>ac8 (cf:=cf) h P Q
  rw[R] at Z X W;exact⟨W Z.1,by rw[X x (by simp[Op.operands])];exact Z.2⟩
 |_=>
  have W:=λ(Q:(bq cf.ty cf.gl s m.o.op).uf s ρ v)=>ac8 (cf:=cf) h P Q
  rw[R] at Z W;exact⟨W Z.1,Z.2⟩
def anh{s:S}{o:Oper}(h:jY o.op=true):cV cf s o=.op:=by
 unfold cV;cases X:o.op<;>rw[X] at h<;>simp[jY] at h<;>try rfl
 rename_i c;cases Z:c.callee with
 |builtin b=>cases b<;>simp[Z] at h<;>simp[Z]
 |value f=>simp[Z] at h
 |invoke r m=>simp[Z] at h
def CG(s:S)(d:Option Nat)(v:SV):s.bL d v 0=s.put d v:=by simp[S.bL]
def Fs{m:OM}{s s':S}{ρ:aa}(O:jY m.o.op=true)(W:em ops m s ρ=some true):fc cf m s ρ s'<->∃v l,QV cf ops ρ m s v l/\s'=s.bL m.o.dst v l:=by
 unfold fc dR QV;by_cases V:(m.o.op.operands.toList.any λx=>(s.ev cf.gl x).cN)=true;simp only[V,if_true];constructor;exact λh=>h.elim
 rintro⟨v,l,h|h,-⟩;rw[W] at h;cases h.1;obtain⟨x,Q,N⟩:=axe.1 V;have:=h.2.1 x Q;rw[this] at N;cases N
 ·have M:∀x∈m.o.op.operands.toList,(s.ev cf.gl x).cN=false:=by
   intro x Q;cases G:(s.ev cf.gl x).cN;rfl;exact absurd (axe.2 ⟨x,Q,G⟩) V
  have P:¬em ops m s ρ=some false:=by rw[W];simp
  have L:∀(U:Nat),(oj s m.o.dst U (bq cf.ty cf.gl s m.o.op)).CE s ρ s'<->∃v l,((em ops m s ρ=some false/\v=.bj []/\l=0)\/(em ops m s ρ=some true/\(∀x∈m.o.op.operands.toList,(s.ev cf.gl x).cN=false)/\(bq cf.ty cf.gl s m.o.op).uf s ρ v/\l=U))/\s'=s.bL m.o.dst v l:=by
   intro U;rw[ac1];constructor;rintro⟨v,Z,X⟩;exact⟨v,U,.inr ⟨W,M,Z,rfl⟩,X⟩;rintro⟨v,l,h|⟨-,-,Z,rfl⟩,R⟩;exact absurd h.1 P;exact⟨v,Z,R⟩
  rw[if_neg V];cases J:m.o.op<;>rw[J] at O L<;>simp only[jY,aw0] at O
  case pick c x y=>
   simp only;cases E:s.ev cf.gl c with
   |bool e=>
    constructor;rintro⟨Z,X⟩;refine⟨if e.den ρ then s.ev cf.gl x else s.ev cf.gl y,0,.inr ⟨W,by rw[<-J];exact M,e,rfl,Z,rfl,rfl⟩, ?_⟩;rw[CG,X];split<;>rfl;rintro⟨v,l,h|⟨-,-,F,Z,X,I,H⟩,R⟩;exact absurd h.1 P;cases Z;subst H;refine⟨X, ?_⟩;rw[R,CG,I];split<;>rfl
   |_=>
    constructor;exact λh=>h.elim
    rintro⟨v,l,h|⟨-,-,F,Z,X,I,H⟩,R⟩;exact absurd h.1 P;cases Z
  all_goals exact L _
variable{Kn:aa->S->Prop}{Kp:aa->SV->S->Prop}{Yp:OM->List OM->aa->S->Nat->List SV->Prop}
def ac9{o:Oper}{aY:Bool}{s:S}(Z:jY o.op=true):cK cf o aY true s=none:=by
 unfold cK;cases W:o.op<;>rw[W] at Z<;>simp only[jY,aw0] at Z<;>try rfl
 rename_i c;cases X:c.callee with
 |builtin b=>cases b<;>simp[X] at Z<;>simp[X]
 |value f=>simp[X] at Z
 |invoke r m=>simp[X] at Z
def ada{m:OM}{rest:List OM}{s:S}{ρ:aa}(U:m.dr=true)(V:jY m.o.op=true):cD p cf ops u Kn Kp Yp (m::rest) ρ s<->∃v l,QV cf ops ρ m s v l/\cD p cf ops u Kn Kp Yp rest ρ (s.bL m.o.dst v l):=by
 simp only[cD,anh V,U,ac9 V,oD];constructor;rintro(⟨W,Z⟩|⟨W,s',Z,X⟩);exact⟨.bj [],0,.inl ⟨W,rfl,rfl⟩,by rw[CG];exact Z⟩;obtain⟨v,l,R,rfl⟩:=(Fs (ops:=ops) V W).1 Z;exact⟨v,l,R,X⟩;rintro⟨v,l,W,Z⟩;rcases W with⟨X,rfl,rfl⟩|X;rw[CG] at Z;exact .inl ⟨X,Z⟩;exact .inr ⟨X.1,_,(Fs (ops:=ops) V X.1).2 ⟨v,l,.inr X,rfl⟩,Z⟩
end
end
section
section
variable{p:Sp}{cf:bc}{ops:Array Oper}{H:rU}
def iT{s:S}{d:Option Nat}{v:SV}{t:Nat}(h:d≠some t):(s.put d v).tmps[t]?=s.tmps[t]?:=by
 cases d with
 |none=>rfl
 |some d=>simp only[S.put,nh];rw[axs (λe=>h (by rw[e]))]
def Ft{s:S}{d:Option Nat}{v:SV}{l t:Nat}(h:d≠some t):(s.bL d v l).tmps[t]?=s.tmps[t]?:=by
 unfold S.bL;rw[iT h]
def iU(s:S)(d:Option Nat)(v:SV):(s.put d v).boxes=s.boxes:=by cases d<;>rfl
def yf(s:S)(d:Option Nat)(v:SV)(l:Nat):(s.bL d v l).boxes=s.boxes:=by unfold S.bL;rw[iU]
def Ny(s:S)(d:Option Nat)(v:SV):(s.put d v).lk=s.lk:=by cases d<;>rfl
def Ur{s:S}{d e:Option Nat}{v w:SV}(h:∀x,d=some x->e≠some x):(s.put d v).put e w=(s.put e w).put d v:=by
 cases d with
 |none=>cases e<;>rfl
 |some d=>
  cases e with
  |none=>rfl
  |some e=>
   have Z:d≠e:=λX=>h d rfl (by rw[X])
   simp only[S.put,nh];rw[List.set_comm _ _ Z]
def Jw{s:S}{d e:Option Nat}{v w:SV}{l:Nat}(h:∀x,d=some x->e≠some x):(s.bL d v l).put e w=(s.put e w).bL d v l:=by
 unfold S.bL;rw[Ur h];cases e<;>rfl
def ani{s:S}{d e:Option Nat}{v w:SV}{l Z:Nat}(h:∀x,d=some x->e≠some x):(s.bL d v l).bL e w Z=(s.bL e w Z).bL d v l:=by
 have X:(s.bL d v l).bL e w Z={(s.bL d v l).put e w with lk:=s.lk|||l|||Z}:=by
  unfold S.bL;cases e<;>cases d<;>rfl
 have W:(s.bL e w Z).bL d v l={(s.bL e w Z).put d v with lk:=s.lk|||Z|||l}:=by
  unfold S.bL;cases e<;>cases d<;>rfl
 rw[X,W,Nat.or_assoc,Nat.or_comm l Z,<-Nat.or_assoc];have V:(s.bL d v l).put e w={(s.put d v).put e w with lk:=s.lk|||l}:=by unfold S.bL;cases e<;>cases d<;>rfl
 have U:(s.bL e w Z).put d v={(s.put e w).put d v with lk:=s.lk|||Z}:=by unfold S.bL;cases e<;>cases d<;>rfl
 rw[V,U,Ur h]
def anj(s:S)(d:Option Nat)(v:SV)(l n:Nat)(t:TypeId)(cs:List SV):(s.bL d v l).bI n t cs=(s.bI n t cs).bL d v l:=by
 unfold S.bL S.bI;cases d<;>rfl
structure Us(ops:Array Oper)(x y:OM)(dx:Nat):Prop where
 xd:x.dr=true
 yd:y.dr=true
 qx:jY x.o.op=true
 np:EC y.o.op=false
 dst:x.o.dst=some dx
 ry:dx∉gu ops y.o
 dy:y.o.dst≠some dx
 rx:dx∉gu ops x.o
 yx:∀d,y.o.dst=some d->d∉gu ops x.o
 rc:tS y.o.op=true->vM x.o.op=true->x.aY=true/\y.aY=true
 rb:xI y.o.op=true->looks x.o.op=true->vM x.o.op=true/\x.aY=true/\y.aY=true
def adb{x y:OM}(h:Mv ops x y=true):∃dx,Us ops x y dx:=by
 unfold Mv at h;simp only[awF,awY] at h;obtain⟨⟨⟨⟨⟨⟨⟨O,N⟩,M⟩,L⟩,Z⟩,W⟩,R⟩,V⟩:=h;cases U:x.o.dst with
 |none=>rw[U] at Z;cases Z
 |some dx=>
  rw[U] at Z;simp only[awF,awY,bne_iff_ne] at Z;obtain⟨⟨Q,J⟩,P⟩:=Z;refine⟨dx,O,N,M,L,U, ?_,J, ?_, ?_, ?_, ?_⟩;intro X;rw[axg.2 X] at Q;cases Q;intro X;rw[axg.2 X] at P;cases P;intro d I X;rw[I] at W;simp only[awY] at W;rw[axg.2 X] at W;cases W;intro a b;simp only[a,b,azy,az6,awF] at R;exact R;intro a b;simp only[a,b,azy,az6,awF] at V;exact⟨V.1.1,V.1.2,V.2⟩
def Fu{s s':S}{o:Oper}(h:∀x∈o.op.operands.toList,s'.ev cf.gl x=s.ev cf.gl x):cV cf s' o=cV cf s o:=by
 unfold cV;cases X:o.op<;>rw[X] at h<;>try rfl
 case panic x=>simp only;rw[h x (by simp[Op.operands])]
 case call c=>
  simp only;cases W:c.callee with
  |value f=>
   have V:=h f (by simp[Op.operands,Call.operands,W]);have Z:c.args.toList.map (s'.ev cf.gl)=c.args.toList.map (s.ev cf.gl):=aw5 λx U=>h x (by simp[Op.operands,Call.operands];exact .inr (by simpa using U))
   have R:(c.args.toList.any λx=>(s'.ev cf.gl x).cN)=c.args.toList.any λx=>(s.ev cf.gl x).cN:=by
    have e1:=azH (f:=s'.ev cf.gl) (p:=SV.cN) (l:=c.args.toList);have Q:=azH (f:=s.ev cf.gl) (p:=SV.cN) (l:=c.args.toList);rw[show(c.args.toList.any λx=>(s'.ev cf.gl x).cN)=(c.args.toList.map (s'.ev cf.gl)).any SV.cN from e1.symm,Z,Q];rfl
   simp only[V,Z,R]
  |invoke r m=>rfl
  |builtin b=>
   cases b<;>try rfl
   cases P:c.args.toList with
   |nil=>rfl
   |cons x r=>
    cases r with
    |nil=>simp only;rw[h x (by simp[Op.operands,Call.operands];exact .inr (by have O:x∈c.args.toList:=(by rw[P];simp);simpa using O))]
    |cons y r=>rfl
def Ut{s:S}{o:Oper}{v:SV}(h:cV cf s o=.aS v):EC o.op=true:=by
 unfold cV at h;split at h;rename_i Z;rw[Z];rfl;rename_i c Z;split at h;split at h;split at h<;>cases h;split at h<;>cases h;cases h;cases h;rename_i X;rw[Z];simp[EC,X];cases h;cases h
def sd(s:S)(d:Nat):Prop:=s.tmps[d]?=none\/∃w,s.tmps[d]?=some w/\w.bd s.ni s.nb s.rs.length (aA s.boxes)=true
def Uu{ni nb X:Nat}{pr:Nat->Bool}:∀{l:List SV}{d:Nat}{v:SV},SV.ck ni nb X pr (l.set d v)=true->(l[d]?=none\/∃w,l[d]?=some w/\w.bd ni nb X pr=true)->SV.ck ni nb X pr l=true
 |[],d,v,h,_=>rfl
 |x::xs,0,v,h,Z=>by
  simp only[aAe,SV.eY,awF] at h⊢;refine⟨?_,h.2⟩;rcases Z with Z|Z;simp at Z;simpa using Z
 |x::xs,d+1,v,h,Z=>by
  simp only[List.set_cons_succ,SV.eY,awF] at h⊢;exact⟨h.1,Uu h.2 (by simpa using Z)⟩
def Fv{s:S}{dx:Nat}{v:SV}{l:Nat}{cs:List SV}(h:(s.bL (some dx) v l).cU cs=true)(Z:sd s dx):s.cU cs=true:=by
 simp only[S.cU,S.bd,S.bL,S.put,nh,awF] at h⊢;exact⟨⟨Uu h.1.1 Z,h.1.2⟩,h.2⟩
def ank{ty:Ty}{gl:List (Nat×Nat×Nat)}{s:S}{ρ:aa}{op:Op}{w:SV}(h:(bq ty gl s op).gives ρ w):jY op=true:=by
 cases op with
 |call c=>
  cases Z:c.callee with
  |builtin b=>cases b<;>simp only[bq,Z,PR.gives] at h<;>simp[jY,Z]
  |value f=>simp only[bq,Z,PR.gives] at h
  |invoke r m=>simp only[bq,Z,PR.gives] at h
 |_=>first|rfl|(simp only[bq,PR.gives] at h)
def anl{x y:OM}{dx:Nat}(F:Us ops x y dx){s I:S}{ρ:aa}{v:SV}{l:Nat}(E:sd s dx)(r:em ops y s ρ=some true)
  (h:fc cf y (s.bL (some dx) v l) ρ I):∃s',fc cf y s ρ s'/\I=s'.bL (some dx) v l/\(∀t,y.o.dst≠some t->s'.tmps[t]?=s.tmps[t]?)/\s'.ni=s.ni/\s'.nb=s.nb/\s'.rs=s.rs/\
   ∀i,aA s.boxes i=true->bA s'.boxes i=bA s.boxes i\/(tS y.o.op=true/\(y.aY=true->(s.lk|||l).testBit (2*i)=false)/\(iP s.boxes i).isSome=true):=by
 have b:gX cf ops y.o (s.bL (some dx) v l) ρ s ρ:=gX.ue (λt X=>(Ft (λe=>F.ry (by cases e;exact X))).symm) rfl rfl rfl;have m:gX cf ops y.o s ρ (s.bL (some dx) v l) ρ:=gX.ue (λt X=>Ft (λe=>F.ry (by cases e;exact X))) rfl rfl rfl;have O:=m.ev cf.gl;have k:∀z,(some dx:Option Nat)=some z->y.o.dst≠some z:=λz Q=>by cases Q;exact F.dy
 by_cases N:jY y.o.op=true;have a:=m.guard r;obtain⟨w,g,D,rfl⟩:=(Fs (ops:=ops) N a).1 h;have af:=Uq (cf:=cf) b (λi _=>by rw[yf]) D;refine⟨s.bL y.o.dst w g,(Fs (ops:=ops) N r).2 ⟨w,g,af,rfl⟩,ani k,λt X=>Ft X,(dC _ _ _).1,(dC _ _ _).2.1,(dC _ _ _).2.2,λi _=>.inl (by rw[yf])⟩;unfold fc dR at h;split at h;exact h.elim;rename_i hk;have H:¬(y.o.op.operands.toList.any λz=>(s.ev cf.gl z).cN)=true:=by
  intro hh;obtain⟨z,f,ag⟩:=axe.1 hh;exact hk (axe.2 ⟨z,f,by rw[O z f];exact ag⟩)
 have G:∀(n:Nat)(t:TypeId)(cs:List SV)(w:SV),n<s.boxes.length->fc cf y s ρ ((s.bI n t cs).put y.o.dst w)->I=((s.bL (some dx) v l).bI n t cs).put y.o.dst w->
   (∀i,aA s.boxes i=true->i=n->tS y.o.op=true/\(y.aY=true->(s.lk|||l).testBit (2*i)=false)/\(iP s.boxes i).isSome=true)->
   ∃s',fc cf y s ρ s'/\I=s'.bL (some dx) v l/\(∀t,y.o.dst≠some t->s'.tmps[t]?=s.tmps[t]?)/\s'.ni=s.ni/\s'.nb=s.nb/\s'.rs=s.rs/\
    ∀i,aA s.boxes i=true->bA s'.boxes i=bA s.boxes i\/(tS y.o.op=true/\(y.aY=true->(s.lk|||l).testBit (2*i)=false)/\(iP s.boxes i).isSome=true):=by
  intro n t cs w hn h1 h2 h3;refine⟨_,h1, ?_,λt X=>iT X,(dC _ _ _).1,(dC _ _ _).2.1,(dC _ _ _).2.2,λi hi=> ?_⟩;rw[h2,anj,Jw k];by_cases d:i=n;exact .inr (h3 i hi d);left;rw[iU,S.bI,tZ d]
 split at h;rename_i t Z;split at h;rename_i C X;split at h;rename_i W;simp only[awF] at W;have V:=Fv W.1 E;have U:md s.boxes y.ix t=true:=W.2;have R:dL s.boxes y.ix=true:=oA U;refine G y.ix t (cq C) _ (jO R).2 ?_ h (λi hi e=>by subst e;rw[(jO R).1] at hi;cases hi);unfold fc dR;rw[if_neg H];simp only[Z,X,V,U,axZ,if_true];rfl;exact h.elim;exact h.elim;rename_i t z Z;have Q:=O z (by rw[Z];simp[Op.operands]);split at h;rename_i C X;rw[Q] at h;split at h;rename_i W;simp only[awF] at W;obtain⟨⟨⟨M,L⟩,J⟩,B⟩:=W;have V:=Fv L E;have U:md s.boxes y.ix t=true:=B;have R:dL s.boxes y.ix=true:=oA U;refine G y.ix t _ _ (jO R).2 ?_ h (λi hi e=>by subst e;rw[(jO R).1] at hi;cases hi);unfold fc dR;rw[if_neg H];simp only[Z,X,M,V,J,U,axZ,if_true];rfl;exact h.elim;exact h.elim;rename_i t a2 parts Z;have Q:(parts.toList.map λp=>(p.1,(s.bL (some dx) v l).ev cf.gl p.2))=parts.toList.map λp=>(p.1,s.ev cf.gl p.2):=aw5 λp hp=>by rw[O p.2 (by rw[Z];simp[Op.operands];exact⟨p.1,by simpa using hp⟩)]
 split at h;rename_i e ab q X;split at h;rename_i te an;rw[Q] at h;split at h;rename_i cs hf;split at h;rename_i W;simp only[awF] at W;obtain⟨⟨M,L⟩,J⟩:=W;have V:=Fv M E;have U:md s.boxes y.ix e=true:=J;have R:dL s.boxes y.ix=true:=oA U;refine G y.ix e cs _ (jO R).2 ?_ h (λi hi e=>by subst e;rw[(jO R).1] at hi;cases hi);unfold fc dR;rw[if_neg H];simp only[Z,X,an,hf,V,L,U,axZ,if_true];rfl;exact h.elim;exact h.elim;exact h.elim;exact h.elim;rename_i t z u Z;have Q:=O z (by rw[Z];simp[Op.operands]);have hu:=O u (by rw[Z];simp[Op.operands]);rw[Q,hu] at h;split at h;rename_i C i off X hi;rw[yf] at h;split at h;rename_i bt cs V;split at h;rename_i W;simp only[awF,awY] at W;obtain⟨⟨⟨⟨M,L⟩,J⟩,B⟩,P⟩:=W;have a0:(s.bL (some dx) v l).lk=s.lk|||l:=Ny _ _ _;rw[a0] at P;have a1:(y.aY&&s.lk.testBit (2*i))=false:=by
  cases A:y.aY;rfl;rw[A,ayu,ax7] at P;simp only[axo] at P;simp[P.1]
 refine G i bt _ _ (awG.1 (gw.1 (tX V).1)).1 ?_ h (λj hj e=> ?_);unfold fc dR;rw[if_neg H];simp only[Z,X,hi,V,M,L,J,B,a1,axZ,Bool.not_false,if_true];rfl;subst e;refine⟨by rw[Z];rfl,λA=> ?_,by rw[V];rfl⟩;rw[A,ayu] at P;exact P;exact h.elim;exact h.elim;exact h.elim;rename_i c z u Z;exact absurd (by rw[Z];rfl) N;rename_i t z Z;exact absurd (by rw[Z];rfl) N;rename_i o1 o2 o3 o4 o5 o6;exfalso;obtain⟨w,D,-⟩:=ac1.1 h;refine N ?_;exact ank (Nx D)
def anm{ty:Ty}{s s':S}(h:s.rs=s'.rs)(k:RK)(r:RE):r.fits ty s k=r.fits ty s' k:=by
 unfold RE.fits;cases k<;>simp only[yb h r]
def adc{ty:Ty}{s s':S}(h:s.rs=s'.rs):∀(ab:List CT)(row:List SV),ji ty s ab row=ji ty s' ab row
 |[],[]=>rfl
 |[],_::_=>rfl
 |_::_,[]=>rfl
 |c::cs,v::vs=>by
  simp only[ji,adc h cs vs];congr 1;cases c<;>cases v<;>simp only[oh,anm h]
def Ae{ty:Ty}{s s':S}(h:s.rs=s'.rs){ab:List CT}:∀{l:List (List SV)},jX ty s ab l=jX ty s' ab l
 |[]=>rfl
 |r::rs=>by simp only[jX,adc h ab r,Ae h (l:=rs)]
def ann{s:S}{dx:Nat}{v:SV}{l:Nat}{ty:Ty}{e:TypeId}{Z:TI}{y:SV}{r:LE×BE×List Nat}(h:nq ty (s.bL (some dx) v l) e Z y=some r):nq ty s e Z y=some r:=by
 unfold nq at h⊢;split at h;simp only[yb (s:=s) (s':=s.bL (some dx) v l) rfl];exact h;rw[yf] at h;split at h;rename_i X;simp only[X,Ae (s:=s) (s':=s.bL (some dx) v l) rfl];exact h;cases h;cases h
def ano{s:S}{dx:Nat}{v:SV}{l:Nat}{e:TypeId}{aY:Bool}{y:SV}{X:LE}{n:BE}{kill:List Nat}(h:rR (s.bL (some dx) v l) e aY y=some (X,n,kill)):rR s e aY y=some (X,n,kill)/\∀k∈kill,aY=true->(s.lk|||l).testBit (2*k+1)=false:=by
 have U:(s.bL (some dx) v l).lk=s.lk|||l:=Ny _ _ _;unfold rR at h⊢;split at h;rename_i k;split at h;rename_i W;cases h;have R:s.rs[k]?=some (.own e):=W.1;have Z:=W.2;rw[U] at Z;simp only[awY,azh] at Z;refine⟨?_,λO V Q=> ?_⟩;rw[if_pos];refine⟨R, ?_⟩;simp only[awY,azh];rcases Z with Z|Z;exact .inl Z;rw[ax7,axo] at Z;exact .inr Z.1;simp at V;subst V;rcases Z with Z|Z;rw[Q] at Z;cases Z;exact Z;cases h;rename_i r N;split at h;rename_i P;cases h;simp[P];cases h;cases h;exact⟨rfl,by simp⟩;cases h
variable{Kn:aa->S->Prop}{Kp:aa->SV->S->Prop}{Yp:OM->List OM->aa->S->Nat->List SV->Prop}
def anp(ks:List LK)(s:S)(d:Option Nat)(v:SV)(l:Nat):((s.bL d v l).bz ks).1=(s.bz ks).1/\((s.bL d v l).bz ks).2=(s.bz ks).2.bL d v l:=by
 induction ks generalizing s with
 |nil=>exact⟨rfl,rfl⟩
 |cons k ks Z=>
  simp only[S.bz];have X:((s.bL d v l).fresh k).1=(s.fresh k).1/\((s.bL d v l).fresh k).2=(s.fresh k).2.bL d v l:=by
   cases k<;>cases d<;>exact⟨rfl,rfl⟩
  rw[X.1,X.2];exact⟨by rw[(Z _).1],(Z _).2⟩
def anq{m:OM}{s:S}{ρ:aa}{v:SV}{l:Nat}(h:QV cf ops ρ m s v l)(U:em ops m s ρ=some true){t:TypeId}{x:Operand}{i off:Nat}(R:m.o.op=.load t x)(X:s.ev cf.gl x=.loc i off):aA s.boxes i=true/\(m.aY=true->l=1<<<(2*i)):=by
 rcases h with h|⟨-,-,h⟩;rw[U] at h;cases h.1;rw[R] at h;obtain⟨Z,Q⟩:=h;refine⟨?_,λP=>by rw[Q,X,P];rfl⟩;have Z:=Nx Z;simp only[bq,X] at Z;cases W:cf.ty t with
 |none=>rw[W] at Z;exact Z.elim
 |some O=>
  rw[W] at Z;simp only at Z;cases V:bA s.boxes i with
  |none=>rw[show iP s.boxes i=none by simp[iP,V]] at Z;exact Z.elim
  |some b=>simp[aA,V]
def anr{m:OM}{s:S}{ρ:aa}{v:SV}{l:Nat}(h:QV cf ops ρ m s v l)(R:em ops m s ρ=some true){t:TypeId}{x:Operand}{i:Nat}{e:IE}{ks:List Int}{vs:List SV}(Q:m.o.op=.load t x)(X:s.ev cf.gl x=.dI e ks vs)(W:tN vs=some i):aA s.boxes i=true/\(m.aY=true->l=1<<<(2*i)):=by
 rcases h with h|⟨-,-,h⟩;rw[R] at h;cases h.1;rw[Q] at h;obtain⟨Z,P⟩:=h;refine⟨?_,λO=>by rw[P,X,O];simp[ID,W]⟩;have Z:=Nx Z;simp only[bq,X] at Z;cases V:cf.ty t with
 |none=>rw[V] at Z;exact Z.elim
 |some N=>
  rw[V] at Z;simp only[W,ayV] at Z;cases U:bA s.boxes i with
  |none=>rw[show iP s.boxes i=none by simp[iP,U]] at Z;exact Z.elim
  |some b=>simp[aA,U]
def ade{m:OM}{s:S}{ρ:aa}{v:SV}{l:Nat}(h:QV cf ops ρ m s v l)(R:em ops m s ρ=some true){i:Nat}(X:vC cf.gl s m.o.op=some i):aA s.boxes i=true/\((vM m.o.op=true/\(m.aY=true->l=1<<<(2*i)))\/iP s.boxes i=none):=by
 unfold vC at X;split at X;rename_i t x W;split at X;rename_i j off V;cases X;obtain⟨Z,Q⟩:=anq h R W V;exact⟨Z,.inl ⟨by rw[W];rfl,Q⟩⟩;rename_i e ks vs V;obtain⟨Z,Q⟩:=anr h R W V X;exact⟨Z,.inl ⟨by rw[W];rfl,Q⟩⟩;cases X;rename_i t x ix M W;split at X;rename_i j V;cases X;rcases h with h|⟨-,-,h⟩;rw[R] at h;cases h.1;rw[W] at h;have Z:=Nx h.1;simp only[bq,V] at Z;split at Z;rename_i k e n ag ab q L J O;cases O;unfold Mh at Z;split at Z;rename_i I a b c N cs H G P;refine⟨by simp[aA,P],.inr ?_⟩;have:oa N=true:=by
  split at Z;exact Z.elim;split at Z;rename_i U;simp at U;rw[U];decide;split at Z;rename_i U;simp at U;rw[U];decide;exact Z.elim
 simp[iP,P,this];exact Z.elim;exact Z.elim;cases X;cases X
def Fw{o:Oper}{aY:Bool}{s:S}{b:BI}(h:cK cf o aY true s=some b):o9 o.op=true:=by
 unfold cK at h;cases X:o.op<;>rw[X] at h<;>simp only[if_true,aAa] at h<;>try cases h
 rfl;rename_i c;cases Z:c.callee with
 |builtin W=>cases W<;>simp[Z] at h<;>simp[o9,Z]
 |_=>simp[Z] at h
def Uv{m:OM}{s s':S}{ρ:aa}(h:o9 m.o.op=true)(Z:fc cf m s ρ s'):False:=by
 unfold fc dR at Z;split at Z;exact Z;cases W:m.o.op<;>rw[W] at h Z<;>simp[o9] at h;simp[bq,oj,OR.CE] at Z;rename_i c;cases X:c.callee with
 |builtin V=>cases V<;>simp[X] at h<;>simp[bq,X,oj,OR.CE] at Z
 |_=>simp[X] at h
def adf{s:S}{dx:Nat}{v:SV}{l:Nat}{d:Option Nat}{az:BE}{e:TypeId}{k:RK}{x:LE}{kill frz:List Nat}{Z:BI}(W:sd s dx)(V:d≠some dx)
  (h:gF (s.bL (some dx) v l) d az e k x kill frz=some Z):
  ∃b,gF s d az e k x kill frz=some b/\Z={b with s:=b.s.bL (some dx) v l}/\(∀t,d≠some t->b.s.tmps[t]?=s.tmps[t]?)/\b.s.ni=s.ni/\b.s.nb=s.nb/\b.s.rs=iQ frz 0 (gj kill 0 s.rs)++[k]/\b.s.boxes=s.boxes:=by
 unfold gF at h⊢;split at h;rename_i X;cases h;simp only[awF] at X;obtain⟨⟨⟨U,R⟩,Q⟩,P⟩:=X;have O:s.bd=true:=by
  have:s.cU []=true:=Fv (dx:=dx) (v:=v) (l:=l) (cs:=[]) (by simp[S.cU,U,SV.eY]) W;simp only[S.cU,awF] at this;exact this.1
 rw[if_pos (by simp only[awF];exact⟨⟨⟨O,R⟩,Q⟩,P⟩)];refine⟨_,rfl, ?_,λt N=>iT N,(dC _ _ _).1,(dC _ _ _).2.1,(dC _ _ _).2.2,iU _ _ _⟩;congr 1;exact Jw (s:={s with rs:=iQ frz 0 (gj kill 0 s.rs)++[k]}) (d:=some dx) (e:=d) (v:=v) (w:=.ref (.v s.rs.length)) (l:=l) (λz M=>by cases M;exact V);cases h
def ans{x y:OM}{dx:Nat}(V:Us ops x y dx){s:S}{v:SV}{l:Nat}(Q:sd s dx)(Z:∀z∈y.o.op.operands.toList,s.ev cf.gl z=(s.bL (some dx) v l).ev cf.gl z){P:BI}
  (h:cK cf y.o y.aY y.dr (s.bL (some dx) v l)=some P):
  ∃b kill frz N,cK cf y.o y.aY y.dr s=some b/\P={b with s:=b.s.bL (some dx) v l}/\(∀t,y.o.dst≠some t->b.s.tmps[t]?=s.tmps[t]?)/\b.s.ni=s.ni/\b.s.nb=s.nb/\b.s.rs=iQ frz 0 (gj kill 0 s.rs)++[N]/\b.s.boxes=s.boxes/\
   (∀k∈kill,y.aY=true->(s.lk|||l).testBit (2*k+1)=false)/\(xI y.o.op=false->kill=[]):=by
 have X:=Fw (by rw[V.yd] at h;exact h);unfold cK at h⊢;cases M:y.o.op<;>rw[M] at X h Z<;>simp[o9] at X;rename_i t n m;simp only at h⊢;rw[Z n (by simp[Op.operands]),Z m (by simp[Op.operands])];split at h;rename_i e ab q n' L J I H;split at h;rename_i W G;split at h;rename_i F;obtain⟨b,U,R,E,D,C,B,A⟩:=adf Q V.dy h;have w:(n'.same L&&jX cf.ty s W.ab [cq W]&&W.ab.length !=0)=true:=by
  rw[<-Ae (s:=s.bL (some dx) v l) (s':=s) rfl];exact F
 rw[if_pos w];exact⟨b,[],[],_,U,R,E,D,C,B,A,by simp,λ_=>rfl⟩;cases h;cases h;cases h;rename_i c;cases bg:c.callee with
 |builtin u=>
  cases u<;>simp[bg] at X;simp only[bg] at h⊢;have r:c.args.toList.map (s.ev cf.gl)=c.args.toList.map ((s.bL (some dx) v l).ev cf.gl):=aw5 λz j=>Z z (by simp[Op.operands,Call.operands];exact .inr (by simpa using j))
  rw[r];split at h;rename_i t t2 x0 y0 I H;split at h;rename_i e ab q e2 af O J ag;split at h;rename_i W G;split at h;cases h;rename_i i;rw[if_neg i];split at h;rename_i la n1 kill lb n2 frz U R;obtain⟨g,O⟩:=ano U;have f:=ann R;rw[g,f];obtain⟨b,d,a,k3,k4,k5,k6,k7⟩:=adf Q V.dy h;exact⟨b,kill,frz,_,d,a,k3,k4,k5,k6,k7,O,λh=>by simp[xI,bg] at h⟩;cases h;cases h;cases h;cases h
 |_=>simp[bg] at X
def ant(a5:Ac ops H){x y:OM}{rest:List OM}{s:S}{ρ:aa}(a6:y.so=false)(a7:Mv ops x y=true)(ha:∀d,x.o.dst=some d->sd s d)
  (e1:ρ.i.length=s.ni)(I:ρ.b.length=s.nb)(G:ρ.r.length=s.rs.length)
  (h:cD p cf ops H Kn Kp Yp (x::y::rest) ρ s):cD p cf ops H Kn Kp Yp (y::x::rest) ρ s:=by
 obtain⟨dx,X⟩:=adb a7;obtain⟨v,l,V,h⟩:=(ada X.xd X.qx).1 h;rw[X.dst] at h;have j:=ha dx X.dst;have af:∀z,(some dx:Option Nat)=some z->y.o.dst≠some z:=λz hz=>by cases hz;exact X.dy
 have F:gX cf ops y.o (s.bL (some dx) v l) ρ s ρ:=gX.ue (λt Q=>(Ft (λe=>X.ry (by cases e;exact Q))).symm) rfl rfl rfl;have E:∀(s':S)(ρ':aa),(em ops x s ρ=some false->em ops x s' ρ'=some false)->(em ops x s ρ=some true->gX cf ops x.o s ρ s' ρ')->(em ops x s ρ=some true->∀i,vC cf.gl s x.o.op=some i->bA s'.boxes i=bA s.boxes i)->cD p cf ops H Kn Kp Yp rest ρ' (s'.bL (some dx) v l)->cD p cf ops H Kn Kp Yp (x::rest) ρ' s':=by
  intro s' ρ' a8 hs f hr;refine(ada X.xd X.qx).2 ⟨v,l, ?_,by rw[X.dst];exact hr⟩;cases O:em ops x s ρ with
  |none=>rcases V with V|V<;>(rw[O] at V;cases V.1)
  |some b=>
   cases b;rcases V with V|V;exact .inl ⟨a8 V.1,V.2⟩;rw[O] at V;cases V.1;exact Uq (hs O) (f O) V
 simp only[cD] at h;rcases h with⟨c,Z⟩|⟨c,Z⟩;refine .inl ⟨F.guard c, ?_⟩;rw[Jw af] at Z;have P:gX cf ops x.o s ρ (s.put y.o.dst (.bj [])) ρ:=gX.ue (λt Q=>iT (λe=>X.yx t e Q)) (dC _ _ _).2.2 (dC _ _ _).1 (dC _ _ _).2.1;refine E _ _ P.guard (λ_=>P) (λ_ i _=>by rw[iU]) Z
 ·refine .inr ⟨F.guard c, ?_⟩;have hg:em ops y s ρ=some true:=F.guard c;have a9:cV cf s y.o=cV cf (s.bL (some dx) v l) y.o:=Fu (F.ev cf.gl);rw[a9];cases a:cV cf (s.bL (some dx) v l) y.o with
  |call g0 args=>
   rw[a] at Z;rcases g0 with g|n
   rotate_left
   have L:=Z.1;rw[a6] at L;cases L;have bb:H g args (s.bL (some dx) v l)=H g args s:=a5.q _ _ _ _ _ _;show mi _ _ _;have Z:mi _ _ _:=Z;rw[bb] at Z;cases a1:H g args s with
   |some ve=>
    obtain⟨pv,ex⟩:=ve;rw[a1] at Z;obtain⟨bf,Z⟩:=Z;have bk:s.bd=true:=by
     have:=Fv (s:=s) (dx:=dx) (v:=v) (l:=l) (cs:=[]) (by simp only[S.cU,bf,SV.eY,axZ]) j;simp only[S.cU,awF] at this;exact this.1
    have br:(((s.bL (some dx) v l).plus ex).put y.o.dst pv)=(((s.plus ex).put y.o.dst pv).bL (some dx) v l):=by
     rw[<-Jw af];rfl
    rw[br] at Z;have P:gX cf ops x.o s ρ ((s.plus ex).put y.o.dst pv) ρ:=gX.ue (λt Q=>iT (λe=>X.yx t e Q)) (dC _ _ _).2.2 (dC _ _ _).1 (dC _ _ _).2.1;refine⟨bk,E _ _ P.guard (λ_=>P) (λO i hi=> ?_) Z⟩;rw[iU];exact ac5 (ade V O hi).1
   |none=>
   rw[a1] at Z;simp only[mi] at Z⊢;obtain⟨ts,ks,r,c1,c2,c3,c4,c5⟩:=Z;obtain⟨f1,f2⟩:=anp ks (s.cut args ks) (some dx) v l;have bs:(s.cU args&&me ks)=true:=by
    simp only[awF] at c4⊢;exact⟨Fv c4.1 j,c4.2⟩
   refine⟨ts,ks,r,c1,c2,by rw[<-f1];exact c3,bs,λβ W R=> ?_⟩;refine(c5 β W (by rw[yf];exact R)).mono ?_;intro e W' N;cases e with
   |returned u=>
    obtain⟨xs,q1,q2,q3,q4,q5⟩:=N;refine⟨xs,q1,q2,q3,q4, ?_⟩;have q5:cD p cf ops H Kn Kp Yp rest (ρ.ext xs) ((((s.cut args ks).bL (some dx) v l).bz ks).2.put y.o.dst (one r)):=q5;rw[f2,Jw af] at q5;obtain⟨b1,b2,b3,b4⟩:=sc ks (s.cut args ks);obtain⟨l1,l2,l3⟩:=ud ks xs (s.cut args ks) ρ q1 e1 I (G.trans (Aa args ks s.rs).len.symm);have ag:=MW xs ρ;have a2:v6 cf.ty s ((((s.cut args ks).bz ks).2).put y.o.dst (one r)):=by
     intro q e N U;refine Nv (λk e _ U=> ?_) N U;rw[(dC _ _ _).2.2];obtain⟨M,D,C⟩:∃M,(xH args ks s.rs)[k]?=some M/\M.rd=e.rd:=by
      unfold xH;split;refine⟨tO ((IL args s.rs.length).contains k) e,by rw[Fb,U];simp, ?_⟩;cases e<;>simp only[tO]<;>try rfl
      split<;>rfl;exact⟨e,U,rfl⟩
     exact⟨M,acG ks (s.cut args ks) k M D,C⟩
    have P:gX cf ops x.o s ρ ((((s.cut args ks).bz ks).2).put y.o.dst (one r)) (ρ.ext xs):=by
     refine⟨λt Q=> ?_,λ_ _=>a2,λt x r w i off _ _=>a2 r, ?_, ?_, ?_, ?_⟩;rw[iT (λe=>X.yx t e Q),b2];rfl;rw[(dC _ _ _).1,<-l1,<-e1];exact ag.1;rw[(dC _ _ _).2.1,<-l2,<-I];exact ag.2.1;rw[(dC _ _ _).2.2,<-l3,<-G];exact ag.2.2;rw[<-e1,<-I,<-G];exact zV xs ρ
    exact E _ _ P.guard (λ_=>P) (λ_ i _=>by rw[iU,b1];rfl) q5
   |panicked ch=>exact N
   |outgrown=>exact N
  |aS w=>
   have:=Ut a;rw[X.np] at this;cases this
  |no=>rw[a] at Z;exact Z
  |op=>
   rw[a] at Z;simp only at Z⊢;cases an:cK cf y.o y.aY y.dr (s.bL (some dx) v l) with
   |some b1=>
    rw[an] at Z;obtain⟨hn,Z⟩:=Z;obtain⟨b,kill,frz,kk,D,C,g3,g4,g5,B,g7,g8,g9⟩:=ans X j (F.ev cf.gl) an;rw[D];subst C;refine⟨hn,λrv bt=>E _ _ ?_ ?_ ?_ (Z rv bt)⟩;intro bx;have b0:gX cf ops {x.o with op:=.move (.const undef)} s ρ b.s (ρ.add (.r rv)):=⟨λt Q=>g3 t (λe=>X.yx t e (by
     unfold gu at Q⊢;refine(awR.1 Q).elim (λh=> ?_) (λh=>ayf _ h);simp[Op.operands] at h)),λh=>by simp[looks] at h,λt x0 r w i off h=>by simp at h,ayi g4.symm,ayi g5.symm,by rw[B];simp[vU,vT],by rw[<-e1,<-I,<-G];exact MK ρ (.r rv)⟩
    exact b0.guard (m:={x with o:={x.o with op:=.move (.const undef)}}) bx;intro O;have a3:∀(k:Nat)(e:RK),k∉kill->s.rs[k]?=some e->∃M,b.s.rs[k]?=some M/\M.rd=e.rd:=by
     intro k e b5 U;have b6:k<s.rs.length:=(awG.1 U).1;refine⟨tO (frz.contains k) e, ?_, ?_⟩;rw[B,awI (by simp[vU,vT];exact b6),Fb,Fa,U];simp[b5];cases e<;>simp only[tO]<;>try rfl
     split<;>rfl
    refine⟨λt Q=>g3 t (λe=>X.yx t e Q),λb7 b8=> ?_,λt x0 r w i off ho hx e N U=> ?_,ayi g4.symm,ayi g5.symm,by rw[B];simp[vU,vT],by rw[<-e1,<-I,<-G];exact MK ρ (.r rv)⟩;cases J:xI y.o.op with
    |true=>
     have:=(X.rb J b7).1;rw[b8] at this;cases this
    |false=>
     intro r e N U;exact Nv (λk e _ U=>a3 k e (by rw[g9 J];simp) U) N U
    refine Nv (λk e ca U=>a3 k e ?_ U) N U;intro a0;have J:xI y.o.op=true:=by
     cases J:xI y.o.op with
     |true=>rfl
     |false=>rw[g9 J] at a0;cases a0
    obtain⟨-,r1,r2⟩:=X.rb J (by rw[ho];rfl);have a4:=g8 k a0 r2;rcases V with V|⟨-,-,V⟩;rw[O] at V;cases V.1;rw[ho] at V;have:=V.2;rw[hx,r1] at this;simp only[ID,ca,if_true] at this;rw[this,ax7] at a4;simp[aze] at a4;intro _ i _;rw[g7]
   |none=>
   rw[an] at Z;have cc:cK cf y.o y.aY y.dr s=none:=by
    cases f:cK cf y.o y.aY y.dr s with
    |none=>rfl
    |some b=>
     exfalso;have cl:=Fw (by rw[X.yd] at f;exact f);obtain⟨s2,L,-⟩:=Z;exact Uv cl L
   rw[cc];simp only[oD] at Z⊢;obtain⟨s2,L,h4⟩:=Z;obtain⟨s',D,C,g3,g4,g5,B,g7⟩:=anl X j hg L;subst C;have P:gX cf ops x.o s ρ s' ρ:=gX.ue (λt Q=>g3 t (λe=>X.yx t e Q)) B g4 g5;refine⟨s',D,E s' ρ P.guard (λ_=>P) ?_ h4⟩;intro O i hi;obtain⟨k1,A⟩:=ade V O hi;rcases g7 i k1 with k3|⟨k3,k4,k5⟩;exact k3;rcases A with⟨A,k6⟩|A;obtain⟨r1,r2⟩:=X.rc k3 A;have:=k4 r2;rw[k6 r1,ax7] at this;simp[aze] at this;rw[A] at k5;cases k5
end
end
section
section
variable{p:Sp}{cf:bc}{ops:Array Oper}{H:rU}{Kn:aa->S->Prop}{Kp:aa->SV->S->Prop}{Yp:OM->List OM->aa->S->Nat->List SV->Prop}
def adg{m:OM}{s s':S}{ρ:aa}(h:(dR cf m s).gives ρ s'):∀t,m.o.dst≠some t->s'.tmps[t]?=s.tmps[t]?:=by
 intro q Z;unfold dR at h;split at h;exact h.elim;split at h;split at h;split at h;cases h;rw[iT Z];rfl;exact h.elim;exact h.elim;split at h;split at h;cases h;rw[iT Z];rfl;exact h.elim;exact h.elim;split at h;split at h;split at h;split at h;cases h;rw[iT Z];rfl;exact h.elim;exact h.elim;exact h.elim;exact h.elim;split at h;split at h;split at h;cases h;rw[iT Z];rfl;exact h.elim;exact h.elim;exact h.elim;split at h;simp only[OR.gives] at h;split at h<;>(subst h;rw[iT Z]);exact h.elim;obtain⟨v,-,rfl⟩:=vW h;rw[Ft Z];obtain⟨v,-,rfl⟩:=vW h;rw[Ft Z]
def Uw{o:Oper}{aY:Bool}{s:S}{b:BI}(h:cK cf o aY true s=some b):∀t,o.dst≠some t->b.s.tmps[t]?=s.tmps[t]?:=by
 intro q W;have key:∀{az:BE}{e:TypeId}{k:RK}{x:LE}{kill frz:List Nat},gF s o.dst az e k x kill frz=some b->b.s.tmps[q]?=s.tmps[q]?:=by
  intro az e k x kill frz h;obtain⟨-,-,rfl⟩:=ua h;simp only;rw[iT W]
 have Z:=Fw h;unfold cK at h;cases V:o.op<;>rw[V] at Z h<;>simp[o9] at Z;simp only at h;split at h;split at h;split at h;exact key h;cases h;cases h;cases h;rename_i c;cases X:c.callee with
 |builtin U=>
  cases U<;>simp[X] at Z;simp only[X] at h;split at h;split at h;split at h;split at h;cases h;split at h;exact key h;cases h;cases h;cases h;cases h
 |_=>simp[X] at Z
def Ux{ni nb Z:Nat}{pr:Nat->Bool}:∀{l m:List SV},SV.ck ni nb Z pr (l++m)=true<->SV.ck ni nb Z pr l=true/\SV.ck ni nb Z pr m=true
 |[],m=>by simp[SV.eY]
 |x::xs,m=>by simp[SV.eY,Ux (l:=xs),and_assoc]
def qw{ni nb Z:Nat}{pr:Nat->Bool}:∀{l:List SV},SV.ck ni nb Z pr l=true<->∀v∈l,v.bd ni nb Z pr=true
 |[]=>by simp[SV.eY]
 |x::xs=>by simp[SV.eY,qw (l:=xs)]
def anu{ni nb Z:Nat}{pr:Nat->Bool}(v:Value):(Iw v).bd ni nb Z pr=true:=by
 have X:∀w,(Eo w).bd ni nb Z pr=true:=λw=>by cases w<;>simp[Eo,SV.aG,IE.aG,BE.aG,RE.aG]
 cases v<;>try simp[Iw,SV.aG,IE.aG,BE.aG,RE.aG]
 rw[qw];intro x W;obtain⟨w,-,rfl⟩:=aw7.1 W;exact X w
def v8{s:S}(Z:s.bd=true){x:Operand}(X:rT x=true):(s.ev cf.gl x).bd s.ni s.nb s.rs.length (aA s.boxes)=true:=by
 simp only[S.bd,awF] at Z;cases x with
 |tmp t=>
  simp only[S.ev,ng,awK];cases W:s.tmps[t]? with
  |none=>simp[SV.aG]
  |some v=>exact qn Z.1 W
 |const v=>exact anu v
 |global g=>cases X
 |func f=>simp[S.ev,ng,SV.aG,SV.eY]
def Uy{ni nb Z:Nat}{pr:Nat->Bool}{v:SV}(h:v.bd ni nb Z pr=true):SV.ck ni nb Z pr v.cells=true:=by
 cases v<;>simp only[SV.cells,SV.eY,ayG]<;>first|exact h|(simp only[SV.aG] at h;exact h)
def Uz{ni nb Z:Nat}{pr:Nat->Bool}:∀{vs l:List SV}{off:Nat},SV.ck ni nb Z pr l=true->SV.ck ni nb Z pr vs=true->SV.ck ni nb Z pr (iw l off vs)=true
 |[],l,off,h,_=>h
 |v::vs,l,off,h,X=>by
  simp only[SV.eY,awF] at X;rw[iw];refine Uz (vs:=vs) ?_ X.2;rw[qw] at h⊢;intro x V;rcases axM V with W|W;exact h x W;rw[W];exact X.1
def adh{ni nb X:Nat}{pr:Nat->Bool}{place:Nat->Option (Nat×Nat)}:∀{ps:List (Nat×SV)}{cs l:List SV},SV.ck ni nb X pr cs=true->(∀q∈ps,q.2.bd ni nb X pr=true)->tM place cs ps=some l->SV.ck ni nb X pr l=true
 |[],cs,l,h,_,Z=>by simp[tM] at Z;subst Z;exact h
 |(i,v)::r,cs,l,h,W,Z=>by
  simp only[tM] at Z;split at Z;cases Z;split at Z;cases Z;exact adh (Uz h (Uy (W (i,v) ayp))) (λq V=>W q (axS _ V)) Z
def Nz{ni nb Z:Nat}{pr:Nat->Bool}(X:TI):SV.ck ni nb Z pr (cq X)=true:=by
 rw[qw];intro x W;obtain⟨c,-,rfl⟩:=aw7.1 W;cases c<;>simp[xw,SV.aG,IE.aG,BE.aG,RE.aG]
def adi{ni nb Z:Nat}{pr:Nat->Bool}{l:List SV}(h:SV.ck ni nb Z pr l=true):∀n,SV.ck ni nb Z pr (rP n l)=true
 |0=>rfl
 |n+1=>by rw[rP,Ux];exact⟨h,adi h n⟩
mutual
def SV.Jy{ni nb X:Nat}{pr W:Nat->Bool}(h:∀i,pr i=true->W i=true):∀(v:SV),v.bd ni nb X pr=true->v.bd ni nb X W=true
 |.int _ _,Z=>by simp only[SV.aG] at Z⊢;exact Z
 |.bool _,Z=>by simp only[SV.aG] at Z⊢;exact Z
 |.ref _,Z=>by simp only[SV.aG] at Z⊢;exact Z
 |.loc i _,Z=>by simp only[SV.aG] at Z⊢;exact h i Z
 |.fo i _ _ _,Z=>by simp only[SV.aG] at Z⊢;exact h i Z
 |.el _ _ _ _,Z=>by simp only[SV.aG] at Z⊢;exact Z
 |.agg l,Z=>by simp only[SV.aG] at Z⊢;exact SV.Af h l Z
 |.bj l,Z=>by simp only[SV.aG] at Z⊢;exact SV.Af h l Z
 |.fn _ l,Z=>by simp only[SV.aG] at Z⊢;exact SV.Af h l Z
 |.dH _ x,Z=>by simp only[SV.aG] at Z⊢;exact SV.Jy h x Z
 |.yl _,_=>by simp only[SV.aG]
 |.any,_=>by simp only[SV.aG]
 |.mp i,Z=>by simp only[SV.aG] at Z⊢;exact h i Z
 |.dI _ _ vs,Z=>by simp only[SV.aG,awF] at Z⊢;exact⟨Z.1,SV.Af h vs Z.2⟩
def SV.Af{ni nb X:Nat}{pr W:Nat->Bool}(h:∀i,pr i=true->W i=true):∀(l:List SV),SV.ck ni nb X pr l=true->SV.ck ni nb X W l=true
 |[],_=>rfl
 |x::xs,Z=>by simp only[SV.eY,awF] at Z⊢;exact⟨SV.Jy h x Z.1,SV.Af h xs Z.2⟩
end
def yg{ni nb X:Nat}{pr:Nat->Bool}:∀{l:aX},SV.mM ni nb X pr l=true<->∀(i:Nat)(b:TypeId×List SV),bA l i=some b->SV.ck ni nb X pr b.2=true
 |[]=>by simp[SV.mM,bP]
 |none::xs=>by
  simp only[SV.mM,yg (l:=xs)];exact⟨λh i b Z=>by cases i with
   |zero=>simp[bP] at Z
   |succ i=>exact h i b (by simpa[bP] using Z),λh i b Z=>h (i+1) b (by simpa[bP] using Z)⟩
 |some x::xs=>by
  simp only[SV.mM,awF,yg (l:=xs)];exact⟨λh i b Z=>by cases i with
   |zero=>simp[bP] at Z;subst Z;exact h.1
   |succ i=>exact h.2 i b (by simpa[bP] using Z),λh=>⟨h 0 x (by simp[bP]),λi b Z=>h (i+1) b (by simpa[bP] using Z)⟩⟩
def S.more(s:S)(n:Nat)(t:TypeId)(cs:List SV)(d:Option Nat)(w:SV):S:=(s.bI n t cs).put d w
def adj{s:S}{n:Nat}{t:TypeId}{cs:List SV}{d:Option Nat}{w:SV}(Z:s.bd=true)(P:dL s.boxes n=true)(Q:s.cU cs=true)(O:w.bd s.ni s.nb s.rs.length (λi=>i==n)=true):(s.more n t cs d w).bd=true:=by
 have V:=(jO P).2;have X:∀i,aA s.boxes i=true->aA (s.boxes.set n (some (t,cs))) i=true:=λi hi=>(lI V).2 (.inr hi)
 simp only[S.cU,S.bd,awF] at Z Q;simp only[S.more,S.bd,awF];obtain⟨N,M,L⟩:=dC (s.bI n t cs) d w;rw[N,M,L,iU];simp only[S.bI];refine⟨?_, ?_⟩;rw[qw];intro v U;cases d with
 |none=>exact SV.Jy X v (qw.1 Z.1 v U)
 |some d=>
  simp only[S.put,nh] at U;rcases axM U with R|R;exact SV.Jy X v (qw.1 Z.1 v R);rw[R];exact SV.Jy (λi hi=>by simp at hi;subst hi;exact(lI V).2 (.inl rfl)) w O
 rw[yg];intro i b W;by_cases hi:i=n;subst hi;rw[Cw V] at W;cases W;exact SV.Af X cs Q.2;rw[tZ hi] at W;exact SV.Af X _ (yg.1 Z.2 i b W)
def UA{y:OM}{s H:S}{ρ:aa}(u:dW y.o.op=true)(r:y.o.op.operands.toList.all rT=true)(h:fc cf y s ρ H):
  ∃t cs w,H=s.more y.ix t cs y.o.dst w/\dL s.boxes y.ix=true/\(∀ni nb n,w.bd ni nb n (λi=>i==y.ix)=true)/\
   ∀(s':S)(ρ':aa),(∀x∈y.o.op.operands.toList,s'.ev cf.gl x=s.ev cf.gl x)->s'.bd=true->dL s'.boxes y.ix=true->s'.cU cs=true/\fc cf y s' ρ' (s'.more y.ix t cs y.o.dst w):=by
 unfold fc dR at h;split at h;exact h.elim;rename_i m;have G:∀x∈y.o.op.operands.toList,rT x=true:=awU.1 r;have L:∀s':S,(∀x∈y.o.op.operands.toList,s'.ev cf.gl x=s.ev cf.gl x)->¬(y.o.op.operands.toList.any λz=>(s'.ev cf.gl z).cN)=true:=by
  intro s' X l;obtain⟨z,F,k⟩:=axe.1 l;exact m (axe.2 ⟨z,F,by rw[<-X z F];exact k⟩)
 split at h;rename_i t Z;split at h;rename_i N R;split at h;rename_i W;simp only[awF] at W;refine⟨t,cq N,.loc y.ix 0,h,oA W.2,λ_ _ _=>by simp[SV.aG],λs' ρ' X U Q=> ?_⟩;have V:s'.cU (cq N)=true:=by simp only[S.cU,U,ayu];exact Nz N
 refine⟨V, ?_⟩;unfold fc dR;rw[if_neg (L s' X)];have P:md s'.boxes y.ix t=true:=by simp[md,Q,E9 W.2]
 simp only[Z,R,V,P,axZ,if_true];rfl;exact h.elim;exact h.elim;rename_i t z Z;split at h;rename_i N R;split at h;rename_i W;simp only[awF] at W;obtain⟨⟨⟨E,D⟩,M⟩,C⟩:=W;refine⟨t,(s.ev cf.gl z).cells,.loc y.ix 0,h,oA C,λ_ _ _=>by simp[SV.aG],λs' ρ' X U Q=> ?_⟩;have O:=X z (by rw[Z];simp[Op.operands]);have V:s'.cU (s.ev cf.gl z).cells=true:=by
  simp only[S.cU,U,ayu];rw[<-O];exact Uy (v8 U (G z (by rw[Z];simp[Op.operands])))
 refine⟨V, ?_⟩;unfold fc dR;rw[if_neg (L s' X)];have P:md s'.boxes y.ix t=true:=by simp[md,Q,E9 C]
 simp only[Z,R,O,E,V,M,P,axZ,if_true];rfl;exact h.elim;exact h.elim;rename_i t J parts Z;split at h;rename_i e ab q R;split at h;rename_i j g;split at h;rename_i cs B;split at h;rename_i W;simp only[awF] at W;obtain⟨⟨E,D⟩,M⟩:=W;refine⟨e,cs,.fo y.ix 0 J J,h,oA M,λ_ _ _=>by simp[SV.aG],λs' ρ' X U Q=> ?_⟩;have O:(parts.toList.map λp=>(p.1,s'.ev cf.gl p.2))=parts.toList.map λp=>(p.1,s.ev cf.gl p.2):=aw5 λp I=>by rw[X p.2 (by rw[Z];simp[Op.operands];exact⟨p.1,by simpa using I⟩)]
 have V:s'.cU cs=true:=by
  simp only[S.cU,U,ayu];refine adh (adi (Nz j) J) (λq A=> ?_) B;rw[<-O] at A;obtain⟨v,I,rfl⟩:=aw7.1 A;exact v8 U (G v.2 (by rw[Z];simp[Op.operands];exact⟨v.1,by simpa using I⟩))
 refine⟨V, ?_⟩;unfold fc dR;rw[if_neg (L s' X)];have P:md s'.boxes y.ix e=true:=by simp[md,Q,E9 M]
 simp only[Z,R,g,O,B,V,D,P,axZ,if_true];rfl;exact h.elim;exact h.elim;exact h.elim;exact h.elim
 all_goals(rename_i Z;simp[dW,Z] at u)<;>skip
def Jz{s:S}{o:Oper}(h:dW o.op=true):cV cf s o=.op:=by
 unfold cV;cases Z:o.op<;>rw[Z] at h<;>simp[dW] at h<;>rfl
def Fy{s:S}{o:Oper}{aY Z:Bool}(h:dW o.op=true)(X:Z=true):cK cf o aY Z s=none:=by
 subst X;unfold cK;cases W:o.op<;>rw[W] at h<;>simp[dW] at h<;>first|rfl|simp
def ug(s:S)(n:Nat)(t:TypeId)(cs:List SV)(d:Option Nat)(w:SV):(s.more n t cs d w).ni=s.ni/\(s.more n t cs d w).nb=s.nb/\(s.more n t cs d w).rs=s.rs:=dC _ _ _
def Fz{s:S}{n:Nat}{t:TypeId}{cs:List SV}{d:Option Nat}{w:SV}{q:Nat}(h:d≠some q):(s.more n t cs d w).tmps[q]?=s.tmps[q]?:=iT h
def yi(s:S)(n:Nat)(t:TypeId)(cs:List SV)(d:Option Nat)(w:SV):(s.more n t cs d w).boxes=s.boxes.set n (some (t,cs)):=iU _ _ _
def yj{s:S}{n:Nat}{t:TypeId}{cs:List SV}{d e:Option Nat}{v w:SV}(h:∀x,d=some x->e≠some x):(s.put d v).more n t cs e w=(s.more n t cs e w).put d v:=by
 unfold S.more;have:(s.put d v).bI n t cs=(s.bI n t cs).put d v:=by cases d<;>rfl
 rw[this,Ur h]
def UB{s:S}{n n':Nat}{t Z:TypeId}{cs cs':List SV}{d e:Option Nat}{v w:SV}(h:∀x,d=some x->e≠some x)(X:n≠n'):(s.more n t cs d v).more n' Z cs' e w=(s.more n' Z cs' e w).more n t cs d v:=by
 show((s.bI n t cs).put d v).more n' Z cs' e w=_;rw[yj h];unfold S.more;have:((s.bI n t cs).bI n' Z cs').put e w=((s.bI n' Z cs').put e w).bI n t cs:=by
  have W:(s.bI n t cs).bI n' Z cs'=(s.bI n' Z cs').bI n t cs:=by simp only[S.bI];rw[List.set_comm _ _ X]
  rw[W];cases e<;>rfl
 rw[this]
def adk:∀{l:List SV}{ni nb V:Nat}{pr:Nat->Bool}{i:Nat},SV.ck ni nb V pr l=true->i∈SV.ly l->pr i=true:=by
 have key:∀(n:Nat)(l:List SV),SizeOf.sizeOf l<n->∀{ni nb V:Nat}{pr:Nat->Bool}{i:Nat},SV.ck ni nb V pr l=true->i∈SV.ly l->pr i=true:=by
  intro n;induction n with
  |zero=>intro l h;omega
  |succ n X=>
   intro l W ni nb V pr i Z hi;cases l with
   |nil=>simp[SV.ly] at hi
   |cons x xs=>
    simp only[SV.eY,awF] at Z;simp only[SV.ly,awR] at hi;simp only[List.cons.sizeOf_spec] at W;rcases hi with hi|hi;cases x with
    |loc j o=>simp[SV.B9] at hi;subst hi;simpa only[SV.aG] using Z.1
    |fo j a b c=>simp[SV.B9] at hi;subst hi;simpa only[SV.aG] using Z.1
    |agg m=>exact X m (by simp at W;omega) (by simpa only[SV.aG] using Z.1) hi
    |bj m=>exact X m (by simp at W;omega) (by simpa only[SV.aG] using Z.1) hi
    |fn f m=>exact X m (by simp at W;omega) (by simpa only[SV.aG] using Z.1) hi
    |dH t y=>exact X [y] (by
     have U:0<SizeOf.sizeOf xs:=by cases xs<;>simp<;>omega
     simp at W⊢;omega) (by simpa[SV.eY,SV.aG] using Z.1) (by simpa[SV.ly,SV.B9] using hi)
    |mp j=>simp[SV.B9] at hi;subst hi;simpa only[SV.aG] using Z.1
    |dI e ks m=>exact X m (by simp at W;omega) (by have:=Z.1;simp only[SV.aG,awF] at this;exact this.2) hi
    |_=>simp[SV.B9] at hi
    exact X xs (by omega) Z.2 hi
 intro l ni nb V pr i;exact key _ l (ayx _)
def adl{Z:List Nat}{l:aX}{n:Nat}{x:TypeId×List SV}(h:n∉Z)(W:dL l n=true):nl Z 0 (l.set n (some x))=nl Z 0 l:=by
 apply axd;intro i;rw[Nk,Nk,axf];by_cases hi:i=n;subst hi;have X:=(jO W).2;rw[ayc X,awH X];simp[h];rw[axs (λe=>hi e.symm)]
def adm(ks:List LK)(s:S)(n:Nat)(t:TypeId)(cs:List SV)(d:Option Nat)(w:SV):((s.more n t cs d w).bz ks).1=(s.bz ks).1/\((s.more n t cs d w).bz ks).2=(s.bz ks).2.more n t cs d w:=by
 induction ks generalizing s with
 |nil=>exact⟨rfl,rfl⟩
 |cons k ks Z=>
  simp only[S.bz];have X:((s.more n t cs d w).fresh k).1=(s.fresh k).1/\((s.more n t cs d w).fresh k).2=(s.fresh k).2.more n t cs d w:=by
   cases k<;>cases d<;>exact⟨rfl,rfl⟩
  rw[X.1,X.2];exact⟨by rw[(Z _).1],(Z _).2⟩
def NA(s:S)(args:List SV)(ks:List LK)(n:Nat)(t:TypeId)(cs:List SV)(d:Option Nat)(w:SV):(s.more n t cs d w).cut args ks=(s.cut args ks).more n t cs d w:=by cases d<;>rfl
def anv{s:S}{d:Option Nat}{v:SV}(h:(s.put d v).bd=true)(Z:∀e,d=some e->sd s e):s.bd=true:=by
 cases d with
 |none=>exact h
 |some d=>
  simp only[S.bd,S.put,nh,awF] at h⊢;exact⟨Uu h.1 (Z d rfl),h.2⟩
def adn{s:S}{n:Nat}{t:TypeId}{cs:List SV}{Z:Option Nat}{w:SV}{d:Option Nat}{az:BE}{e:TypeId}{k:RK}{x:LE}{kill frz:List Nat}{b:BI}(V:(s.more n t cs Z w).bd=true)(U:∀q,Z=some q->d≠some q)
  (h:gF s d az e k x kill frz=some b):gF (s.more n t cs Z w) d az e k x kill frz=some {b with s:=b.s.more n t cs Z w}:=by
 unfold gF at h⊢;split at h;rename_i X;cases h;simp only[awF] at X;obtain⟨⟨⟨J,R⟩,Q⟩,P⟩:=X;obtain⟨O,N,W⟩:=ug s n t cs Z w;rw[if_pos (by simp only[awF];rw[O,N,W];exact⟨⟨⟨V,R⟩,Q⟩,P⟩)];congr 2;rw[W,yj (λq M L=>U q L M)];cases Z<;>rfl;cases h
def anw{s:S}{n:Nat}{t:TypeId}{cs:List SV}{Z:Option Nat}{w:SV}{ty:Ty}{e:TypeId}{X:TI}{y:SV}{r:LE×BE×List Nat}(V:dL s.boxes n=true)(h:nq ty s e X y=some r):nq ty (s.more n t cs Z w) e X y=some r:=by
 have aM:(s.more n t cs Z w).rs=s.rs:=(ug _ _ _ _ _ _).2.2;unfold nq at h⊢;split at h;simp only[yb aM];exact h;rename_i i off U cap;rw[yi];split at h;rename_i W;have hi:i≠n:=λe=>by subst e;have:=(jO V).1;simp[aA,(tX W).1] at this
 rw[I4 (tZ hi)];simp only[W,Ae aM];exact h;cases h;cases h
def ado{s:S}{n:Nat}{t:TypeId}{cs:List SV}{Z:Option Nat}{w:SV}{e:TypeId}{aY:Bool}{y:SV}:rR (s.more n t cs Z w) e aY y=rR s e aY y:=by
 have aM:(s.more n t cs Z w).rs=s.rs:=(ug _ _ _ _ _ _).2.2;have X:(s.more n t cs Z w).lk=s.lk:=Ny _ _ _;unfold rR;simp only[aM,X]
def anx{o:Oper}{aY:Bool}{s:S}{n:Nat}{t:TypeId}{cs:List SV}{Z:Option Nat}{w:SV}{b:BI}(R:dL s.boxes n=true)(V:(s.more n t cs Z w).bd=true)(U:∀q,Z=some q->o.dst≠some q)
  (X:∀z∈o.op.operands.toList,(s.more n t cs Z w).ev cf.gl z=s.ev cf.gl z)(h:cK cf o aY true s=some b):cK cf o aY true (s.more n t cs Z w)=some {b with s:=b.s.more n t cs Z w}:=by
 have aM:(s.more n t cs Z w).rs=s.rs:=(ug _ _ _ _ _ _).2.2;have W:=Fw h;unfold cK at h⊢;cases Q:o.op<;>rw[Q] at W h X<;>simp[o9] at W;rename_i B n' P;simp only at h⊢;rw[X n' (by simp[Op.operands]),X P (by simp[Op.operands])];split at h;rename_i e ab q n2 A O N M;split at h;rename_i L J;split at h;rename_i I;rw[Ae aM,if_pos I];exact adn V U h;cases h;cases h;cases h;rename_i c;cases bg:c.callee with
 |builtin H=>
  cases H<;>simp[bg] at W;simp only[bg] at h⊢;have G:c.args.toList.map ((s.more n t cs Z w).ev cf.gl)=c.args.toList.map (s.ev cf.gl):=aw5 λz F=>X z (by simp[Op.operands,Call.operands];exact .inr (by simpa using F))
  rw[G];split at h;rename_i y t2 x v N M;split at h;rename_i e ab q u r m O l;split at h;rename_i L J;split at h;cases h;rename_i E;rw[if_neg E,ado];split at h;rename_i k n1 kill j n2 frz D C;rw[D,anw R C];exact adn V U h;cases h;cases h;cases h;cases h
 |_=>simp[bg] at W
mutual
def SV.cA{ni nb U R Q P:Nat}{pr O:Nat->Bool}(X:ni<=R)(W:nb<=Q)(V:U<=P)(h:∀i,pr i=true->O i=true):∀(v:SV),v.bd ni nb U pr=true->v.bd R Q P O=true
 |.int _ e,Z=>by simp only[SV.aG] at Z⊢;exact IE.cA X W V e Z
 |.bool e,Z=>by simp only[SV.aG] at Z⊢;exact BE.cA X W V e Z
 |.ref e,Z=>by simp only[SV.aG] at Z⊢;exact RE.cA X W V e Z
 |.loc i _,Z=>by simp only[SV.aG] at Z⊢;exact h i Z
 |.fo i _ _ _,Z=>by simp only[SV.aG] at Z⊢;exact h i Z
 |.el r _ i _,Z=>by simp only[SV.aG,awF] at Z⊢;exact⟨RE.cA X W V r Z.1,IE.cA X W V i Z.2⟩
 |.agg l,Z=>by simp only[SV.aG] at Z⊢;exact SV.FA X W V h l Z
 |.bj l,Z=>by simp only[SV.aG] at Z⊢;exact SV.FA X W V h l Z
 |.fn _ l,Z=>by simp only[SV.aG] at Z⊢;exact SV.FA X W V h l Z
 |.dH _ x,Z=>by simp only[SV.aG] at Z⊢;exact SV.cA X W V h x Z
 |.yl _,_=>by simp only[SV.aG]
 |.any,_=>by simp only[SV.aG]
 |.mp i,Z=>by simp only[SV.aG] at Z⊢;exact h i Z
 |.dI e _ vs,Z=>by simp only[SV.aG,awF] at Z⊢;exact⟨IE.cA X W V e Z.1,SV.FA X W V h vs Z.2⟩
def SV.FA{ni nb X W V U:Nat}{pr R:Nat->Bool}(Q:ni<=W)(P:nb<=V)(O:X<=U)(h:∀i,pr i=true->R i=true):∀(l:List SV),SV.ck ni nb X pr l=true->SV.ck W V U R l=true
 |[],_=>rfl
 |x::xs,Z=>by simp only[SV.eY,awF] at Z⊢;exact⟨SV.cA Q P O h x Z.1,SV.FA Q P O h xs Z.2⟩
end
def JA{s s':S}{d:Option Nat}{v:SV}(Z:s.bd=true)(W:s.ni<=s'.ni)(V:s.nb<=s'.nb)(U:s.rs.length<=s'.rs.length)(Q:s'.tmps=s.tmps)(P:s'.boxes=s.boxes)(O:v.bd s'.ni s'.nb s'.rs.length (aA s'.boxes)=true):(s'.put d v).bd=true:=by
 simp only[S.bd,awF] at Z⊢;obtain⟨N,M,L⟩:=dC s' d v;rw[N,M,L,iU,P];rw[P] at O;refine⟨?_, ?_⟩;rw[qw];intro u X;cases d with
 |none=>
  simp only[S.put,nh,Q] at X;exact SV.cA W V U (λ_ h=>h) u (qw.1 Z.1 u X)
 |some d=>
  simp only[S.put,nh,Q] at X;rcases axM X with R|R;exact SV.cA W V U (λ_ h=>h) u (qw.1 Z.1 u R);rw[R];exact O
 rw[yg];exact λi b J=>SV.FA W V U (λ_ h=>h) _ (yg.1 Z.2 i b J)
def UC:∀(ks:List LK)(s:S),s.ni<=(s.bz ks).2.ni/\s.nb<=(s.bz ks).2.nb/\s.rs.length<=(s.bz ks).2.rs.length
 |[],s=>⟨awN _,awN _,awN _⟩
 |k::ks,s=>by
  have:=UC ks (s.fresh k).2;simp only[S.bz];cases k<;>simp[S.fresh] at this⊢<;>omega
def adp{pr:Nat->Bool}:∀(ks:List LK)(s:S),SV.ck (s.bz ks).2.ni (s.bz ks).2.nb (s.bz ks).2.rs.length pr (s.bz ks).1=true
 |[],s=>rfl
 |k::ks,s=>by
  have Z:=adp (pr:=pr) ks (s.fresh k).2;have X:=UC ks (s.fresh k).2;simp only[S.bz,SV.eY,awF];refine⟨?_,Z⟩;cases k<;>simp only[S.fresh,SV.aG,IE.aG,BE.aG,RE.aG,decide_eq_true_eq]<;>simp[S.fresh] at X<;>omega
def adq{ty:Ty}{ni nb X:Nat}{pr:Nat->Bool}:∀{V:List TypeId}{l r:List SV},SV.ck ni nb X pr l=true->vF ty V l=some r->SV.ck ni nb X pr r=true
 |[],l,r,_,h=>by simp[vF] at h;subst h;rfl
 |t::V,l,r,Z,h=>by
  simp only[vF] at h;split at h;rename_i U O;split at h;rename_i N R;cases h;have Q:SV.ck ni nb X pr (l.drop U.ab.length)=true:=by rw[qw] at Z⊢;exact λv W=>Z v (axG W)
  simp only[SV.eY,awF];refine⟨?_,adq Q R⟩;split;simp only[SV.aG];rw[qw] at Z⊢;exact λv W=>Z v (axL W)
  rw[awK];cases P:l[0]? with
  |none=>simp[SV.aG]
  |some v=>exact qn Z P
  cases h;cases h
def anz{ni nb Z:Nat}{pr:Nat->Bool}{l:List SV}(h:SV.ck ni nb Z pr l=true):(one l).bd ni nb Z pr=true:=by
 unfold one;split;simp only[SV.eY,ayG] at h;exact h;simp only[SV.aG];exact h
def anA{s:S}(Z:s.bd=true){args:List SV}{ks:List LK}{X:List TypeId}{r:List SV}{d:Option Nat}(h:vF cf.ty X ((s.cut args ks).bz ks).1=some r):((((s.cut args ks).bz ks).2).put d (one r)).bd=true:=by
 obtain⟨W,V,Q,P⟩:=sc ks (s.cut args ks);obtain⟨l1,U,R⟩:=UC ks (s.cut args ks);refine JA Z l1 U ?_ V W (anz (adq (adp ks _) h));have:=(Aa args ks s.rs).len;simp only[S.cut] at R⊢;omega
def JB{o:Oper}{aY:Bool}{s:S}{b:BI}(h:cK cf o aY true s=some b):s.bd=true/\b.s.bd=true/\b.s.boxes=s.boxes:=by
 have key:∀{az:BE}{e:TypeId}{k:RK}{x:LE}{kill frz:List Nat},gF s o.dst az e k x kill frz=some b->s.bd=true/\b.s.bd=true/\b.s.boxes=s.boxes:=by
  intro az e k x kill frz h;obtain⟨W,-,rfl⟩:=ua h;refine⟨W, ?_,iU _ _ _⟩;exact JA (s':={s with rs:=iQ frz 0 (gj kill 0 s.rs)++[k]}) W (awN _) (awN _) (by simp[vU,vT]) rfl rfl (by simp[SV.aG,RE.aG,vU,vT])
 have Z:=Fw h;unfold cK at h;cases V:o.op<;>rw[V] at Z h<;>simp[o9] at Z;simp only at h;split at h;split at h;split at h;exact key h;cases h;cases h;cases h;rename_i c;cases X:c.callee with
 |builtin U=>
  cases U<;>simp[X] at Z;simp only[X] at h;split at h;split at h;split at h;split at h;cases h;split at h;exact key h;cases h;cases h;cases h;cases h
 |_=>simp[X] at Z
def UD{y:OM}{s V:S}{ρ:aa}(W:dW y.o.op=true)(Z:fc cf y s ρ V):s.bd=true:=by
 unfold fc dR at Z;split at Z;exact Z.elim
 ·cases U:y.o.op<;>rw[U] at W Z<;>simp[dW] at W<;>simp only at Z
  all_goals
   (repeat' split at Z)
   all_goals first
    |exact Z.elim
    |(rename_i X;simp only[awF,S.cU] at X;first|exact X.1.1|exact X.1.1.2.1|exact X.1.1.1)
def anB{y:OM}{s:S}{ρ:aa}{t:TypeId}{Z:TI}(X:y.o.op=.alloc t)(W:cf.ty t=some Z)(V:oa t=false)(U:s.bd=true)(R:dL s.boxes y.ix=true):fc cf y s ρ (s.more y.ix t (cq Z) y.o.dst (.loc y.ix 0)):=by
 have Q:s.cU (cq Z)=true:=by simp only[S.cU,U,ayu];exact Nz Z
 unfold fc dR;rw[if_neg (by rw[X];simp[Op.operands])];have P:md s.boxes y.ix t=true:=by simp[md,R,V]
 simp only[X,W,Q,P,axZ,if_true];rfl
def anC{y:OM}{s Z:S}{ρ:aa}{t:TypeId}{X:TI}(W:y.o.op=.alloc t)(V:cf.ty t=some X)(h:fc cf y s ρ Z):Z=s.more y.ix t (cq X) y.o.dst (.loc y.ix 0):=by
 unfold fc dR at h;rw[if_neg (by rw[W];simp[Op.operands])] at h;simp only[W,V] at h;split at h;exact h;exact h.elim
structure anD(ops:Array Oper)(x y:OM):Prop where
 xy:∀q,x.o.dst=some q->y.o.dst≠some q
 yx:∀q,y.o.dst=some q->x.o.dst≠some q
 ry:∀q,x.o.dst=some q->q∉gu ops y.o
 rx:∀q,y.o.dst=some q->q∉gu ops x.o
def adr{x y:OM}(h:Mw ops x y=true):anD ops x y:=by
 unfold Mw at h;simp only[awF] at h;obtain⟨X,W⟩:=h;have V:∀q,x.o.dst=some q->y.o.dst≠some q:=λq Z=>by rw[Z] at X;simp at X;exact X.2
 exact⟨V,λq Z U=>V q U Z,λq Z=>by rw[Z] at X;simp at X;exact X.1,λq Z=>by rw[Z] at W;simpa using W⟩
def UE{o:Oper}{s' Z:S}(X:∀t∈gu ops o,s'.tmps[t]?=Z.tmps[t]?):∀z∈o.op.operands.toList,s'.ev cf.gl z=Z.ev cf.gl z:=by
 intro z W;cases z with
 |tmp t=>
  have:t∈gu ops o:=by unfold gu;exact axw _ (axV.2 ⟨.tmp t,W,rfl⟩)
  simp only[S.ev,ng,awK,X t this]
 |_=>rfl
def ads{m:OM}{s' Z:S}{ρ:aa}(X:∀t∈gu ops m.o,s'.tmps[t]?=Z.tmps[t]?)(W:s'.ni=Z.ni)(V:s'.nb=Z.nb)(U:s'.rs=Z.rs):em ops m s' ρ=em ops m Z ρ:=by
 unfold em;cases R:m.o.guard with
 |none=>rfl
 |some q=>
  obtain⟨j,P⟩:=q;simp only;cases Q:(ops[j]?).bind (·.dst) with
  |none=>rfl
  |some d=>
   simp only;rw[X d (by unfold gu;rw[R];exact ayf _ (by simp[Q])),W,V,U]
def adt{s:S}{o:Oper}{g:FuncId}{args:List SV}(h:cV cf s o=.call (.fn g) args)(Z:s.bd=true)(V:o.op.operands.toList.all rT=true):SV.ck s.ni s.nb s.rs.length (aA s.boxes) args=true:=by
 have X:∀x∈o.op.operands.toList,rT x=true:=awU.1 V;unfold cV at h;split at h;split at h<;>cases h;rename_i c W;split at h;rename_i f U;split at h;rename_i O N R;split at h;cases h;cases h;rw[Ux];refine⟨?_, ?_⟩;rw[qw];intro v Q;obtain⟨z,P,rfl⟩:=aw7.1 Q;exact v8 Z (X z (by rw[W];simp[Op.operands,Call.operands];exact .inr (by simpa using P)));have:=v8 (cf:=cf) Z (X f (by rw[W];simp[Op.operands,Call.operands,U]));rw[R] at this;simpa only[SV.aG] using this;split at h<;>cases h;cases h;cases h;split at h;split at h<;>cases h;cases h;cases h;cases h
def anE{s:S}{ρ:aa}{g:FuncId}{args:List SV}{K Q:aa->SV->S->Prop}{n:Nat}{t:TypeId}{cs:List SV}{d:Option Nat}{w:SV}(X:dL s.boxes n=true)(P:SV.ck s.ni s.nb s.rs.length (aA s.boxes) args=true)(M:(s.more n t cs d w).bd=true)
  (h:Fq p cf s ρ g args K)(L:∀ρ' (Z:List TypeId)(ks:List LK)(r:List SV),vF cf.ty Z ((s.cut args ks).bz ks).1=some r->K ρ' (one r) ((s.cut args ks).bz ks).2->Q ρ' (one r) (((s.cut args ks).bz ks).2.more n t cs d w)):Fq p cf (s.more n t cs d w) ρ g args Q:=by
 obtain⟨Z,ks,r,J,I,O,N,H⟩:=h;obtain⟨G,F,V⟩:=ug s n t cs d w;obtain⟨E,D⟩:=adm ks (s.cut args ks) n t cs d w;have C:n∉SV.ly args:=λB=>by have:=adk P B;rw[(jO X).1] at this;cases this
 have A:nl (SV.ly args) 0 (s.more n t cs d w).boxes=nl (SV.ly args) 0 s.boxes:=by rw[yi];exact adl C X
 simp only[awF,S.cU] at N;refine⟨Z,ks,r,J,I,by rw[NA,E];exact O, ?_,λβ W R=> ?_⟩;simp only[awF,S.cU];refine⟨⟨M, ?_⟩,N.2⟩;rw[G,F,V,yi];exact SV.Af (λi hi=>(lI (jO X).2).2 (.inr hi)) args P;rw[A,V] at R;refine(H β W R).mono ?_;intro e W' U;cases e with
 |returned u=>
  obtain⟨xs,z,y,x,v,q⟩:=U;refine⟨xs,z,y,x,by rw[V];exact v, ?_⟩;rw[NA,D];exact L _ Z ks r O q
 |panicked o=>exact U
 |outgrown=>exact U
def anF{s:S}{ρ:aa}{g:FuncId}{args:List SV}{K U:aa->SV->S->Prop}{n:Nat}{t:TypeId}{cs:List SV}{d:Option Nat}{w:SV}(Q:dL s.boxes n=true)(P:SV.ck s.ni s.nb s.rs.length (aA s.boxes) args=true)(J:s.bd=true)
  (h:Fq p cf (s.more n t cs d w) ρ g args K)(I:∀ρ' (Z:List TypeId)(ks:List LK)(r:List SV),vF cf.ty Z ((s.cut args ks).bz ks).1=some r->K ρ' (one r) (((s.cut args ks).bz ks).2.more n t cs d w)->U ρ' (one r) ((s.cut args ks).bz ks).2):Fq p cf s ρ g args U:=by
 obtain⟨Z,ks,r,H,G,X,O,F⟩:=h;obtain⟨v,q,N⟩:=ug s n t cs d w;obtain⟨E,D⟩:=adm ks (s.cut args ks) n t cs d w;have C:n∉SV.ly args:=λB=>by have:=adk P B;rw[(jO Q).1] at this;cases this
 have A:nl (SV.ly args) 0 (s.more n t cs d w).boxes=nl (SV.ly args) 0 s.boxes:=by rw[yi];exact adl C Q
 simp only[awF,S.cU] at O;rw[NA,E] at X;refine⟨Z,ks,r,H,G,X, ?_,λβ W R=> ?_⟩;simp only[awF,S.cU];exact⟨⟨J,P⟩,O.2⟩;refine(F β W (by rw[A,N];exact R)).mono ?_;intro e W' V;cases e with
 |returned u=>
  obtain⟨xs,z,y,x,M,L⟩:=V;rw[N] at M;rw[NA,D] at L;exact⟨xs,z,y,x,M,I _ Z ks r X L⟩
 |panicked o=>exact V
 |outgrown=>exact V
def anG(B:Ac ops H){x y:OM}{rest:List OM}{s:S}{ρ:aa}(a6:x.so=false)(j:EE ops x y=true)(a7:∀d,x.o.dst=some d->sd s d)(Q:dL s.boxes y.ix=true)(hz:∀t,y.o.op=.alloc t->Cl cf t=true)
  (h:cD p cf ops H Kn Kp Yp (x::y::rest) ρ s):cD p cf ops H Kn Kp Yp (y::x::rest) ρ s:=by
 unfold EE at j;simp only[awF] at j;obtain⟨⟨⟨⟨⟨⟨⟨⟨i,an⟩,hy⟩,a⟩,N⟩,a8⟩,a0⟩,a9⟩,a1⟩:=j;have a:y.o.guard=none:=by simpa using a
 have D:=adr a9;obtain⟨t,M⟩:∃t,y.o.op=.alloc t:=by cases M:y.o.op<;>rw[M] at hy<;>simp[Ck] at hy;exact⟨_,rfl⟩
 have A:=hz t M;simp only[Cl,awF,awY] at A;obtain⟨A,bf⟩:=A;obtain⟨W,ht⟩:=awZ.1 A;have L:dW y.o.op=true:=by rw[M];rfl
 have a2:∀(s':S)(ρ':aa),em ops y s' ρ'=some true:=λs' ρ'=>by simp[em,a]
 have J:∀{ρ':aa}{I:S},cD p cf ops H Kn Kp Yp (y::rest) ρ' I->I.bd=true/\cD p cf ops H Kn Kp Yp rest ρ' (I.more y.ix t (cq W) y.o.dst (.loc y.ix 0)):=by
  intro ρ' I w;simp only[cD,a2,Jz L,Fy L an,oD] at w;rcases w with⟨U,_⟩|⟨_,s3,Z,R⟩;cases U;have:=anC M ht Z;subst this;exact⟨UD L Z,R⟩
 have done:s.bd=true->cD p cf ops H Kn Kp Yp (x::rest) ρ (s.more y.ix t (cq W) y.o.dst (.loc y.ix 0))->cD p cf ops H Kn Kp Yp (y::x::rest) ρ s:=by
  intro X Z;rw[cD];refine .inr ⟨a2 s ρ, ?_⟩;rw[Jz L];simp only[Fy L an,oD];exact⟨_,anB M ht bf X Q,Z⟩
 have u:s.bd=true->(s.more y.ix t (cq W) y.o.dst (.loc y.ix 0)).bd=true:=λX=>adj X Q (by simp only[S.cU,X,ayu];exact Nz W) (by simp[SV.aG])
 obtain⟨p1,p2,p3⟩:=ug s y.ix t (cq W) y.o.dst (.loc y.ix 0);have G:em ops x (s.more y.ix t (cq W) y.o.dst (.loc y.ix 0)) ρ=em ops x s ρ:=ads (λq hq=>Fz (λe=>D.rx q e hq)) p1 p2 p3;have F:∀z∈x.o.op.operands.toList,(s.more y.ix t (cq W) y.o.dst (.loc y.ix 0)).ev cf.gl z=s.ev cf.gl z:=UE (λq hq=>Fz (λe=>D.rx q e hq));rw[cD] at h;rcases h with⟨U,Z⟩|⟨U,Z⟩
 ·obtain⟨g1,m⟩:=J Z;refine done (anv g1 a7) ?_;rw[cD];refine .inl ⟨by rw[G];exact U, ?_⟩;rw[<-yj D.xy];exact m
 ·cases V:cV cf s x.o with
  |call g0 args=>
   rw[V] at Z;rcases g0 with g|n
   rotate_left
   have R:=Z.1;rw[a6] at R;cases R;have P:mi _ _ _:=Z;clear Z;cases E:H g args s with
   |some ve=>
    obtain⟨pv,ex⟩:=ve;rw[E] at P;obtain⟨X,P⟩:=P;have hR:=B.Un _ _ _ _ E;have af:ED x.o.op=true:=by simpa[hR,Uo V] using a1
    have ag:=ac7 af V;subst ag;refine done X ?_;rw[cD];refine .inr ⟨by rw[G];exact U, ?_⟩;rw[Fu F,V];show mi _ _ _;rw[show H g [] (s.more y.ix t (cq W) y.o.dst (.loc y.ix 0))=some (pv,ex) from(B.z _ _ _ _ _ _ _ Q).trans E];refine⟨u X, ?_⟩;have bk:=(jO Q).2;have br:(s.more y.ix t (cq W) y.o.dst (.loc y.ix 0)).plus ex=(s.plus ex).more y.ix t (cq W) y.o.dst (.loc y.ix 0):=by
     have:(s.bI y.ix t (cq W)).plus ex=(s.plus ex).bI y.ix t (cq W):=by
      simp only[S.bI,S.plus,List.set_append_left _ _ bk]
     unfold S.more;rw[<-this];cases y.o.dst<;>rfl
    rw[br,<-yj D.xy];exact(J P).2
   |none=>
   rw[E] at P;simp only[mi] at P;have Z:=P;have X:s.bd=true:=by obtain⟨ts,ks,r,c1,c2,c3,c4,c5⟩:=Z;simp only[awF,S.cU] at c4;exact c4.1.1
   refine done X ?_;rw[cD];refine .inr ⟨by rw[G];exact U, ?_⟩;rw[Fu F,V];show mi _ _ _;have bs:H g args (s.more y.ix t (cq W) y.o.dst (.loc y.ix 0))=none:=by
    cases hh:H g args (s.more y.ix t (cq W) y.o.dst (.loc y.ix 0)) with
    |none=>rfl
    |some r=>
     exfalso;have hR:=B.Un _ _ _ _ hh;have af:ED x.o.op=true:=by simpa[hR,Uo V] using a1
     have ag:=ac7 af V;subst ag;have:=(B.z g s y.ix t (cq W) y.o.dst (.loc y.ix 0) Q).symm.trans hh;rw[E] at this;cases this
   rw[bs];simp only[mi];refine anE Q (adt V X a0) (u X) Z (λρ' ts ks r _ w=> ?_);rw[<-yj D.xy];exact(J w).2
  |aS v=>
   exfalso;have l:=Ut V;cases k:x.o.op<;>rw[k] at N l<;>simp[EC,dW,o9,tT] at l N;rename_i c;cases bg:c.callee<;>simp[bg] at l N;rename_i bb;cases bb<;>simp at l N
  |no=>rw[V] at Z;exact Z.elim
  |op=>
   rw[V] at Z;simp only at Z;cases X:cK cf x.o x.aY x.dr s with
   |some b=>
    rw[X] at Z;obtain⟨hn,Z⟩:=Z;rw[i] at X;obtain⟨q1,q2,q3⟩:=JB X;refine done q1 ?_;rw[cD];refine .inr ⟨by rw[G];exact U, ?_⟩;rw[Fu F,V];simp only;rw[i,anx Q (u q1) D.yx F X];refine⟨hn,λrv a3=> ?_⟩;rw[p3] at a3;exact(J (Z rv a3)).2
   |none=>
    rw[X] at Z;obtain⟨I,R,h4⟩:=Z;have C:dW x.o.op=true:=by
     simp only[aw9] at N;rcases N with(O|O)|O;exact O;exact(Uv O R).elim
     ·exfalso;cases k:x.o.op<;>rw[k] at O<;>simp[tT] at O;rename_i c;cases bg:c.callee<;>simp[bg] at O;rename_i f;simp only[cV,k,bg] at V
      (repeat' split at V)<;>cases V
    have a4:x.ix≠y.ix:=by simpa[C] using a8
    have a5:=UD C R;obtain⟨tx,cx,wx,rfl,m,g3,g4⟩:=UA C a0 R;refine done a5 ?_;rw[cD];refine .inr ⟨by rw[G];exact U, ?_⟩;rw[Jz C];simp only[Fy C i,oD];refine⟨_,(g4 _ ρ F (u a5) ?_).2, ?_⟩;unfold dL at m⊢;rw[yi,axs (λe=>a4 e.symm)];exact m;rw[UB D.yx (λe=>a4 e.symm)];exact(J h4).2
def adu{s:S}{n:Nat}{t:TypeId}{cs:List SV}{Z:Option Nat}{w:SV}{d:Option Nat}{az:BE}{e:TypeId}{k:RK}{x:LE}{kill frz:List Nat}{W:BI}(U:s.bd=true)(R:∀q,Z=some q->d≠some q)
  (h:gF (s.more n t cs Z w) d az e k x kill frz=some W):∃b,gF s d az e k x kill frz=some b/\W={b with s:=b.s.more n t cs Z w}:=by
 obtain⟨Q,P,V⟩:=ug s n t cs Z w;unfold gF at h⊢;split at h;rename_i X;cases h;simp only[awF] at X;rw[Q,P,V] at X;obtain⟨⟨⟨I,O⟩,N⟩,M⟩:=X;rw[if_pos (by simp only[awF];exact⟨⟨⟨U,O⟩,N⟩,M⟩)];refine⟨_,rfl, ?_⟩;congr 1;rw[V,yj (λq L J=>R q J L)];cases Z<;>rfl;cases h
def anH{s:S}{n:Nat}{t:TypeId}{cs:List SV}{X:Option Nat}{w:SV}{ty:Ty}{e:TypeId}{W:TI}{y:SV}{r:LE×BE×List Nat}(V:dL s.boxes n=true)(Z:y.bd s.ni s.nb s.rs.length (aA s.boxes)=true)(h:nq ty (s.more n t cs X w) e W y=some r):nq ty s e W y=some r:=by
 have aM:(s.more n t cs X w).rs=s.rs:=(ug _ _ _ _ _ _).2.2;unfold nq at h⊢;split at h;simp only[yb aM] at h;exact h;rename_i i off R cap;rw[yi] at h;have hi:i≠n:=λe=>by subst e;simp only[SV.aG] at Z;rw[(jO V).1] at Z;cases Z
 rw[I4 (tZ hi)] at h;split at h;rename_i U;simp only[Ae aM] at h
 first|exact h|(rw[U];exact h)
 cases h;cases h
def anI{o:Oper}{aY:Bool}{s:S}{n:Nat}{t:TypeId}{cs:List SV}{Z:Option Nat}{w:SV}{R:BI}(L:dL s.boxes n=true)(V:s.bd=true)(Q:∀q,Z=some q->o.dst≠some q)(J:o.op.operands.toList.all rT=true)
  (X:∀z∈o.op.operands.toList,(s.more n t cs Z w).ev cf.gl z=s.ev cf.gl z)(h:cK cf o aY true (s.more n t cs Z w)=some R):∃b,cK cf o aY true s=some b/\R={b with s:=b.s.more n t cs Z w}:=by
 have aM:(s.more n t cs Z w).rs=s.rs:=(ug _ _ _ _ _ _).2.2;have P:∀x∈o.op.operands.toList,rT x=true:=awU.1 J;have W:=Fw h;unfold cK at h⊢;cases I:o.op<;>rw[I] at W h X P<;>simp[o9] at W;rename_i r n' H;simp only at h⊢;rw[X n' (by simp[Op.operands]),X H (by simp[Op.operands])] at h;split at h;rename_i e ab q n2 m G F O;split at h;rename_i E D;split at h;rename_i N;rw[Ae aM] at N;rw[if_pos N];exact adu V Q h;cases h;cases h;cases h;rename_i c;cases bg:c.callee with
 |builtin C=>
  cases C<;>simp[bg] at W;simp only[bg] at h⊢;have B:c.args.toList.map ((s.more n t cs Z w).ev cf.gl)=c.args.toList.map (s.ev cf.gl):=aw5 λz U=>X z (by simp[Op.operands,Call.operands];exact .inr (by simpa using U))
  rw[B] at h;split at h;rename_i l t2 k M F O;have A:M.bd s.ni s.nb s.rs.length (aA s.boxes)=true:=by
   have:M∈c.args.toList.map (s.ev cf.gl):=by rw[O];simp
   obtain⟨z,U,rfl⟩:=aw7.1 this;exact v8 V (P z (by simp[Op.operands,Call.operands];exact .inr (by simpa using U)))
  split at h;rename_i e ab q j i g G f;split at h;rename_i E D;split at h;cases h;rename_i y;rw[if_neg y];rw[ado] at h;split at h;rename_i d n1 kill a n2 frz v u;rw[v,anH L A u];exact adu V Q h;cases h;cases h;cases h;cases h
 |_=>simp[bg] at W
def anJ(b8:Ac ops H){x y:OM}{rest:List OM}{s:S}{ρ:aa}(ca:y.so=false)(a1:IN ops x y=true)
  (h:cD p cf ops H Kn Kp Yp (x::y::rest) ρ s):cD p cf ops H Kn Kp Yp (y::x::rest) ρ s:=by
 unfold IN at a1;simp only[awF] at a1;obtain⟨⟨⟨⟨⟨⟨⟨⟨⟨⟨bf,af⟩,F⟩,dd⟩,a2⟩,cc⟩,m⟩,E⟩,ch⟩,cl⟩,cp⟩:=a1;have a2:x.o.guard=none:=by simpa using a2
 have D:=adr cl;have bk:∀(s':S)(ρ':aa),em ops x s' ρ'=some true:=λs' ρ'=>by simp[em,a2]
 rw[cD] at h;rcases h with⟨h1,_⟩|⟨_,h2⟩;rw[bk] at h1;cases h1;rw[Jz F] at h2;simp only[Fy F bf,oD] at h2;obtain⟨s1,k,h4⟩:=h2;have U:=UD F k;obtain⟨t,cs,w,rfl,P,hw,tr⟩:=UA F cc k;have df:s.cU cs=true:=(tr s ρ (λ_ _=>rfl) U P).1;obtain⟨p1,p2,p3⟩:=ug s x.ix t cs x.o.dst w;have a3:em ops y (s.more x.ix t cs x.o.dst w) ρ=em ops y s ρ:=ads (λq Z=>Fz (λe=>D.ry q e Z)) p1 p2 p3;have C:∀z∈y.o.op.operands.toList,(s.more x.ix t cs x.o.dst w).ev cf.gl z=s.ev cf.gl z:=UE (λq Z=>Fz (λe=>D.ry q e Z));have B:∀{ρ':aa}{s':S},(∀q,y.o.dst≠some q->s'.tmps[q]?=s.tmps[q]?)->s'.bd=true->dL s'.boxes x.ix=true->cD p cf ops H Kn Kp Yp rest ρ' (s'.more x.ix t cs x.o.dst w)->cD p cf ops H Kn Kp Yp (x::rest) ρ' s':=by
  intro ρ' s' ht A ct hr;rw[cD];refine .inr ⟨bk _ _, ?_⟩;rw[Jz F];simp only[Fy F bf,oD];exact⟨_,(tr s' ρ' (UE (λq Z=>ht q (λe=>D.rx q e Z))) A ct).2,hr⟩
 rw[cD] at h4;rcases h4 with⟨a,X⟩|⟨a,X⟩;rw[cD];refine .inl ⟨by rw[<-a3];exact a, ?_⟩;refine B (λq Z=>iT Z) (JA (s':=s) U (awN _) (awN _) (awN _) rfl rfl (by simp[SV.aG,SV.eY])) (by rw[iU];exact P) ?_;rw[yj D.yx];exact X
 ·rw[cD];refine .inr ⟨by rw[<-a3];exact a, ?_⟩;rw[Fu C] at X;cases N:cV cf s y.o with
  |call g0 args=>
   rw[N] at X;rcases g0 with g|n
   rotate_left
   have k:=X.1;rw[ca] at k;cases k;have br:∀s',H g args s'=none:=λs'=>by
    cases hh:H g args s' with
    |none=>rfl
    |some r=>
     exfalso;have hR:=b8.Un _ _ _ _ hh;simp[hR,Uo N] at cp
   have hP:mi _ _ _:=X;clear X;rw[br] at hP;simp only[mi] at hP;have X:=hP;show mi _ _ _;rw[br];simp only[mi];refine anF P (adt N U m) U X (λρ' ts ks r hm hr=> ?_);obtain⟨b1,b2,b3,b4⟩:=sc ks (s.cut args ks);refine B (λq Z=>by rw[iT Z,b2];rfl) (anA U hm) (by rw[iU,b1];exact P) ?_;rw[yj D.yx];exact hr
  |aS v=>
   exfalso;have hp:=Ut N;cases ag:y.o.op<;>rw[ag] at E hp<;>simp[EC,dW,o9,tT,zM,tS] at hp E;rename_i c;cases bg:c.callee<;>simp[bg] at hp E;rename_i bb;cases bb<;>simp at hp E
  |no=>rw[N] at X;exact X.elim
  |op=>
   rw[N] at X;show oD _ _ _;have X:oD _ _ _:=X;cases an:cK cf y.o y.aY y.dr (s.more x.ix t cs x.o.dst w) with
   |some b1=>
    rw[an] at X;obtain⟨hn,X⟩:=X;rw[af] at an⊢;obtain⟨b,g1,rfl⟩:=anI P U D.xy m C an;rw[g1];obtain⟨q1,q2,q3⟩:=JB g1;refine⟨hn,λrv cv=> ?_⟩;refine B (Uw g1) q2 (by rw[q3];exact P) (X rv (by rw[p3];exact cv))
   |none=>
    rw[an] at X;obtain⟨cx,R,h8⟩:=X;by_cases O:zM y.o.op=true
    
    have Z:jY y.o.op=true:=by cases W:y.o.op<;>rw[W] at O<;>simp[zM] at O<;>rfl
    have dk:vM y.o.op=false:=by cases W:y.o.op<;>rw[W] at O<;>simp[zM] at O<;>rfl
    rw[af,ac9 Z];simp only[oD];obtain⟨v,l,hv,rfl⟩:=(Fs (ops:=ops) Z a).1 R;have cI:gX cf ops y.o (s.more x.ix t cs x.o.dst w) ρ s ρ:=gX.ue (λq Z=>(Fz (λe=>D.ry q e Z)).symm) p3.symm p1.symm p2.symm;have V:=Uq cI (λi hi=>by
     unfold vC at hi;cases W:y.o.op<;>rw[W] at O hi<;>simp[zM] at O<;>cases hi) hv
    have bs:em ops y s ρ=some true:=by rw[<-a3];exact a
    refine⟨_,(Fs (ops:=ops) Z bs).2 ⟨v,l,V,rfl⟩, ?_⟩;have c0:v.bd s.ni s.nb s.rs.length (aA s.boxes)=true:=by
     have J:∀z∈y.o.op.operands.toList,rT z=true:=awU.1 m;rcases V with V|⟨-,-,V⟩;rw[bs] at V;cases V.1;cases W:y.o.op<;>rw[W] at O V J<;>simp[zM] at O;rename_i z;have:=V.1;simp only[bq,PR.uf] at this;rw[this];exact v8 U (J z (by simp[Op.operands]));rename_i z;have:=V.1;simp only[bq,PR.uf] at this;rw[this];exact v8 U (J z (by simp[Op.operands]));rename_i st z f;have M:=v8 (cf:=cf) U (J z (by simp[Op.operands]));have:=V.1;simp only[bq] at this;split at this;rename_i I;rw[I] at M;split at this;split at this;split at this;exact this.elim;rw[this];exact M;exact this.elim;exact this.elim;rename_i I;rw[I] at M;split at this;split at this;split at this;exact this.elim;rw[this];exact M;exact this.elim;exact this.elim;exact this.elim
    have c1:l=0:=by
     rcases V with V|⟨-,-,V⟩;exact V.2.2;cases W:y.o.op<;>rw[W] at O V<;>simp[zM] at O<;>exact V.2
    subst c1;rw[CG] at h8⊢;refine B (λq Z=>iT Z) (JA (s':=s) U (awN _) (awN _) (awN _) rfl rfl c0) (by rw[iU];exact P) ?_;rw[yj D.yx];exact h8;by_cases a4:tS y.o.op=true;obtain⟨t',z,u,W⟩:∃t z u,y.o.op=.store t z u:=by cases W:y.o.op<;>rw[W] at a4<;>simp[tS] at a4;exact⟨_,_,_,rfl⟩
    have J:∀z∈y.o.op.operands.toList,rT z=true:=awU.1 m;have a5:cK cf y.o y.aY y.dr s=none:=by rw[af];simp[cK,W]
    rw[a5];simp only[oD];have I:=C z (by rw[W];simp[Op.operands]);have hu:=C u (by rw[W];simp[Op.operands]);have M:=v8 (cf:=cf) U (J z (by rw[W];simp[Op.operands]));have c2:=v8 (cf:=cf) U (J u (by rw[W];simp[Op.operands]));unfold fc dR at R;split at R;exact R.elim;rename_i Q;have c3:¬(y.o.op.operands.toList.any λz=>(s.ev cf.gl z).cN)=true:=by
     intro hh;obtain⟨zz,bx,c4⟩:=axe.1 hh;exact Q (axe.2 ⟨zz,bx,by rw[C zz bx];exact c4⟩)
    simp only[W,I,hu] at R;split at R;rename_i ti i off c5 hi;have a6:i≠x.ix:=λe=>by subst e;rw[hi] at M;simp only[SV.aG] at M;rw[(jO P).1] at M;cases M
    rw[yi,I4 (tZ a6)] at R;split at R;rename_i L cs' b0;obtain⟨a7,-⟩:=tX b0;split at R;rename_i a0;have c6:(s.more x.ix t cs x.o.dst w).lk=s.lk:=Ny _ _ _;rw[c6] at a0;have dn:((s.ev cf.gl u).cells.length==ti.ab.length)=true:=by simp only[awF] at a0;exact a0.1.1.1.1
    refine⟨(s.bI i L (iw cs' off (s.ev cf.gl u).cells)).put y.o.dst (.bj []), ?_, ?_⟩;unfold fc dR;rw[if_neg c3];simp only[W,c5,hi,b0];rw[if_pos a0];rfl;have c7:((s.bI i L (iw cs' off (s.ev cf.gl u).cells)).put y.o.dst (.bj [])).bd=true:=by
     have b5:i<s.boxes.length:=(awG.1 (gw.1 a7)).1;have c8:∀j,aA (s.boxes.set i (some (L,iw cs' off (s.ev cf.gl u).cells))) j=aA s.boxes j:=λj=>by
      by_cases G:j=i;subst G;simp[aA,Cw b5,a7];simp[aA,tZ G]
     have c9:aA (s.boxes.set i (some (L,iw cs' off (s.ev cf.gl u).cells)))=aA s.boxes:=funext c8;have A:=U;simp only[S.bd,awF] at A;have a5:(s.bI i L (iw cs' off (s.ev cf.gl u).cells)).bd=true:=by
      simp only[S.bd,S.bI,c9,awF];refine⟨A.1, ?_⟩;rw[yg];intro j b G;by_cases b6:j=i;subst b6;rw[Cw b5] at G;cases G;exact Uz (yg.1 A.2 j _ a7) (Uy c2);rw[tZ b6] at G;exact yg.1 A.2 j b G
     exact JA (s':=s.bI i L (iw cs' off (s.ev cf.gl u).cells)) a5 (awN _) (awN _) (awN _) rfl rfl (by simp[SV.aG,SV.eY])
    refine B (λq Z=>by rw[iT Z];rfl) c7 ?_ ?_;rw[iU];unfold dL at P⊢;simp only[S.bI];rw[axs a6];exact P;have dc:cx=((s.more x.ix t cs x.o.dst w).bI i L (iw cs' off (s.ev cf.gl u).cells)).put y.o.dst (.bj []):=R;subst dc;have:((s.bI i L (iw cs' off (s.ev cf.gl u).cells)).put y.o.dst (.bj [])).more x.ix t cs x.o.dst w=((s.more x.ix t cs x.o.dst w).bI i L (iw cs' off (s.ev cf.gl u).cells)).put y.o.dst (.bj []):=
     UB (s:=s) (n:=i) (n':=x.ix) (d:=y.o.dst) (e:=x.o.dst) D.yx a6
    rw[this];exact h8;exact R.elim;exact R.elim;exact R.elim;have a8:dW y.o.op=true:=by
     simp only[aw9] at E;rcases E with(((Q|Q)|Q)|Q)|Q;exact Q;exact(Uv Q R).elim
     ·exfalso;cases ag:y.o.op<;>rw[ag] at Q<;>simp[tT] at Q;rename_i c;cases bg:c.callee<;>simp[bg] at Q;rename_i f;simp only[cV,ag,bg] at N
      (repeat' split at N)<;>cases N
     exact absurd Q O;exact absurd Q a4
    have a9:x.ix≠y.ix:=by simpa[a8] using ch
    rw[Fy a8 af];simp only[oD];obtain⟨ds,cy,wy,rfl,k2,k3,k4⟩:=UA a8 m R;have b7:dL s.boxes y.ix=true:=by
     unfold dL at k2⊢;rw[yi,axs a9] at k2;exact k2
    obtain⟨m1,m2⟩:=k4 s ρ (λz I=>(C z I).symm) U b7;refine⟨_,m2,B (λq Z=>Fz Z) (adj U b7 m1 (k3 _ _ _)) ?_ ?_⟩;unfold dL at P⊢;rw[yi,axs (λe=>a9 e.symm)];exact P;rw[UB D.yx (λe=>a9 e.symm)];exact h8
def anK(W:Ac ops H){x y:OM}{rest:List OM}{s:S}{ρ:aa}(X:pf ops x y=true)(V:∀d,x.o.dst=some d->sd s d)(R:dW y.o.op=true->dL s.boxes y.ix=true)(Q:∀t,y.o.op=.alloc t->Cl cf t=true)
  (e1:ρ.i.length=s.ni)(P:ρ.b.length=s.nb)(O:ρ.r.length=s.rs.length)
  (h:cD p cf ops H Kn Kp Yp (x::y::rest) ρ s):cD p cf ops H Kn Kp Yp (y::x::rest) ρ s:=by
 unfold pf at X;simp only[awF,awY,aw9] at X;obtain⟨⟨N,U⟩,X⟩:=X;rcases X with(Z|Z)|Z;exact ant W U Z V e1 P O h;have M:dW y.o.op=true:=by
  unfold EE at Z;simp only[awF] at Z;have:=Z.1.1.1.1.1.1.2;cases L:y.o.op<;>rw[L] at this<;>simp[Ck] at this;rfl
 exact anG W N Z V (R M) Q h;exact anJ W U Z h
def adv{m:OM}{s s':S}{ρ:aa}(h:(dR cf m s).gives ρ s'):∀n,dL s.boxes n=true->(dW m.o.op=true->n≠m.ix)->dL s'.boxes n=true:=by
 intro q Z V;have W:∀{t:TypeId}{cs:List SV}{d:Option Nat}{w:SV}{i:Nat},q≠i->dL ((s.bI i t cs).put d w).boxes q=true:=by
  intro t cs d w i hi;rw[iU];unfold dL at Z⊢;simp only[S.bI];rw[axs (λe=>hi e.symm)];exact Z
 unfold dR at h;split at h;exact h.elim;split at h;rename_i t X;split at h;split at h;cases h;exact W (V (by rw[X];rfl));exact h.elim;exact h.elim;rename_i t x X;split at h;split at h;cases h;exact W (V (by rw[X];rfl));exact h.elim;exact h.elim;rename_i t l ps X;split at h;split at h;split at h;split at h;cases h;exact W (V (by rw[X];rfl));exact h.elim;exact h.elim;exact h.elim;exact h.elim;split at h;split at h;rename_i R cs U;split at h;cases h;refine W (λe=> ?_);subst e;have:=(jO Z).1;simp[aA,(tX U).1] at this;exact h.elim;exact h.elim;exact h.elim;split at h;simp only[OR.gives] at h;split at h<;>(subst h;rw[iU];exact Z);exact h.elim;obtain⟨v,-,rfl⟩:=vW h;rw[yf];exact Z;obtain⟨v,-,rfl⟩:=vW h;rw[yf];exact Z
def anL{m:OM}{s s':S}{ρ:aa}(h:(dR cf m s).gives ρ s'):∀i,aA s.boxes i=true->aA s'.boxes i=true:=by
 intro q Z;have X:∀{t:TypeId}{cs:List SV}{d:Option Nat}{w:SV}{i:Nat},aA ((s.bI i t cs).put d w).boxes q=true:=by
  intro t cs d w i;rw[iU];unfold aA at Z⊢;simp only[bP] at Z⊢;simp only[S.bI];by_cases hi:i=q;subst hi;have U:i<s.boxes.length:=by
   cases W:s.boxes[i]? with
   |none=>rw[W] at Z;cases Z
   |some b=>exact(awG.1 W).1
  rw[ayc U];rfl;rw[axs hi];exact Z
 unfold dR at h;split at h;exact h.elim;split at h;rename_i t V;split at h;split at h;cases h;exact X;exact h.elim;exact h.elim;rename_i t x V;split at h;split at h;cases h;exact X;exact h.elim;exact h.elim;rename_i t l ps V;split at h;split at h;split at h;split at h;cases h;exact X;exact h.elim;exact h.elim;exact h.elim;exact h.elim;split at h;split at h;rename_i R cs Q;split at h;cases h;exact X;exact h.elim;exact h.elim;exact h.elim;split at h;simp only[OR.gives] at h;split at h<;>(subst h;rw[iU];exact Z);exact h.elim;obtain⟨v,-,rfl⟩:=vW h;rw[yf];exact Z;obtain⟨v,-,rfl⟩:=vW h;rw[yf];exact Z
structure pn(s s':S):Prop where
 i:s.ni<=s'.ni
 b:s.nb<=s'.nb
 r:s.rs.length<=s'.rs.length
 bx:∀i,aA s.boxes i=true->aA s'.boxes i=true
def pn.put(s:S)(d:Option Nat)(v:SV):pn s (s.put d v):=
 ⟨ayi (dC _ _ _).1.symm,ayi (dC _ _ _).2.1.symm,ayi (congrArg ayW (dC s d v).2.2).symm,λi h=>by rw[iU];exact h⟩
def pn.trans{a b c:S}(h:pn a b)(k:pn b c):pn a c:=⟨axn h.i k.i,axn h.b k.b,axn h.r k.r,λi hi=>k.bx i (h.bx i hi)⟩
def anM{x:OM}{l1 L:List OM}{s:S}{ρ:aa}(F:x.dr=true)(z:x.so=false)(e1:ρ.i.length=s.ni)(N:ρ.b.length=s.nb)(M:ρ.r.length=s.rs.length)(h:cD p cf ops H Kn Kp Yp (x::l1) ρ s)
  (J:∀ρ' s',ρ'.i.length=s'.ni->ρ'.b.length=s'.nb->ρ'.r.length=s'.rs.length->(∀t,x.o.dst≠some t->s'.tmps[t]?=s.tmps[t]?)->(∀n,dL s.boxes n=true->(dW x.o.op=true->n≠x.ix)->dL s'.boxes n=true)->pn s s'->cD p cf ops H Kn Kp Yp l1 ρ' s'->cD p cf ops H Kn Kp Yp L ρ' s'):cD p cf ops H Kn Kp Yp (x::L) ρ s:=by
 simp only[cD] at h⊢;rcases h with⟨E,Z⟩|⟨E,Z⟩;exact .inl ⟨E,J _ _ (by rw[(dC _ _ _).1];exact e1) (by rw[(dC _ _ _).2.1];exact N) (by rw[(dC _ _ _).2.2];exact M) (λt I=>iT I) (λn Q _=>by rw[iU];exact Q) (pn.put _ _ _) Z⟩
 ·refine .inr ⟨E, ?_⟩;cases G:cV cf s x.o with
  |call y args=>
   rw[G] at Z;rcases y with g|n
   rotate_left
   have V:=Z.1;rw[z] at V;cases V;have Z:mi _ _ _:=Z;show mi _ _ _;cases C:H g args s with
   |some w=>
    obtain⟨pv,ex⟩:=w;rw[C] at Z;exact⟨Z.1,J _ _ (by rw[(dC _ _ _).1];exact e1) (by rw[(dC _ _ _).2.1];exact N) (by rw[(dC _ _ _).2.2];exact M) (λt I=>iT I) (λn Q _=>by rw[iU];exact ac6 Q) (pn.trans (b:=s.plus ex) ⟨awN _,awN _,awN _,λi hi=>by unfold aA;rw[ac5 hi];exact hi⟩ (pn.put _ _ _)) Z.2⟩
   |none=>
   rw[C] at Z;obtain⟨q,ks,r,m,l,k,j,f⟩:=Z;refine⟨q,ks,r,m,l,k,j,λβ W R=>(f β W R).mono ?_⟩;intro e W' D;cases e with
   |returned u=>
    obtain⟨xs,U,P,O,d,c⟩:=D;obtain⟨B,a,b3,b4⟩:=sc ks (s.cut args ks);obtain⟨l1,L,A⟩:=ud ks xs (s.cut args ks) ρ U e1 N (M.trans (Aa args ks s.rs).len.symm);refine⟨xs,U,P,O,d,J _ _ (by rw[(dC _ _ _).1];exact l1) (by rw[(dC _ _ _).2.1];exact L) (by rw[(dC _ _ _).2.2];exact A) (λt I=>by rw[iT I,a];rfl) (λn Q _=>by rw[iU,B];exact Q) (pn.trans (b:=((s.cut args ks).bz ks).2) ⟨by rw[<-e1,<-l1];exact(xT [] _ _ []).li,by rw[<-N,<-L];exact(xT [] _ _ []).lb,by rw[<-M,<-A];exact(xT [] _ _ []).lr,λi hi=>by rw[B];exact hi⟩ (pn.put _ _ _)) c⟩
   |panicked ch=>exact D
   |outgrown=>exact D
  |aS v=>rw[G] at Z;exact Z
  |no=>rw[G] at Z;exact Z
  |op=>
   rw[G] at Z;simp only at Z⊢;cases X:cK cf x.o x.aY x.dr s with
   |some b=>
    rw[X] at Z;obtain⟨U,P,O⟩:=ac3 X;exact⟨Z.1,λrv af=>J _ _ (by rw[U];exact e1) (by rw[P];exact N) (by simp[aa.add,O,M]) (Uw (by rw[F] at X;exact X)) (λn Q _=>by rw[(JB (by rw[F] at X;exact X)).2.2];exact Q) ⟨by rw[U];exact awN _,by rw[P];exact awN _,by rw[O];omega,λi hi=>by rw[(JB (by rw[F] at X;exact X)).2.2];exact hi⟩ (Z.2 rv af)⟩
   |none=>
    rw[X] at Z;obtain⟨s',V,h4⟩:=Z;obtain⟨U,P,O⟩:=ac2 (Fp V);exact⟨s',V,J _ _ (by rw[U];exact e1) (by rw[P];exact N) (by rw[O];exact M) (adg (Fp V)) (adv (Fp V)) ⟨by rw[U];exact awN _,by rw[P];exact awN _,by rw[O];exact awN _,anL (Fp V)⟩ h4⟩
def adw{x y:OM}(h:pf ops x y=true):x.so=false/\y.so=false:=by
 unfold pf at h;simp only[awF,awY] at h;exact h.1
def anN{x y:OM}(h:pf ops x y=true):x.dr=true:=by
 unfold pf at h;simp only[awF,aw9] at h;replace h:=h.2;rcases h with(h|h)|h;exact(adb h).elim λ_ c=>c.xd
 unfold EE at h;simp only[awF] at h;exact h.1.1.1.1.1.1.1.1;unfold IN at h;simp only[awF] at h;exact h.1.1.1.1.1.1.1.1.1.1
end
end
section
section
variable{p:Sp}{cf:bc}{ops:Array Oper}{u:rU}{Kn:aa->S->Prop}{Kp:aa->SV->S->Prop}{Yp:OM->List OM->aa->S->Nat->List SV->Prop}
def FB(s:S)(m:OM):Prop:=∀d,m.o.dst=some d->sd s d
def UF{s s':S}{d:Nat}(Z:pn s s')(X:s'.tmps[d]?=s.tmps[d]?)(h:sd s d):sd s' d:=by
 rcases h with h|⟨w,h,W⟩;exact .inl (X.trans h);exact .inr ⟨w,X.trans h,SV.cA Z.i Z.b Z.r Z.bx _ W⟩
def FB.other{s:S}{m:OM}{d:Option Nat}{v:SV}(h:FB s m)(X:∀e,d=some e->m.o.dst≠some e):FB (s.put d v) m:=by
 intro e Z;have:=(pn.put s d v);exact UF this (iT (λW=>X e W Z)) (h e Z)
def UG(s:S)(m:OM):Prop:=dW m.o.op=true->dL s.boxes m.ix=true
def adx(W:Ac ops u){m:OM}{ys:List OM}:∀(xs:List OM)(s:S)(ρ:aa),(∀x∈xs,pf ops x m=true)->(∀x∈xs,FB s x)->UG s m->(xs.Pairwise λa b=>∀d,a.o.dst=some d->b.o.dst≠some d)->(∀x∈xs,dW x.o.op=true->dW m.o.op=true->m.ix≠x.ix)->(∀t,m.o.op=.alloc t->Cl cf t=true)->
  ρ.i.length=s.ni->ρ.b.length=s.nb->ρ.r.length=s.rs.length->cD p cf ops u Kn Kp Yp (xs++m::ys) ρ s->cD p cf ops u Kn Kp Yp (m::(xs++ys)) ρ s
 |[],s,ρ,_,_,_,_,_,_,_,_,_,h=>h
 |x::xs,s,ρ,V,U,R,I,Q,P,e1,O,N,h=>by
  have X:=V x (by simp);have H:x.dr=true:=anN X;have G:=(adw X).1;have M:=aw2.1 I;have:cD p cf ops u Kn Kp Yp (x::m::(xs++ys)) ρ s:=anM (l1:=xs++m::ys) H G e1 O N h (λρ' s' F E D C B A z=>
   adx W xs s' ρ' (λy Z=>V y (by simp[Z])) (λy Z e L=>UF A (C e (λw=>M.1 y Z e w L)) (U y (by simp[Z]) e L))
    (λJ=>B m.ix (R J) (λv=>Q x (by simp) v J)) M.2 (λy Z=>Q y (by simp[Z])) P F E D z)
  exact anK W X (U x (by simp)) R P e1 O N this
def UH{D:bw}{s:S}{a:Act}{W:World}{ρ:aa}{β:List Nat}(R:ao p.S0 p.w0 D cf.ty β ρ s a W){m:OM}{b:Bool}(h:em ops m s ρ=some b):Region.wanted m.o (yielded ops a.tmps)=b:=by
 unfold em at h;cases Z:m.o.guard with
 |none=>rw[Z] at h;cases h;simp[Region.wanted,Z]
 |some q=>
  obtain⟨j,U⟩:=q;rw[Z] at h;simp only at h;split at h;rename_i d Q;have V:=acB R Q;split at h;rename_i e X;split at h;cases h;have:=V.1 e X;simp only[Region.wanted,Z,this];cases e.den ρ<;>cases U<;>rfl;cases h;rename_i X;cases h;simp[Region.wanted,Z,V.2 X];cases h;cases h
def NB(p:Sp)(cf:bc)(u:rU):Prop:=∀(g:FuncId)(args:List SV)(s:S)(v:SV)(ex:aX),u g args s=some (v,ex)->
 ∀(D:bw)(ρ:aa)(β:List Nat)(a:Act)(W:World),s.bd=true->ao p.S0 p.w0 D cf.ty β ρ s a W->dA cf.gl ρ->(∀args W,(callFunc g args).run p.P W=.ok (.enter g args) W)/\
  Calls p.P g (SV.ap ρ β args).toArray W λe W'=>∃Z,e=.returned (v.den ρ Z)/\ao p.S0 p.w0 D cf.ty Z ρ (s.plus ex) a W'/\bi s ρ β (s.plus ex) ρ Z
structure JC(ops:Array Oper)(bs:List Nat)(listed:Array Bool)(rem:List OM):Prop where
 mem:∀m∈rem,ops[m.j]?=some m.o
 un:∀i,i<ops.size->(listed.getD i true=false<->∃m∈rem,m.j=i)
 sz:listed.size=ops.size
 dn:∀(j:Nat)(o:Oper),ops[j]?=some o->listed.getD j false=true->∀e∈iB o,listed.getD e false=true
 pr:rem.Pairwise λx y=>(bs.getD y.j 0).testBit x.j=true\/pf ops x y=true
 tp:∀xs m ys,rem=xs++m::ys->∀e∈iB m.o,listed.getD e false=true\/∃x∈xs,x.j=e
 nd:rem.Pairwise λx y=>x.j≠y.j
 ds:rem.Pairwise λa b=>∀d,a.o.dst=some d->b.o.dst≠some d
 so:∀xs m ys,rem=xs++m::ys->m.so=true->ys.Pairwise λx y=>(bs.getD y.j 0).testBit x.j=true
def ady{o:Oper}{e:Edge}(h:e∈o.after)(Z:Region.binds .any e=true):e.on∈iB o:=aw7.2 ⟨e,axr.2 ⟨by simpa using h,Z⟩,rfl⟩
def adz{o:Oper}{n:Nat}(h:n∈iB o):∃e∈o.after,Region.binds .any e=true/\e.on=n:=by
 obtain⟨e,Z,rfl⟩:=aw7.1 h;obtain⟨X,W⟩:=axr.1 Z;exact⟨e,by simpa using X,W,rfl⟩
structure FC(ops:Array Oper)(bs:List Nat):Prop where
 lt:∀(j:Nat)(o:Oper),ops[j]?=some o->∀e∈iB o,e<j
 cl:∀(j:Nat)(o:Oper),ops[j]?=some o->∀i,i<ops.size->(bs.getD j 0).testBit i=true->i∈iB o\/∃e∈iB o,(bs.getD e 0).testBit i=true
def anO{Z:List Nat}{listed:Array Bool}{Q:List OM}(W:FC ops Z)(P:JC ops Z listed Q):∀(j:Nat)(o:Oper),ops[j]?=some o->(∀e∈iB o,listed.getD e false=true)->∀i,i<ops.size->(Z.getD j 0).testBit i=true->listed.getD i false=true:=by
 intro j;induction j using ay1 with
 |_ j O=>
  intro o X V i hi N;rcases W.cl j o X i hi N with h|⟨e,U,h⟩;exact V i h;have M:=W.lt j o X e U;have L:j<ops.size:=(aw6.1 X).1;have R:ops[e]?=some ops[e]:=ayZ (by omega);exact O e M ops[e] R (P.dn e _ R (V e U)) i hi h
def CH(a:Array Bool)(i j:Nat)(b:Bool)(hi:i<a.size):(a.setIfInBounds i true).getD j b=if j=i then true else a.getD j b:=by
 by_cases h:j=i;subst h;simp[hi];simp[ayD (Ne.symm h),h]
def anP{C:List Nat}{listed:Array Bool}{xs ys:List OM}{m:OM}(Z:JC ops C listed (xs++m::ys))(y:∀e∈iB m.o,listed.getD e false=true):JC ops C (listed.setIfInBounds m.j true) (xs++ys):=by
 have B:=Z.mem m (by simp);have w:m.j<ops.size:=(aw6.1 B).1;have L:m.j<listed.size:=by rw[Z.sz];exact w
 have P:aAf (xs++ys) (xs++m::ys):=ayX (ay7 _) (ayO _ _);have v:∀x∈xs++ys,x.j≠m.j:=by
  intro x X;have I:=Z.nd;rw[aw8] at I;rcases awR.1 X with h|h;exact I.2.2 x h m (by simp);exact Ne.symm ((aw2.1 I.2.1).1 x h)
 refine⟨λx X=>Z.mem x (P.subset X),λi hi=> ?_,by simp[Z.sz],λj o H O e Q=> ?_,Z.pr.sublist P, ?_,Z.nd.sublist P,Z.ds.sublist P, ?_⟩;rw[CH _ _ _ _ L];by_cases G:i=m.j;subst G;simp only[if_true,aAg,false_iff];rintro⟨x,X,O⟩;exact v x X O;rw[if_neg G,Z.un i hi];constructor;rintro⟨x,X,rfl⟩;refine⟨x, ?_,rfl⟩;simp only[awR,awP] at X⊢;rcases X with h|h|h;exact .inl h;subst h;exact absurd rfl G;exact .inr h;rintro⟨x,X,rfl⟩;exact⟨x,P.subset X,rfl⟩;rw[CH _ _ _ _ L];rw[CH _ _ _ _ L] at O;split;rfl;by_cases A:j=m.j;subst A;rw[B] at H;cases H;exact y e Q;rw[if_neg A] at O;exact Z.dn j o H O e Q;intro F R N E e Q;rw[CH _ _ _ _ L];by_cases J:e=m.j;left;rw[if_pos J];rw[if_neg J];rcases azF.1 E with⟨V,U,W⟩|⟨V,U,W⟩
 
 have:=Z.tp (xs++m::V) R N (by rw[W];simp) e Q;rcases this with h|⟨x,X,M⟩;exact .inl h;right;refine⟨x, ?_,M⟩;rw[U];simp only[awR,awP] at X⊢;rcases X with h|h|h;exact .inl h;subst h;exact absurd M.symm J;exact .inr h
 
 cases V with
 |nil=>
  simp at U W;subst U;have:=Z.tp (xs++[m]) R N (by rw[<-W];simp) e Q;rcases this with h|⟨x,X,M⟩;exact .inl h;right;refine⟨x, ?_,M⟩;simp only[awR,ayJ] at X;rcases X with h|h;exact h;subst h;exact absurd M.symm J
 |cons z V=>
  simp only[awV,axH] at W;obtain⟨rfl,W⟩:=W;have:=Z.tp F R (V++m::ys) (by rw[U];simp) e Q;exact this
 intro F R N E D;rcases azF.1 E with⟨V,U,W⟩|⟨V,U,W⟩;exact Z.so (xs++m::V) R N (by rw[W];simp) D;cases V with
 |nil=>
  simp at U W;subst U;exact Z.so (xs++[m]) R N (by rw[<-W];simp) D
 |cons z V=>
  simp only[awV,axH] at W;obtain⟨rfl,W⟩:=W;have:=Z.so F R (V++m::ys) (by rw[U];simp) D;rw[W];exact this.sublist (ayX (ay7 _) (ayO _ _))
def anQ{F:Fence}(V:mS F)(M:jr p cf)(an:NB p cf u){n:Nat}{D:bw}{Q:Exit->Act->World->Prop}(HP:∀z a' W' pd y,cF p.w0 D pd y a'.defers W'->p.R (.panicked z) W'->Q (.panic z) a' W')
  {m:OM}{rest:List OM}{s:S}{ρ:aa}{β:List Nat}{a:Act}{W:World}(h:cD p cf ops u Kn Kp Yp (m::rest) ρ s)(R:ao p.S0 p.w0 D cf.ty β ρ s a W)(L:dA cf.gl ρ)(hm:ops[m.j]?=some m.o)(ag:m.dr=true)
  {K:Act->World->Prop}(H:∀s' ρ' J a' W',bi s ρ β s' ρ' J->(∀t,m.o.dst≠some t->s'.tmps[t]?=s.tmps[t]?)->(∀n,dL s.boxes n=true->(dW m.o.op=true->n≠m.ix)->dL s'.boxes n=true)->ao p.S0 p.w0 D cf.ty J ρ' s' a' W'->cD p cf ops u Kn Kp Yp rest ρ' s'->K a' W')
  (a0:∀v,Kp ρ v s->Q (.panic [{v:=v.den ρ β,recovered:=false}]) a W)
  (hY:∀x args,cV cf s m.o=.call (.yl x) args->m.so=true->Yp m rest ρ s x args->m.o.wpIn F n p.P a W K Q):wpOpIn F n p.P ops Q m.j K a W:=by
 unfold wpOpIn;rw[hm];simp only;simp only[cD] at h;rcases h with⟨r,Z⟩|⟨r,Z⟩;rw[UH R r];exact⟨λf _=>V.fn f,H _ ρ β _ W ((bi.refl _ _ _).put _ _) (λt G=>iT G) (λn U _=>by rw[iU];exact U) (R.put m.o.dst (.bj [])) Z⟩
 ·rw[UH R r];simp only[if_true];cases X:cV cf s m.o with
  |call g0 args=>
   rw[X] at Z;rcases g0 with g|x
   rotate_left
   exact hY x args X Z.1 Z.2;have Z:mi _ _ _:=Z;cases q:u g args s with
   |some ve=>
    obtain⟨pv,ex⟩:=ve;rw[q] at Z;obtain⟨k,i⟩:=an g args s pv ex q D ρ β a W Z.1 R L;refine⟨λf _=>V.fn f, ?_⟩;have E:∀c,m.o.op≠ .defer c:=λc C=>by simp[cV,C] at X
    rw[Oper.semAt_eq _ _ _ E,Nj R L X k,Oper.uponIn_enter];refine⟨λB=>by rw[V.vZ] at B;simp at B,CallsIn.mono (V.calls i) (λe W' I=> ?_)⟩;obtain⟨J,rfl,N,A⟩:=I;exact H _ ρ J _ W' (A.put _ _) (λt G=>iT G) (λn U _=>by rw[iU];exact ac6 U) (N.put m.o.dst pv) Z.2
   |none=>
   rw[q] at Z;obtain⟨ts,ks,l,c1,c2,c3,c4,c5⟩:=Z;simp only[S.cU,awF] at c4;obtain⟨⟨d,-⟩,a1⟩:=c4;have k:=M.Ab g (.inl (by rw[c1];rfl));have i:=c5 β W (by rw[M.pt];exact(R.mem.Ti _).j9 (abR _ _));refine⟨λf _=>V.fn f, ?_⟩;have E:∀c,m.o.op≠ .defer c:=λc C=>by simp[cV,C] at X
   rw[Oper.semAt_eq _ _ _ E,Nj R L X k,Oper.uponIn_enter];refine⟨λB=>by rw[V.vZ] at B;simp at B,CallsIn.mono (V.calls i) (λe W' I=> ?_)⟩;cases e with
   |returned v=>
    obtain⟨xs,q1,q2,q3,q4,q5⟩:=I;rw[M.pt] at q4;obtain⟨e1,e2,e3,e4⟩:=sc ks (s.cut args ks);subst q2;have R1:ao p.S0 p.w0 D cf.ty β ρ (s.cut args ks) a W:=R.j9 (Aa args ks s.rs);have N:=(R1.called (Jg d (Aa args ks s.rs).len) a1 q1 q3 (λb d=>acI R d) q4).put m.o.dst (one l);refine H _ (ρ.ext xs) β _ W' (bi.put (s:=s) ⟨xT _ _ _ _,by rw[e1];exact λ_ h=>h,by rw[e1];exact awN _,by rw[e3];exact awN _⟩ _ _) (λt G=>by rw[iT G,e2];rfl) (λn U _=>by rw[iU,e1];exact U) N q5
   |panicked z=>exact HP z a W' _ _ (R.bT.below I.1) I.2
   |outgrown=>exact I.elim
  |aS v=>
   rw[X] at Z;refine⟨λf _=>V.fn f, ?_⟩;have E:∀c,m.o.op≠ .defer c:=λc C=>by simp[cV,C] at X
   rw[Oper.semAt_eq _ _ _ E,acD R L X];exact a0 v Z
  |no=>rw[X] at Z;exact Z.elim
  |op=>
   rw[X] at Z;simp only at Z;cases O:cK cf m.o m.aY m.dr s with
   |some b=>
    rw[O] at Z;obtain⟨U,Z⟩:=Z;obtain⟨v,W',rv,af,a2,N,A⟩:=TW R M.jt L O U;exact xY V af (Ud O) (H b.s _ β _ W' A (Uw (by rw[ag] at O;exact O)) (λn U _=>by rw[(JB (by rw[ag] at O;exact O)).2.2];exact U) N (Z rv (by rw[M.pt];exact a2)))
   |none=>
   rw[O] at Z;obtain⟨s',h3,h4⟩:=Z;have w:=Fp h3;obtain⟨v,W',J,af,N,A⟩:=Jj R M.jt L m w;exact xY V af (Jr w) (H s' ρ J _ W' A (adg w) (adv w) N h4)
def anR{α:Type}{xs ys:List α}{m x:α}(h:x∈(xs++ys).dropLast):x∈(xs++m::ys).dropLast:=by
 rw[ayL (by simp)];cases ys with
 |nil=>
  rw[aya] at h;exact axw _ ((azX _).subset h)
 |cons y ys=>
  rw[ayL (by simp)] at h;rcases awR.1 h with h|h;exact axw _ h;rw[List.dropLast_cons_cons];exact ayf _ (axS _ h)
def anS(bk:Ac ops u)(br:NB p cf u){Kn:List LC->aa->S->Prop}{Kp:List LC->aa->SV->S->Prop}{Yp:List LC->OM->List OM->aa->S->Nat->List SV->Prop}{F:Fence}(hF:mS F)(ok:jr p cf){n:Nat}{D:bw}{Q:Exit->Act->World->Prop}(HP:∀H a' W' pd y,cF p.w0 D pd y a'.defers W'->p.R (.panicked H) W'->Q (.panic H) a' W'){z:List Nat}(hC:FC ops z)
  {s0:S}{ρ0:aa}{β0:List Nat}{L0:List LC}
  (hk:∀s' ρ' Z a' W' X,bi s0 ρ0 β0 s' ρ' Z->bU s0.al L0 X->ao p.S0 p.w0 D cf.ty Z ρ' s' a' W'->Kn X ρ' s'->Q .normal a' W')
  (a7:∀v s' ρ' Z a' W' X,bi s0 ρ0 β0 s' ρ' Z->bU s0.al L0 X->ao p.S0 p.w0 D cf.ty Z ρ' s' a' W'->Kp X ρ' v s'->Q (.panic [{v:=v.den ρ' Z,recovered:=false}]) a' W')
  (hy:∀(L:List LC)(m:OM)(rest:List OM)(s:S)(ρ:aa)(β:List Nat)(a:Act)(W:World)(yn:Nat)(args:List SV)(O:Ending->World->Prop),bi s0 ρ0 β0 s ρ β->bU s0.al L0 L->ao p.S0 p.w0 D cf.ty β ρ s a W->dA cf.gl ρ->Yp L m rest ρ s yn args->
   (∀v s' ρ' Z W' X,bi s ρ β s' ρ' Z->bU s.al L X->ao p.S0 p.w0 D cf.ty Z ρ' s' a W'->cD p cf ops u (Kn X) (Kp X) (Yp X) rest ρ' (s'.put m.o.dst v)->O (.returned (v.den ρ' Z)) W')->
   (∀v s' ρ' Z W' X,bi s ρ β s' ρ' Z->bU s.al L X->ao p.S0 p.w0 D cf.ty Z ρ' s' a W'->Kp X ρ' v s'->O (.panicked [{v:=v.den ρ' Z,recovered:=false}]) W')->
   (∀H W' pd y,cF p.w0 D pd y a.defers W'->p.R (.panicked H) W'->O (.panicked H) W')->
   ∀(m:Nat),YieldAt F m p.P (ρ.y.getD yn 0) (SV.ap ρ β args).toArray W O):
  ∀(fuel:Nat)(listed:Array Bool)(M:List OM)(s:S)(ρ:aa)(β:List Nat)(a:Act)(W:World)(L:List LC),M.length=fuel->JC ops z listed M->(∀m∈M,m.dr=true)->(∀m∈M,∀t,m.o.op=.alloc t->Cl cf t=true)->(M.Pairwise λa b=>dW a.o.op=true->dW b.o.op=true->a.ix≠b.ix)->(((∀m∈M,UG s m)/\(∀m∈M.dropLast,FB s m))\/(M.Pairwise λx y=>(z.getD y.j 0).testBit x.j=true))->bi s0 ρ0 β0 s ρ β->bU s0.al L0 L->ao p.S0 p.w0 D cf.ty β ρ s a W->dA cf.gl ρ->cD p cf ops u (Kn L) (Kp L) (Yp L) M ρ s->
   wpAnyIn F n p.P .any ops Q fuel listed a W:=by
 intro fuel;induction fuel with
 |zero=>
  intro listed M s ρ β a W L a0 N a2 hZ a8 J G E R w h;have bt:M=[]:=axp.1 a0;subst bt;refine⟨?_,hk s ρ β a W L G E R h⟩;cases hr:Region.ready .any ops listed with
  |nil=>rfl
  |cons i r=>
   obtain⟨k,o,g,-⟩:=mem_ready.1 (show i∈Region.ready .any ops listed by rw[hr];simp);have:=(N.un i (aw6.1 g).1).1 k;obtain⟨m,C,-⟩:=this;cases C
 |succ fuel ih=>
  intro listed M s ρ β a W L a0 N a2 hZ a8 J G E R w h;refine⟨λhr=> ?_,λi hi=> ?_⟩
  
  exfalso;cases M with
  |nil=>simp at a0
  |cons m ys=>
   have q:=N.mem m (by simp);have:m.j∈Region.ready .any ops listed:=by
    refine mem_ready.2 ⟨(N.un m.j (aw6.1 q).1).2 ⟨m,by simp,rfl⟩,m.o,q,λe B hb=> ?_⟩;rcases N.tp [] m ys rfl e.on (ady B hb) with k|⟨x,V,-⟩;exact k;cases V
   rw[hr] at this;cases this
  obtain⟨k,o,g,bx⟩:=mem_ready.1 hi;obtain⟨m,C,rfl⟩:=(N.un i (aw6.1 g).1).1 k;obtain⟨xs,ys,rfl⟩:=aAh C;have q:=N.mem m C;rw[q] at g;cases g;have hd:∀e∈iB m.o,listed.getD e false=true:=λe B=>by
   obtain⟨ed,A,h3,rfl⟩:=adz B;exact bx ed A h3
  have a9:∀x∈xs,¬(z.getD m.j 0).testBit x.j=true:=by
   intro x V A;have b0:=N.mem x (by simp[V]);have a3:x.j<ops.size:=(aw6.1 b0).1;have h3:=anO hC N m.j m.o q hd x.j a3 A;have h4:=(N.un x.j a3).2 ⟨x,by simp[V],rfl⟩;have b1:x.j<listed.size:=by rw[N.sz];exact a3
   simp[b1] at h3 h4;rw[h3] at h4;cases h4
  have bb:∀x∈xs,pf ops x m=true:=by
   intro x V;have b2:=(aw8.1 N.pr).2.2 x V m (by simp);rcases b2 with A|A;exact absurd A (a9 x V);exact A
  have a4:=aw8.1 N.ds;have l:=aw8.1 a8;have hb:cD p cf ops u (Kn L) (Kp L) (Yp L) (m::(xs++ys)) ρ s:=by
   rcases J with⟨a5,J⟩|J;exact adx bk xs s ρ bb (λx V=>J x (by rw[ayL (by simp)];exact axw _ V)) (a5 m C) a4.1 (λx V af a1 e=>l.2.2 x V m (by simp) af a1 e.symm) (hZ m C) R.ei R.eb R.er h;cases xs with
   |nil=>exact h
   |cons x xs=>exact absurd ((aw8.1 J).2.2 x (by simp) m (by simp)) (a9 x (by simp))
  have bd:∀(s':S)(ρ':aa)(Z:List Nat)(a':Act)(W':World)(X:List LC),(((∀m∈xs++ys,UG s' m)/\(∀m∈(xs++ys).dropLast,FB s' m))\/((xs++ys).Pairwise λx y=>(z.getD y.j 0).testBit x.j=true))->bi s0 ρ0 β0 s' ρ' Z->bU s0.al L0 X->ao p.S0 p.w0 D cf.ty Z ρ' s' a' W'->dA cf.gl ρ'->cD p cf ops u (Kn X) (Kp X) (Yp X) (xs++ys) ρ' s'->wpAnyIn F n p.P .any ops Q fuel (listed.setIfInBounds m.j true) a' W':=
   λs' ρ' Z a' W' X b3 I ag O b4 an=>ih _ (xs++ys) s' ρ' Z a' W' X (by simp at a0⊢;omega) (anP N hd) (λx V=>a2 x (by rcases awR.1 V with U|U<;>simp[U])) (λx V=>hZ x (by rcases awR.1 V with U|U<;>simp[U]))
    (aw8.2 ⟨l.1,(aw2.1 l.2.1).2,λa ha b hb=>l.2.2 a ha b (by simp[hb])⟩) b3 I ag O b4 an
  have b5:aAf (xs++ys) (xs++m::ys):=ayX (ay7 _) (ayO _ _);refine anQ hF ok br HP hb R w q (a2 m C) (λs' ρ' Z a' W' I b6 b7 O an=> ?_) (λv hv=>a7 v s ρ β a W L G E R hv) (λyn args hc bf b8=> ?_);refine bd s' ρ' Z a' W' L ?_ (G.trans I) E O (w.ext I.ext) an;rcases J with⟨a5,J⟩|J;left;refine⟨λx V af=>b7 x.ix (a5 x (by rcases awR.1 V with U|U<;>simp[U]) af) (λa1=>by
   rcases awR.1 V with U|U;exact l.2.2 x U m (by simp) af a1;exact λe=>(aw2.1 l.2.1).1 x U a1 af e.symm),λx V=> ?_⟩
  intro d a6;have ca:m.o.dst≠some d:=by
   rcases awR.1 ((azX _).subset V) with U|U;exact a4.2.2 x U m (by simp) d a6;intro B;exact(aw2.1 a4.2.1).1 x U d B a6
  exact UF ⟨by rw[<-R.ei,<-O.ei];exact I.ext.li,by rw[<-R.eb,<-O.eb];exact I.ext.lb,by rw[<-R.er,<-O.er];exact I.ext.lr,I.mono⟩ (b6 d ca) (J x (anR V) d a6);exact .inr (J.sublist b5);have cc:xs=[]:=by
   cases xs with
   |nil=>rfl
   |cons x xs=>
    have:=(adw (bb x (by simp))).2;rw[bf] at this;cases this
  subst cc;have cl:ys.Pairwise λx y=>(z.getD y.j 0).testBit x.j=true:=N.so [] m ys rfl bf
  have hY:=hy L m ys s ρ β a W yn args (λe W'=>match e with
    |.returned v=>wpAnyIn F n p.P .any ops Q fuel (listed.setIfInBounds m.j true) (a.put m.o.dst v) W'
    |.panicked H=>Q (.panic H) a W'
    |.outgrown=>LetsOut Q) G E R w b8
   (λv s' ρ' Z W' X I ag O an=>bd (s'.put m.o.dst v) ρ' Z _ W' X (.inr cl) (G.trans (I.put _ _)) (E.trans ag G.al) (O.put m.o.dst v) (w.ext I.ext) an)
   (λv s' ρ' Z W' X I ag O hs=>a7 v s' ρ' Z a W' X (G.trans I) (E.trans ag G.al) O hs)
   (λH W' pd y J hR=>HP H a W' pd y J hR) (n-1)
  obtain⟨fn,tmps,assign,body,cp,cs⟩:=hY;refine⟨λf _=>hF.fn f, ?_⟩;have ct:∀c,m.o.op≠ .defer c:=λc cv=>by simp[cV,cv] at hc
  rw[Oper.semAt_eq _ _ _ ct,acC R w hc,cp];rw[Oper.uponIn_round];refine⟨λhd=>by rw[hF.vZ] at hd;simp at hd,RoundIn.mono cs (λe W' B=> ?_)⟩;cases e<;>exact B
end
end
section
def NC:Option Nat->Fence
 |none=>Fence.wide
 |some l=>Fence.wide.inRound l
def yk:∀ro,mS (NC ro)
 |none=>am7
 |some l=>acz l
def anT:∀ro,(NC ro).round=ro
 |none=>rfl
 |some _=>rfl
def mS.room{F:Fence}(X:mS F)(n:Nat):F.room n:=λd Z=>by rw[X.vZ] at Z;cases Z
def gQ(ro:Option Nat)(u:FuncId)(P:Program)(c:Code)(Q:Exit->Act->World->Prop)(a:Act)(w:World):Prop:=
 ∀(b:Frame)(k:List Item)(cs:List Frame),b.roundOf=ro->b.fn=u->
  ∃e a' Z,Q e a' Z/\ArrivesIn (Machine.fenced P Fence.wide) P (lone (b.atR a (.code c::k)) cs w) b k cs e a' Z
section
variable{ro:Option Nat}{u:FuncId}{P:Program}{Q:Exit->Act->World->Prop}{a:Act}{w:World}
def ym{c:Code}{n:Nat}(h:c.wpIn (NC ro) n P Q a w):gQ ro u P c Q a w:=by
 intro b k cs X _;obtain⟨e,a',W,V,Z⟩:=h b k cs (X.trans (anT ro).symm) ((yk ro).fn _) ((yk ro).room _);rw[(yk ro).eq] at Z;exact⟨e,a',W,V,Z⟩
def anU{c:Code}{Z:Exit->Act->World->Prop}(h:gQ ro u P c Q a w)(X:∀e a w,Q e a w->Z e a w):gQ ro u P c Z a w:=
 λb k cs W V=>let⟨e,a',U,q,r⟩:=h b k cs W V;⟨e,a',U,X _ _ _ q,r⟩
def UI{x y:Code}(h:gQ ro u P x (Exit.then (gQ ro u P y Q) Q) a w):gQ ro u P (Code.seq x y) Q a w:=by
 intro b k cs R O;have Z:(lone (b.atR a (.code (.seq x y)::k)) cs w).fenced P Fence.wide:=fenced_wide _ _;obtain⟨e,V,U,X,W⟩:=h b (.code y::k) cs R O;cases e with
 |normal=>
  obtain⟨N,M,L,J,I⟩:=X b k cs R O;exact⟨N,M,L,J,.of_steps (.head Z stepR_seq W) I⟩
 |exit id=>exact⟨_,V,U,X,.of_steps (.one Z stepR_seq) (.pass (x:=.code y) rfl (λ_ _=>.inl (by simp)) W)⟩
 |goto l=>exact⟨_,V,U,X,.of_steps (.one Z stepR_seq) (.pass (x:=.code y) rfl (λ_ _=>.inl (by simp)) W)⟩
 |ret=>exact⟨_,V,U,X,.of_steps (.one Z stepR_seq) (.pass (x:=.code y) rfl (λ_ _=>.inl (by simp)) W)⟩
 |panic H=>exact⟨_,V,U,X,.of_steps (.one Z stepR_seq) (.pass (x:=.code y) rfl (λ_ _=>.inl (by simp)) W)⟩
 |outgrown=>exact⟨_,V,U,X,.of_steps (.one Z stepR_seq) (.pass (x:=.code y) rfl (λ_ _=>.inl (by simp)) W)⟩
def anV{id:Nat}{c:Code}(h:gQ ro u P c (Exit.inBlock id Q) a w):gQ ro u P (Code.block id c) Q a w:=by
 intro b k cs G F;have Z:(lone (b.atR a (.code (.block id c)::k)) cs w).fenced P Fence.wide:=fenced_wide _ _;obtain⟨e,V,U,X,W⟩:=h b (.inBlock id::k) cs G F;cases e with
 |normal=>exact⟨.normal,V,U,X,.head Z stepR_block (StepsIn.trans W (.one (fenced_wide _ _) stepR_inBlock))⟩
 |exit O=>
  by_cases hid:O=id;simp only[Exit.inBlock,hid,if_true] at X;exact⟨.normal,V,U,X,.head Z stepR_block (W.1 k (by simp[exitTo,hid]))⟩;simp only[Exit.inBlock,hid,if_false] at X;have this:(id==O)=false:=by simp;exact λh=>hid h.symm
  have N:exitTo O (.inBlock id::k)=exitTo O k:=by simp[exitTo,this]
  exact⟨.exit O,V,U,X,λM R=>.head Z stepR_block (W.1 M (by rw[N];exact R)),
   λL R=>let⟨J,I,H⟩:=W.2 L (by rw[N];exact R);⟨J,I,.head Z stepR_block H⟩⟩
 |goto l=>
  have N:gotoIn l (.inBlock id::k)=gotoIn l k:=by simp[gotoIn]
  exact⟨_,V,U,X,λM R=>.head Z stepR_block (W.1 M (by rw[N];exact R)),
   λL R=>let⟨J,I,H⟩:=W.2 L (by rw[N];exact R);⟨J,I,.head Z stepR_block H⟩⟩
 |ret=>exact⟨_,V,U,X,.of_steps (.one Z stepR_block) W⟩
 |panic E=>exact⟨_,V,U,X,.of_steps (.one Z stepR_block) W⟩
 |outgrown=>exact⟨_,V,U,X,.of_steps (.one Z stepR_block) W⟩
def anW{c:Code}(h:gQ ro u P c (λe a w=>(∀l,e≠ .goto l)/\Q e a w) a w):gQ ro u P (Code.scope c) Q a w:=by
 intro b k cs N M;have Z:(lone (b.atR a (.code (.scope c)::k)) cs w).fenced P Fence.wide:=fenced_wide _ _;have s0:step P (lone (b.atR a (.code (.scope c)::k)) cs w)=.next (lone (b.atR a (.code c::.inScope c::k)) cs w):=step_lone_go (by simp[stepG,stepG.exec,Frame.atR])
 have L:∀a w,step P (lone (b.atR a (.inScope c::k)) cs w)=.next (lone (b.atR a k) cs w):=λa w=>step_lone_go (by simp[stepG,stepG.exec,Frame.atR])
 obtain⟨e,W,V,⟨J,U⟩,X⟩:=h b (.inScope c::k) cs N M;cases e with
 |normal=>exact⟨.normal,W,V,U,.head Z s0 (StepsIn.trans X (.one (fenced_wide _ _) (L _ _)))⟩
 |exit id=>
  have O:exitTo id (.inScope c::k)=exitTo id k:=by simp[exitTo]
  exact⟨.exit id,W,V,U,λI R=>.head Z s0 (X.1 I (by rw[O];exact R)),λH R=>let⟨G,F,E⟩:=X.2 H (by rw[O];exact R);⟨G,F,.head Z s0 E⟩⟩
 |goto l=>exact absurd rfl (J l)
 |ret=>exact⟨_,W,V,U,.of_steps (.one Z s0) X⟩
 |panic D=>exact⟨_,W,V,U,.of_steps (.one Z s0) X⟩
 |outgrown=>exact⟨_,W,V,U,.of_steps (.one Z s0) X⟩
def ND{c:Operand}{x y:Code}{t:Bool}(Z:a.eval c=.bool t)(h:gQ ro u P (if t then x else y) Q a w):gQ ro u P (Code.cond c x y) Q a w:=by
 intro b k cs X W;obtain⟨e,V,U,R,O⟩:=h b k cs X W;exact⟨e,V,U,R,.of_steps (.one (fenced_wide _ _) (stepR_cond Z)) O⟩
def JD(ro:Option Nat)(u:FuncId)(P:Program)(c:Code)(Q:Exit->Act->World->Prop):Nat->Act->World->Prop
 |0,_,_=>False
 |m+1,a,w=>gQ ro u P c (Exit.then (JD ro u P c Q m) Q) a w
def adA{c:Code}(m:Nat)(h:JD ro u P c Q m a w):gQ ro u P (Code.loop c) Q a w:=by
 intro b k cs O N;have key:∀m a w,JD ro u P c Q m a w->
   ∃e a' R,Q e a' R/\ArrivesIn (Machine.fenced P Fence.wide) P (lone (b.atR a (.code c::.inLoop c::k)) cs w) b k cs e a' R:=by
  intro m;induction m with
  |zero=>intro a w h;exact h.elim
  |succ m M=>
   intro a w h;obtain⟨e,Z,X,W,V⟩:=h b (.inLoop c::k) cs O N;have U:∀{e:Exit},e≠ .normal->ArrivesIn (Machine.fenced P Fence.wide) P (lone (b.atR a (.code c::.inLoop c::k)) cs w) b (.inLoop c::k) cs e Z X->ArrivesIn (Machine.fenced P Fence.wide) P (lone (b.atR a (.code c::.inLoop c::k)) cs w) b k cs e Z X:=
    λL J=>.pass (x:=.inLoop c) rfl (λ_ _=>.inl L) J
   cases e with
   |normal=>
    obtain⟨I,H,G,F,E⟩:=M Z X W;exact⟨I,H,G,F,.of_steps (StepsIn.trans V (.one (fenced_wide _ _) stepR_inLoop)) E⟩
   |exit id=>exact⟨_,Z,X,W,U (by simp) V⟩
   |goto l=>exact⟨_,Z,X,W,U (by simp) V⟩
   |ret=>exact⟨_,Z,X,W,U (by simp) V⟩
   |panic D=>exact⟨_,Z,X,W,U (by simp) V⟩
   |outgrown=>exact⟨_,Z,X,W,U (by simp) V⟩
 obtain⟨e,a',R,W,V⟩:=key m a w h;exact⟨e,a',R,W,.of_steps (.one (fenced_wide _ _) stepR_loop) V⟩
def anX{c:Code}(I:Nat->Act->World->Prop)(X:Nat)(V:I X a w)
  (round:∀n a w,I n a w->gQ ro u P c (Exit.then (λa' W=>∃n',n'<n/\I n' a' W) Q) a w):gQ ro u P (Code.loop c) Q a w:=by
 refine adA (X+1) ?_;have key:∀N n a w,n<N->I n a w->JD ro u P c Q N a w:=by
  intro N;induction N with
  |zero=>intro n a w h;omega
  |succ N U=>
   intro n a w M R;refine anU (round n a w R) ?_;intro e a' W Z;cases e with
   |normal=>
    obtain⟨n',L,O⟩:=Z;exact U n' a' W (by omega) O
   |exit id=>exact Z
   |goto l=>exact Z
   |ret=>exact Z
   |panic J=>exact Z
   |outgrown=>exact Z
 exact key (X+1) X a w (by omega) V
def UJ(ro:Option Nat)(u:FuncId)(P:Program)(l:Nat)(Q:Exit->Act->World->Prop)(a':Act):Ending->World->Prop
 |.returned _,Z=>∃W X,(Instr.endLoop l).run P Z=.ok W X/\
   (match W with
    |none=>Q .normal a' X
    |some c=>gQ ro u P c Q a' X)
 |.panicked chain,Z=>Q (.panic chain) a' Z
 |.outgrown,_=>False
def anY{g:Operand}{ps:Array Tmp}{assign body:Code}
  (h:∃(l:Nat)(mark:List Deferred)(Z:World)(d:Deferred)(X:World)(f:FuncId)(args:Array Value)(W:World),
   (Instr.enterLoop u a.tmps ps assign body ro).run P w=.ok (l,mark) Z/\
   (resolve a.eval (rangeCall g l) 0).run P Z=.ok d X/\
   (invoke d.target d.args).run P X=.ok (.enter f args) W/\
   Calls P f args W (UJ ro u P l Q {a with defers:=mark++a.defers})):
  gQ ro u P (Code.rangeFunc g ps assign body) Q a w:=by
 intro b k cs R O;obtain⟨l,mark,Z,d,X,f,args,W,N,D,C,V⟩:=h;obtain⟨r,V⟩:=(callsIn_wide (n:=0)).2 V;rw[<-R,<-O] at N;have M:(lone (b.atR a (.code (.rangeFunc g ps assign body)::k)) cs w).fenced P Fence.wide:=fenced_wide _ _;have L:=stepR_rangeFunc (P:=P) (b:=b) (a:=a) (k:=k) (cs:=cs) (w:=w) N D C;obtain⟨e,B,fr,U,J,q,I⟩:=V (b.atR {a with defers:=mark++a.defers} (.inRangeFunc l::k)::cs) (room_wide _);cases e with
 |outgrown=>exact U.elim
 |returned v=>
  obtain⟨H,G,A,F⟩:=U;have E:StepsIn (Machine.fenced P Fence.wide) P (lone (b.atR a (.code (.rangeFunc g ps assign body)::k)) cs w) (lone (b.atR {a with defers:=mark++a.defers} ((H.map Item.code).toList++k)) cs G):=by
   refine .head M L (StepsIn.trans J (.head (fenced_wide _ _) ?_ (.one (fenced_wide _ _) (stepR_endRangeFunc A))));rw[<-finish_atR_inRangeFunc l v];exact step_leave_returned I
  cases H with
  |none=>exact⟨.normal,_,G,F,E⟩
  |some c=>
   obtain⟨z,y,x,t,s⟩:=F b k cs R O;exact⟨z,y,x,t,.of_steps E s⟩
 |panicked chain=>
  refine⟨.panic chain,_,B,U,.inRangeFunc l::k,.head M L (StepsIn.trans J (.one (fenced_wide _ _) ?_))⟩;rw[<-Frame.raise_atR];exact step_leave_panicked I
end
def JE{P:Program}{f:FuncId}{fn:Func}{c:Code}{args:Array Value}{w:World}{R:Ending->World->Prop}
  (J:P.funcs[f]?=some fn)(E:fn.body=some c)
  (h:gQ none f P c (bodyPostM Fence.wide 0 P fn R) {tmps:=args++ayM (fn.ntmps-args.size) undef,defers:=[]} w):Calls P f args w R:=by
 refine(callsIn_wide (n:=0)).1 ⟨trivial,λcs H=> ?_⟩;let b:Frame:={(default:Frame) with fn:=f,kind:=.normal,roundOf:=none};have D:Frame.enter P f args .normal=
   b.atR {tmps:=args++ayM (fn.ntmps-args.size) undef,defers:=[]} [.code c]:=by
  simp[Frame.enter,Frame.atR,J,E,b]
 obtain⟨e,a',I,Z,X⟩:=h b [] cs rfl rfl;rw[<-D] at X;cases e with
 |normal=>
  obtain⟨W,V,U,O,N,M,L⟩:=leaves_stepsInM a'.defers .returning I {b.atR a' [] with mode:=.returning} cs rfl rfl rfl J rfl trivial H Z;exact⟨W,V,U,O,ComesIn.of_steps (StepsIn.trans X (.one (fenced_wide _ _) (stepR_end rfl))) N,M,L⟩
 |ret=>
  obtain⟨G,F⟩:=X.1 rfl;obtain⟨W,V,U,O,N,M,L⟩:=leaves_stepsInM a'.defers .returning I {b.atR a' G with mode:=.returning} cs rfl rfl rfl J rfl trivial H Z;exact⟨W,V,U,O,ComesIn.of_steps F N,M,L⟩
 |panic chain=>
  obtain⟨G,F⟩:=X;obtain⟨W,V,U,O,N,M,L⟩:=leaves_stepsInM a'.defers (.panicking chain) I {b.atR a' G with mode:=.panicking chain} cs rfl rfl rfl J rfl trivial H Z;exact⟨W,V,U,O,ComesIn.of_steps F N,M,L⟩
 |exit id=>exact Z.elim
 |goto l=>exact Z.elim
 |outgrown=>exact⟨.outgrown,I,b,Z,X.resolve_left (by simp[b]),rfl,trivial⟩
def anZ(P:Program)(l:Nat)(R:Ending->World->Prop):Exit->Act->World->Prop
 |.normal,_,w=>∃v Z,(Instr.endRound l none).run P w=.ok v Z/\R (.returned v) Z
 |.ret,_,w=>∃v Z,(Instr.endRound l (some .ret)).run P w=.ok v Z/\R (.returned v) Z
 |.exit id,_,w=>∃v Z,(Instr.endRound l (some (.exit id))).run P w=.ok v Z/\R (.returned v) Z
 |.panic X,a,w=>a.defers=[]/\R (.panicked X) w
 |_,_,_=>False
def an1{F:Fence}(B:mS F){n:Nat}{P:Program}{l:Nat}{f:FuncId}{fn:Func}{tmps:Array Value}{assign body:Code}{w:World}{R:Ending->World->Prop}(A:P.funcs[f]?=some fn)
  (h:gQ (some l) f P assign (λe U O=>(e=.normal/\∃E,(Instr.beginRound l).run P O=.ok () E/\gQ (some l) f P body (anZ P l R) U E)\/∃J,e=.panic J/\U.defers=[]/\R (.panicked J) O)
   {tmps:=tmps,defers:=[]} w):
  RoundIn F n P l f tmps assign body w R:=by
 refine⟨B.fn f,λc cs o=> ?_⟩;let b:Frame:={(default:Frame) with fn:=f,kind:=.normal,roundOf:=some l};have z:Frame.round l f tmps assign body .normal=b.atR {tmps:=tmps,defers:=[]} [.code assign,.beginRound,.code body]:=by
  simp[Frame.round,Frame.atR,b]
 have k:(Fence.wide.inRound l).room ((c::cs).length+1+n):=(acz l).room _;obtain⟨e,U,O,y,N⟩:=h b [.beginRound,.code body] (c::cs) rfl rfl;rw[<-z] at N;rw[B.eq];have FD:∀(m:Machine)(M:Act)(W:World)(chain:List PanicEntry)(V:List Item),M.defers=[]->StepsIn (Machine.fenced P Fence.wide) P m (lone {b.atR M V with mode:=.panicking chain} (c::cs) W)->StepsIn (Machine.fenced P Fence.wide) P m (lone (c.raise chain) cs W):=by
  intro m M W chain V I Z;have x:({b.atR M V with mode:=.panicking chain}:Frame).leaving P W (.panicked chain):=⟨rfl,I,fn,A⟩;exact StepsIn.trans Z (.one (fenced_wide _ _) (step_leave_panicked x))
 rcases y with⟨rfl,E,u,s⟩|⟨J,rfl,I,X⟩;have D:StepsIn (Machine.fenced P Fence.wide) P (lone (b.atR U [.beginRound,.code body]) (c::cs) O) (lone (b.atR U [.code body]) (c::cs) E):=
  .one (fenced_wide _ _) (stepR_beginRound rfl u)
 obtain⟨r,M,W,L,C⟩:=s b [] (c::cs) rfl rfl;cases r with
 |normal=>
  obtain⟨v,H,G,X⟩:=L;exact⟨.returned v,H,X,(StepsIn.trans N D).trans (StepsIn.trans C (.one (fenced_wide _ _) (stepR_round_end rfl rfl G)))⟩
 |ret=>
  obtain⟨v,H,G,X⟩:=L;obtain⟨q,Z⟩:=C.2 rfl;exact⟨.returned v,H,X,(StepsIn.trans N D).trans (StepsIn.trans Z (.one (fenced_wide _ _) (stepR_round_ret rfl rfl G)))⟩
 |exit id=>
  obtain⟨v,H,G,X⟩:=L;obtain⟨q,p,Z⟩:=C.2 rfl rfl;exact⟨.returned v,H,X,(StepsIn.trans N D).trans (StepsIn.trans Z (.one (fenced_wide _ _) (stepR_round_exit rfl rfl p G)))⟩
 |goto t=>exact L.elim
 |panic chain=>
  obtain⟨I,X⟩:=L;obtain⟨V,Z⟩:=C;exact⟨.panicked chain,W,X,FD _ M W chain V I ((StepsIn.trans N D).trans Z)⟩
 |outgrown=>exact L.elim
 obtain⟨V,Z⟩:=N;exact⟨.panicked J,O,X,FD _ U O J V I Z⟩
end
section
mutual
def IE.cP(ρ:aa)(y:List Nat):∀(e:IE),e.den (ρ.at y)=e.den ρ
 |.c n=>by simp[IE.den]
 |.v k=>by simp[IE.den,aa.at]
 |.bin o k a b=>by simp only[IE.den];rw[IE.cP ρ y a,IE.cP ρ y b]
 |.conv k a=>by simp only[IE.den];rw[IE.cP ρ y a]
 |.len r=>by simp only[IE.den];rw[RE.ju ρ y r]
 |.mm m a b=>by simp only[IE.den];rw[IE.cP ρ y a,IE.cP ρ y b]
 |.bY b x z=>by simp only[IE.den];rw[BE.cP ρ y b,IE.cP ρ y x,IE.cP ρ y z]
 |.cell r i j=>by simp only[IE.den];rw[RE.ju ρ y r,IE.cP ρ y i]
 |.ku r i=>by simp only[IE.den];rw[RE.ju ρ y r,IE.cP ρ y i]
 |.look r n a b c j=>by simp only[IE.den];rw[RE.ju ρ y r,IE.cP ρ y a,IE.cP ρ y b,IE.cP ρ y c]
def BE.cP(ρ:aa)(y:List Nat):∀(e:BE),e.den (ρ.at y)=e.den ρ
 |.c b=>by simp[BE.den]
 |.v k=>by simp[BE.den,aa.at]
 |.cmp o a b=>by simp only[BE.den];rw[IE.cP ρ y a,IE.cP ρ y b]
 |.not a=>by simp only[BE.den];rw[BE.cP ρ y a]
 |.and a b=>by simp only[BE.den];rw[BE.cP ρ y a,BE.cP ρ y b]
 |.beq a b=>by simp only[BE.den];rw[BE.cP ρ y a,BE.cP ρ y b]
 |.bY b x z=>by simp only[BE.den];rw[BE.cP ρ y b,BE.cP ρ y x,BE.cP ρ y z]
 |.cell r i j=>by simp only[BE.den];rw[RE.ju ρ y r,IE.cP ρ y i]
 |.seq a b=>by simp only[BE.den];rw[RE.ju ρ y a,RE.ju ρ y b]
 |.look r n a b c j=>by simp only[BE.den];rw[RE.ju ρ y r,IE.cP ρ y a,IE.cP ρ y b,IE.cP ρ y c]
 |.has r n a b c=>by simp only[BE.den];rw[RE.ju ρ y r,IE.cP ρ y a,IE.cP ρ y b,IE.cP ρ y c]
def RE.ju(ρ:aa)(y:List Nat):∀(e:RE),e.rv (ρ.at y)=e.rv ρ
 |.v k=>by simp[RE.rv,aa.rv,aa.at]
 |.cell r i j k=>by simp only[RE.rv];rw[RE.ju ρ y r,IE.cP ρ y i]
 |.k v=>by simp[RE.rv]
end
def SV.UK(ρ:aa)(y:List Nat)(v:SV):v.xv (ρ.at y)=v.xv ρ:=by
 cases v<;>simp[SV.xv,IE.cP,BE.cP,RE.ju]
def SV.an2(ρ:aa)(y:List Nat)(v:SV):v.bp (ρ.at y)=v.bp ρ:=by
 cases v<;>simp[SV.bp,IE.cP,BE.cP,RE.ju]
def SV.NE(ρ:aa)(y:List Nat):SV.bp (ρ.at y)=SV.bp ρ:=funext (SV.an2 ρ y)
def LE.CI(ρ:aa)(y:List Nat):∀(e:LE),e.rows (ρ.at y)=e.rows ρ
 |.ref r=>by simp only[LE.rows,RE.ju]
 |.lit l=>by simp only[LE.rows,SV.NE]
 |.jG a b=>by simp only[LE.rows];rw[LE.CI ρ y a,LE.CI ρ y b]
 |.oc n row=>by simp only[LE.rows,SV.NE,IE.cP]
 |.set a i off cs=>by simp only[LE.rows,SV.NE,IE.cP];rw[LE.CI ρ y a]
 |.sub a lo hi=>by simp only[LE.rows,IE.cP];rw[LE.CI ρ y a]
 |.ins a n cs=>by simp only[LE.rows,SV.NE];rw[LE.CI ρ y a]
def JF:∀(xs:List XV)(ρ:aa)(y:List Nat),(ρ.at y).ext xs=(ρ.ext xs).at y
 |[],ρ,y=>rfl
 |x::xs,ρ,y=>by
  simp only[aa.ext];rw[<-JF xs (ρ.add x) y];cases x<;>rfl
def an3{ty:Ty}{S0:List Nat}{w0:World}{e:TypeId}{x:LE}{rs:List RK}{ρ:aa}{y:List Nat}{rv:RV}(h:Ct ty S0 w0 e x rs (ρ.at y) rv):Ct ty S0 w0 e x rs ρ rv:=by
 obtain⟨Z,X,V⟩:=h;rw[LE.CI] at Z;exact⟨Z,X,V⟩
def oE(p:Sp):∀(t:T)(ρ:aa)(L:List LC)(y:List Nat),t.aD p ρ L->t.aD p (ρ.at y) L
 |.out e s,ρ,L,y,h=>h
 |.ret v bx rs,ρ,L,y,h=>h
 |.aS v,ρ,L,y,h=>h
 |.node b t f,ρ,L,y,h=>by
  simp only[T.aD,BE.cP] at h⊢;exact⟨λZ=>oE p t ρ L y (h.1 Z),λZ=>oE p f ρ L y (h.2 Z)⟩
 |.az b t,ρ,L,y,h=>by
  simp only[T.aD,BE.cP] at h⊢;exact⟨h.1,oE p t ρ L y h.2⟩
 |.call f args bx rs ks fp t,ρ,L,y,h=>by
  simp only[T.aD] at h⊢;intro P β W R;refine(h P β W R).mono ?_;intro e W' U;cases e with
  |returned v=>
   obtain⟨xs,X,V,Q,O,N⟩:=U;refine⟨xs,X, ?_,Q,O, ?_⟩;rw[JF];exact V;rw[JF];exact oE p t _ L y N
  |panicked E=>exact U
  |outgrown=>exact U
 |.loop al ks C t,ρ,L,y,h=>by
  simp only[T.aD] at h⊢;obtain⟨I,M,X,V⟩:=h;refine⟨I,M, ?_,λxs J H=> ?_⟩;have:SV.xv (ρ.at y)=SV.xv ρ:=funext (SV.UK ρ y);rw[this];exact X;rw[JF];exact oE p t _ _ y (V xs J H)
 |.back al x,ρ,L,y,h=>by
  have:SV.xv (ρ.at y)=SV.xv ρ:=funext (SV.UK ρ y);simp only[T.aD] at h⊢;rw[this];exact h
 |.new e x rs B t,ρ,L,y,h=>by
  simp only[T.aD] at h⊢;intro rv G;exact oE p t (ρ.add (.r rv)) L y (h rv (an3 G))
 |.rows k x rs t,ρ,L,y,h=>by
  simp only[T.aD] at h⊢;have:fb x (ρ.at y)=fb x ρ:=by simp only[fb,LE.CI]
  rw[this];exact oE p t (ρ.add (.r (fb x ρ))) L y h
 |.eC g F t f,ρ,L,y,h=>by
  simp only[T.aD,BE.cP] at h⊢;exact⟨λZ=>oE p t ρ L y (h.1 Z),λZ=>oE p f ρ L y (h.2 Z)⟩
 |.pick n g F t f,ρ,L,y,h=>by
  simp only[T.aD,IE.cP,BE.cP] at h⊢;refine⟨λj X V Q=>oE p t (ρ.add (.i j)) L y (h.1 j X V ?_),λZ=>oE p f ρ L y (h.2 Z)⟩;have:=BE.cP (ρ.add (.i j)) y g;rw[<-this];exact Q
 |.dl f g e sp A r rs t,ρ,L,y,h=>by
  simp only[T.aD,RE.ju] at h⊢;obtain⟨rows,X,V⟩:=h;refine⟨rows, ?_,oE p t (ρ.add (.r (.mk (r.rv ρ).val rows))) L y V⟩;rw[<-X];cases sp with
  |co k o as=>simp only[kR,show IE.den (ρ.at y)=IE.den ρ from funext λe=>IE.cP ρ y e]
  |lex cs d=>rfl
  |ratio n d=>rfl
 |.stuck _,_,_,_,h=>h
mutual
def SV.JG{ρ:aa}{y:List Nat}{n:Nat}(Z:∀m,m≠n->y.getD m 0=ρ.y.getD m 0)(β:List Nat):∀(v:SV),v.rW n=false->v.den (ρ.at y) β=v.den ρ β
 |.int _ e,_=>by simp only[SV.den,IE.cP]
 |.bool e,_=>by simp only[SV.den,BE.cP]
 |.ref e,_=>by simp only[SV.den,RE.den,RE.ju]
 |.loc i _,_=>rfl
 |.el r _ i _,_=>by simp only[SV.den,RE.den,RE.ju,IE.cP]
 |.fo _ _ _ _,_=>rfl
 |.agg l,h=>by simp only[SV.den];rw[SV.FE Z β l h]
 |.bj l,h=>by simp only[SV.den];rw[SV.FE Z β l h]
 |.fn _ l,h=>by simp only[SV.den];rw[SV.FE Z β l h]
 |.dH _ x,h=>by simp only[SV.den];rw[SV.JG Z β x h]
 |.yl m,h=>by
  simp only[SV.rW,beq_eq_false_iff_ne] at h;simp only[SV.den,aa.at];rw[Z m h]
 |.any,_=>rfl
 |.mp _,_=>rfl
 |.dI e ks vs,h=>by simp only[SV.den,IE.cP];rw[SV.FE Z β vs h]
def SV.FE{ρ:aa}{y:List Nat}{n:Nat}(Z:∀m,m≠n->y.getD m 0=ρ.y.getD m 0)(β:List Nat):∀(l:List SV),SV.mO n l=false->SV.ap (ρ.at y) β l=SV.ap ρ β l
 |[],_=>rfl
 |x::xs,h=>by
  simp only[SV.mO,axo] at h;simp only[SV.ap];rw[SV.JG Z β x h.1,SV.FE Z β xs h.2]
end
def SV.an4{ρ:aa}{y:List Nat}{n:Nat}(Z:∀m,m≠n->y.getD m 0=ρ.y.getD m 0)(β:List Nat)(v:SV)(h:v.rW n=false):v.eE (ρ.at y) β=v.eE ρ β:=by
 have X:=SV.JG Z β v h;cases v<;>simp only[SV.eE]<;>try rw[X]
 exact RE.ju ρ y _
def SV.adB{ρ:aa}{y:List Nat}{n:Nat}(Z:∀m,m≠n->y.getD m 0=ρ.y.getD m 0)(β:List Nat):∀(l:List SV),SV.mO n l=false->SV.b9 (ρ.at y) β l=SV.b9 ρ β l
 |[],_=>rfl
 |x::xs,h=>by
  simp only[SV.mO,axo] at h;have:=SV.adB Z β xs h.2;simp only[SV.b9,awT] at this⊢;rw[SV.an4 Z β x h.1,this]
def adC{n:Nat}:∀{l:List SV},SV.mO n l=false->∀v∈l,v.rW n=false
 |[],_,v,h=>by cases h
 |x::xs,h,v,Z=>by
  simp only[SV.mO,axo] at h;rcases awP.1 Z with rfl|Z;exact h.1;exact adC h.2 v Z
def UL{n:Nat}:∀{bx:aX},rX n bx=false->∀(i:Nat)(t:TypeId)(cs:List SV),bA bx i=some (t,cs)->SV.mO n cs=false
 |[],_,i,t,cs,h=>by simp[bP] at h
 |none::xs,Z,0,t,cs,h=>by simp[bP] at h
 |some x::xs,Z,0,t,cs,h=>by
  simp only[rX,axo] at Z;simp[bP] at h;rw[h] at Z;exact Z.1
 |none::xs,Z,i+1,t,cs,h=>UL (bx:=xs) Z i t cs (by simpa[bP] using h)
 |some x::xs,Z,i+1,t,cs,h=>by
  simp only[rX,axo] at Z;exact UL (bx:=xs) Z.2 i t cs (by simpa[bP] using h)
section
variable{S0:List Nat}{w0:World}{D:bw}{ty:Ty}{β:List Nat}{ρ:aa}{s:S}{a:Act}{W:World}
def gP.at{bx:aX}{rs:List RK}(R:gP S0 w0 β ρ bx ty rs W){y:List Nat}{n:Nat}(Z:∀m,m≠n->y.getD m 0=ρ.y.getD m 0)(X:rX n bx=false):gP S0 w0 β (ρ.at y) bx ty rs W:=
 ⟨R.base,R.own,R.inj,λi t cs h=>by rw[SV.adB Z β cs (UL X i t cs h)];exact R.box i t cs h,R.ref⟩
def an5{S:List Nat}{a w:World}(h:bS S a w){b:Nat}(V:a.heap.size<=b)(o:Obj):bS S a (w.putObj b o):=
 ⟨h.os,h.tape,h.output,by have:=h.size;simpa[World.putObj] using this,λk Z X=>(World.putObj_heap_other (by omega)).trans (h.block k Z X)⟩
def aT.cells{k:RK}{rv:RV}{b:Nat}(h:aT W ty k rv)(Z:cn ty k rv b):∃cs t fr,W.heap[b]?=some (.cells cs t fr):=by
 induction h generalizing b with
 |sl e A V cap rows J I U hi H G X=>
  cases Z with
  |here e a V cap rows=>
   have R:rows[0]?=some rows[0]:=awH (by omega);obtain⟨F,b,off,Q,P,-⟩:=U 0 _ R;cases Q;exact P
  |deep e v rows i j row c z k b O N M L=>exact X i j row c z k O N M L
 |str s=>cases Z
 |ar v h=>cases Z
 |own e rv h E X=>
  cases Z with
  |own e rv b Z=>exact X Z
 |dead rv h=>cases Z
 |mr C rows=>cases Z
def gP.obj{bx:aX}{rs:List RK}(R:gP S0 w0 β ρ bx ty rs W){b:Nat}{o:Obj}(X:W.heap[b]?=some o)(V:E7 o=true)(P:w0.heap.size<=b)(U:Obj):gP S0 w0 β ρ bx ty rs (W.putObj b U):=by
 have O:∀Z cs t fr,W.heap[Z]?=some (.cells cs t fr)->Z≠b:=λZ cs t fr h e=>by subst e;rw[X] at h;cases h;exact abJ V _ _ _ rfl
 refine⟨an5 R.base P U,R.own,R.inj,λi t cs h=> ?_,λk e rv N M=> ?_⟩;have:=R.box i t cs h;rw[World.putObj_heap_other (λe=>by subst e;rw[X] at this;cases this;exact abK V _ _ rfl)];exact this;obtain⟨Q,L⟩:=R.ref k e rv N M;refine⟨Q.E8 (λZ J=> ?_) (by simp[World.putObj]),L⟩;obtain⟨cs,t,fr,I⟩:=Q.cells J;exact World.putObj_heap_other (O _ _ _ _ I)
def tW.obj{bx:aX}{rs:List RK}{k:Nat}{e:TypeId}{rv:RV}{Z:Nat}(h:tW S0 w0 β ρ bx ty rs W k e rv Z){b:Nat}{o:Obj}(V:W.heap[b]?=some o)(U:E7 o=true)(R:Obj):tW S0 w0 β ρ bx ty rs (W.putObj b R) k e rv Z:=by
 refine h.world (World.putObj_heap_other ?_);obtain⟨Q,cap,P,-,X,-⟩:=h.mem;intro e;subst e;rw[V] at X;cases X;exact abJ U _ _ _ rfl
def ao.obj(R:ao S0 w0 D ty β ρ s a W){b:Nat}{o:Obj}(X:W.heap[b]?=some o)(V:E7 o=true)(Q:w0.heap.size<=b)(Z:Obj){D':bw}{pd:List kO}{a':Act}(U:a'.tmps=a.tmps)
  (P:cF w0 D' pd ρ.y a'.defers (W.putObj b Z)):ao S0 w0 D' ty β ρ {s with pd:=pd} a' (W.putObj b Z):=
 ⟨R.mem.obj X V Q Z,R.dX,R.ei,R.eb,R.er,P,by rw[U];exact R.size,λt O h=>by rw[U];exact R.tmps t O h,λk e rv N M L J=>(R.cO k e rv N M L J).obj X V Z⟩
def nC:List Nat->World->World
 |[],W=>W
 |d::ms,W=>nC ms (W.putObj d (.deferred none))
def ao.nC:∀{ms:List Nat}{a:Act}{W:World},ao S0 w0 D ty β ρ s a W->a.defers=ms.map iS++D.base->ao S0 w0 D ty β ρ s {a with defers:=D.base} (nC ms W)
 |[],a,W,R,h=>by
  have:({a with defers:=D.base}:Act)=a:=by cases a;simp at h;subst h;rfl
  rw[this];exact R
 |d::ms,a,W,R,h=>by
  obtain⟨O,e1,e0,U,Q⟩:=R.bT.j6;have N:O=d::ms:=by
   rw[h] at e1;have e1:=azI e1;have M:∀(l Z:List Nat),l.map iS=Z.map iS->l=Z:=by
    intro l;induction l with
    |nil=>intro Z h;cases Z<;>simp at h;rfl
    |cons x xs L=>
     intro Z h;cases Z with
     |nil=>simp at h
     |cons z J=>
      simp only[awT,axH,iS,Deferred.mk.injEq,Target.collected.injEq] at h;obtain⟨⟨rfl,-⟩,h⟩:=h;rw[L J h]
   exact(M _ _ e1).symm
  subst N;have X:=Q d (by simp);have I:cF w0 D s.pd ρ.y (ms.map iS++D.base) (W.putObj d (.deferred none)):=by
   refine⟨R.bT.len,R.bT.ov,λn l r H G F=> ?_,R.bT.inj,ms,rfl,λE=>(by have:=e0 E;cases this),(ayr.1 U).2,λC P=> ?_⟩;obtain⟨B,V,A⟩:=R.bT.cC n l r H G F;exact⟨B,(World.putObj_heap_other (λe=>by subst e;rw[X.1] at V;cases V)).trans V,A⟩;have:=Q C (by simp only[awV,awP];exact .inr P);refine⟨(World.putObj_heap_other (λe=>by subst e;exact(ayr.1 U).1 P)).trans this.1,this.2⟩
  have w:=R.obj X.1 rfl X.2 (.deferred none) (D':=D) (pd:=s.pd) (a':={a with defers:=ms.map iS++D.base}) rfl I;exact ao.nC (a:={a with defers:=ms.map iS++D.base}) (W:=W.putObj d (.deferred none)) w rfl
def cF.nC:∀{ms:List Nat}{pd:List kO}{y:List Nat}{W:World},cF w0 D pd y (ms.map iS++D.base) W->cF w0 D pd y D.base (nC ms W)
 |[],pd,y,W,h=>h
 |d::ms,pd,y,W,h=>by
  obtain⟨Q,e1,e0,V,U⟩:=h.j6;have P:Q=d::ms:=by
   have e1:=azI e1;have O:∀(l Z:List Nat),l.map iS=Z.map iS->l=Z:=by
    intro l;induction l with
    |nil=>intro Z h;cases Z<;>simp at h;rfl
    |cons x xs N=>
     intro Z h;cases Z with
     |nil=>simp at h
     |cons z M=>
      simp only[awT,axH,iS,Deferred.mk.injEq,Target.collected.injEq] at h;obtain⟨⟨rfl,-⟩,h⟩:=h;rw[N M h]
   exact(O _ _ e1).symm
  subst P;have L:=U d (by simp);refine cF.nC (ms:=ms) (W:=W.putObj d (.deferred none)) ⟨h.len,h.ov,λn l r J I H=> ?_,h.inj,ms,rfl,λG=>(by have:=e0 G;cases this),(ayr.1 V).2,λF R=> ?_⟩;obtain⟨E,X,C⟩:=h.cC n l r J I H;exact⟨E,(World.putObj_heap_other (λe=>by subst e;rw[L.1] at X;cases X)).trans X,C⟩;have:=U F (by simp only[awV,awP];exact .inr R);exact⟨(World.putObj_heap_other (λe=>by subst e;exact(ayr.1 V).1 R)).trans this.1,this.2⟩
end
def JH{P:World->Prop}{B:Nat}(h:∀W b o,B<=b->P W->P (W.putObj b o)):∀{ms:List Nat}{W:World},(∀d∈ms,B<=d)->P W->P (nC ms W)
 |[],W,_,Z=>Z
 |d::ms,W,X,Z=>JH (W:=W.putObj d (.deferred none)) h (λx V=>X x (by simp[V])) (h W d _ (X d (by simp)) Z)
def po{P:Program}{fn:Func}{tmps:Array Value}{R:Ending->World->Prop}{u:FrameMode}{ds:List Deferred}(Z:u≠ .run):∀{ms:List Nat}{W:World},ms.Nodup->(∀d∈ms,W.heap[d]?=some (.deferred (some [])))->
  LeavesInM Fence.wide 0 P fn tmps R ds u (nC ms W)->LeavesInM Fence.wide 0 P fn tmps R (ms.map iS++ds) u W
 |[],W,_,_,h=>h
 |d::ms,W,U,X,h=>by
  obtain⟨Q,O⟩:=ayr.1 U;refine⟨Z,.inl ⟨d,_,rfl,run_takeDeferred (X d (by simp)),po Z O (λN V=> ?_) h⟩⟩;exact(World.putObj_heap_other (λe=>by subst e;exact Q V)).trans (X N (by simp[V]))
section
variable{S0:List Nat}{w0:World}{D J:bw}{ty:Ty}{β:List Nat}{ρ:aa}{s:S}{a:Act}{W:World}{pd:List kO}{y:List Nat}{H:List Deferred}
def cF.enter{ms:List Nat}(h:cF w0 D pd y H W)(Z:(ms++D.out).Nodup)(X:∀d∈ms++D.out,W.heap[d]?=some (.deferred (some []))/\w0.heap.size<=d)(V:Bool):cF w0 ⟨ms++D.out,D.cC,V,[]⟩ pd y [] W:=
 ⟨h.len,h.ov,h.cC,h.inj,[],rfl,λ_=>rfl,Z,X⟩
def cF.FD{ms:List Nat}{X:Bool}(h:cF w0 ⟨ms++D.out,D.cC,X,[]⟩ pd y [] W)(V:D.rd=true->ms=[]):cF w0 D pd y (ms.map iS++D.base) W:=by
 obtain⟨Z,e1,e0,U,R⟩:=h.j6;have:Z=[]:=by cases Z<;>simp at e1;rfl
 subst this;exact⟨h.len,h.ov,h.cC,h.inj,ms,rfl,V,U,R⟩
def cF.push{ms:List Nat}{d l:Nat}{r:Loop}(h:cF w0 D pd y H W)(J:(ms++D.out).Nodup)(I:∀d∈ms++D.out,W.heap[d]?=some (.deferred (some []))/\w0.heap.size<=d)
  (G:W.heap[d]?=some (.deferred (some [])))(F:d∉ms++D.out)(E:w0.heap.size<=d)(C:W.heap[l]?=some (.loop (nu r .ready)))(N:∀(n:Nat)(V:Nat)(Q:Loop),D.cC[n]?=some (V,Q)->V≠l)(B:w0.heap.size<=l):
  cF w0 ⟨d::(ms++D.out),D.cC++[(l,r)],false,[]⟩ (pd++[.ready]) (y++[l]) [] W:=by
 refine⟨by simp[h.len],by simp[h.ov],λn V Q A X Z=> ?_,λn n' V M L X Z=> ?_,[],rfl,λ_=>rfl,by simpa using⟨by simpa using F,J⟩,λz R=> ?_⟩;by_cases U:n<D.cC.length;rw[awI U] at X;rw[awI (by rw[<-h.len];exact U)] at Z;obtain⟨x,w,v⟩:=h.cC n V Q A X Z;exact⟨by rw[awI (by rw[h.ov,<-h.len];exact U)];exact x,w,v⟩;have P:n=D.cC.length:=by
  have:=(awG.1 X).1;simp at this;omega
 subst P;simp at X;obtain⟨rfl,rfl⟩:=X;rw[h.len] at Z;simp at Z;subst Z;refine⟨?_,C,B⟩;rw[h.len,<-h.ov];simp;by_cases U:n<D.cC.length;rw[awI U] at X;by_cases O:n'<D.cC.length;rw[awI O] at Z;exact h.inj n n' V M L X Z;have P:n'=D.cC.length:=by
  have:=(awG.1 Z).1;simp at this;omega
 subst P;simp at Z;obtain⟨rfl,rfl⟩:=Z;exact absurd rfl (N n _ M X);have u:n=D.cC.length:=by
  have:=(awG.1 X).1;simp at this;omega
 subst u;simp at X;obtain⟨rfl,rfl⟩:=X;by_cases O:n'<D.cC.length;rw[awI O] at Z;exact absurd rfl (N n' _ L Z);have:=(awG.1 Z).1;simp at this;omega;simp only[awX,awP] at R;rcases R with rfl|R;exact⟨G,E⟩;exact I z R
def cF.pop{ms:List Nat}{d l:Nat}{r:Loop}(h:cF w0 ⟨d::(ms++D.out),D.cC++[(l,r)],false,[]⟩ pd y [] W)(P:D.rd=false):cF w0 D (pd.take D.cC.length) (y.take D.cC.length) ((d::ms).map iS++D.base) W:=by
 obtain⟨R,e1,e0,O,N⟩:=h.j6;have:R=[]:=by cases R<;>simp at e1;rfl
 subst this;have M:=h.len;have F:=h.ov;simp at M;refine⟨by simp;omega,by simp;omega,λn U L J Z X=> ?_,λn n' U I H Z X=> ?_,d::ms,rfl,λQ=>(by rw[P] at Q;cases Q),O,N⟩;have V:=(awG.1 Z).1;rw[axc,if_pos V] at X⊢;exact h.cC n U L J (by rw[awI V];exact Z) X;have V:=(awG.1 Z).1;have G:=(awG.1 X).1;exact h.inj n n' U I H (by rw[awI V];exact Z) (by rw[awI G];exact X)
def cF.put{l:Nat}{r:Loop}(h:cF w0 D pd y H W)(Q:W.heap[l]?=some (.loop r))(P:∀(n Z:Nat)(X:Loop),D.cC[n]?=some (Z,X)->Z≠l)(o:Obj):cF w0 D pd y H (W.putObj l o):=by
 obtain⟨ms,e1,e0,O,V⟩:=h.j6;refine⟨h.len,h.ov,λn Z X N R M=> ?_,h.inj,ms,e1,e0,O,λd U=>⟨?_,(V d U).2⟩⟩;obtain⟨L,J,I⟩:=h.cC n Z X N R M;exact⟨L,(World.putObj_heap_other (P n Z X R)).trans J,I⟩;exact(World.putObj_heap_other (λe=>by subst e;have:=(V d U).1;rw[Q] at this;cases this)).trans (V d U).1
def cF.UM{n l:Nat}{r:Loop}(h:cF w0 D pd y H W)(Z:D.cC[n]?=some (l,r))(L:kO):cF w0 D (pd.set n L) y H (W.putObj l (.loop (nu r L))):=by
 obtain⟨ms,e1,e0,I,R⟩:=h.j6;have Q:n<pd.length:=by rw[<-h.len];exact(awG.1 Z).1
 have V:∃P,W.heap[l]?=some (.loop P):=⟨_,(h.cC n l r pd[n] Z (awH Q)).2.1⟩;obtain⟨C,V⟩:=V;refine⟨by simp[h.len],by simp[h.ov],λn' G P F U X=> ?_,h.inj,ms,e1,e0,I,λd O=>⟨?_,(R d O).2⟩⟩;rw[axC] at X;split at X;rename_i e;subst e;rw[Z] at U;cases U;simp only[if_true,Q,awJ] at X;subst X;obtain⟨N,J,M⟩:=h.cC n l r pd[n] Z (awH Q);exact⟨N,World.putObj_heap_same (vS V),M⟩;rename_i e;obtain⟨N,J,M⟩:=h.cC n' G P F U X;exact⟨N,(World.putObj_heap_other (λE=>by subst E;exact e (h.inj n n' _ _ _ Z U))).trans J,M⟩;exact(World.putObj_heap_other (λe=>by subst e;have:=(R d O).1;rw[V] at this;cases this)).trans (R d O).1
def adD{ρ:aa}{β:List Nat}:∀(ps:List Nat)(args l:List SV)(A:Array Value),A.size=l.length->(∀(t:Nat)(Z:SV),l[t]?=some Z->Z=.any\/A[t]?=some (Z.den ρ β))->
  ((ps.zip (SV.ap ρ β args)).foldl (λ(tmps:Array Value)(x:Nat×Value)=>tmps.setIfInBounds x.1 x.2) A).size=(Cn ps args l).length/\
  ∀(t:Nat)(Z:SV),(Cn ps args l)[t]?=some Z->Z=.any\/((ps.zip (SV.ap ρ β args)).foldl (λ(tmps:Array Value)(x:Nat×Value)=>tmps.setIfInBounds x.1 x.2) A)[t]?=some (Z.den ρ β)
 |[],args,l,A,X,h=>by simp only[List.zip_nil_left,List.foldl_nil,Cn];exact⟨X,h⟩
 |p::ps,[],l,A,X,h=>by simp only[SV.ap,List.zip_nil_right,List.foldl_nil,Cn];exact⟨X,h⟩
 |p::ps,v::vs,l,A,X,h=>by
  simp only[SV.ap,ayH,ax4,Cn];refine adD ps vs (l.set p v) (A.setIfInBounds p (v.den ρ β)) (by simp[X]) (λt Z V=> ?_);rw[axC] at V;split at V;rename_i e;subst e;split at V;rename_i U;cases V;right;rw[Array.getElem?_setIfInBounds_self_of_lt (by rw[X];exact U)];cases V;rename_i e;rw[ayD e];exact h t Z V
end
end
section
section
variable{p:Sp}{cf:bc}
def JI(aY:Nat->Bool)(so Z:Bool):∀(l:List Oper)(j n i:Nat)(m:OM),(ek aY so Z j n l)[i]?=some m->l[i]?=some m.o
 |[],j,n,i,m,h=>by simp[ek] at h
 |o::r,j,n,0,m,h=>by simp[ek] at h;simp[<-h]
 |o::r,j,n,i+1,m,h=>by simp[ek] at h;simpa using JI aY so Z r _ _ i m h
def UN(aY:Nat->Bool)(so Z:Bool):∀(l:List Oper)(j n:Nat),(ek aY so Z j n l).length=l.length
 |[],j,n=>rfl
 |o::r,j,n=>by simp[ek,UN aY so Z r]
def UO(aY:Nat->Bool)(so Z:Bool):∀(l:List Oper)(j n i:Nat)(m:OM),(ek aY so Z j n l)[i]?=some m->m.j=j+i
 |[],j,n,i,m,h=>by simp[ek] at h
 |o::r,j,n,0,m,h=>by simp[ek] at h;simp[<-h]
 |o::r,j,n,i+1,m,h=>by simp[ek] at h;have:=UO aY so Z r _ _ i m h;omega
def UP(aY:Nat->Bool)(so Z:Bool):∀(l:List Oper)(j n i:Nat)(m:OM),(ek aY so Z j n l)[i]?=some m->m.dr=Z
 |[],j,n,i,m,h=>by simp[ek] at h
 |o::r,j,n,0,m,h=>by simp[ek] at h;simp[<-h]
 |o::r,j,n,i+1,m,h=>by simp[ek] at h;exact UP aY so Z r _ _ i m h
structure adE(m m':OM):Prop where
 o:m.o=m'.o
 ix:m.ix=m'.ix
 j:m.j=m'.j
 dr:m.dr=m'.dr
def UQ{W:List Nat}:∀{l Z:List OM}{m:OM},m∈pg W Z l->∃X∈l,adE m X
 |[],Z,m,h=>by simp[pg] at h
 |x::l,Z,m,h=>by
  simp only[pg,awP] at h;rcases h with rfl|h;exact⟨x,by simp,rfl,rfl,rfl,rfl⟩;obtain⟨X,V,U⟩:=UQ h;exact⟨X,by simp[V],U⟩
def adF{Z:List Nat}:∀{l:List OM},vN Z l=true->l.Pairwise λx y=>(Z.getD y.j 0).testBit x.j=true
 |[],_=>axt
 |x::r,h=>by
  simp only[vN,awF] at h;exact aw2.2 ⟨λy X=>awU.1 h.1 y X,adF h.2⟩
def adG{Z:List Nat}:∀{l X:List OM},(l.Pairwise λx y=>(Z.getD y.j 0).testBit x.j=true)->(pg Z X l).Pairwise λx y=>(Z.getD y.j 0).testBit x.j=true
 |[],X,_=>axt
 |x::r,X,h=>by
  obtain⟨W,V⟩:=aw2.1 h;refine aw2.2 ⟨λy U=> ?_,adG V⟩;obtain⟨R,Q,P⟩:=UQ U;rw[P.j];exact W R Q
def adH{W:List Nat}:∀{l Z:List OM}(xs:List OM)(m:OM)(ys:List OM),pg W Z l=xs++m::ys->m.so=true->ys.Pairwise λx y=>(W.getD y.j 0).testBit x.j=true
 |[],Z,xs,m,ys,h,_=>by cases xs<;>simp[pg] at h
 |x::r,Z,[],m,ys,h,X=>by
  simp only[pg,awX,axH] at h;obtain⟨V,rfl⟩:=h;subst V;simp only[awF] at X;exact adG (aw2.1 (adF X.1.2)).2
 |x::r,Z,z::U,m,ys,h,X=>by
  simp only[pg,awV,axH] at h;exact adH U m ys h.2 X
def UR:∀{l:List Nat},jJ l=true->l.Pairwise (·≠·)
 |[],_=>axt
 |x::xs,h=>by
  simp only[jJ,awF,awY] at h;refine aw2.2 ⟨λy Z e=> ?_,UR h.2⟩;subst e;rw[axg.2 Z] at h;cases h.1
def NF:∀{l:List OM},jJ (l.filterMap (·.o.dst))=true->l.Pairwise λa b=>∀d,a.o.dst=some d->b.o.dst≠some d
 |[],_=>axt
 |x::xs,h=>by
  cases X:x.o.dst with
  |none=>
   simp only[ayC,X] at h;exact aw2.2 ⟨λy _ d Z=>(by rw[X] at Z;cases Z),NF h⟩
  |some d=>
   simp only[ayC,X,jJ,awF,awY] at h;refine aw2.2 ⟨λy W e Z V=> ?_,NF h.2⟩;rw[X] at Z;cases Z;have:d∈xs.filterMap (·.o.dst):=axV.2 ⟨y,W,V⟩;rw[axg.2 this] at h;cases h.1
def adI{ops:Array Oper}{Z:List Nat}:∀{l:List OM},zN ops Z l=true->l.Pairwise λx y=>(Z.getD y.j 0).testBit x.j=true\/pf ops x y=true
 |[],_=>axt
 |x::xs,h=>by
  simp only[zN,awF] at h;refine aw2.2 ⟨λy X=> ?_,adI h.2⟩;have:=awU.1 h.1 y X;simpa using this
def adJ{ops:Array Oper}:∀{l:List OM}{done:List Nat},zO ops done l=true->(∀m∈l,ops[m.j]?=some m.o)->∀xs m ys,l=xs++m::ys->∀e∈iB m.o,e∈done\/∃x∈xs,x.j=e
 |[],done,_,_,xs,m,ys,h=>by cases xs<;>simp at h
 |x::l,done,X,W,xs,m,ys,h=>by
  simp only[zO,awF] at X;intro e V;cases xs with
  |nil=>
   simp only[awX,axH] at h;obtain⟨rfl,-⟩:=h;rw[W x (by simp)] at X;exact .inl (axg.1 (awU.1 X.1 e V))
  |cons z U=>
   simp only[awV,axH] at h;obtain⟨rfl,h⟩:=h;rcases adJ X.2 (λm R=>W m (by simp[R])) U m ys h e V with Z|⟨y,Q,Z⟩;rcases awP.1 Z with rfl|Z;exact .inr ⟨x,by simp,rfl⟩;exact .inl Z;exact .inr ⟨y,by simp[Q],Z⟩
def adK{ops:Array Oper}{W:List Nat}(h:My ops.toList W=true):FC ops W:=by
 have key:∀(j:Nat)(o:Oper),ops[j]?=some o->(∀e∈iB o,e<j)/\∀i,i<ops.size->(W.getD j 0).testBit i=true->i∈iB o\/∃e∈iB o,(W.getD e 0).testBit i=true:=by
  intro j o Z;have R:j<ops.size:=(aw6.1 Z).1;have V:=awU.1 h j (by simpa using R);have Q:ops.toList[j]?=some o:=by simpa using Z
  rw[Q] at V;simp only[awF] at V;refine⟨λe U=>by simpa using awU.1 V.1 e U,λi hi P=> ?_⟩;have X:=awU.1 V.2 i (by simpa using hi);simp only[P,azy,az6,aw9] at X;rcases X with X|X;exact .inl (axg.1 X);obtain⟨e,U,O⟩:=axe.1 X;exact .inr ⟨e,U,O⟩
 exact⟨λj o Z=>(key j o Z).1,λj o Z=>(key j o Z).2⟩
def qy(ds:List Nat):∀(l:List SV)(n i:Nat),(oq ds n l)[i]?=(l[i]?).map λx=>if ds.contains (n+i) then .any else x
 |[],n,i=>by simp[oq]
 |x::xs,n,0=>by simp[oq]
 |x::xs,n,i+1=>by
  simp only[oq,axh];rw[qy ds xs (n+1) i,show n+1+i=n+(i+1) by omega]
def FF(ds:List Nat):∀(l:List SV)(n:Nat),(oq ds n l).length=l.length
 |[],n=>rfl
 |x::xs,n=>by simp[oq,FF ds xs]
def adL:∀{l:List Oper}{o:Oper}{t:TypeId},EH cf l=true->o∈l->o.op=.alloc t->Cl cf t=true
 |[],o,t,_,h,_=>by simp at h
 |x::xs,o,t,h,Z,X=>by
  simp only[EH,awF] at h;rcases awP.1 Z with rfl|Z;have:=h.1;rw[X] at this;exact this;exact adL h.2 Z X
def US:∀{l:List OM},jJ ((l.filter λm=>dW m.o.op).map (·.ix))=true->l.Pairwise λa b=>dW a.o.op=true->dW b.o.op=true->a.ix≠b.ix
 |[],_=>axt
 |x::xs,h=>by
  by_cases Z:dW x.o.op=true;rw[List.filter_cons_of_pos (by simpa using Z),awT,jJ,awF] at h;refine aw2.2 ⟨λy X _ V e=> ?_,US h.2⟩;have:x.ix∈(xs.filter λm=>dW m.o.op).map (·.ix):=aw7.2 ⟨y,axr.2 ⟨X,by simpa using V⟩,e.symm⟩;have W:=h.1;rw[axg.2 this] at W;cases W;rw[List.filter_cons_of_neg (by simpa using Z)] at h;exact aw2.2 ⟨λy X U=>absurd U Z,US h⟩
def an6(aY:Nat->Bool)(so X:Bool)(bx:aX):∀(l:List Oper){i:Nat}{m:OM},dW m.o.op=true->(ek aY so X 0 bx.length l)[i]?=some m->dL (bx++awS (jI l) none) m.ix=true:=by
 have key:∀(l:List Oper)(j n i:Nat)(m:OM),dW m.o.op=true->(ek aY so X j n l)[i]?=some m->n<=m.ix/\m.ix<n+jI l:=by
  intro l;induction l with
  |nil=>intro j n i m _ h;simp[ek] at h
  |cons o r V=>
   intro j n i m Z h;have W:jI (o::r)=(if dW o.op then 1 else 0)+jI r:=by
    unfold jI;rw[List.filter_cons];split<;>simp<;>omega
   cases i with
   |zero=>
    simp only[ek,axz,awJ] at h;subst h;simp only at Z⊢;rw[W,if_pos Z];omega
   |succ i=>
    simp only[ek,axh] at h;have:=V _ _ i m Z h;rw[W];split at this<;>simp_all<;>omega
 intro l i m Z h;obtain⟨U,R⟩:=key l 0 _ i m Z h;unfold dL;rw[awM U,axK,if_pos (by omega)]
def Ag(p:Sp)(cf:bc)(Q:List (Nat×Loop))(B:jq)(yh:YH):Prop:=
 ∀(D:bw)(_:D.cC=Q)(L:List LC)(n:Nat)(args:List SV)(s:S)(k kp:SV->S->T)(ρ:aa)(β:List Nat)(a:Act)(W:World)(V:Ending->World->Prop),B.nA s ρ β L->
  (yh n args s k kp).aD p ρ L->ao p.S0 p.w0 D cf.ty β ρ s a W->dA cf.gl ρ->
  (∀v s' ρ' Z W' X,bi s ρ β s' ρ' Z->bU s.al L X->ao p.S0 p.w0 D cf.ty Z ρ' s' a W'->(k v s').aD p ρ' X->V (.returned (v.den ρ' Z)) W')->
  (∀v s' ρ' Z W' X,bi s ρ β s' ρ' Z->bU s.al L X->ao p.S0 p.w0 D cf.ty Z ρ' s' a W'->(kp v s').aD p ρ' X->V (.panicked [{v:=v.den ρ' Z,recovered:=false}]) W')->
  (∀U W' pd y,cF p.w0 D pd y a.defers W'->p.R (.panicked U) W'->V (.panicked U) W')->
  ∀(F:Fence)(_:mS F)(m:Nat),YieldAt F m p.P (ρ.y.getD n 0) (SV.ap ρ β args).toArray W V
def CJ(Z:List (Nat×Loop))(B:jq):Ag p cf Z B fK:=λ_ _ _ _ _ _ _ _ _ _ _ _ _ _ h=>h.elim
def an7{F:Fence}(hF:mS F)(l:jr p cf){n:Nat}{g:rU}(a0:NB p cf g){D:bw}{B:jq}{yh:YH}(hY:Ag p cf D.cC B yh){Q:Exit->Act->World->Prop}(HP:∀ch a' W' pd y,cF p.w0 D pd y a'.defers W'->p.R (.panicked ch) W'->Q (.panic ch) a' W'){ops:Array Oper}{id:Nat}{V:List OM}{s:S}{ρ:aa}{β:List Nat}{a:Act}{W:World}{L:List LC}{k:XE->S->T}(hB:B.nA s ρ β L)
  (I:EG ops s.boxes.length=some V)(a1:EH cf ops.toList=true)(a3:Ac ops g)(h:(kw cf (tU cf g yh) ops (k .normal) (λv=>k (.aS v)) V (s.vO ops V) []).aD p ρ L)(R:ao p.S0 p.w0 D cf.ty β ρ s a W)(hg:dA cf.gl ρ)
  (hk:∀s' ρ' U a' W' O,bi s ρ β s' ρ' U->bU s.al L O->ao p.S0 p.w0 D cf.ty U ρ' s' a' W'->(k .normal s').aD p ρ' O->Q .normal a' W')
  (a4:∀v s' ρ' U a' W' O,bi s ρ β s' ρ' U->bU s.al L O->ao p.S0 p.w0 D cf.ty U ρ' s' a' W'->(k (.aS v) s').aD p ρ' O->Q (.panic [{v:=v.den ρ' U,recovered:=false}]) a' W'):
  (Code.region id ops true).wpIn F n p.P Q a W:=by
 unfold EG at I;simp only at I;split at I;rename_i hc;simp only[awF,beq_iff_eq] at hc;obtain⟨⟨⟨⟨⟨⟨⟨c1,c2⟩,c3⟩,c4⟩,c5⟩,c8⟩,c6⟩,c7⟩:=hc;simp only[awJ] at I;rw[I] at c2 c3 c4 c5 c6 c7 c8;have f:∀m∈V,∃(i:Nat)(H:OM),(ek (IQ ops.toList (lC ops.toList)) false true 0 s.boxes.length ops.toList)[i]?=some H/\adE m H:=by
  intro m Z;rw[<-I] at Z;obtain⟨H,M,h2⟩:=UQ Z;rw[EF] at M;obtain⟨i,-,hi⟩:=axV.1 M;exact⟨i,H,hi,h2⟩
 have af:∀m∈V,ops[m.j]?=some m.o:=by
  intro m Z;obtain⟨i,H,hi,X⟩:=f m Z;have M:=JI _ _ _ _ _ _ _ _ hi;have h2:=UO _ _ _ _ _ _ _ _ hi;rw[X.j,X.o,h2,axf];simpa using M
 have hW:JC ops (lC ops.toList) (ayM ops.size false) V:=by
  refine⟨af,λi hi=> ?_,by simp,λj o ho hj=> ?_,adI c3,λxs m ys he e z=> ?_, ?_,NF c4,λxs m ys he a5=>adH xs m ys (I.trans he) a5⟩;constructor;intro _;have:=awU.1 c7 i (by simpa using hi);obtain⟨m,Z,hj⟩:=axe.1 this;exact⟨m,Z,by simpa using hj⟩;intro _;simp[hi];exfalso;have a6:j<ops.size:=(aw6.1 ho).1;simp[a6] at hj;rcases adJ c2 af xs m ys he e z with M|M;cases M;exact .inr M;have:=UR c5;rw[ayQ] at this;exact this
 obtain⟨Rr,w⟩:=R.room (jI ops.toList);have c:ao p.S0 p.w0 D cf.ty (β++awS (jI ops.toList) 0) ρ (s.vO ops V) a {W with drawn:=W.drawn+1}:=by
  have G:=Rr.drew;refine⟨G.mem,G.dX,G.ei,G.eb,G.er,G.bT,by simp only[S.vO,FF];exact Rr.size,λt sv N=> ?_,G.cO⟩;simp only[S.vO] at N;rw[qy,axf] at N;cases J:s.tmps[t]? with
  |none=>rw[J] at N;cases N
  |some x=>
   rw[J] at N;simp only[awO,awJ] at N;split at N;exact .inl N.symm;subst N;exact G.tmps t x J
 have ag:bi s ρ β (s.vO ops V) ρ (β++awS (jI ops.toList) 0):=⟨w.ext,w.mono,w.len,w.al⟩;refine wpIn_region_any l.Ul ?_;refine anS a3 a0 hF l HP (adK c1) (Kn:=Ad p (k .normal)) (Kp:=yc p (λv=>k (.aS v))) (Yp:=ye p cf ops g yh (k .normal) (λv=>k (.aS v))) (s0:=s.vO ops V) (ρ0:=ρ) (β0:=β++awS (jI ops.toList) 0) (L0:=L)
  (λs' ρ' U a' W' O u r q X=>hk s' ρ' U a' W' O (ag.trans u) r q X) (λv s' ρ' U a' W' O u r q X=>a4 v s' ρ' U a' W' O (ag.trans u) r q X)
  ?_
  ops.size _ V (s.vO ops V) ρ _ a _ L c6 hW (λm Z=>by
   obtain⟨i,H,hi,X⟩:=f m Z;rw[X.dr];exact UP _ _ _ _ _ _ _ _ hi) (λm Z t N=> ?_) (US c8) (.inl ⟨λm Z a7=> ?_, ?_⟩) (bi.refl _ _ _) (bU.refl _ _) c hg ?_
 intro L2 m rest s2 a8 a9 a2 W2 yn args q u r E bb bf bk br bs mm;obtain⟨bt,fx,bx,b0⟩:=bf;refine hY D rfl L2 yn args s2 _ _ a8 a9 a2 W2 q (hB.go (ag.trans u) r) b0 E bb (λv s' ρ' U W' O an b1 C X=> ?_) br bs F hF mm;refine bk v s' ρ' U W' O an b1 C ?_;have A:=dC s' m.o.dst v;refine CF l.pt rest _ _ ρ' (by rw[A.1];exact C.ei) (by rw[A.2.1];exact C.eb) (by rw[A.2.2];exact C.er) X ?_ bt;intro x J;obtain⟨b2,b4⟩:=axr.1 J;obtain⟨z,aO⟩:=bx x b2;have b:=an.ext;refine⟨by rw[BE.cu b.agree _ (by rw[E.ei,E.eb,E.er];exact aO)];exact z, ?_⟩;rw[A.1,A.2.1,A.2.2,<-C.ei,<-C.eb,<-C.er];exact BE.cA (by rw[<-E.ei];exact b.li) (by rw[<-E.eb];exact b.lb) (by rw[<-E.er];exact b.lr) _ aO;have M:=af m Z;exact adL a1 (aw1 (show ops.toList[m.j]?=some m.o by simpa using M)) N;obtain⟨i,H,hi,X⟩:=f m Z;rw[X.ix];exact an6 _ _ _ s.boxes _ (by rw[<-X.o];exact a7) hi;intro m Z d z;have b3:d∈zP (V.dropLast.map (·.o)):=axV.2 ⟨m.o,aw7.2 ⟨m,Z,rfl⟩,z⟩;unfold sd;simp only[S.vO];rw[qy,axf];cases J:s.tmps[d]? with
 |none=>exact .inl rfl
 |some x=>
  right;by_cases hb:(aa8 s (zP (V.dropLast.map (·.o)))).contains d=true;exact⟨.any,by simp only[awO,hb,if_true],by simp[SV.aG]⟩;refine⟨x,by simp only[awO,hb];rfl, ?_⟩;have aO:x.bd s.ni s.nb s.rs.length (aA s.boxes)=true:=by
   cases hh:x.bd s.ni s.nb s.rs.length (aA s.boxes);exfalso;apply hb;exact axg.2 (axr.2 ⟨b3,by simp[J,hh]⟩);rfl
  exact SV.cA (awN _) (awN _) (awN _) w.mono _ aO
 refine CF l.pt V _ [] ρ c.ei c.eb c.er h (λx J=>by cases J) (λm Z=> ?_);obtain⟨i,H,hi,X⟩:=f m Z;rw[X.dr];exact UP _ _ _ _ _ _ _ _ hi;cases I
def uh(p:Sp)(cf:bc)(n:Nat):Prop:=
 ∀(D:bw)(B:jq)(yh:YH)(ro:Option Nat)(Z:FuncId)(c:Code)(s:S)(k:XE->S->T)(L:List LC)(ρ:aa)(β:List Nat)(a:Act)(W:World)(Q:Exit->Act->World->Prop),
  Ag p cf D.cC B yh->B.nA s ρ β L->D.rd=ro.isSome->(ro.isSome=true->gv c=false)->(∃fn,p.P.funcs[Z]?=some fn)->
  (dJ cf n Z c s yh k).aD p ρ L->ao p.S0 p.w0 D cf.ty β ρ s a W->dA cf.gl ρ->
  (∀V a' W' pd y,cF p.w0 D pd y a'.defers W'->p.R (.panicked V) W'->Q (.panic V) a' W')->
  (∀e s' ρ' X a' W' U,bi s ρ β s' ρ' X->bU s.al L U->ao p.S0 p.w0 D cf.ty X ρ' s' a' W'->(k e s').aD p ρ' U->Q (e.to ρ' X) a' W')->
  gQ ro Z p.P c Q a W
def NG(p:Sp)(cf:bc)(n:Nat):Prop:=
 ∀(D:bw)(B:jq)(yh:YH)(ro:Option Nat)(Z:FuncId)(x:Code)(s:S)(k:XE->S->T)(L:List LC)(ρ:aa)(β:List Nat)(a:Act)(W:World)(Q:Exit->Act->World->Prop),
  Ag p cf D.cC B yh->B.nA s ρ β L->D.rd=ro.isSome->(ro.isSome=true->gv x=false)->(∃fn,p.P.funcs[Z]?=some fn)->
  (∀O,(Code.first x).map (cf.loop Z)≠some (.inv O))->
  (dJ cf n Z (.loop x) s yh k).aD p ρ L->ao p.S0 p.w0 D cf.ty β ρ s a W->dA cf.gl ρ->
  (∀V a' W' pd y,cF p.w0 D pd y a'.defers W'->p.R (.panicked V) W'->Q (.panic V) a' W')->
  (∀e s' ρ' X a' W' U,bi s ρ β s' ρ' X->bU s.al L U->ao p.S0 p.w0 D cf.ty X ρ' s' a' W'->(k e s').aD p ρ' U->Q (e.to ρ' X) a' W')->
  JD ro Z p.P x Q n a W
def an8{n:Nat}(A:uh p cf n)(z:NG p cf n):NG p cf (n+1):=by
 intro D B yh ro J x s k L ρ β a W Q I H G F E w h R C HP V;unfold dJ at h;simp only at h;show gQ ro J p.P x _ a W;refine A D B yh ro J x s _ L ρ β a W _ I H G F E h R C (λu a' W' pd y t r=>HP u a' W' pd y t r) ?_;intro e s' ρ' U a' W' O Z X N M;cases e with
 |normal=>exact z D B yh ro J x s' k O ρ' U a' W' Q I (H.go Z X) G F E w M N (C.ext Z.ext) HP (λq o m l a2 j i g f d c=>V q o m l a2 j i (Z.trans g) (X.trans f Z.al) d c)
 |ret=>exact V .ret s' ρ' U a' W' O Z X N M
 |exit id=>exact V (.exit id) s' ρ' U a' W' O Z X N M
 |aS v=>exact V (.aS v) s' ρ' U a' W' O Z X N M
def ao.back{S0:List Nat}{w0:World}{D D':bw}{β X:List Nat}{ρ ρ':aa}{s s0 s':S}{a a':Act}{W W':World}(R:ao S0 w0 D cf.ty β ρ s a W)(P:s.bd=true)
  (O:bi s0 ρ β s' ρ' X)(N:s0.boxes=s.boxes)(Z:ao S0 w0 D' cf.ty X ρ' s' a' W'){D2:bw}{a2:Act}{pd:List kO}(U:a2.tmps=a.tmps)(M:cF w0 D2 pd ρ'.y a2.defers W'):ao S0 w0 D2 cf.ty X ρ' {s' with tmps:=s.tmps,pd:=pd} a2 W':=by
 obtain⟨L,-⟩:=R.tY P;refine⟨Z.mem,Z.dX,Z.ei,Z.eb,Z.er,M,by rw[U];exact R.size,λt J h=> ?_,Z.cO⟩;rw[U];rcases R.tmps t J h with V|V;exact .inl V;right;have Q:=O.ext;rw[N] at Q;rw[Q.den (qn L h)];exact V
def ao.enter{S0:List Nat}{w0:World}{D D':bw}{β:List Nat}{ρ:aa}{s:S}{a:Act}{W:World}(R:ao S0 w0 D cf.ty β ρ s a W)(args:List SV)(n:Nat)(X:cF w0 D' s.pd ρ.y [] W):
  ao S0 w0 D' cf.ty β ρ {s with tmps:=args++awS (n-args.length) (.bj [])} {tmps:=(SV.ap ρ β args).toArray++ayM (n-(SV.ap ρ β args).toArray.size) undef,defers:=[]} W:=by
 refine⟨R.mem,R.dX,R.ei,R.eb,R.er,X,by simp,λt U h=> ?_,R.cO⟩;right;simp only[axQ,Cs];by_cases Z:t<args.length;rw[awI Z] at h;rw[azz (by simpa using Z)];simp[ou,h];rw[awM (by omega),axK] at h;split at h;rename_i V;cases h;rw[Array.getElem?_append_right (by simp;omega)];simp only[axQ,Cs,Array.getElem?_replicate];rw[if_pos V];rfl;cases h
def NH(V:jr p cf){n:Nat}(hC:uh p cf n){D:bw}{B:jq}{yh:YH}(r:Ag p cf D.cC B yh):acA p cf D B (gN cf (λf c s k=>dJ cf n f c s yh k) yh):=by
 intro L g0 args s k kp ρ β a W O U h R H E q C;cases g0 with
 |yl yn=>exact λF hF m=>r D rfl L yn args s k kp ρ β a W O U h R H E q C F hF m
 |fn g=>
 unfold gN at h;simp only at h;split at h;rename_i c o rs A;refine⟨V.Ab g (.inr (by rw[A];rfl)), ?_⟩;split at h;rename_i j;simp only[S.cU,awF] at j;obtain⟨fn,i,an,a0,aM⟩:=V.inl g c o rs A;refine JE i an ?_;obtain⟨ms,b,m0,m2,m3⟩:=R.bT.j6;have RE:=R.enter args o (R.bT.enter m2 m3 false);rw[<-a0] at RE h;have a1:B.nA {s with tmps:=args++awS (fn.ntmps-args.length) (.bj [])} ρ β L:=⟨⟨U.later.ext,U.later.mono,U.later.len,U.later.al⟩,U.Ni⟩;refine hC ⟨ms++D.out,D.cC,false,[]⟩ B yh none g c _ _ L ρ β _ W _ r a1 rfl (λhh=>by cases hh) ⟨fn,i⟩ h RE H ?_ ?_;intro z a' W' pd y x hR;obtain⟨a3,Q,q0,G,N⟩:=x.j6;rw[Q] at x;have M:=(x.nC).FD m0;rw[<-b] at M;show LeavesInM Fence.wide 0 p.P fn a'.tmps O a'.defers (.panicking z) W';rw[Q];exact po (by simp) (axF.1 G).1 (λd X=>(N d (by simp[X])).1) (C z _ pd y M (JH (V.Nu z) (λd X=>(N d (by simp[X])).2) hR));intro e s' ρ' w a' W' u J hL RR Z;have af:bi s ρ β {s' with tmps:=s.tmps} ρ' w:=⟨J.ext,J.mono,J.len,J.al⟩;obtain⟨a3,Q,q0,G,N⟩:=RR.bT.j6;have t:=RR.nC Q;have M:=t.bT.FD m0;rw[<-b] at M;have RB:=R.back j.1 J rfl t (D2:=D) (a2:=a) rfl M;have ag:∀l,o7 cf s' rs=some l->(k (one l) {s' with tmps:=s.tmps}).aD p ρ' u->LeavesInM Fence.wide 0 p.P fn a'.tmps O a'.defers .returning W':=by
  intro l I Z;rw[Q];refine po (by simp) (axF.1 G).1 (λd X=>(N d (by simp[X])).1) ⟨_,Js t V.jt (by rw[aM];exact I), ?_⟩;exact E _ _ ρ' w _ u af hL RB Z
 cases e with
 |normal=>
  simp only[EI] at Z;split at Z;rename_i l I;exact ag l I Z;exact Z.elim
 |ret=>
  simp only[EI] at Z;split at Z;rename_i l I;exact ag l I Z;exact Z.elim
 |aS v=>
  show LeavesInM Fence.wide 0 p.P fn a'.tmps O a'.defers (.panicking _) W';rw[Q];exact po (by simp) (axF.1 G).1 (λd X=>(N d (by simp[X])).1) (q v _ ρ' w _ u af hL RB Z)
 |exit id=>exact Z.elim
 exact h.elim;rename_i A;exact anb V.pt (λg H=>V.Ab g (.inl H)) D L g args s k ρ β a W O h R E C
end
end
section
mutual
def SV.NI(ρ:aa)(y:List Nat)(β:List Nat):∀(v:SV),v.vP=true->v.den (ρ.at y) β=v.den ρ β
 |.int k e,_=>by simp only[SV.den,IE.cP]
 |.bool b,_=>by simp only[SV.den,BE.cP]
 |.ref r,_=>by simp only[SV.den,RE.den,RE.ju]
 |.loc i o,_=>rfl
 |.el r w i o,_=>by simp only[SV.den,RE.den,RE.ju,IE.cP]
 |.fo a b c d,_=>rfl
 |.agg l,h=>by simp only[SV.vP] at h;simp only[SV.den];rw[SV.FG ρ y β l h]
 |.bj l,h=>by simp only[SV.vP] at h;simp only[SV.den];rw[SV.FG ρ y β l h]
 |.fn f l,h=>by simp only[SV.vP] at h;simp only[SV.den];rw[SV.FG ρ y β l h]
 |.dH t x,h=>by simp only[SV.vP] at h;simp only[SV.den];rw[SV.NI ρ y β x h]
 |.yl n,h=>by simp[SV.vP] at h
 |.any,_=>rfl
 |.mp i,_=>rfl
 |.dI e ks vs,h=>by simp only[SV.vP] at h;simp only[SV.den,IE.cP];rw[SV.FG ρ y β vs h]
def SV.FG(ρ:aa)(y:List Nat)(β:List Nat):∀(l:List SV),SV.rV l=true->SV.ap (ρ.at y) β l=SV.ap ρ β l
 |[],_=>rfl
 |x::xs,h=>by
  simp only[SV.rV,awF] at h;simp only[SV.ap];rw[SV.NI ρ y β x h.1,SV.FG ρ y β xs h.2]
end
def NJ(ρ:aa)(y:List Nat)(β:List Nat):∀(l:List SV),SV.rV l=true->SV.b9 (ρ.at y) β l=SV.b9 ρ β l
 |[],_=>rfl
 |x::xs,h=>by
  simp only[SV.rV,awF] at h;have Z:=NJ ρ y β xs h.2;have X:=SV.NI ρ y β x h.1;simp only[SV.b9,awT] at Z⊢;rw[Z];congr 1;cases x<;>simp only[SV.eE]<;>first|rw[X]|(rw[RE.ju])
def JJ:∀{l:aX}{i:Nat}{v:TypeId×List SV},zQ l=true->bA l i=some v->SV.rV v.2=true
 |[],i,v,_,h=>by simp[bP] at h
 |some x::xs,0,v,Z,h=>by simp[zQ] at Z;simp[bP] at h;exact h▸Z.1
 |none::xs,0,v,Z,h=>by simp[bP] at h
 |some x::xs,i+1,v,Z,h=>by simp[zQ] at Z;exact JJ Z.2 (by simpa[bP] using h)
 |none::xs,i+1,v,Z,h=>by simp[zQ] at Z;exact JJ Z (by simpa[bP] using h)
def NK:∀{a b:aX},jK a b=true->a=b
 |[],[],_=>rfl
 |[],_::_,h=>by simp[jK] at h
 |none::xs,none::ys,h=>by simp only[jK] at h;rw[NK h]
 |none::xs,some y::ys,h=>by simp[jK] at h
 |none::xs,[],h=>by simp[jK] at h
 |some x::xs,none::ys,h=>by simp[jK] at h
 |some x::xs,[],h=>by simp[jK] at h
 |some x::xs,some y::ys,h=>by
  simp only[jK,awF,beq_iff_eq] at h;have Z:=SV.ow _ _ h.1.2;rw[NK h.2];obtain⟨X,W⟩:=x;obtain⟨V,U⟩:=y;simp only at h Z;rw[h.1.1,Z]
def JK(args:List SV)(bx:aX):(ky args bx).length=bx.length:=by
 unfold ky;split<;>simp
def NL{args:List SV}{bx:aX}{i:Nat}{x:TypeId×List SV}(h:bA (ky args bx) i=some x):bA bx i=some x:=by
 unfold ky at h;split at h;exfalso;simp only[bP] at h;rw[awL] at h;cases Z:bx[i]? with
 |none=>rw[Z] at h;cases h
 |some y=>rw[Z] at h;cases h
 exact h
def UT{args:List SV}{bx:aX}{i:Nat}(h:aA (ky args bx) i=true):aA bx i=true:=by
 obtain⟨x,Z⟩:=awZ.1 h;simp[aA,NL Z]
def an9{t:T}(h:S5 t=true)(p:Sp)(ρ:aa)(L:List LC):t.aD p ρ L:=by
 unfold S5 at h;split at h;simp[T.aD,BE.den];cases h
def aoa{ρ ρ':aa}(h:fj ρ ρ' ρ.i.length ρ.b.length ρ.r.length)(R:ρ'.i.length=ρ.i.length)(Q:ρ'.b.length=ρ.b.length)(P:ρ'.r.length=ρ.r.length):ρ'=ρ:=by
 obtain⟨i,b,r,y⟩:=ρ;obtain⟨X,W,V,M⟩:=ρ';obtain⟨U,a2,a3,a4⟩:=h;simp only at U a2 a3 a4 R Q P;have e1:X=i:=axd λk=>by
  by_cases Z:k<i.length;have:=U k Z;simp only[awK,awH Z,awH (show k<X.length by omega),axi] at this⊢;rw[this];rw[aw4 (by omega),aw4 (by omega)]
 have O:W=b:=axd λk=>by
  by_cases Z:k<b.length;have:=a2 k Z;simp only[awK,awH Z,awH (show k<W.length by omega),axi] at this⊢;rw[this];rw[aw4 (by omega),aw4 (by omega)]
 have N:V=r:=axd λk=>by
  by_cases Z:k<r.length;have:=a3 k Z;simp only[aa.rv,awK,awH Z,awH (show k<V.length by omega),axi] at this⊢;rw[this];rw[aw4 (by omega),aw4 (by omega)]
 subst e1 O N a4;rfl
def NM(rs:List RK):mh rs (rs.map RK.rd):=by
 refine⟨by simp,λk X h=> ?_⟩;rw[awL] at h;cases Z:rs[k]? with
 |none=>rw[Z] at h;cases h
 |some e=>
  rw[Z] at h;simp only[awO,awJ] at h;refine⟨e,rfl, ?_⟩;cases e<;>simp only[RK.rd] at h<;>first|exact .inl h.symm|exact .inr (.inr ⟨_,rfl,h.symm⟩)
def aob(args:List SV)(bx:aX):ky args bx=bx\/∀i,bA (ky args bx) i=none:=by
 unfold ky;split;right;intro i;simp only[bP];rw[awL];cases bx[i]?<;>rfl;exact .inl rfl
section
variable{p:Sp}{cf:bc}
def aoc{n:Nat}(b7:∀X:Sp,X.P=p.P->jr X cf->uh X cf n)(E:jr p cf){g:FuncId}{args:List SV}{s:S}{v:SV}{ex:aX}(h:EJ cf (λf c s k=>dJ cf n f c s fK k) g args s=some (v,ex))(b8:(cf.inl g).isSome=true)
  {D:bw}{ρ:aa}{β:List Nat}{a:Act}{W:World}(w:s.bd=true)(R:ao p.S0 p.w0 D cf.ty β ρ s a W)(hg:dA cf.gl ρ):(∀args W,(callFunc g args).run p.P W=.ok (.enter g args) W)/\
  Calls p.P g (SV.ap ρ β args).toArray W λe W'=>∃C,e=.returned (v.den ρ C)/\ao p.S0 p.w0 D cf.ty C ρ (s.plus ex) a W'/\bi s ρ β (s.plus ex) ρ C:=by
 unfold EJ at h;split at h;rename_i s' hT;split at h;rename_i v0 c9;split at h;rename_i a7;cases h;simp only[awF] at a7;obtain⟨⟨⟨⟨⟨⟨⟨ca,cb⟩,cv⟩,cs⟩,ct⟩,cc⟩,cl⟩,cp⟩:=a7;have a8:=NK ct;obtain⟨cx,a9⟩:=R.tY w;refine⟨E.Ab g (.inr b8), ?_⟩;obtain⟨A,bb⟩:∃A:List Nat,A=((aw3 s.boxes.length).filter (aA (ky args s.boxes))).map (ad β):=⟨_,rfl⟩;have cy:∀i,aA (ky args s.boxes) i=true->ad β i∈A:=λi hi=>by
  rw[bb];refine aw7.2 ⟨i,axr.2 ⟨axR.2 ?_,hi⟩,rfl⟩;obtain⟨x,L⟩:=awZ.1 hi;have:=(awG.1 (gw.1 L)).1
  rwa [JK] at this
 have bf:∀b∈A,∃i,aA (ky args s.boxes) i=true/\ad β i=b:=λb w=>by
  rw[bb] at w;obtain⟨i,hi,rfl⟩:=aw7.1 w;exact⟨i,(axr.1 hi).2,rfl⟩
 obtain⟨X,af⟩:∃X:Sp,X={P:=p.P,ty:=p.ty,S0:=A,w0:=W,D:=bw.none,R:=λe _=>(match e with|.panicked _=>False|_=>True),Q:=λ_ _ _=>True}:=⟨_,rfl⟩;have z:X.P=p.P:=by rw[af]
 have bk:X.S0=A:=by rw[af]
 have br:X.w0=W:=by rw[af]
 have bs:∀u W',¬X.R (.panicked u) W':=λu W' J=>by rw[af] at J;exact J
 have bx:jr X cf:=⟨by rw[af];exact E.pt,by rw[z];exact E.Ul,by rw[z];exact E.jt,by rw[z];exact E.B8,by rw[z];exact E.Ab,λu W b o _ J=>(bs u W J).elim,by rw[z];exact E.inl⟩;have hS:=NH (p:=X) bx (b7 X z bx) (D:=bw.none) (B:=⟨ph args s,ρ.at [],β,[]⟩) (yh:=fK) (CJ _ _);have B0:ao X.S0 X.w0 bw.none cf.ty β (ρ.at []) (ph args s) ⟨#[],[]⟩ W:=by
  rw[bk,br];refine⟨⟨bS.refl _ _,λi hi=>.inr (cy i hi),λi j hi O=>R.mem.inj i j (UT hi) (UT O),λi t cs h=> ?_,λk e rv Z I=> ?_⟩,by simp only[ph,JK];exact R.dX,R.ei,R.eb,by simp only[ph,axB];exact R.er, ?_,rfl,λt sv h=>by simp[ph] at h,λk e rv b Z=> ?_⟩;rw[NJ _ _ _ _ (JJ cb h)];exact R.mem.box i t cs (NL h);have:=(R.mem.j9 (NM s.rs)).ref k e rv Z I;exact⟨this.1,λb w i hi=>this.2 b w i (UT hi)⟩;exact⟨rfl,rfl,λn l r st h=>by simp[bw.none] at h,λn n' l r r' h=>by simp[bw.none] at h,[],rfl,λ_=>rfl,by simp[bw.none],λd h=>by simp[bw.none] at h⟩;exfalso;simp only[ph,awL] at Z;cases F:s.rs[k]? with
  |none=>rw[F] at Z;cases Z
  |some x=>rw[F] at Z;cases x<;>simp[RK.rd] at Z
 have cI:=hS [] (.fn g) args (ph args s) _ _ (ρ.at []) β ⟨#[],[]⟩ W (λe W'=>∃C,e=.returned (v.den ρ C)/\ao p.S0 p.w0 D cf.ty C ρ (s.plus (s'.boxes.drop s.boxes.length)) a W'/\bi s ρ β (s.plus (s'.boxes.drop s.boxes.length)) ρ C) ⟨bi.refl _ _ _,bU.refl _ _⟩ (an9 cp X (ρ.at []) []) B0 hg ?_ ?_ (λu W' pd y _ hR=>(bs u W' hR).elim);have:=cI.2;rw[SV.FG ρ [] β args ca,z] at this;exact this;intro v2 s2 b0 V W2 L2 hl _ U an;split at an;rename_i b1;simp only[awF,aa9,beq_iff_eq,decide_eq_true_eq] at b1;obtain⟨hv,⟨⟨G,c0⟩,c1⟩,aM⟩:=b1;have hv:=SV.bl _ _ hv;subst hv;have G:=NK G;have c2:b0=ρ.at []:=by
  refine aoa hl.ext.agree ?_ ?_ ?_;rw[U.ei,c0];exact R.ei.symm;rw[U.eb,c1];exact R.eb.symm;rw[U.er,aM];simp only[ph,axB];exact R.er.symm
 subst c2;rw[bk,br] at U;have dc:s.boxes.length<=s'.boxes.length:=by
  have:=congrArg ayW a8;rw[JK,axJ] at this;omega
 have a3:∀i,i<s.boxes.length->bA s'.boxes i=bA (ky args s.boxes) i:=λi hi=>by
  have:=congrArg (λl=>bA l i) a8;simp only[bP,axc,if_pos hi] at this⊢;exact this
 have a0:∀i,aA (ky args s.boxes) i=true->ad V i=ad β i:=λi hi=>hl.ext.ad i hi
 have a1:∀{i:Nat}{l:aX},aA l i=true->i<l.length:=λh=>by
  obtain⟨x,L⟩:=awZ.1 h;exact(awG.1 (gw.1 L)).1
 have c3:∀i,s.boxes.length<=i->aA s'.boxes i=true->W.heap.size<=ad V i:=by
  intro i hi J;rcases U.mem.own i (by rw[G];exact J) with Z|Z;exact Z;exfalso;obtain⟨j,O,c4⟩:=bf _ Z;have a4:j<s.boxes.length:=by have:=a1 O;rwa [JK] at this
  have c5:aA s'.boxes j=true:=by simp only[aA,a3 j a4];exact O
  have:=U.mem.inj i j (by rw[G];exact J) (by rw[G];exact c5) (by rw[a0 j O];exact c4.symm);omega
 have hB:Below W.heap.size W W2:=by
  have hO:=U.mem.base;refine⟨hO.os,hO.tape,hO.output,hO.size,λk F=> ?_⟩;by_cases b2:k∈A;obtain⟨j,O,rfl⟩:=bf _ b2;have a4:j<s.boxes.length:=by have:=a1 O;rwa [JK] at this
  obtain⟨x,L⟩:=awZ.1 O;obtain⟨bt,q⟩:=x;have e1:=R.mem.box j bt q (NL L);have e2:=U.mem.box j bt q (by rw[G,a3 j a4];exact L);rw[a0 j O] at e2;rw[e1,e2];congr 2;rw[NJ _ _ _ _ (JJ cb L)];refine I5 (fj.refl _ _ _ _) (λk F=>a0 k ?_) _ (oz a9 (NL L));rcases aob args s.boxes with hm|hm;rw[hm];exact F;rw[hm j] at L;cases L;exact hO.block k F b2
 have R0:=R.below hB;have c6:V.length=s'.boxes.length:=by rw[U.dX,G]
 have a2:∀i,i<s.boxes.length->ad (β++V.drop s.boxes.length) i=ad β i:=λi hi=>by
  simp only[ad,awK];rw[awI (by rw[R.dX];exact hi)]
 have a5:∀i,s.boxes.length<=i->ad (β++V.drop s.boxes.length) i=ad V i:=λi hi=>by
  simp only[ad,awK];rw[awM (by rw[R.dX];exact hi),R.dX,axl,az8 hi]
 have b3:∀i,aA s'.boxes i=true->ad (β++V.drop s.boxes.length) i=ad V i:=λi hi=>by
  by_cases N:i<s.boxes.length;rw[a2 i N,a0 i (by simp only[aA,<-a3 i N];exact hi)];exact a5 i (by omega)
 have gY:∀i,i<s.boxes.length->bA (s.plus (s'.boxes.drop s.boxes.length)).boxes i=bA s.boxes i:=λi hi=>by
  simp only[bP,S.plus,awI hi]
 have b4:∀i,s.boxes.length<=i->bA (s.plus (s'.boxes.drop s.boxes.length)).boxes i=bA s'.boxes i:=λi hi=>by
  simp only[bP,S.plus];rw[awM hi,axl,az8 hi]
 have a6:∀k,aA s.boxes k=true->ad (β++V.drop s.boxes.length) k=ad β k:=λk F=>a2 k (a1 F)
 have ag:∀i,aA (s.plus (s'.boxes.drop s.boxes.length)).boxes i=true->(i<s.boxes.length/\aA s.boxes i=true/\ad (β++V.drop s.boxes.length) i=ad β i)\/(s.boxes.length<=i/\aA s2.boxes i=true/\ad (β++V.drop s.boxes.length) i=ad V i/\W.heap.size<=ad V i):=λi hi=>by
  by_cases N:i<s.boxes.length;exact .inl ⟨N,by simpa only[aA,gY i N] using hi,a2 i N⟩;have J:aA s'.boxes i=true:=by simpa only[aA,b4 i (by omega)] using hi
  exact .inr ⟨by omega,by rw[G];exact J,a5 i (by omega),c3 i (by omega) J⟩
 have dd:p.w0.heap.size<=W.heap.size:=R.mem.base.size;refine⟨β++V.drop s.boxes.length, ?_,⟨⟨R0.mem.base, ?_, ?_, ?_, ?_⟩, ?_,R.ei,R.eb,R.er,R0.bT,R.size, ?_, ?_⟩,⟨⟨fj.refl _ _ _ _,awN _,awN _,awN _,a6⟩, ?_, ?_,awN _⟩⟩;rw[SV.NI _ _ _ _ cv];have c7:v2.bd ρ.i.length ρ.b.length ρ.r.length (aA s'.boxes)=true:=by rw[R.ei,R.eb,R.er];exact cc
 rw[SV.cu (fj.refl _ _ _ _) b3 v2 c7];intro i hi;rcases ag i hi with⟨_,I,m⟩|⟨_,_,m,h4⟩;rw[m];exact R.mem.own i I;rw[m];exact .inl (by omega);intro i j hi O b5;rcases ag i hi with⟨i1,H,M⟩|⟨i1,H,M,i4⟩<;>rcases ag j O with⟨j1,j2,j3⟩|⟨j1,j2,j3,j4⟩;exact R.mem.inj i j H j2 (by rw[<-M,<-j3];exact b5);exfalso;have:=R.mem.lt H;omega;exfalso;have:=R.mem.lt j2;omega;exact U.mem.inj i j H j2 (by rw[<-M,<-j3];exact b5);intro i t q h;by_cases N:i<s.boxes.length;rw[gY i N] at h;rw[a2 i N,R0.mem.box i t q h];congr 2;exact(I5 (fj.refl _ _ _ _) a6 _ (oz a9 h)).symm;rw[b4 i (by omega)] at h;rw[a5 i (by omega),U.mem.box i t q (by rw[G];exact h)];congr 2;rw[NJ _ _ _ _ (JJ cs h)];have c8:SV.ck ρ.i.length ρ.b.length ρ.r.length (aA s'.boxes) q=true:=by rw[R.ei,R.eb,R.er];exact oz cl h
 exact(I5 (fj.refl _ _ _ _) b3 _ c8).symm;intro k e rv Z I;refine⟨(R0.mem.ref k e rv Z I).1,λb b6 i hi=> ?_⟩;rcases ag i hi with⟨i1,H,M⟩|⟨i1,H,M,i4⟩;rw[M];exact(R.mem.ref k e rv Z I).2 b b6 i H;rw[M];have:=(R.mem.ref k e rv Z I).1.lt b6;omega;simp only[S.plus,awQ,axW,c6,R.dX];intro t sv h;rcases R.tmps t sv h with Z|Z;exact .inl Z;right;rw[SV.cu (fj.refl _ _ _ _) a6 sv (qn cx h)];exact Z;intro k e rv b Z I m;have T0:=R0.cO k e rv b Z I m;refine⟨T0.own,T0.mem,λi hi=> ?_,T0.alone,T0.inner⟩;rcases ag i hi with⟨i1,H,M⟩|⟨i1,H,M,i4⟩;rw[M];exact T0.box i H;rw[M];have:=(R.cO k e rv b Z I m).lt;omega;intro i hi;have N:=a1 hi;simp only[aA,gY i N];exact hi;simp only[S.plus,awQ];omega;exact an.elim;intro v2 s2 b0 V W2 L2 hl _ U an;exact an.elim;cases h;cases h;cases h
end
def aod{args:List SV}{s s':S}(Z:ky args s'.boxes=ky args s.boxes)(X:s'.ni=s.ni)(W:s'.nb=s.nb)(V:s'.rs=s.rs):ph args s'=ph args s:=by
 simp only[ph,Z,X,W,V]
def adM{cf:bc}{Z:FuncId->Code->S->(XE->S->T)->T}{g:FuncId}{args:List SV}{s s':S}(X:ky args s'.boxes=ky args s.boxes)(W:s'.ni=s.ni)(V:s'.nb=s.nb)(U:s'.rs=s.rs)(R:s'.boxes.length=s.boxes.length):EJ cf Z g args s'=EJ cf Z g args s:=by
 unfold EJ;rw[aod X W V U,X,W,V,U,R]
def aoe(cf:bc)(ops:Array Oper)(W:FuncId->Code->S->(XE->S->T)->T):Ac ops (zR cf ops W):=by
 refine⟨λg args s d v l=> ?_,λg s n t cs d w U=> ?_,λg args s r h=> ?_⟩;unfold zR;rw[adM]<;>cases d<;>rfl
 ·unfold zR;rw[adM]<;>cases d<;>simp[S.bI,S.put,nh,ky,aAd]<;>(try apply axd)<;>(try intro i)<;>(try simp[axC])<;>(try(intro V;subst V;by_cases Z:n<s.boxes.length;(· simp[Z]);(· simp[Z])))
 unfold zR at h;split at h;rename_i X;simp only[awF] at X;exact X.1;cases h
def aof{p:Sp}{cf:bc}{ops:Array Oper}{n:Nat}(V:∀Z:Sp,Z.P=p.P->jr Z cf->uh Z cf n)(U:jr p cf):NB p cf (zR cf ops λf c s k=>dJ cf n f c s fK k):=by
 intro g args s v ex h D ρ β a W Q R O;unfold zR at h;split at h;rename_i X;simp only[awF] at X;exact aoc V U h X.2 Q R O;cases h
end
end
end Go.Proofs.YtieaiocljdpebaaGreatDoor.Y
