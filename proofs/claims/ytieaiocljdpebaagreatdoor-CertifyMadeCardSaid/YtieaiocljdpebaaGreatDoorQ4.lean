/- Part 4 of the proof; the last part says what is shown. -/
import Derived.Test.YtieaiocljdpebaaGreatDoorQ3
import Derived.WalkKit
import Derived.Below
import Derived.DefersIn
import Derived.RangeFuncLeaves
set_option linter.all false
open Bool renaming and_eq_true->axI,not_eq_true'->ax0,false_eq_true->ax3,or_eq_true->ayb,or_eq_false_iff->ayp,eq_iff_iff->ayS,and_self->aza,not_eq_false->azc,and_true->azH,rec->aAd,not_true->aAz,not_eq_true->aAJ,true_eq_false->aBi
open List renaming getElem?_eq_some_iff->axJ,getElem?_eq_getElem->axK,getElem?_append_left->axL,getD_eq_getElem?_getD->axN,getElem?_map->axO,getElem?_append_right->axP,cons_append->axY,mem_cons->axT,mem_append->axS,nil_append->ax2,map_cons->axV,replicate->axW,length_append->axX,all_eq_true->axU,range->ax6,pairwise_cons->ax5,mem_of_getElem?->ax4,mem_map->aya,getElem?_eq_none->ax8,map_congr_left->ax7,pairwise_append->ayc,length_eq_one_iff->aye,ext_getElem?->ayf,any_eq_true->ayh,getElem?_take->ayi,contains_iff_mem->ayj,getElem?_cons_succ->ayk,mem_filter->ayr,length_cons->ayu,map_map->ayw,getElem?_of_mem->ayx,mem_append_left->ayy,length_map->ayA,getElem?_set->ayD,getElem?_cons_zero->ayB,getElem?_eq_none_iff->ayC,length_eq_zero_iff->ayl,nodup_append->ayJ,getElem?_replicate->ayO,append_assoc->azd,getD_cons_zero->ay1,mem_range->ayR,mem_cons_of_mem->ayV,map_nil->ay2,mem_filterMap->ayZ,mem_of_find?_eq_some->azm,foldl_cons->ay8,append_nil->azf,mem_append_right->azl,pairwise_iff_getElem->azn,mem_cons_self->azt,map_append->aze,rec->azw,range_eq_range'->azz,all_cons->azx,find?_some->az0,mem_singleton->ayY,length_nil->azM,sublist_cons_self->azP,pairwise_map->azS,all_map->azU,filterMap_cons->azZ,drop_left'->az4,getElem?_toArray->aAi,mem_iff_getElem?->aAk,any_map->aAH,find?_cons->aAO,filter_map->aAP,drop_zero->aAY,sizeOf_lt_of_mem->aA2,Sublist->aBh,append_of_mem->aBj,filterMap_map->aBk
open Option.some renaming injEq->axM
open Nat renaming le_refl->axQ,lor->axZ,zero_add->ayg,shiftLeft->ayn,le_trans->ayt,beq->ayz,testBit_or->azb,strongRecOn->az3,rec->aAf,div_add_mod->aAm,one_shiftLeft->aAC,eq_of_beq_eq_true->aAW,shiftRight->aA3,testBit_two_pow->aA8,lt_or_gt_of_ne->aBe
open Option renaming map_some->axR,isSome_iff_exists->ax1,getD_some->ayo,map_eq_some_iff->azi,bind_some->azW,isNone_iff_eq_none->aAE
open Array renaming getElem?_eq_some_iff->ax9,ext'->ayF,getElem?_eq_getElem->az1,getD_eq_getD_getElem?->aAx,foldl_toList->aBd
open Int renaming negSucc->aAV,ofNat->aBl
open Prod.mk renaming injEq->azq
open List.Sublist renaming append->azY,refl->aAa
namespace Go.Proofs.YtieaiocljdpebaaGreatDoor.Y
open Go.RowKit
noncomputable section
variable{w:S}{Z f:List Nat}{X:Nat}{Q:List SV}{b:SV}{h:Ty}{v:TypeId}{y:FuncId→Code→S→(XE→S→T)→T}{F:FuncId}{e:SV→S→T}{U:aa}{t:List LC}
section
def aeH(s:S)(Z:List Nat)(i:Nat):(s.bI Z).tmps[i]?=(s.tmps[i]?).map λx=>if Z.contains i then .any else x:=by
 simp only[S.bI];rw[qZ,ayg]
def ao9(h:X∉Z):(w.bI Z).tmps[X]?=w.tmps[X]?:=by
 rw[aeH];cases w.tmps[X]?<;>simp[h]
def aeI{Z X W:Nat}{V:Nat->Bool}(U:List Nat):∀(l:List SV)(n:Nat),SV.cq Z X W V l=true->SV.cq Z X W V (oW U n l)=true
 |[],n,_=>rfl
 |x::R,n,h=>by
  simp only[SV.fa,axI] at h;simp only[oW,SV.fa,axI];refine⟨?_,aeI U R (n+1) h.2⟩;split;simp[SV.aK];exact h.1
def Gf{ds:List Nat}(h:w.da Q=true):(w.bI ds).da Q=true:=by
 simp only[S.da,S.bd,axI,S.bI] at h⊢;exact⟨⟨aeI ds _ 0 h.1.1,h.1.2⟩,h.2⟩
def AH{d:Option Nat}(h:∀x,d=some x->x∉Z):(w.put d b).bI Z=(w.bI Z).put d b:=by
 cases d with
 |none=>rfl
 |some x=>
  have W:=h x rfl;simp only[S.put,qL,S.bI];congr 1;apply ayf;intro i;rw[qZ,ayg,ayD,ayD,qZ,ayg,Gd];by_cases X:x=i;subst X;by_cases V:x<w.tmps.length<;>simp[V,W];simp[X]
def apa{s:S}{ds es:List Nat}(h:∀x∈es,x∈ds):(s.bI es).bI ds=s.bI ds:=by
 simp only[S.bI];congr 1;apply ayf;intro i;rw[qZ,qZ,qZ,ayg];cases s.tmps[i]? with
 |none=>rfl
 |some x=>
  simp only[axR];by_cases Z:i∈ds;simp[Z];have:i∉es:=λX=>Z (h i X)
  simp[Z,this]
def apb(v:SV):I8 false v=0:=by
 cases v<;>rfl
section
variable{p:Sp}{cf:bh}{ops:Array Oper}
def ao.bI{D:bB}{s:S}{O:aa}{V:List Nat}{a:Act}{W:World}(R:ao p.S0 p.w0 D cf.ty V O s a W)(U:List Nat):ao p.S0 p.w0 D cf.ty V O (s.bI U) a W:=by
 refine⟨R.mem,R.dX,R.ei,R.eb,R.er,R.bY,by simp only[S.bI,Gd];exact R.size,λt Q Z=> ?_,R.bw⟩;rw[aeH] at Z;cases X:s.tmps[t]? with
 |none=>rw[X] at Z;cases Z
 |some x=>
  rw[X] at Z;simp only[axR,axM] at Z;split at Z;exact .inl Z.symm;subst Z;exact R.tmps t x X
def aeJ{m:OM}{O:aa}{Z:BE}(Q:ke m.o.op=true)(P:m.bc=false)(h:wi cf w m.o=some (Z,b))(N:Z.den O=true):(dR cf m w).gives O (w.put m.o.dst b):=by
 unfold wi at h;split at h;cases h;rename_i W;simp only[ayb,not_or,aAJ] at W;obtain⟨W,V⟩:=W;have U:(oT w m.o.dst 0 (bz cf.ty cf.gl w m.o.op)).gives O (w.put m.o.dst b):=by
  split at h;rename_i X R;cases h;rw[R];simp only[oT,OR.gives,C6];rename_i L X R;split at h;rename_i bv;cases h;rw[R];simp only[oT,bv,if_true,OR.gives,C6,and_true];exact N;cases h;cases h
 unfold dR;rw[if_neg (by rw[W];simp)];cases M:m.o.op<;>rw[M] at Q U V<;>simp only[ke,ax3,Uc] at Q V<;>first|exact U|(simp only[P,apb];exact U)|cases V
def Oj{o:Oper}{s:S}{O:aa}(h:∀t∈gE ops o,t∉Z):iw cf ops o s O (s.bI Z) O:=iw.uC (λt X=>ao9 (h t X)) rfl rfl rfl
def aeK{o:Oper}{ds:List Nat}{r:BE×SV}(h:∀t∈gE ops o,t∉ds)(X:wi cf w o=some r):wi cf (w.bI ds) o=some r:=by
 have V:=Oj (cf:=cf) (s:=w) (O:=⟨[],[],[],[]⟩) h;have R:=V.ev cf.gl;unfold wi at X⊢;split at X;cases X;rename_i N;have M:¬((o.op.operands.toList.any λx=>((w.bI ds).ev cf.gl x).cR)||Uc o.op)=true:=by
  intro W;apply N;simp only[ayb] at W⊢;rcases W with W|W;left;obtain⟨x,P,L⟩:=ayh.1 W;exact ayh.2 ⟨x,P,by rw[<-R x P];exact L⟩;exact .inr W
 rw[if_neg M];cases U:bz cf.ty cf.gl w o.op with
 |ok Z=>rw[N1 (ty:=cf.ty) R V.kd V.kl (λi _=>rfl) U (λZ Q=>by cases Q)];rw[U] at X;exact X
 |az b Z=>rw[N1 (ty:=cf.ty) R V.kd V.kl (λi _=>rfl) U (λZ Q=>by cases Q)];rw[U] at X;exact X
 |no Z=>rw[U] at X;cases X
def apc{m:OM}{R:S}(Q:Jj m.o.op=true)(h:∀t∈gE ops m.o,t∉Z)(U:∀x,m.o.dst=some x->x∉Z)(X:dR cf m w=.ok R):dR cf m (w.bI Z)=.ok (R.bI Z):=by
 have M:=Oj (cf:=cf) (s:=w) (O:=⟨[],[],[],[]⟩) h;have V:=M.ev cf.gl;unfold dR at X⊢;split at X;cases X;rename_i L;have J:¬(m.o.op.operands.toList.any λx=>((w.bI Z).ev cf.gl x).cR)=true:=by
  intro I;apply L;obtain⟨x,P,H⟩:=ayh.1 I;exact ayh.2 ⟨x,P,by rw[<-V x P];exact H⟩
 rw[if_neg J];have B:∀(n:Nat)(t:TypeId)(N:List SV),(w.bI Z).bN n t N=(w.bN n t N).bI Z:=λ_ _ _=>rfl
 cases G:m.o.op<;>rw[G] at Q X V<;>simp only[Jj,ax3] at Q
 
 simp only at X⊢;split at X;split at X;rename_i W;simp only[axI] at W;rw[if_pos (by simp only[axI];exact⟨Gf W.1,W.2⟩)];cases X;rw[AH U];rfl;cases X;cases X
 
 rename_i t x;simp only at X⊢;rw[V x (by simp[Op.operands])];split at X;split at X;rename_i W;simp only[axI] at W;rw[if_pos (by simp only[axI];exact⟨⟨⟨W.1.1.1,Gf W.1.1.2⟩,W.1.2⟩,W.2⟩)];cases X;rw[AH U];rfl;cases X;cases X;rename_i t A parts;simp only at X⊢;have F:(parts.toList.map λq=>(q.1,(w.bI Z).ev cf.gl q.2))=parts.toList.map λq=>(q.1,w.ev cf.gl q.2):=by
  refine ax7 λq E=> ?_
  rw[V q.2 (by simp only[Op.operands,aya];exact⟨q,E,rfl⟩)]
 rw[F];split at X;split at X;split at X;split at X;rename_i W;simp only[axI] at W;rw[if_pos (by simp only[axI];exact⟨⟨Gf W.1.1,W.1.2⟩,W.2⟩)];cases X;congr 1;rw[AH U];rfl;cases X;cases X;cases X;cases X
 
 rename_i t x y;simp only at X⊢;rw[V x (by simp[Op.operands]),V y (by simp[Op.operands])];split at X;split at X;rename_i D;have C:i6 (w.bI Z).boxes _=_:=D;rw[C];simp only;split at X;rename_i W;rw[show(w.bI Z).lk=w.lk from rfl,if_pos W];cases X;rw[AH U];rfl;cases X;cases X;cases X
def apd{o:Oper}{s:S}(h:∀t∈gE ops o,t∉Z):∀x∈o.op.operands.toList,s.ev cf.gl x=(s.bI Z).ev cf.gl x:=
 λx X=>((Oj (cf:=cf) (s:=s) (O:=⟨[],[],[],[]⟩) h).ev cf.gl x X).symm
def VW(r:RE):r.kind h (w.bI Z)=r.kind h w:=yI (s:=w.bI Z) (s':=w) rfl r
def VX{Z:Ty}{s:S}{X:List Nat}:∀(ab:List CT)(l:List SV),jx Z (s.bI X) ab l=jx Z s ab l
 |[],[]=>rfl
 |[],_::_=>rfl
 |_::_,[]=>rfl
 |c::W,v::V=>by
  simp only[jx,VX W V];congr 1;unfold oS;split<;>try rfl
  rename_i z k r;cases k<;>simp only[RE.fits,VW]
def Ol{Z:Ty}{s:S}{X:List Nat}(ab:List CT):∀l:List (List SV),kb Z (s.bI X) ab l=kb Z s ab l
 |[]=>rfl
 |r::W=>by simp only[kb,VX,Ol ab W]
def Ka{ds:List Nat}{d:Option Nat}{az:BE}{k:RK}{x:LE}{b:BI}(W:∀x,d=some x->x∉ds)(h:gO w d az v k x Z f=some b):gO (w.bI ds) d az v k x Z f=some {b with s:=b.s.bI ds}:=by
 unfold gO at h⊢;split at h;rename_i X;cases h;have V:(w.bI ds).bd=true:=by
  have U:w.da []=true:=by
   simp only[axI] at X;simp only[S.da,SV.fa,azH];exact X.1.1.1
  have:=Gf (ds:=ds) U;simpa only[S.da,SV.fa,azH] using this
 simp only[axI] at X;rw[if_pos (by simp only[axI];exact⟨⟨⟨V,X.1.1.2⟩,X.1.2⟩,X.2⟩),AH W];rfl;cases h
def ape{bc:Bool}(X:SV):su (w.bI Z) v bc X=su w v bc X:=rfl
def apf{W:TI}(X:SV):nU h (w.bI Z) v W X=nU h w v W X:=by
 unfold nU;split<;>simp only[VW,Ol]<;>rfl
def aeL{Z:List Nat}{k n:Nat}:∀(l:List SV)(i:Nat),oW Z i (SV.lG k n l)=SV.lG k n (oW Z i l)
 |[],_=>rfl
 |x::X,i=>by
  simp only[SV.lG,oW,aeL X (i+1)];split<;>rfl
def apg{n:Nat}:(w.bI Z).jp X n=(w.jp X n).bI Z:=by
 simp only[S.bI,S.jp,aeL]
def aph{o:Oper}{bc:Bool}{b:BI}(U:Fl o.op=true)(h:∀t∈gE ops o,t∉Z)(Q:∀x,o.dst=some x->x∉Z)(X:cP cf o bc false w=some b):cP cf o bc false (w.bI Z)=some {b with s:=b.s.bI Z}:=by
 have W:=apd (cf:=cf) (s:=w) h;unfold cP at X⊢;cases R:o.op with
 |call c=>
  rw[R] at U X W;simp only[Fl] at U;split at U
  ·rename_i D;simp only[D] at X⊢;have C:c.args.toList.map ((w.bI Z).ev cf.gl)=c.args.toList.map (w.ev cf.gl):=ax7 λx V=>(W x (by simp[Op.operands,Call.operands];exact .inr (by simpa using V))).symm
   rw[C];simp only[ape,apf]
   repeat' split at X
   all_goals first
    |cases X;done
    |(have q:=Ka (ds:=Z) Q X;(repeat' split)<;>first|exact q|contradiction|(exfalso;simp_all;done))
  cases U
 |makeSlice t n m=>
  rw[R] at X W;simp only at X⊢;rw[<-W n (by simp[Op.operands]),<-W m (by simp[Op.operands])];simp only[Ol]
  repeat' split at X
  all_goals first
   |cases X;done
   |(have q:=Ka (ds:=Z) Q X;(repeat' split)<;>first|exact q|contradiction|(exfalso;simp_all;done))
 |buildSlice t l parts=>
  rw[R] at X W;have B:(parts.toList.map λq=>(q.1,(w.bI Z).ev cf.gl q.2))=parts.toList.map λq=>(q.1,w.ev cf.gl q.2):=by
   refine ax7 λq O=> ?_
   rw[W q.2 (by simp only[Op.operands,aya];exact⟨q,O,rfl⟩)]
  have A:(parts.toList.any λq=>((w.bI Z).ev cf.gl q.2).cR)=parts.toList.any λq=>(w.ev cf.gl q.2).cR:=by
   rw[ayS,ayh,ayh];constructor;rintro⟨x,V,N⟩;exact⟨x,V,by rw[W x.2 (by simp only[Op.operands,aya];exact⟨x,V,rfl⟩)];exact N⟩;rintro⟨x,V,N⟩;exact⟨x,V,by rw[<-W x.2 (by simp only[Op.operands,aya];exact⟨x,V,rfl⟩)];exact N⟩
  simp only at X⊢;rw[B,A];simp only[Ol]
  repeat' split at X
  all_goals first
   |cases X;done
   |(have q:=Ka (ds:=Z) Q X;(repeat' split)<;>first|exact q|contradiction|(exfalso;simp_all;done))
 |slice t x H G F=>
  rw[R] at X W;have M:∀y:Option Operand,(∀z,y=some z->z∈(Op.slice t x H G F).operands.toList)->y.map ((w.bI Z).ev cf.gl)=y.map (w.ev cf.gl):=by
   intro y v;cases y with
   |none=>rfl
   |some z=>simp only[axR];rw[<-W z (v z rfl)]
  simp only at X⊢;rw[<-W x (by simp[Op.operands]),M H (λz P=>by subst P;simp[Op.operands]),M G (λz P=>by subst P;simp[Op.operands]),M F (λz P=>by subst P;simp[Op.operands])];simp only[VW]
  repeat' split at X
  all_goals first
   |cases X;done
   |(have q:=Ka (ds:=Z) Q X;(repeat' split)<;>first|exact q|contradiction|(exfalso;simp_all;done))
 |store t a x=>
  rw[R] at X W;simp only at X⊢;rw[<-W a (by simp[Op.operands]),<-W x (by simp[Op.operands])];have u:(w.bI Z).rs=w.rs:=rfl;simp only[VX];rw[u];have E:∀{az:BE}{e:TypeId}{L:RK}{y:LE}{J I:List Nat}{k:Nat}{b:BI},(gO w none az e L y J I).map (λb=>{b with s:=(b.s.jp k w.rs.length).put o.dst (.bm [])})=some b->
    (gO (w.bI Z) none az e L y J I).map (λb=>{b with s:=(b.s.jp k w.rs.length).put o.dst (.bm [])})=some {b with s:=b.s.bI Z}:=by
   intro az e L y J I k b O;obtain⟨j,r,rfl⟩:=azi.1 O;rw[Ka (ds:=Z) (by simp) r];simp only[axR];rw[apg,<-AH Q]
  repeat' split at X
  all_goals first
   |cases X;done
   |(have q:=E X;clear E;(repeat' split)<;>first|exact q|contradiction|(exfalso;simp_all;done))
 |_=>rw[R] at U;simp[Fl] at U
end
section
variable{ops:Array Oper}
def qd(l:List OM):List Nat:=l.filterMap (·.o.dst)
structure aap(ops:Array Oper)(listed:Array Bool)(rem:List OM):Prop where
 mem:∀m∈rem,ops[m.j]?=some m.o
 un:∀i,i<ops.size->(listed.getD i true=false<->∃m∈rem,m.j=i)
 sz:listed.size=ops.size
 dn:∀(j:Nat)(o:Oper),ops[j]?=some o->listed.getD j false=true->∀e∈iM o,listed.getD e false=true
 nd:rem.Pairwise λx y=>x.j≠y.j
def aap.listed{listed:Array Bool}{P:List OM}(W:Ga ops Z)(O:aap ops listed P):∀(j:Nat)(o:Oper),ops[j]?=some o->(∀e∈iM o,listed.getD e false=true)->∀i,i<ops.size->(Z.getD j 0).testBit i=true->listed.getD i false=true:=by
 intro j;induction j using az3 with
 |_ j N=>
  intro o X V i U M;rcases W.cl j o X i U M with h|⟨e,R,h⟩;exact V i h;have L:=W.lt j o X e R;have J:j<ops.size:=(ax9.1 X).1;have Q:ops[e]?=some ops[e]:=az1 (by omega);exact N e L ops[e] Q (O.dn e _ Q (V e R)) i U h
def aap.lt{listed:Array Bool}{Z:List OM}(X:aap ops listed Z){m:OM}(W:m∈Z):m.j<ops.size:=(ax9.1 (X.mem m W)).1
def aap.not{listed:Array Bool}{W:List OM}(Z:aap ops listed W){m:OM}(X:m∈W):listed.getD m.j false≠true:=by
 have h:=(Z.un m.j (Z.lt X)).2 ⟨m,X,rfl⟩;have V:m.j<listed.size:=by rw[Z.sz];exact Z.lt X
 simp[V] at h⊢;exact h
def aap.next{listed:Array Bool}{W V:List OM}{m:OM}(X:aap ops listed (W++m::V))(I:∀e∈iM m.o,listed.getD e false=true):aap ops (listed.setIfInBounds m.j true) (W++V):=by
 have M:=X.mem m (by simp);have H:m.j<ops.size:=(ax9.1 M).1;have R:m.j<listed.size:=by rw[X.sz];exact H
 have Q:aBh (W++V) (W++m::V):=azY (aAa _) (azP _ _);have G:∀x∈W++V,x.j≠m.j:=by
  intro x Z;have P:=X.nd;rw[ayc] at P;rcases axS.1 Z with h|h;exact P.2.2 x h m (by simp);exact Ne.symm ((ax5.1 P.2.1).1 x h)
 refine⟨λx Z=>X.mem x (Q.subset Z),λi F=> ?_,by simp[X.sz],λj o O U e L=> ?_,X.nd.sublist Q⟩;rw[C7 _ _ _ _ R];by_cases N:i=m.j;subst N;simp only[if_true,aBi,false_iff];rintro⟨x,Z,U⟩;exact G x Z U;rw[if_neg N,X.un i F];constructor;rintro⟨x,Z,rfl⟩;refine⟨x, ?_,rfl⟩;simp only[axS,axT] at Z⊢;rcases Z with h|h|h;exact .inl h;subst h;exact absurd rfl N;exact .inr h;rintro⟨x,Z,rfl⟩;exact⟨x,Q.subset Z,rfl⟩;rw[C7 _ _ _ _ R];rw[C7 _ _ _ _ R] at U;split;rfl;by_cases J:j=m.j;subst J;rw[M] at O;cases O;exact I e L;rw[if_neg J] at U;exact X.dn j o O U e L
def aap.some{listed:Array Bool}{W:List OM}(P:Ga ops Z)(X:aap ops listed W):∀(j:Nat),(∃m∈W,m.j=j)->∃m∈W,∀e∈iM m.o,listed.getD e false=true:=by
 intro j;induction j using az3 with
 |_ j O=>
  rintro⟨m,V,rfl⟩;by_cases h:∀e∈iM m.o,listed.getD e false=true;exact⟨m,V,h⟩;simp only[Classical.not_forall] at h;obtain⟨e,N,U⟩:=h;have R:=P.lt m.j m.o (X.mem m V) e N;have Q:e<ops.size:=Nat.lt_trans R (X.lt V);have:listed.getD e true=false:=by
   have M:e<listed.size:=by rw[X.sz];exact Q
   simp[M] at U⊢;exact U
  exact O e R ((X.un e Q).1 this)
end
def api(Z:List LK)(s:S)(X:List Nat):((s.bI X).bE Z).1=(s.bE Z).1/\((s.bI X).bE Z).2=(s.bE Z).2.bI X:=by
 induction Z generalizing s with
 |nil=>exact⟨rfl,rfl⟩
 |cons k Z W=>
  simp only[S.bE];have V:((s.bI X).fresh k).1=(s.fresh k).1:=by cases k<;>rfl
  have U:((s.bI X).fresh k).2=(s.fresh k).2.bI X:=by cases k<;>rfl
  rw[V,U];obtain⟨R,Q⟩:=W (s.fresh k).2;exact⟨by rw[R],Q⟩
section
variable{p:Sp}{cf:bh}
open Classical in
noncomputable def yR(s:S)(X:List Nat)(k:SV->S->T):SV->S->T:=λv Z=>if Z.tmps=(s.bI X).tmps then k v {Z with tmps:=s.tmps} else .stuck ""
def apj{N:YH}{V:SV->S->T}
  (h:(gU cf y N (.fn F) Q w e V).aG p U t):(gU cf y N (.fn F) Q (w.bI Z) (yR w Z e) (yR w Z V)).aG p U t:=by
 unfold gU at h⊢;simp only at h⊢;split at h;rename_i c D M C;split at h;rename_i J;rw[if_pos (Gf J)];have:Fh cf (w.bI Z) M (yR w Z e) (yR w Z V)=Fh cf w M e V:=by
  funext X B;cases X<;>simp only[Fh,yR,if_true]
 rw[this];exact h;exact h.elim;unfold wa at h⊢;split at h;split at h;rename_i W A;obtain⟨I,H⟩:=api W (w.cut Q W) Z;have G:(w.bI Z).cut Q W=(w.cut Q W).bI Z:=rfl;rw[G,I,H];split at h;rename_i l x;split at h;rename_i R;simp only[axI] at R;rw[if_pos (by simp only[axI];exact⟨Gf R.1,R.2⟩)];have P:((w.cut Q W).bE W).2.tmps=w.tmps:=(sJ W (w.cut Q W)).2.1;have E:yR w Z e (one l) (((w.cut Q W).bE W).2.bI Z)=e (one l) ((w.cut Q W).bE W).2:=by
  simp only[yR];rw[if_pos (by simp only[S.bI,P])];congr 1;simp only[S.bI];generalize((w.cut Q W).bE W).2=z at P;rw[<-P]
 rw[E];exact h;exact h.elim;exact h.elim;exact h.elim;exact h.elim
end
section
variable{p:Sp}{cf:bh}{ops:Array Oper}
def aeM{W:Type}:∀{l:List W}{x:W},x∈l->∃Z X,l=Z++x::X/\(x,Z++X)∈Fj l
 |[],x,h=>by cases h
 |y::r,x,h=>by
  rcases axT.1 h with rfl|h;exact⟨[],r,rfl,by simp[Fj]⟩;obtain⟨Z,X,V,U⟩:=aeM h;subst V;exact⟨y::Z,X,rfl,by simp only[Fj,axT,aya];exact .inr ⟨_,U,rfl⟩⟩
def VY{p:Sp}{O:aa}{L:List LC}:∀{l:List T},(ym l).aG p O L->∀t∈l,t.aG p O L
 |[],h,_,_=>h.elim
 |[t],h,x,Z=>by simp only[ayY] at Z;subst Z;exact h
 |t::u::r,h,x,Z=>by
  simp only[ym,T.aG,BE.den,true_implies] at h;rcases axT.1 Z with rfl|Z;exact h.1;exact VY (l:=u::r) h.2 x Z
def Kb:∀{l m:aY},jW l m=true->l=m
 |[],[],_=>rfl
 |[],_::_,h=>by simp[jW] at h
 |none::_,[],h=>by simp[jW] at h
 |some _::_,[],h=>by simp[jW] at h
 |none::Z,none::X,h=>by simp only[jW] at h;rw[Kb h]
 |none::_,some _::_,h=>by simp[jW] at h
 |some _::_,none::_,h=>by simp[jW] at h
 |some (t,W)::Z,some (V,U)::X,h=>by
  simp only[jW,axI,beq_iff_eq] at h;rw[h.1.1,SV.o7 _ _ h.1.2,Kb h.2]
def aeN:∀{l m:List (List SV)},Fk l m=true->l=m
 |[],[],_=>rfl
 |[],_::_,h=>by simp[Fk] at h
 |_::_,[],h=>by simp[Fk] at h
 |x::Z,y::X,h=>by
  simp only[Fk,axI] at h;rw[SV.o7 _ _ h.1,aeN h.2]
def LE.bn:∀(a b:LE),LE.same a b=true->a=b
 |.ref r,b,h=>by cases b<;>simp[LE.same] at h;rw[RE.bn _ _ h]
 |.lit l,b,h=>by cases b<;>simp[LE.same] at h;rw[aeN h]
 |.jr x y,b,h=>by cases b<;>simp[LE.same] at h;rw[LE.bn _ _ h.1,LE.bn _ _ h.2]
 |.mW n X,b,h=>by cases b<;>simp[LE.same] at h;rw[IE.bn _ _ h.1,SV.o7 _ _ h.2]
 |.set x i W Z,b,h=>by cases b<;>simp[LE.same] at h;rw[LE.bn _ _ h.1.1.1,IE.bn _ _ h.1.1.2,h.1.2,SV.o7 _ _ h.2]
 |.sub x V U,b,h=>by cases b<;>simp[LE.same] at h;rw[LE.bn _ _ h.1.1,IE.bn _ _ h.1.2,IE.bn _ _ h.2]
 |.ins x n Z,b,h=>by cases b<;>simp[LE.same] at h;rw[LE.bn _ _ h.1.1,h.1.2,SV.o7 _ _ h.2]
def S.bn{s s':S}(h:S.same s s'=true):s=s':=by
 obtain⟨O,N,M,L,J,I,H,G⟩:=s;obtain⟨F,E,D,C,B,A,z,y⟩:=s';simp only[S.same,axI,beq_iff_eq,decide_eq_true_eq] at h;obtain⟨⟨⟨⟨⟨⟨⟨Z,X⟩,W⟩,V⟩,U⟩,R⟩,Q⟩,P⟩:=h;rw[SV.o7 _ _ Z,Kb X,W,V,U,R,Q,P]
def T.bn:∀(a b:T),T.same a b=true->a=b
 |.out e s,b,h=>by
  cases e with
  |normal=>
   cases b with
   |out X s'=>
    cases X with
    |normal=>rw[S.bn (s:=s) (s':=s') h]
    |_=>simp[T.same] at h
   |_=>simp[T.same] at h
  |_=>simp[T.same] at h
 |.stuck _,b,h=>by simp[T.same] at h
 |.dq _ _ _ _ _ _ _ _,b,h=>by simp[T.same] at h
 |.ret v W Z,b,h=>by cases b<;>simp[T.same] at h;rw[SV.bn _ _ h.1.1,Kb h.1.2,h.2]
 |.aW v,b,h=>by cases b<;>simp[T.same] at h;rw[SV.bn _ _ h]
 |.node c t f,b,h=>by cases b<;>simp[T.same] at h;rw[BE.bn _ _ h.1.1,T.bn _ _ h.1.2,T.bn _ _ h.2]
 |.az c t,b,h=>by cases b<;>simp[T.same] at h;rw[BE.bn _ _ h.1,T.bn _ _ h.2]
 |.call f L W Z V eP t,b,h=>by
  cases b<;>simp[T.same] at h;obtain⟨⟨⟨⟨⟨⟨U,R⟩,Q⟩,P⟩,O⟩,N⟩,M⟩:=h;rw[U,SV.o7 _ _ R,Kb Q,P,O,SV.bn _ _ N,T.bn _ _ M]
 |.loop av V J t,b,h=>by cases b<;>simp[T.same] at h;rw[h.1.1.1,h.1.1.2,SV.o7 _ _ h.1.2,T.bn _ _ h.2]
 |.back av x,b,h=>by cases b<;>simp[T.same] at h;rw[h.1,SV.o7 _ _ h.2]
 |.new e x Z I t,b,h=>by cases b<;>simp[T.same] at h;rw[h.1.1.1.1,LE.bn _ _ h.1.1.1.2,h.1.1.2,h.1.2,T.bn _ _ h.2]
 |.rows k x Z t,b,h=>by cases b<;>simp[T.same] at h;rw[h.1.1.1,LE.bn _ _ h.1.1.2,h.1.2,T.bn _ _ h.2]
 |.ey g k t f,b,h=>by cases b<;>simp[T.same] at h;rw[BE.bn _ _ h.1.1.1,BE.bn _ _ h.1.1.2,T.bn _ _ h.1.2,T.bn _ _ h.2]
 |.pick n g k t f,b,h=>by
  cases b<;>simp[T.same] at h;rw[IE.bn _ _ h.1.1.1.1,BE.bn _ _ h.1.1.1.2,BE.bn _ _ h.1.1.2,T.bn _ _ h.1.2,T.bn _ _ h.2]
def Gg:∀{l:List T}{t:T},t∈l->t∈CL l
 |[],t,h=>by cases h
 |u::V,t,h=>by
  simp only[CL];rcases axT.1 h with rfl|h;split;rename_i Z;obtain⟨w,X,W⟩:=ayh.1 Z;rw[T.bn _ _ W];exact Gg X;exact azt;split;exact Gg h;exact ayV _ (Gg h)
def aeO{p:Sp}{O:aa}{L:List LC}:∀{l:List BE}{t:T},(M8 l t).aG p O L->(∀b∈l,b.den O=true)/\t.aG p O L
 |[],t,h=>⟨λ_ Z=>(by cases Z),h⟩
 |b::r,t,h=>by
  simp only[M8,T.aG] at h;obtain⟨X,W⟩:=aeO h.2;exact⟨λx V=>(axT.1 V).elim (λe=>e▸h.1) (X x),W⟩
def apk{R:oR}{jy:List BE}{W:List OM}{k:S->T}{V:List OM}(h:(lJ cf R Z jy W f k e X V w).aG p U t):Ue cf jy w W=true:=by
 cases V with
 |nil=>
  cases X<;>simp only[lJ] at h<;>split at h;assumption;exact h.elim;assumption;exact h.elim
 |cons m P=>
  cases X with
  |zero=>exact h.elim
  |succ X=>
   simp only[lJ] at h;split at h;exact h.elim;rename_i Q;simpa using Q
def apl(s:S):s.bI []=s:=by
 obtain⟨Z,b,c,d,e,f,g,i⟩:=s;simp only[S.bI,S.mk.injEq,and_self,and_true];apply ayf;intro i;rw[qZ];cases Z[i]?<;>simp
def VZ:∀{l:List T}{t:T},t∈CL l->t∈l
 |[],t,h=>by cases h
 |u::Z,t,h=>by
  simp only[CL] at h;split at h;exact ayV _ (VZ h);rcases axT.1 h with rfl|h;exact azt;exact ayV _ (VZ h)
def aeP{O:aa}{L:List LC}:∀{l:List T},l≠[]->(∀t∈l,t.aG p O L)->(ym l).aG p O L
 |[],h,_=>absurd rfl h
 |[t],_,h=>h t azt
 |t::u::r,_,h=>by
  simp only[ym,T.aG];exact⟨λ_=>h t azt,λ_=>aeP (l:=u::r) (by simp) λx Z=>h x (ayV _ Z)⟩
def aeQ{k:S->T}{Z:SV->S->T}:∀{l:List T},(ym l).lK k Z=ym (l.map (T.lK k Z))
 |[]=>rfl
 |[t]=>rfl
 |t::u::r=>by
  simp only[ym,T.lK,axV];rw[aeQ (l:=u::r)];rfl
def apm{k:S->T}{R P:SV->S->T}(E:∀v N U t,((R v N).lK k e).aG p U t->(P v N).aG p U t)(h:((wa cf F Q w R).lK k e).aG p U t):(wa cf F Q w P).aG p U t:=by
 unfold wa at h⊢;cases M:cf.sig F with
 |none=>rw[M] at h;exact h.elim
 |some J=>
  simp only[M] at h⊢;cases I:fb cf.ty J with
  |none=>rw[I] at h;exact h.elim
  |some H=>
   simp only[I] at h⊢;cases G:vX cf.ty J ((w.cut Q H).bE H).1 with
   |none=>rw[G] at h;exact h.elim
   |some l=>
    simp only[G] at h⊢;split at h;rename_i D;rw[if_pos D];simp only[T.lK,T.aG] at h⊢;intro y V W C;refine(h y V W C).mono λZ q X=> ?_
    cases Z with
    |returned v=>
     obtain⟨B,A,z,x,u,r⟩:=X;exact⟨B,A,z,x,u,E _ _ _ _ r⟩
    |panicked o=>exact X
    |outgrown=>exact X
    exact h.elim
def apn{k:S->T}{F:SV->S->T}{E:YH}{m:OM}{N M:S->T}(R:∀W U t,((N W).lK k e).aG p U t->(M W).aG p U t)(h:((Aq cf (M9 cf) Z F m N w).lK k e).aG p U t):(Aq cf (gU cf y E) Z e m M w).aG p U t:=by
 unfold Aq at h⊢;cases V:db cf w m.o with
 |call c A=>
  cases c with
  |fn g=>
   simp only[V,M9] at h⊢;split at h;rename_i P;have P:cf.inl g=none:=by simpa using P
   simp only[gU,P];exact apm (λv W U t D=>R _ U t D) h;exact h.elim
  |yl n=>simp only[V] at h;exact h.elim
 |aW v=>simp only[V] at h;exact h.elim
 |no=>simp only[V] at h;exact h.elim
 |op=>
  simp only[V] at h⊢;cases J:(if Fl m.o.op then cP cf m.o m.bc false w else none) with
  |some b=>
   simp only[J,T.lK,T.aG] at h⊢;exact⟨h.1,λC B=>R _ _ _ (h.2 C B)⟩
  |none=>
   simp only[J] at h⊢;by_cases I:ke m.o.op=true;rw[if_pos I] at h⊢;cases H:wi cf w m.o with
   |none=>rw[H] at h;exact h.elim
   |some x=>
    obtain⟨b,v⟩:=x;simp only[H,T.lK,T.aG] at h⊢;exact⟨h.1,R _ _ _ h.2⟩
   rw[if_neg I] at h⊢;by_cases G:Jj m.o.op=true;rw[if_pos G] at h⊢;cases Q:dR cf m w with
   |ok W=>simp only[Q] at h⊢;exact R _ _ _ h
   |az b W=>simp only[Q] at h;exact h.elim
   |split b z u=>simp only[Q] at h;exact h.elim
   |no X=>simp only[Q] at h;exact h.elim
   rw[if_neg G] at h;exact h.elim
def apo{k:S->T}{J:SV->S->T}{U:YH}{jy:List BE}:∀(n:Nat)(W:List OM)(V:List OM)(s:S)(O:aa)(L:List LC),
  ((lJ cf (M9 cf) Z jy V f (.out .normal) J n W s).lK k e).aG p O L->(lJ cf (gU cf y U) Z jy V f k e n W s).aG p O L:=by
 intro n;induction n with
 |zero=>
  intro W V s O L h;cases W with
  |nil=>
   simp only[lJ] at h⊢;split at h;rename_i R;rw[if_pos R];exact h;exact h.elim
  |cons m r=>exact h.elim
 |succ n I=>
  intro W V s O L h;cases W with
  |nil=>
   simp only[lJ] at h⊢;split at h;rename_i R;rw[if_pos R];exact h;exact h.elim
  |cons m r=>
   simp only[lJ] at h⊢;split at h;exact h.elim;rename_i R;rw[if_neg R];rw[aeQ] at h;have P:=VY h;cases N:(Fj (m::r)).filter (Uf Z) with
   |nil=>rw[N] at h;exact h.elim
   |cons x H=>
    rw[N] at P;refine aeP (λM=> ?_) λt G=> ?_
    have:=Gg (azt (a:=Aq cf (gU cf y U) f e x.1 (λQ=>lJ cf (gU cf y U) Z jy (Fm Z x.1 V) f k e n x.2 Q) s) (l:=H.map λx=>Aq cf (gU cf y U) f e x.1 (λQ=>lJ cf (gU cf y U) Z jy (Fm Z x.1 V) f k e n x.2 Q) s));simp only[axV] at M;rw[M] at this;cases this;obtain⟨X,F,rfl⟩:=aya.1 (VZ G);exact apn (λQ O L E=>I _ _ _ _ _ E) (P _ (aya.2 ⟨_,Gg (aya.2 ⟨X,F,rfl⟩),rfl⟩))
structure aeR(cf:bh)(ops:Array Oper)(bs:List Nat)(qs ch:List OM):Prop where
 aeS:Ga ops bs
 wv:∀m∈qs++ch,∀x∈qs++ch,∀d,x.o.dst=some d->d∈gE ops m.o->(bs.getD m.j 0).testBit x.j=true
 dst:∀x∈qs++ch,∀y∈qs++ch,x.j≠y.j->∀d,x.o.dst=some d->y.o.dst≠some d
 gd:∀m∈qs++ch,m.o.guard=none/\m.bc=false
 qt:∀q∈qs,ke q.o.op=true
def apq{F:Fence}(hF:nc F)(ok:jE p cf){nn:Nat}(ih:uF p cf nn){D:bB}{B:jD}{yh:YH}(hY:AG p cf D.cH B yh){Q:Exit->Act->World->Prop}(HP:∀ch a' G pd y,cL p.w0 D pd y a'.defers G->p.R (.panicked ch) G->Q (.panic ch) a' G)
   {jy:List BE}{qs ch:List OM}{ds:List Nat}(hX:aeR cf ops Z qs ch)(b6:∀x∈qs++ch,∀d,x.o.dst=some d->d∈ds){k:S->T}(hB:B.n7 w U f t)(bX:∀b∈jy,b.bd U.i.length U.b.length U.r.length=true/\b.den U=true)
  (hk:∀z O' V' a' G L',bl w U f z O' V'->bZ w.av t L'->ao p.S0 p.w0 D cf.ty V' O' z a' G->(k z).aG p O' L'->Q .normal a' G)
  (b7:∀v z O' V' a' G L',bl w U f z O' V'->bZ w.av t L'->ao p.S0 p.w0 D cf.ty V' O' z a' G->(e v z).aG p O' L'->Q (.panic [{v:=v.den O' V',recovered:=false}]) a' G):
  ∀(al:Nat)(listed:Array Bool)(E ac qv:List OM)(s:S)(O:aa)(V:List Nat)(a:Act)(W:World)(L:List LC),(E++ac).length=al->aap ops listed (E++ac)->(∀q∈E,q∈qv)->(∀q∈qv,q∈qs)->(∀m∈ac,m∈ch)->
   bl w U f s O V->bZ w.av t L->ao p.S0 p.w0 D cf.ty V O (s.bI (qd E)) a W->dC cf.gl O->(lJ cf (gU cf (λN c s k=>dJ cf nn N c s yh k) yh) Z jy qv ds k e ac.length ac s).aG p O L->
   wpAnyIn F X p.P .any ops Q al listed a W:=by
 intro al;induction al with
 |zero=>
  intro listed E ac qv s O V a W L a9 hW a0 a5 hr hl hL R hg h;have hp:∀q∈E,q∈qs:=λq u=>a5 q (a0 q u)
  have a6:E++ac=[]:=ayl.1 a9;obtain⟨rfl,rfl⟩:=List.append_eq_nil_iff.1 a6;simp only[azM,lJ] at h;split at h;refine⟨?_,hk s O V a W L hl hL (by have:=R;simp only[qd,List.filterMap_nil,apl] at this;exact this) h⟩;cases af:Region.ready .any ops listed with
  |nil=>rfl
  |cons i r=>
   obtain⟨h1,o,ho,-⟩:=mem_ready.1 (show i∈Region.ready .any ops listed by rw[af];simp);obtain⟨m,hm,-⟩:=(hW.un i (ax9.1 ho).1).1 h1;cases hm
  exact h.elim
 |succ al b0=>
  intro listed E ac qv s O V a W L a9 hW a0 a5 hr hl hL R hg h;have hp:∀q∈E,q∈qs:=λq u=>a5 q (a0 q u)
  have a2:∀m∈E++ac,m∈qs++ch:=λm hm=>by
   rcases axS.1 hm with h1|h1;exact ayy _ (hp m h1);exact azl _ (hr m h1)
  refine⟨λaf=> ?_,λi hi=> ?_⟩;exfalso;obtain⟨m0,b8⟩:=List.exists_mem_of_length_pos (l:=E++ac) (by omega);obtain⟨m,hm,a6⟩:=aap.some hX.aeS hW m0.j ⟨m0,b8,rfl⟩;have:m.j∈Region.ready .any ops listed:=
   mem_ready.2 ⟨(hW.un m.j (hW.lt hm)).2 ⟨m,hm,rfl⟩,m.o,hW.mem m hm,λM he hb=>a6 M.on (aes he hb)⟩
  rw[af] at this;cases this;obtain⟨h1,o,ho,a6⟩:=mem_ready.1 hi;obtain⟨m,hm,rfl⟩:=(hW.un i (ax9.1 ho).1).1 h1;have bf:=hW.mem m hm;rw[bf] at ho;cases ho;have hd:∀M∈iM m.o,listed.getD M false=true:=λM he=>by
   obtain⟨ed,h2,h3,rfl⟩:=aet he;exact a6 ed h2 h3
  have bk:∀x∈E++ac,¬(Z.getD m.j 0).testBit x.j=true:=λx A hb=>hW.not A (hW.listed hX.aeS m.j m.o bf hd x.j (hW.lt A) hb)
  have af:∀J∈gE ops m.o,J∉qd E:=λJ ht u=>by
   obtain⟨x,A,a7⟩:=ayZ.1 u;exact bk x (ayy _ A) (hX.wv m (a2 m hm) x (a2 x (ayy _ A)) J a7 ht)
  obtain⟨ca,b1⟩:=hX.gd m (a2 m hm);have b2:=apk h;have cc:Region.wanted m.o (yielded ops a.tmps)=true:=VJ R (by simp[eA,ca]);unfold wpOpIn;rw[bf];simp only[cc,if_true];rcases axS.1 hm with cl|cp
  
  obtain⟨xs,ys,rfl⟩:=aBj cl;have u:=axU.1 b2 m (a0 m (by simp));split at u;rename_i d b v br hv;split at u;rename_i I hw;simp only[axI,ayb] at u;have cs:=SV.bn _ _ u.1;subst cs;have cQ:b.den O=true:=by
   rcases u.2 with C|C;cases b<;>simp only[BE.Ud,ax3] at C;simp only[BE.den];exact C;obtain⟨x,A,h6⟩:=ayh.1 C;rw[<-BE.bn _ _ h6,BE.cB hl.ext.agree x (bX x A).1];exact(bX x A).2
  have ag:=aeJ (O:=O) (hX.qt m (hp m (by simp))) b1 (aeK (ops:=ops) (ds:=qd (xs++m::ys)) af hv) cQ;obtain⟨v',G,V',an,R',H⟩:=JJ R ok.jF hg m ag;have a3:=hW.nd;rw[azd,axY] at hW a3;have a4:d∉qd (xs++ys):=λhh=>by
   obtain⟨x,A,a7⟩:=ayZ.1 hh;have bt:x.j≠m.j:=by
    rw[ayc] at a3;rcases axS.1 A with C|C;exact a3.2.2 x C m (by simp);exact Ne.symm ((ax5.1 a3.2.1).1 x (by simp[C]))
   exact hX.dst x (ayy _ (hp x (by rcases axS.1 A with C|C<;>simp[C]))) m (ayy _ (hp m (by simp))) bt d a7 br
  have hs:((s.bI (qd (xs++m::ys))).put m.o.dst v)=s.bI (qd (xs++ys)):=by
   rw[br];simp only[S.put,qL,S.bI];congr 1;apply ayf;intro i;rw[ayD,qZ,qZ,ayg,Gd];have ct:=(axJ.1 hw).1;by_cases hi:d=i;subst hi;rw[if_pos rfl,if_pos ct,hw];simp[a4];rw[if_neg hi];have cv:(qd (xs++m::ys)).contains i=(qd (xs++ys)).contains i:=by
    rw[ayS,ayj,ayj];simp only[qd,List.filterMap_append,azZ,br,axS,axT];constructor;rintro(C|C|C);exact .inl C;exact absurd C.symm hi;exact .inr C;rintro(C|C);exact .inl C;exact .inr (.inr C)
   rw[cv]
  rw[hs] at R' H;refine yF hF an (JR ag) ?_;refine b0 _ (xs++ys) ac qv s O V' _ G L (by simp at a9⊢;omega) ?_ (λq u=>a0 q (by rcases axS.1 u with C|C<;>simp[C])) a5 hr (hl.trans ⟨H.ext,H.mono,H.len,H.av⟩) hL R' hg h;rw[azd];exact hW.next hd;cases u;cases u
  
  obtain⟨xs,ys,rfl,b3⟩:=aeM cp;have cx:(xs++m::ys).length=(xs++ys).length+1:=by simp;omega
  have cy:Uf Z (m,xs++ys)=true:=by
   refine axU.2 λx A=> ?_
   have:=bk x (azl _ (by simp only[axS,axT] at A⊢;exact A.imp id .inr));simpa using this
  have h:(Aq cf (gU cf (λN c s k=>dJ cf nn N c s yh k) yh) ds e m (λz=>lJ cf (gU cf (λN c s k=>dJ cf nn N c s yh k) yh) Z jy (Fm Z m qv) ds k e (xs++ys).length (xs++ys) z) s).aG p O L:=by
   rw[cx] at h;generalize cI:xs++m::ys=c0 at h b3;cases c0 with
   |nil=>simp at cI
   |cons m0 r0=>
    simp only[lJ,b2,aAz,ax3,if_false] at h;exact VY h _ (Gg (aya.2 ⟨_,ayr.2 ⟨b3,cy⟩,rfl⟩))
  have c1:aap ops (listed.setIfInBounds m.j true) (E++(xs++ys)):=by
   have C:E++(xs++m::ys)=(E++xs)++m::ys:=by simp
   rw[C] at hW;have:=hW.next hd;simpa using this
  have a4:∀d,m.o.dst=some d->d∉qd E:=λd c2 hh=>by
   obtain⟨x,A,a7⟩:=ayZ.1 hh;have bt:x.j≠m.j:=(ayc.1 hW.nd).2.2 x A m (by simp);exact hX.dst x (a2 x (ayy _ A)) m (a2 m hm) bt d a7 c2
  have bb:∀(s1:S)(O1:aa)(V1:List Nat)(a1:Act)(W1:World)(L1:List LC),bl s O V s1 O1 V1->bZ s.av L L1->ao p.S0 p.w0 D cf.ty V1 O1 (s1.bI (qd E)) a1 W1->(lJ cf (gU cf (λN c s k=>dJ cf nn N c s yh k) yh) Z jy (Fm Z m qv) ds k e (xs++ys).length (xs++ys) s1).aG p O1 L1->wpAnyIn F X p.P .any ops Q al (listed.setIfInBounds m.j true) a1 W1:=
   λs1 O1 V1 a1 W1 L1 co c3 R1 c4=>b0 _ E (xs++ys) (Fm Z m qv) s1 O1 V1 a1 W1 L1 (by simp at a9⊢;omega) c1 (λq u=>ayr.2 ⟨a0 q u,by have:=bk q (ayy _ u);simpa using this⟩) (λq u=>a5 q (ayr.1 u).1) (λx A=>hr x (by simp only[axS,axT] at A⊢;exact A.imp id .inr)) (hl.trans co) (hL.trans c3 hl.av) R1 (hg.ext co.ext) c4
  have c5:=(Oj (cf:=cf) (s:=s) (O:=O) af).ev cf.gl;unfold Aq at h;split at h;rename_i g b4 b5;have c6:db cf (s.bI (qd E)) m.o=.call (.fn g) b4:=by rw[F3 c5];exact b5
  have c7:B.n7 (s.bI (qd E)) O V L:=by
   have:=hB.go hl hL;exact⟨⟨this.later.ext,this.later.mono,this.later.len,this.later.av⟩,this.NO⟩
  have hC:=Oc ok ih hY L (.fn g) b4 (s.bI (qd E)) _ _ O V a W (λM G=>match M with
    |.returned v=>wpAnyIn F X p.P .any ops Q al (listed.setIfInBounds m.j true) (a.put m.o.dst v) G
    |.panicked ch=>Q (.panic ch) a G
    |.outgrown=>LetsOut Q) c7 (apj h) R hg
   (λv z O' V' G L' H bx R' hs=>by
    simp only[yR] at hs;split at hs;rename_i a8;refine bb (({z with tmps:=s.tmps}:S).put m.o.dst v) O' V' _ G L' (bl.put (s':={z with tmps:=s.tmps}) (show bl s O V _ O' V' from⟨H.ext,H.mono,H.len,H.av⟩) _ _) bx ?_ hs;rw[AH a4];have:({z with tmps:=s.tmps}:S).bI (qd E)=z:=by
     simp only[S.bI] at a8⊢;rw[<-a8]
    rw[this];exact R'.put _ _;exact hs.elim)
   (λv z O' V' G L' H bx R' hs=>by
    simp only[yR] at hs;split at hs;rename_i a8;refine b7 v (({z with tmps:=s.tmps}:S).bI ds) O' V' a G L' (hl.trans ⟨H.ext,H.mono,H.len,H.av⟩) (hL.trans bx hl.av) ?_ hs;have:({z with tmps:=s.tmps}:S).bI ds=z.bI ds:=by
     have h6:=apa (s:=s) (ds:=ds) (es:=qd E) (λx A=>by
      obtain⟨y,hy,c8⟩:=ayZ.1 A;exact b6 y (a2 y (ayy _ hy)) x c8)
     have h7:=congrArg S.tmps h6;simp only[S.bI] at h7 a8⊢;rw[a8,h7]
    rw[this];exact R'.bI ds;exact hs.elim)
   (λch G pd y hA hR=>HP ch a G pd y hA hR)
  obtain⟨c9,dc⟩:=hC;refine⟨λN _=>hF.fn N, ?_⟩;have a3:∀c,m.o.op≠ .defer c:=λc dd=>by simp[db,dd] at b5
  rw[Oper.semAt_eq _ _ _ a3,NP R hg c6 c9,Oper.uponIn_enter];refine⟨λhd=>by rw[hF.wv] at hd;simp at hd,CallsIn.mono (hF.calls dc) (λM G he=> ?_)⟩;cases M<;>exact he;split at h;rename_i b hb;split at hb;rename_i df;simp only[T.aG] at h;have dk:=aph (cf:=cf) (ops:=ops) df af a4 hb;obtain⟨v',G,rv,an,dn,R',H⟩:=UY R ok.jF hg dk h.1;exact yF hF an (Vg hb) (bb b.s _ V _ G L ⟨H.ext,H.mono,H.len,H.av⟩ (bZ.refl _ _) R' (h.2 rv (by rw[ok.pt];exact dn)));cases hb;split at h;rename_i dr;split at h;rename_i b v hv;simp only[T.aG] at h;have ag:=aeJ (O:=O) dr b1 (aeK (ops:=ops) (ds:=qd E) af hv) h.1;obtain⟨v',G,V',an,R',H⟩:=JJ R ok.jF hg m ag;rw[<-AH a4] at R' H;exact yF hF an (JR ag) (bb (s.put m.o.dst v) O V' _ G L ⟨H.ext,H.mono,H.len,H.av⟩ (bZ.refl _ _) R' h.2);exact h.elim;split at h;rename_i dx;split at h;rename_i z dy;have dz:=apc (ops:=ops) dx af a4 dy;have ag:(dR cf m (s.bI (qd E))).gives O (z.bI (qd E)):=by rw[dz];rfl
  obtain⟨v',G,V',an,R',H⟩:=JJ R ok.jF hg m ag;exact yF hF an (JR ag) (bb z O V' _ G L ⟨H.ext,H.mono,H.len,H.av⟩ (bZ.refl _ _) R' h);exact h.elim;exact h.elim;exact h.elim
def aeT:∀{R:List OM}{s:S}{x:S×List BE},Ap cf R s=some x->x.1={s with tmps:=x.1.tmps}/\x.1.tmps.length=s.tmps.length/\(∀t,t∉qd R->x.1.tmps[t]?=s.tmps[t]?)/\∀b∈x.2,b.bd s.ni s.nb s.rs.length=true
 |[],s,x,h=>by simp only[Ap,axM] at h;subst h;exact⟨rfl,rfl,λ_ _=>rfl,λ_ V=>(by cases V)⟩
 |q::r,s,x,h=>by
  simp only[Ap] at h;split at h;rename_i b v Z;cases U:Ap cf r (s.put q.o.dst v) with
  |none=>rw[U] at h;cases h
  |some y=>
   rw[U] at h;simp only[axR,axM] at h;subst h;obtain⟨N,M,L,Q⟩:=aeT U;refine⟨?_, ?_,λt P=> ?_,λx X=> ?_⟩;show y.1=_;rw[N];cases q.o.dst<;>rfl;show y.1.tmps.length=_;rw[M];cases q.o.dst<;>simp[S.put,qL];have J:t∉qd r:=λO=>P (by
    simp only[qd,azZ];cases q.o.dst with
    |none=>exact O
    |some d=>exact ayV _ O)
   show y.1.tmps[t]?=_;rw[L t J,ja (λe=>P (by simp[qd,e]))];have W:(s.put q.o.dst v).ni=s.ni/\(s.put q.o.dst v).nb=s.nb/\(s.put q.o.dst v).rs=s.rs:=by cases q.o.dst<;>exact⟨rfl,rfl,rfl⟩
   have V:b.bd s.ni s.nb s.rs.length=true:=by
    unfold wi at Z;split at Z;cases Z;split at Z;cases Z;exact BE.aK.1 _;split at Z;rename_i bv;cases Z;exact bv;cases Z;cases Z
   simp only at X;split at X;have:=Q x X;rwa [W.1,W.2.1,W.2.2] at this;rcases axT.1 X with rfl|X;exact V;have:=Q x X;rwa [W.1,W.2.1,W.2.2] at this
  cases h
def aeU{F:Fence}(hF:nc F)(ok:jE p cf){nn:Nat}(ih:uF p cf nn){D:bB}{B:jD}{yh:YH}(hY:AG p cf D.cH B yh){Q:Exit->Act->World->Prop}(HP:∀I u E pd y,cL p.w0 D pd y u.defers E->p.R (.panicked I) E->Q (.panic I) u E)
  {id:Nat}{so:Bool}{c:Jk}{a:Act}{W:World}{k:XE->S->T}(hB:B.n7 w U Z t)(H:Fp cf so ops w=some c)
  (h:(Jp cf (gU cf (λf c w k=>dJ cf nn f c w yh k) yh) ops k c).aG p U t)(R:ao p.S0 p.w0 D cf.ty Z U w a W)(hg:dC cf.gl U)
  (hk:∀l r V' u E L',bl w U Z l r V'->bZ w.av t L'->ao p.S0 p.w0 D cf.ty V' r l u E->(k .normal l).aG p r L'->Q .normal u E)
  (bb:∀v l r V' u E L',bl w U Z l r V'->bZ w.av t L'->ao p.S0 p.w0 D cf.ty V' r l u E->(k (.aW v) l).aG p r L'->Q (.panic [{v:=v.den r V',recovered:=false}]) u E):
  (Code.region id ops true).wpIn F X p.P Q a W:=by
 unfold Fp at H;split at H;rename_i af;obtain⟨ag,al⟩:∃ag,ag=ez (λ_=>false) false true 0 w.boxes.length ops.toList:=⟨_,rfl⟩;obtain⟨J,a2⟩:∃J,J=yo so ops w.boxes.length:=⟨_,rfl⟩;obtain⟨I,a3⟩:∃I,I=yp so ops w.boxes.length:=⟨_,rfl⟩;have bd:J=ag.filter λm=>(Na so ops).contains m.j:=by rw[a2,al];rfl
 have bf:I=ag.filter λm=> !(Na so ops).contains m.j:=by rw[a3,al];rfl
 have af:=(axI _ _▸af).2;unfold Fo at af;rw[<-a2,<-a3,<-al] at af;rw[<-a2,<-a3] at H;cases hq:Ap cf J (w.room (jU ops.toList)) with
 |none=>rw[hq] at H;cases H
 |some x1=>
  obtain⟨g,jy⟩:=x1;rw[hq] at H;simp only[azW,Ui] at H;split at H;cases H;cases H;obtain⟨a5,h⟩:=aeO h;simp only at h a5;have h:(lJ cf (gU cf (λf c w k=>dJ cf nn f c w yh k) yh) (lI ops.toList) jy J (Am ops.toList) (k .normal) (λv=>k (.aW v)) I.length I g).aG p U t:=by
   split at h;exact h;exact apo _ _ _ _ _ _ h
  simp only[Uh,axI,beq_iff_eq] at af;obtain⟨⟨⟨⟨⟨⟨⟨⟨c1,c2⟩,c4⟩,c5⟩,c6⟩,c7⟩,c8⟩,c9⟩,bx⟩:=af;have ac:∀m∈J++I,m∈ag:=λm M=>by
   rcases axS.1 M with h1|h1;rw[bd] at h1;exact(ayr.1 h1).1;rw[bf] at h1;exact(ayr.1 h1).1
  have a6:∀m∈ag,ops[m.j]?=some m.o:=λm M=>by
   obtain⟨i,C⟩:=aAk.1 M;rw[al] at C;have h1:=J7 _ _ _ _ _ _ _ _ C;have h2:=VQ _ _ _ _ _ _ _ _ C;rw[h2,ayg];simpa using h1
  have a7:=Oa c4;have hX:aeR cf ops (lI ops.toList) J I:=by
   refine⟨aeE c1,λm M x A d hd G=> ?_,λx A y hy bk d a8 a9=> ?_,λm M=> ?_,λq hq=> ?_⟩;have:=axU.1 (axU.1 c5 m (ac m M)) x (ac x A);rw[hd] at this;simp only[ayb,ax0] at this;rcases this with h5|h5;rw[ayj.2 G] at h5;cases h5;exact h5;obtain⟨i,C⟩:=aAk.1 (ac x A);obtain⟨j,hj⟩:=aAk.1 (ac y hy);have br:i≠j:=λe=>by subst e;rw[C] at hj;cases hj;exact bk rfl
   have an:=(axJ.1 C);have a0:=(axJ.1 hj);rcases aBe br with a4|a4;exact(azn.1 a7 i j an.1 a0.1 a4) d (by rw[an.2];exact a8) (by rw[a0.2];exact a9);exact(azn.1 a7 j i a0.1 an.1 a4) d (by rw[a0.2];exact a9) (by rw[an.2];exact a8);have:=axU.1 c2 m (ac m M);simp only[axI,ax0,aAE] at this;exact this;have:=axU.1 c6 q hq;simp only[axI] at this;exact this.1
  obtain⟨Rr,a1⟩:=R.room (jU ops.toList);have z:=Rr.drew;obtain⟨e1,e2,e3,e4⟩:=aeT hq;simp only at e1 e2 e3 e4;have Rb:ao p.S0 p.w0 D cf.ty (Z++axW (jU ops.toList) 0) U (g.bI (qd J)) a {W with drawn:=W.drawn+1}:=by
   have hh:g.bI (qd J)={w.room (jU ops.toList) with tmps:=oW (qd J) 0 g.tmps}:=by
    rw[e1];rfl
   rw[hh];refine⟨z.mem,z.dX,z.ei,z.eb,z.er,z.bY,by simp only[Gd,e2];exact z.size,λN sv G=> ?_,z.bw⟩;simp only at G;rw[qZ,ayg] at G;cases A:g.tmps[N]? with
   |none=>rw[A] at G;cases G
   |some x=>
    rw[A] at G;simp only[axR,axM] at G;split at G;exact .inl G.symm;rename_i bs;subst G;exact z.tmps N x (by rw[<-e3 N (λM=>bs (ayj.2 M))];exact A)
  have co:bl w U Z g U (Z++axW (jU ops.toList) 0):=by
   rw[e1];exact⟨a1.ext,a1.mono,a1.len,a1.av⟩
  refine wpIn_region_any ok.Vo ?_;refine apq (ds:=Am ops.toList) hF ok ih hY HP hX (λx A d hd=> ?_) hB (λb hb=>⟨by have:=e4 b hb;rw[R.ei,R.eb,R.er];exact this,a5 b hb⟩) hk bb ops.size _ J I J g U _ a _ t c8 ?_ (λ_ h=>h) (λ_ h=>h) (λ_ h=>h) co (bZ.refl _ _) Rb hg h;have h2:ops.toList[x.j]?=some x.o:=by have:=a6 x (ac x A);simpa using this
  exact ayZ.2 ⟨x.o,ax4 h2,hd⟩;refine⟨λm M=>a6 m (ac m M),λi C=> ?_,by simp,λj o ho hj=> ?_, ?_⟩;constructor;intro _;have:=axU.1 c7 i (by simpa using C);obtain⟨m,M,hj⟩:=ayh.1 this;exact⟨m,M,by simpa using hj⟩;intro _;simp[C];exfalso;have bt:j<ops.size:=(ax9.1 ho).1;simp[bt] at hj;have:=VT c9;rw[azS] at this;exact this
 cases H
end
end
section
section
variable{p:Sp}{o:bh}
def jD.here(s:S)(O:aa)(V:List Nat)(L:List LC):(jD.mk s O V L).n7 s O V L:=⟨bl.refl _ _ _,bZ.refl _ _⟩
def apr(X:Array Nat)(W:List Value)(A:Array Value):(X.zip W.toArray).foldl (λ(Z:Array Value)(x:Nat×Value)=>match x with|(t,a)=>Z.setIfInBounds t a) A=(X.toList.zip W).foldl (λ(Z:Array Value)(x:Nat×Value)=>Z.setIfInBounds x.1 x.2) A:=by
 rw[<-aBd];simp[Array.toList_zip]
def aps(ok:jE p o)(ih:uF p o X){al:Func}(an:p.P.funcs[F]?=some al){ps:Array Tmp}{assign body:Code}{s:S}{L:List LC}{O:aa}{V:List Nat}{a:Act}{sE:S}{l:Nat}{rec:Loop}{OB:List (Nat×Loop)}
  (hE:sE.boxes=s.boxes)(cQ:SV.cq O.i.length O.b.length O.r.length (aD s.boxes) s.tmps=true)(bk:a.tmps.size=s.tmps.length)(br:∀(t:Nat)(I:SV),s.tmps[t]?=some I->I=.any\/a.tmps[t]?=some (I.den O V))
  (bs:gF assign=false)(bt:gF body=false){n0:Nat}(C:rec={state:=.ready,pending:=none,fn:=F,tmps:=a.tmps,params:=ps,assign,body,defers:=rec.defers})(B:OB[n0]?=some (l,rec)):
  AG p o OB ⟨sE,O,V,L⟩ (Jm n0 ps.size λN U k1 a5=>
   dJ o X F assign (yr U s ps.toList N) fT (Jl n0 λz=>dJ o X F body (z.CO n0 .busy) fT (Nc n0 U k1 a5))):=by
 intro D hD L1 m N U k1 a5 M H a1 W1 R' hB h R hg hk bx hp Z hF mm;unfold Jm at h;split at h;rename_i hc;simp only[axI,beq_iff_eq,decide_eq_true_eq] at hc;obtain⟨⟨⟨⟨c1,c2⟩,c3⟩,c4⟩,c5⟩:=hc;subst c1;simp only[S.da,axI] at c5;rw[<-hD] at B;have a6:nW rec .ready=rec:=by rw[C];rfl
 obtain⟨y1,y2,y3⟩:=R.bY.cH m l rec .ready B c3;rw[a6] at y2;have bX:M.y.getD m 0=l:=by simp[axN,y1]
 rw[bX];have a7:rec.params=ps:=by rw[C]
 have b0:=run_yield (P:=p.P) (args:=(SV.ap M H N).toArray) y2 (by rw[a7];simpa using c4);refine⟨_,_,_,_,b0, ?_⟩;have e1:rec.fn=F:=by rw[C]
 have e2:rec.assign=assign:=by rw[C]
 have e3:rec.body=body:=by rw[C]
 have e4:rec.tmps=a.tmps:=by rw[C]
 rw[e1,e2,e3,e4,a7];refine aoU hF an ?_;obtain⟨ms,m1,m0,m2,m3⟩:=R.bY.kh;have hA:=R.bY.enter m2 m3 true;have b1:∀(t:Nat)(I:SV),s.tmps[t]?=some I->I=.any\/a.tmps[t]?=some (I.den M H):=by
  intro t I ht;rcases br t I ht with h1|h1;exact .inl h1;right;have hX:=hB.later.ext;simp only[hE] at hX;rw[hX.den (qT cQ ht)];exact h1
 obtain⟨q1,q2⟩:=aex (O:=M) (V:=H) ps.toList N s.tmps a.tmps bk b1;rw[<-apr] at q1 q2;have RS:ao p.S0 p.w0 ⟨ms++D.out,D.cH,true,[]⟩ o.ty H M (yr U s ps.toList N) {tmps:=(ps.zip (SV.ap M H N).toArray).foldl (λ(b2:Array Value)(x:Nat×Value)=>match x with|(t,a)=>b2.setIfInBounds t a) a.tmps,defers:=[]} W1:=
  ⟨R.mem,R.dX,R.ei,R.eb,R.er,hA,q1,q2,R.bw⟩
 have ac:∀(A:Act) G E y,cL p.w0 ⟨ms++D.out,D.cH,true,[]⟩ E y A.defers G->A.defers=[]/\cL p.w0 D E y a1.defers G:=by
  intro A G E y w;obtain⟨b3,u,p0,f,p3⟩:=w.kh;have:b3=[]:=p0 rfl;subst this;have a8:A.defers=[]:=by simpa using u
  rw[a8] at w;refine⟨a8, ?_⟩;rw[m1];exact w.Gb m0
 refine ih ⟨ms++D.out,D.cH,true,[]⟩ ⟨yr U s ps.toList N,M,H,L1⟩ fT (some l) F assign (yr U s ps.toList N) _ L1 M H _ W1 _ (C9 _ _) (jD.here _ _ _ _) rfl (λ_=>bs) ⟨al,an⟩ h RS hg ?_ ?_;intro ch A G E y w hR;obtain⟨u,f⟩:=ac A G E y w;exact .inr ⟨ch,rfl,u,hp ch G E y f hR⟩;intro e z O2 V2 a2 W2 L2 a0 b4 R2 q;cases e with
 |normal=>
  simp only[Jl] at q;split at q;rename_i a9;simp only[decide_eq_true_eq] at a9;left;obtain⟨z1,z2,z3⟩:=R2.bY.cH m l rec .ready B a9;rw[a6] at z2;have b5:({rec with state:=.busy}:Loop)=nW rec .busy:=by rw[C];rfl
  have bb:=run_beginRound (P:=p.P) z2 (by rw[C]);rw[b5] at bb;refine⟨rfl,_,bb, ?_⟩;have R3:ao p.S0 p.w0 ⟨ms++D.out,D.cH,true,[]⟩ o.ty V2 O2 (z.CO m .busy) a2 (W2.putObj l (.loop (nW rec .busy))):=
   R2.obj z2 rfl z3 _ rfl (R2.bY.VO B .busy)
  refine ih ⟨ms++D.out,D.cH,true,[]⟩ ⟨z.CO m .busy,O2,V2,L2⟩ fT (some l) F body (z.CO m .busy) _ L2 O2 V2 a2 _ _ (C9 _ _) (jD.here _ _ _ _) rfl (λ_=>bt) ⟨al,an⟩ q R3 (hg.ext a0.ext) ?_ ?_;intro ch A G E y w hR;obtain⟨u,f⟩:=ac A G E y w;exact⟨u,hp ch G E y f hR⟩
  ·intro e Q d V3 a3 W4 L3 af b6 k ag;have b7:m<Q.pd.length:=by
    rw[<-k.bY.len];exact(axJ.1 B).1
   obtain⟨u1,u2,u3⟩:=k.bY.cH m l rec Q.pd[m] B (axK b7);have W:bl (yr U s ps.toList N) M H Q d V3:=a0.trans (s':=z) ⟨af.ext,af.mono,af.len,af.av⟩;have bd:bZ U.av L1 L3:=bZ.trans (m:=z.av) b4 b6 a0.av;have a4:∀(J:kV)(j:Option Code),(∀g,({nW rec g with state:=if j.isNone then .ready else .done,pending:=j}:Loop)=nW rec J)->
     (k1 (.bool (.c j.isNone)) {Q with tmps:=U.tmps,pd:=Q.pd.set m J}).aG p d L3->∃v w',(Instr.endRound l j).run p.P W4=.ok v w'/\R' (.returned v) w':=by
    intro J j b8 ca;have bf:=run_endRound (P:=p.P) j u2;rw[b8] at bf;refine⟨_,_,bf, ?_⟩;have R5:=k.obj u2 rfl u3 (.loop (nW rec J)) rfl (k.bY.VO B J);have cc:cL p.w0 D (Q.pd.set m J) d.y a1.defers (W4.putObj l (.loop (nW rec J))):=(ac a3 _ _ _ (k.bY.VO B J)).2;have cl:bl (yr U s ps.toList N) M H {Q with pd:=Q.pd.set m J} d V3:=⟨W.ext,W.mono,W.len,W.av⟩;have RB:=R.back c5.1 cl rfl R5 (D2:=D) (a2:=a1) rfl cc;have:=hk (.bool (.c j.isNone)) {Q with tmps:=U.tmps,pd:=Q.pd.set m J} d V3 _ L3 ⟨W.ext,W.mono,W.len,W.av⟩ bd RB ca;simpa[SV.den,BE.den] using this
   cases e with
   |normal=>exact a4 .ready none (λg=>by cases g<;>rfl) ag
   |ret=>exact a4 (.done .ret) (some .ret) (λg=>by cases g<;>rfl) ag
   |exit id=>exact a4 (.done (.exit id)) (some (.exit id)) (λg=>by cases g<;>rfl) ag
   |aW v=>
    obtain⟨u,f⟩:=ac a3 _ _ _ k.bY;have RB:=R.back c5.1 W rfl k (D2:=D) (a2:=a1) rfl f;exact⟨u,bx v {Q with tmps:=U.tmps} d V3 _ L3 ⟨W.ext,W.mono,W.len,W.av⟩ bd RB ag⟩
  exact q.elim
 |ret=>exact q.elim
 |exit id=>exact q.elim
 |aW v=>exact q.elim
 exact h.elim
def apu(ok:jE p o)(ih:uF p o X){D:bB}{b5:Func}(b6:p.P.funcs[F]?=some b5){f:Operand}{ps:Array Tmp}{assign body:Code}{k:XE->S->T}{a:Act}{W:World}{N:Exit->Act->World->Prop}
  (a8:D.rd=false){g:FuncId}{c:Code}{nt:Nat}(a9:w.ev o.gl f=.fn g Q)(bb:o.inl g=some (c,nt,[]))
  (bv:w.da Q=true)(a2:w.sD w.pd.length=false)(b7:SV.m7 w.pd.length Q=false)(b8:gF assign=false)(ca:gF body=false)
  (h:(dJ o X g c (Fq w nt Q) (Jm w.pd.length ps.size λcc s1 k1 cl=>dJ o X F assign (yr s1 w ps.toList cc) fT (Jl w.pd.length λs2=>dJ o X F body (s2.CO w.pd.length .busy) fT (Nc w.pd.length s1 k1 cl))) (CN w k)).aG p U t)
  (R:ao p.S0 p.w0 D o.ty Z U w a W)(hg:dC o.gl U)
  (HP:∀ch G C pd y,cL p.w0 D pd y G.defers C->p.R (.panicked ch) C->N (.panic ch) G C)
  (hk:∀e J I B G C j,bl w U Z J I B->bZ w.av t j->ao p.S0 p.w0 D o.ty B I J G C->(k e J).aG p I j->N (e.to I B) G C):
  gZ none F p.P (.rangeFunc f ps assign body) N a W:=by
 obtain⟨ms,m1,m0,m2,m3⟩:=R.bY.kh;simp only[S.da,axI] at bv;simp only[S.sD,ayp] at a2;obtain⟨rec,a3⟩:∃rec:Loop,rec={state:=.ready,pending:=none,fn:=F,tmps:=a.tmps,params:=ps,assign,body,defers:=W.heap.size}:=⟨_,rfl⟩;obtain⟨z,an⟩:∃z,(W.alloc (.deferred (some []))).alloc (.loop rec)=z:=⟨_,rfl⟩;have co:z.heap[W.heap.size+1]?=some (.loop rec):=by
  rw[<-an];have:=World.alloc_heap_new (W.alloc (.deferred (some []))) (.loop rec);rwa [World.size_alloc] at this
 have cp:z.heap[W.heap.size]?=some (.deferred (some [])):=by
  rw[<-an];exact(Below.heap_alloc _ _ _ (by simp)).trans (World.alloc_heap_new W _)
 have bd:Below W.heap.size W z:=by
  rw[<-an];exact⟨rfl,rfl,rfl,by simp;omega,λk hk=>(Below.heap_alloc _ _ _ (by simp;omega)).trans (Below.heap_alloc _ _ _ hk)⟩
 have R1:=R.below bd;have cs:nW rec .ready=rec:=by rw[a3];rfl
 have ct:p.w0.heap.size<=W.heap.size:=R.mem.base.size;have bf:∀(X x:Nat)(r':Loop),D.cH[X]?=some (x,r')->x<W.heap.size:=by
  intro X x r' hn;have a4:X<w.pd.length:=by rw[<-R.bY.len];exact(axJ.1 hn).1
  exact wl (R.bY.cH X x r' w.pd[X] hn (axK a4)).2.1
 have bk:cL p.w0 ⟨W.heap.size::(ms++D.out),D.cH++[(W.heap.size+1,rec)],false,[]⟩ (w.pd++[.ready]) (U.y++[W.heap.size+1]) [] z:=
  R1.bY.push m2 (λd u=>⟨(bd.block d (wl (m3 d u).1)).trans (m3 d u).1,(m3 d u).2⟩) cp (λhm=>by have:=wl (m3 _ hm).1;omega) ct (by rw[cs];exact co) (λX x r' hn e=>by have:=bf X x r' hn;omega) (by omega)
 have br:U.y.length=w.pd.length:=R.bY.oZ;have a0:∀m,m≠w.pd.length->(U.y++[W.heap.size+1]).getD m 0=U.y.getD m 0:=by
  intro m hm;simp only[axN];by_cases a4:m<U.y.length;rw[axL a4];rw[axP (by omega),ax8 (l:=U.y) (by omega),ax8 (by simp;omega)]
 have bs:∀(M:Nat)(sv:SV),w.tmps[M]?=some sv->sv=.any\/a.tmps[M]?=some (sv.den (U.at (U.y++[W.heap.size+1])) Z):=by
  intro M sv ht;rcases R.tmps M sv ht with E|E;exact .inl E;right;rw[SV.J5 a0 Z sv (aew a2.1 sv (ax4 ht))];exact E
 have cv:ao p.S0 p.w0 ⟨W.heap.size::(ms++D.out),D.cH++[(W.heap.size+1,rec)],false,[]⟩ o.ty Z (U.at (U.y++[W.heap.size+1])) {w with pd:=w.pd++[.ready]} {a with defers:=[]} z:=
  ⟨R1.mem.at a0 a2.2,R1.dX,R1.ei,R1.eb,R1.er,bk,R1.size,bs,λk e rv b E h2 h3=>let M:=R1.bw k e rv b E h2 h3;⟨M.own,M.mem,M.box,M.alone,M.inner⟩⟩
 have RE:=cv.enter (.yl w.pd.length::Q) nt bk;have cx:SV.ap (U.at (U.y++[W.heap.size+1])) Z (.yl w.pd.length::Q)=.func (.yield (W.heap.size+1)) #[] #[]::SV.ap U Z Q:=by
  simp only[SV.ap,SV.den];rw[SV.Gc a0 Z Q b7];congr 3;simp only[aa.at];rw[<-br];simp
 have cy:a.eval f=.func (.func g) #[] (SV.ap U Z Q).toArray:=by
  have:=bR R hg f (by rw[a9];rfl);rw[a9,SV.den] at this;exact this
 have eg:=ok.AB g (.inr (by rw[bb];rfl));obtain⟨al,hf,cI,c0,bp⟩:=ok.inl g c nt [] bb;refine aoS ⟨W.heap.size+1,[i9 W.heap.size],z,{target:=.fn (.func g) (SV.ap U Z Q).toArray,args:= #[.func (.yield (W.heap.size+1)) #[] #[]]},z,g,
  #[.func (.yield (W.heap.size+1)) #[] #[]]++(SV.ap U Z Q).toArray,z, ?_, ?_, ?_, ?_⟩
 rw[<-an,a3];exact run_enterLoop_outer _ _ _ _ _
 ·simp only[resolve,cy];simp[go_sem]
 ·simp[invoke,go_sem,eg]
 have c1:(#[.func (.yield (W.heap.size+1)) #[] #[]]++(SV.ap U Z Q).toArray:Array Value)=(SV.ap (U.at (U.y++[W.heap.size+1])) Z (.yl w.pd.length::Q)).toArray:=by
  rw[cx];simp
 rw[c1];refine J3 hf cI ?_;rw[c0];have bt:([i9 W.heap.size]++a.defers:List Deferred)=(W.heap.size::ms).map i9++D.base:=by rw[m1];rfl
 have bx:(D.cH++[(W.heap.size+1,rec)])[w.pd.length]?=some (W.heap.size+1,rec):=by rw[<-R.bY.len];simp
 refine ih ⟨W.heap.size::(ms++D.out),D.cH++[(W.heap.size+1,rec)],false,[]⟩ ⟨Fq w nt Q,U.at (U.y++[W.heap.size+1]),Z,t⟩ _ none g c (Fq w nt Q) (CN w k) t _ Z _ z _
  (aps ok ih b6 (a:=a) (s:=w) (sE:=Fq w nt Q) (L:=t) (ps:=ps) (O:=U.at (U.y++[W.heap.size+1])) (V:=Z) rfl (R.uu bv.1).1 R.size bs b8 ca (by rw[a3]) bx) (jD.here _ _ _ _) rfl (λhh=>by cases hh) ⟨al,hf⟩ (ph p _ U t _ h) RE hg ?_ ?_
 intro ch G C pd y hA hR;obtain⟨c2,q1,q0,q2,q3⟩:=hA.kh;rw[q1] at hA;have ag:=(hA.n8).pop a8;show LeavesInM Fence.wide 0 p.P al G.tmps _ G.defers (.panicking ch) C;rw[q1];refine pZ (by simp) (ayJ.1 q2).1 (λd u=>(q3 d (by simp[u])).1) ?_;exact HP ch _ _ _ _ (by rw[<-bt] at ag;exact ag) (J6 (ok.NZ ch) (λd u=>(q3 d (by simp[u])).2) hR);intro e J I B G C j q hL RR H;obtain⟨c2,q1,q0,q2,q3⟩:=RR.bY.kh;have A:=RR.n8 q1;have ag:=A.bY.pop a8;have bX:I.y=U.y++[W.heap.size+1]:=q.ext.agree.y;have c3:I.y.take D.cH.length=U.y:=by rw[bX,R.bY.len,<-br];simp
 rw[c3,<-bt,R.bY.len] at ag;have b0:∀m,m≠w.pd.length->U.y.getD m 0=I.y.getD m 0:=λm hm=>by rw[bX];exact(a0 m hm).symm
 have a5:bl w U Z (w.yq J) (I.at U.y) B:=⟨⟨⟨q.ext.agree.i,q.ext.agree.b,q.ext.agree.r,rfl⟩,q.ext.li,q.ext.lb,q.ext.lr,q.ext.ad⟩,q.mono,q.len,q.av⟩;have b1:∀(W3:World),gY p.S0 p.w0 B I J.boxes o.ty J.rs W3->(∀(k:Nat)(e:TypeId)(rv:RV)(b:Nat),J.rs[k]?=some (.own e)->I.r[k]?=some rv->rv.iN=some b->ur p.S0 p.w0 B I J.boxes o.ty J.rs W3 k e rv b)->sF w.pd.length J.boxes=false->
   cL p.w0 D (J.pd.take w.pd.length) U.y ([i9 W.heap.size]++a.defers) W3->ao p.S0 p.w0 D o.ty B (I.at U.y) (w.yq J) {a with defers:=[i9 W.heap.size]++a.defers} W3:=by
  intro W3 hm ht hb c4;refine⟨hm.at b0 hb,A.dX,A.ei,A.eb,A.er,c4,R.size,λM sv h=> ?_,λk e rv b E h2 h3=>let M:=ht k e rv b E h2 h3;⟨M.own,M.mem,M.box,M.alone,M.inner⟩⟩;rcases R.tmps M sv h with E|E;exact .inl E;right;rw[a5.ext.den (qT (R.uu bv.1).1 h)];exact E
 have b2:w.pd.length<J.pd.length:=by
  have:=A.bY.len;simp only[axX,ayu,azM] at this;rw[R.bY.len] at this;omega
 obtain⟨u1,u2,u3⟩:=A.bY.cH w.pd.length (W.heap.size+1) rec J.pd[w.pd.length] bx (axK b2);have a6:∀(st:kV)(e:XE)(a1:Option Code),J.pd[w.pd.length]?=some st->(nW rec st).state≠ .busy->(nW rec st).pending=a1->sF w.pd.length J.boxes=false->(k e (w.yq J)).aG p I j->
   (∀W4,N (e.to (I.at U.y) B) {a with defers:=[i9 W.heap.size]++a.defers} W4->(match a1 with|none=>N .normal {a with defers:=[i9 W.heap.size]++a.defers} W4|some c=>gZ none F p.P c N {a with defers:=[i9 W.heap.size]++a.defers} W4))->
   LeavesInM Fence.wide 0 p.P al G.tmps (VL none F p.P (W.heap.size+1) N {a with defers:=[i9 W.heap.size]++a.defers}) G.defers .returning C:=by
  intro st e a1 ac c5 hj af c6 hq;rw[q1];refine pZ (by simp) (ayJ.1 q2).1 (λd u=>(q3 d (by simp[u])).1) ⟨_,JS A ok.jF (l:=[]) (by rw[bp];rfl), ?_⟩;have c7:J.pd[w.pd.length]=st:=by
   rw[axK b2] at ac;simpa using ac
  rw[c7] at u2;have b3:=run_endLoop (P:=p.P) u2 c5;rw[hj] at b3;refine⟨a1,_,b3,hq _ ?_⟩;have c8:∀(X x:Nat)(r':Loop),D.cH[X]?=some (x,r')->x≠W.heap.size+1:=λX x r' hn e=>by have:=bf X x r' hn;omega
  refine hk e (w.yq J) (I.at U.y) B _ _ j a5 hL (b1 _ (A.mem.obj u2 rfl u3 _) (λk e rv b E h2 h3=>(A.bw k e rv b E h2 h3).obj u2 rfl _) af (ag.put u2 c8 _)) (ph p _ I j _ c6)
 have b4:(CN w k .ret J).aG p I j->LeavesInM Fence.wide 0 p.P al G.tmps (VL none F p.P (W.heap.size+1) N {a with defers:=[i9 W.heap.size]++a.defers}) G.defers .returning C:=by
  intro H;simp only[CN] at H;split at H;exact H.elim;rename_i af;have a7:sF w.pd.length J.boxes=false:=by simpa using af
  split at H;rename_i ac;exact a6 .ready .normal none ac (by simp[nW]) rfl a7 H (λ_ h=>h)
  ·rename_i ac;exact a6 (.done .ret) .ret (some .ret) ac (by simp[nW]) rfl a7 H (λ_ h=>yQ (n:=0) (wpIn_ret h))
  ·rename_i id ac;exact a6 (.done (.exit id)) (.exit id) (some (.exit id)) ac (by simp[nW]) rfl a7 H (λ_ h=>yQ (n:=0) (wpIn_exit h))
  exact H.elim
 cases e with
 |normal=>exact b4 H
 |ret=>exact b4 H
 |exit id=>exact H.elim
 |aW v=>
  simp only[CN] at H;split at H;exact H.elim;rename_i af;simp only[ayb,not_or,aAJ] at af;show LeavesInM Fence.wide 0 p.P al G.tmps _ G.defers (.panicking _) C;rw[q1];refine pZ (by simp) (ayJ.1 q2).1 (λd u=>(q3 d (by simp[u])).1) ?_;have:=hk (.aW v) (w.yq J) (I.at U.y) B _ _ j a5 hL (b1 _ A.mem A.bw af.2 ag) (ph p _ I j _ H);simp only[XE.to] at this;rw[SV.J5 b0 B v af.1] at this;exact this
end
end
section
section
variable{d:bh}{p:Sp}{L:List LC}{V:List Nat}{W:World}
def Up(O Z:aa):Prop:=∃l,Z={O with r:=O.r++l}
def Up.refl(O:aa):Up O O:=⟨[],by simp⟩
def Up.trans{Z X:aa}(h:Up U Z)(k:Up Z X):Up U X:=by
 obtain⟨l,rfl⟩:=h;obtain⟨m,rfl⟩:=k;exact⟨l++m,by simp⟩
def Up.agree{Z:aa}(h:Up U Z):fl U Z U.i.length U.b.length U.r.length:=by
 obtain⟨l,rfl⟩:=h;have:∀(l:List RV)(U:aa),U.ext (l.map XV.r)={U with r:=U.r++l}:=by
  intro l;induction l with
  |nil=>intro U;simp[aa.ext]
  |cons x R X=>intro U;simp only[axV,aa.ext,X,aa.add];simp
 rw[<-this l U];exact As _ _
def sR(O:aa)(Z:List RK)(X:List kV):S:=⟨[],[],O.i.length,O.b.length,Z,0,0,X⟩
def Kc(Z:List RK):Prop:=∀(k:Nat)(e:TypeId),Z[k]?≠some (RK.own e)
def aeV(p:Sp)(d:bh)(D:bB)(a:Act)(W:World)(L:List LC)(V:List Nat)(M:aY)(Q:List kV)(Z:aa)(v:SV)(f:List RK->(SV->List RK->T)->T):Prop:=
 ∀(U:List RK)(O:aa)(k:SV->List RK->T),ao p.S0 p.w0 D d.ty [] O (sR O U Q) a W->Up Z O->Kc U->v.bd Z.i.length Z.b.length Z.r.length (aD M)=true->(f U k).aG p O L->
  ∃P R X,ao p.S0 p.w0 D d.ty [] X (sR X R Q) a W/\Up O X/\Kc R/\(∀N,Up X N->P.den N []=v.den Z V)/\(k P R).aG p X L
def Om{D:bB}{a:Act}{H:aY}{P:List kV}{X:aa}{f:SV->List RK->(SV->List RK->T)->T}(G:∀v,aeV p d D a W L V H P X v (f v)):∀(l:List SV)(Z:List RK)(O:aa)(k:List SV->List RK->T),ao p.S0 p.w0 D d.ty [] O (sR O Z P) a W->Up X O->Kc Z->SV.cq X.i.length X.b.length X.r.length (aD H) l=true->(Ft f l Z k).aG p O L->
  ∃F N U,ao p.S0 p.w0 D d.ty [] U (sR U N P) a W/\Up O U/\Kc N/\(∀Q,Up U Q->SV.ap Q [] F=SV.ap X V l)/\(k F N).aG p U L
 |[],Z,O,k,R,M,J,_,h=>⟨[],Z,O,R,Up.refl O,J,λ_ _=>rfl,h⟩
 |x::A,Z,O,k,R,M,J,I,h=>by
  rw[SV.fa.2,axI] at I;simp only[Ft] at h;obtain⟨z,y,w,u,E,t,s,q⟩:=G x Z O _ R M J I.1 h;obtain⟨o,n,m,j,C,g,e,c⟩:=Om G A y w _ u (M.trans E) t I.2 q;exact⟨z::o,n,m,j,E.trans C,g,λQ B=>by simp only[SV.ap,s Q (C.trans B),e Q B],c⟩
def V4(ag:p.ty=d.ty){D:bB}{a:Act}{bx:aY}{pd:List kV}{O0:aa}(ha:a.tmps= #[])(al:∀i e M,i6 bx i=some (e,M)->W.heap[ad V i]?=some (.cells (SV.ap O0 V M).toArray e (0,0))/\(p.w0.heap.size<=ad V i\/ad V i∈p.S0)/\SV.cq O0.i.length O0.b.length O0.r.length (aD bx) M=true):
  ∀(n:Nat)(v:SV),aeV p d D a W L V bx pd O0 v (Fu d bx n v)
 |0,v=>λF O k R E C Q h=>h.elim
 |n+1,v=>by
  intro F O k R E C Q h;cases v with
  |int q e=>
   refine⟨_,F,O,R,Up.refl O,C,λy P=> ?_,h⟩;rw[SV.aK.1] at Q;simp only[SV.den,IE.cB (E.trans P).agree e Q]
  |bool e=>
   refine⟨_,F,O,R,Up.refl O,C,λy P=> ?_,h⟩;rw[SV.aK.2.1] at Q;simp only[SV.den,BE.cB (E.trans P).agree e Q]
  |ref r=>
   refine⟨_,F,O,R,Up.refl O,C,λy P=> ?_,h⟩;rw[SV.aK.2.2.1] at Q;simp only[SV.den,RE.cB (E.trans P).agree r Q]
  |agg l=>
   rw[SV.aK.2.2.2.2.2.2.1] at Q;simp only[Fu] at h;obtain⟨l',a4,O',R',u',n',d',h'⟩:=Om (V4 ag ha al n) l F O _ R E C Q h;exact⟨.agg l',a4,O',R',u',n',λy P=>by simp only[SV.den,d' y P],h'⟩
  |fy i bd x w=>
   simp only[Fu] at h;split at h;rename_i e M a5;obtain⟨g1,g2,g3⟩:=al i e M a5;split at h;rename_i o a6;obtain⟨m,X,N,I,u1,n1,d1,h1⟩:=Om (V4 ag ha al n) M F O _ R E C g3 h;split at h1;rename_i hc;simp only[axI,beq_iff_eq,decide_eq_true_eq,bne_iff_ne,ne_eq] at hc;obtain⟨⟨⟨⟨c1,c2⟩,c3⟩,c4⟩,c5⟩:=hc;subst c3;have hw:ba d.ty (.sl e)=o.ab:=by simp[ba,a6]
   have an:kb d.ty (sR N X pd) (ba d.ty (.sl e)) (gc o.ab.length x m)=true:=by
    rw[hw,<-c1];exact AE (s:=sR N X pd) (s':=S.cm X) rfl
   have a1:=UT I an;obtain⟨U,H⟩:∃U,U=(gc o.ab.length x m).map λac=>ac.map (SV.bu N):=⟨_,rfl⟩
   rw[<-H] at a1;have hN:U.length=x:=by rw[H];simp[NF]
   have a7:SV.ap N [] m=SV.ap O0 V M:=d1 N (Up.refl _);have hH:aX W d.ty (.sl e) (.mk (.slice (some ⟨ad V i,0,none⟩) U.length w) U):=by
    refine UL a1 ⟨_,_,_,g1⟩ (λq u hq=> ?_) (by rw[hN];exact c4);rw[H] at hq;have a2:=UU (V:=[]) (by rw[hw]) an (λi ac B=>by rw[<-H] at B;rw[a1.len i ac B,hw]) hq;rw[a7] at a2;simp[World.cell?,g1,a2]
   have a8:CS p.ty p.S0 p.w0 e (.lit (gc o.ab.length x m)) X N (.mk (.slice (some ⟨ad V i,0,none⟩) U.length w) U):=by
    refine⟨⟨some ⟨ad V i,0,none⟩,U.length,w,by rw[H];rfl,by rw[H];rfl⟩,λb hl=> ?_,λ_ _ _ _ h=>by cases h⟩;rw[ag] at hl⊢;generalize a3:RV.mk (.slice (some ⟨ad V i,0,none⟩) U.length w) U=rv at hl;cases hl with
    |here e a0 bf bk a9=>
     injection a3 with p1 p2;injection p1 with p3 p4 p5;cases p3;exact g2.imp id .inl
    |deep e v a9 i j ac c z k b A q2 q3 q4=>
     injection a3 with p1 p2;subst p2;rw[H,axO] at A;cases B:(gc o.ab.length x m)[i]? with
     |none=>rw[B] at A;cases A
     |some bb=>
      rw[B] at A;simp only[axR,axM] at A;subst A;obtain⟨r,Z,J,k3,k4⟩:=UO (Ax an i bb B) q2 q3 q4;exact .inr (.inr (FP I k3 J k4).1)
   have hs:=h1 _ a8;refine⟨.ref (.v X.length),X++[.sl e],N.add (.r (.mk (.slice (some ⟨ad V i,0,none⟩) U.length w) U)), ?_,u1.trans ⟨[_],rfl⟩, ?_, ?_,hs⟩;have af:N.r.length=X.length:=I.er;refine⟨⟨I.mem.base,λi G=>by simp[sR,aD,bU] at G,λi j G=>by simp[sR,aD,bU] at G,λi t M G=>by simp[sR,bU] at G,λk e' rv Z J=> ?_⟩,rfl,rfl,rfl,by simp[sR,aa.add,af],I.bY,by rw[ha];rfl,λt sv ht=>by simp[sR] at ht,λk e' rv b Z=> ?_⟩;refine⟨?_,λb Q i G=>by simp[sR,aD,bU] at G⟩;simp only[sR,aa.add] at Z J;by_cases g:k<X.length;rw[axL g] at Z;rw[axL (by omega)] at J;exact(I.mem.ref k e' rv Z J).1;have f:k=X.length:=by
    have:=(axJ.1 Z).1;simp at this;omega
   subst f;simp at Z;rw[<-af] at J;simp at J;subst Z J;exact hH;exfalso;simp only[sR] at Z;by_cases g:k<X.length;rw[axL g] at Z;exact n1 _ _ Z;have:=(axJ.1 Z).1;have f:k=X.length:=by simp at this;omega
   subst f;simp at Z;intro k e' Z;by_cases g:k<X.length;rw[axL g] at Z;exact n1 _ _ Z;have:=(axJ.1 Z).1;have f:k=X.length:=by simp at this;omega
   subst f;simp at Z;intro y P;obtain⟨l,rfl⟩:=P;have af:N.r.length=X.length:=I.er;simp only[SV.den,RE.den,RE.rv,aa.rv,aa.add,axN,azd];rw[<-af,axP (axQ _)];simp[hN];exact h1.elim;exact h.elim;exact h.elim
  |loc _ _=>exact h.elim
  |el _ _ _ _=>exact h.elim
  |bm _=>exact h.elim
  |fn _ _=>exact h.elim
  |dV _ _=>exact h.elim
  |yl _=>exact h.elim
  |any=>exact h.elim
  |mp _=>exact h.elim
  |dI _ _ _=>exact h.elim
end
end
variable{n:T}
section
section
variable{cf:bh}
section
variable{o:List Nat}{q:World}{D:bB}{V:List Nat}{O:aa}{s:S}{a:Act}{W:World}
def V5{k:Int}:∀{X:List Int}{U:List SV}{v:SV},CP k X U=some v->v.eL O V=.mk (gW k X (SV.ap O V U)) []
 |[],_,v,h=>by simp[CP] at h
 |J::X,[],v,h=>by simp[CP] at h
 |J::X,u::U,v,h=>by
  unfold CP at h;split at h;rename_i R Q;injection R with P N;injection Q with M L;subst P N M L;simp only[SV.ap,gW];split at h;rename_i Z;cases h;rw[if_pos Z];rfl;rename_i Z;rw[if_neg Z];exact V5 h;rename_i R Q;injection R with P N;injection Q with M L;subst P N M L;simp only[SV.ap,gW];split at h;rename_i Z;cases h;rw[if_pos Z];rfl;rename_i Z;rw[if_neg Z];exact V5 h;cases h
def aeW{x:Int}:∀{Z:List Int}{X:List Value},¬x∈Z->gW x Z X=.nilFunc
 |[],_,_=>rfl
 |k::Z,[],_=>rfl
 |k::Z,v::X,h=>by
  simp only[axT,not_or] at h;simp only[gW,if_neg h.1];exact aeW h.2
def V6{e:IE}{k:Int}(Z:e.den O=k):∀(n:Nat)(b:BE),(Jn e k n b).den O=b.den O
 |0,b=>rfl
 |n+1,b=>by
  unfold Jn;split;rfl;rename_i R Q P x y X;cases X;split;rename_i U;have:=IE.bn _ _ U;subst this;simp only[BE.den,IE.den,eG,Z,beq_iff_eq];split;exact V6 Z n x;exact V6 Z n y;rfl;rfl
def V7{e:IE}{k:Int}(Z:e.den O=k):∀(n:Nat)(b:IE),(Jo e k n b).den O=b.den O
 |0,b=>rfl
 |n+1,b=>by
  unfold Jo;split;rfl;rename_i R Q P x y X;cases X;split;rename_i U;have:=IE.bn _ _ U;subst this;simp only[BE.den,IE.den,eG,Z,beq_iff_eq];split;exact V7 Z n x;exact V7 Z n y;rfl;rfl
def apv{e:IE}{k:Int}(Z:e.den O=k)(v:SV):(Uj e k v).eL O V=v.eL O V:=by
 cases v<;>simp only[Uj];simp only[SV.eL,SV.den,V7 Z];simp only[SV.eL,SV.den,V6 Z];rename_i R Q P;split;rename_i X;have:=IE.bn _ _ X;subst this;split;rename_i v U;rw[V5 U];simp only[SV.eL,SV.den,Z];rfl;rfl
def apw{e:IE}{X:List Int}(U:¬e.den O∈X)(v:SV):(Nf e X v).eL O V=v.eL O V:=by
 cases v<;>simp only[Nf];rename_i N R M;split;rename_i Z;rw[axI] at Z;have:=IE.bn _ _ Z.1;subst this;have Q:¬e.den O∈R:=λP=>U (by
  have:=axU.1 Z.2 _ P;exact ayj.1 this)
 simp only[SV.eL,SV.den,aeW Q];rfl;rfl
def arm{f:SV->SV}{l:aY}:bF (CQ f l) X=some (v,Q)<->∃Z,bF l X=some (v,Z)/\Q=Z.map f:=by
 rw[gG];simp only[CQ,axO];constructor;intro h;cases U:l[X]? with
 |none=>rw[U] at h;cases h
 |some x=>
  rw[U] at h;cases x with
  |none=>cases h
  |some y=>
   simp only[axR,axM,azq] at h;obtain⟨rfl,rfl⟩:=h;exact⟨y.2,gG.2 U,rfl⟩
 rintro⟨Z,h,rfl⟩;rw[gG] at h;rw[h];rfl
def aeX{f:SV->SV}{l:aY}:aD (CQ f l) X=aD l X:=by
 rw[ayS];simp only[aD,ax1];constructor;rintro⟨⟨t,Z⟩,h⟩;obtain⟨U,h,-⟩:=arm.1 h;exact⟨_,h⟩;rintro⟨⟨t,Z⟩,h⟩;exact⟨_,arm.2 ⟨Z,h,rfl⟩⟩
def ao.fix(R:ao o q D cf.ty V O s a W){f:SV->SV}(L:∀v,(f v).eL O V=v.eL O V):ao o q D cf.ty V O (s.fix f) a W:=by
 have X:∀j,aD (s.fix f).boxes j=aD s.boxes j:=λj=>aeX
 refine⟨⟨R.mem.base,λj Z=>R.mem.own j (by rw[<-X];exact Z),λj k Z J=>R.mem.inj j k (by rw[<-X];exact Z) (by rw[<-X];exact J),λj t B N=> ?_,λk e U Q P=>⟨(R.mem.ref k e U Q P).1,λb N j Z=>(R.mem.ref k e U Q P).2 b N j (by rw[<-X];exact Z)⟩⟩,by rw[R.dX];simp[S.fix,CQ],R.ei,R.eb,R.er,R.bY,R.size,R.tmps,λk e U b I H G=> ?_⟩;obtain⟨M,h,rfl⟩:=arm.1 N;have:SV.cg O V (M.map f)=SV.cg O V M:=by
  simp only[SV.cg,ayw];exact ax7 λv _=>L v
 rw[this];exact R.mem.box j t M h;obtain⟨Q,P,F,E,C⟩:=R.bw k e U b I H G;exact⟨Q,P,λj Z=>F j (by rw[<-X];exact Z),E,C⟩
def aeY(f:SV->SV):bl s O V (s.fix f) O V:=⟨kj.refl _ _ _,λi h=>by rw[show aD (s.fix f).boxes i=aD s.boxes i from aeX];exact h,by simp[S.fix,CQ],axQ _⟩
def ao.apx(R:ao o q D cf.ty V O s a W){k:IntKind}{e:IE}{v:Int}(U:s.tmps.getD X .any=.int k e)(P:e.den O=v):ao o q D cf.ty V O {s with tmps:=s.tmps.set X (.int k (.c v))} a W:=by
 refine⟨R.mem,R.dX,R.ei,R.eb,R.er,R.bY,by simpa using R.size,λi N h=> ?_,R.bw⟩;simp only[ayD] at h;split at h;rename_i M;subst M;split at h;rename_i Q;cases h;have L:s.tmps[X]?=some (.int k e):=by
  rw[axN,axK Q] at U;rw[axK Q];simpa using U
 rcases R.tmps X _ L with Z|Z;cases Z;right;rw[Z];simp only[SV.den,IE.den,P];cases h;exact R.tmps i N h
def V9{p:Sp}{L:List LC}{e:IE}{ey:Int->S}{aq:T}{g:S->T}:∀{Z:List Int},(Fs e ey aq g Z).aG p O L->(∃k∈Z,e.den O=k/\(g (ey k)).aG p O L)\/(¬e.den O∈Z/\aq.aG p O L)
 |[],h=>.inr ⟨by simp,h⟩
 |k::Z,h=>by
  simp only[Fs,T.aG] at h;by_cases X:e.den O=k;exact .inl ⟨k,by simp,X,h.1 (by simp[BE.den,IE.den,eG,X])⟩;rcases V9 (h.2 (by simp[BE.den,IE.den,eG,X])) with⟨Q,U,R⟩|⟨U,R⟩;exact .inl ⟨Q,by simp[U],R⟩;exact .inr ⟨by simp[X,U],R⟩
def apy{p:Sp}(R:ao o q D cf.ty V O s a W){id:Nat}{e:IE}{M:List Int}{ey:Int->S}{aq:Option S}(Z:Ng cf X id s=some (e,M,ey,aq)){g:S->T}(h:(Fs e ey (Uk g aq) g M).aG p O t):
  ∃Q,bl s O V Q O V/\Q.av=s.av/\ao o q D cf.ty V O Q a W/\(g Q).aG p O t:=by
 unfold Ng at Z;split at Z;split at Z;cases Z;rcases V9 h with⟨k,P,U,N⟩|⟨P,U⟩;exact⟨_,aeY _,rfl,R.fix (apv U),N⟩;split at U;exact⟨_,aeY _,rfl,R.fix (apw P),U⟩;exact U.elim;cases Z;split at Z;cases Z;rename_i k I H J;cases Z;rw[sn] at J;rcases V9 h with⟨k,P,U,N⟩|⟨P,U⟩;refine⟨_, ?_, ?_,R.apx J U,N⟩;exact⟨kj.refl _ _ _,λ_ h=>h,axQ _,axQ _⟩;rfl;exact U.elim;cases Z;cases Z
end
def On:∀(n:Nat)(p:Sp)(_:jE p cf),uF p cf n/\Ob p cf n
 |0,p,ok=>⟨λD B yh w ag c s k L O V a W Q _ _ _ _ _ h=>h.elim,λD B yh w ag c s k L O V a W Q _ _ _ _ _ _ h=>h.elim⟩
 |n+1,p,ok=>by
  have b4:=(On n p ok).2;have ih:=(On n p ok).1;have b5:∀p':Sp,p'.P=p.P->jE p' cf->uF p' cf n:=λp' _ b6=>(On n p' b6).1
  have bx:=ao1 ih b4;refine⟨?_,bx⟩;intro D B yh w ag c s k L O V a W Q hY d al a4 a0 h R r HP E;have a5:∀e M,bZ s.av L M->(k e s).aG p O M->Q (e.to O V) a W:=λe M H J=>E e s O V a W M (bl.refl _ _ _) H R J
  have h0:=h;unfold dJ at h;split at h;exact yQ (n:=0) (wpIn_skip (a5 .normal L (bZ.refl _ _) h));exact yQ (n:=0) (wpIn_label (a5 .normal L (bZ.refl _ _) h));exact yQ (n:=0) (wpIn_ret (a5 .ret L (bZ.refl _ _) h));rename_i id;exact yQ (n:=0) (wpIn_exit (a5 (.exit id) L (bZ.refl _ _) h))
  
  rename_i x y;have a6:w.isSome=true->gF x=false:=λhr=>by have:=a4 hr;simp only[gF,ayp] at this;exact this.1
  have a7:w.isSome=true->gF y=false:=λhr=>by have:=a4 hr;simp only[gF,ayp] at this;exact this.2
  refine VK (ih D B yh w ag x s _ L O V a W _ hY d al a6 a0 h R r (λch Z X pd y hd hR=>HP ch Z X pd y hd hR) ?_);intro e G C A Z X M U H F J;cases e with
  |normal=>exact ih D B yh w ag y G k M C A Z X Q hY (d.go U H) al a7 a0 J F (r.ext U.ext) HP (λe2 s2 O2 V2 a2 W2 L2 af a3 R2 ac=>E e2 s2 O2 V2 a2 W2 L2 (U.trans af) (H.trans a3 U.av) R2 ac)
  |ret=>exact E .ret G C A Z X M U H F J
  |exit id=>exact E (.exit id) G C A Z X M U H F J
  |aW v=>exact E (.aW v) G C A Z X M U H F J
  
  rename_i id x;refine aoP (ih D B yh w ag x s _ L O V a W _ hY d al (λhr=>by have:=a4 hr;simpa only[gF] using this) a0 h R r (λch Z X pd y hd hR=>HP ch Z X pd y hd hR) ?_);intro e G C A Z X M U H F J;cases e with
  |normal=>exact E .normal G C A Z X M U H F J
  |ret=>exact E .ret G C A Z X M U H F J
  |exit j=>
   simp only[Ua] at J;split at J;rename_i hj;have a9:j=id:=by simpa using hj
   subst a9;simp only[XE.to,Exit.inBlock,if_true];exact E .normal G C A Z X M U H F J;rename_i hj;have a9:¬j=id:=by simpa using hj
   simp only[XE.to,Exit.inBlock,a9,if_false];exact E (.exit j) G C A Z X M U H F J
  |aW v=>exact E (.aW v) G C A Z X M U H F J
  
  rename_i x;refine aoQ (ih D B yh w ag x s _ L O V a W _ hY d al (λhr=>by have:=a4 hr;simpa only[gF] using this) a0 h R r (λch Z X pd y hd hR=>⟨λl h=>by(cases h),HP ch Z X pd y hd hR⟩) ?_);intro e G C A Z X M U H F J;exact⟨λl h=>(by cases e<;>cases h),E e G C A Z X M U H F J⟩
  
  rename_i x y z;have a7:w.isSome=true->gF y=false:=λhr=>by have:=a4 hr;simp only[gF,ayp] at this;exact this.1
  have bX:w.isSome=true->gF z=false:=λhr=>by have:=a4 hr;simp only[gF,ayp] at this;exact this.2
  split at h;rename_i hc;have he:=bR R r x (by rw[hc];rfl);rw[hc] at he;exact N8 (t:=true) (by simpa[SV.den,BE.den] using he) (ih D B yh w ag y s k L O V a W Q hY d al a7 a0 h R r HP E);rename_i hc;have he:=bR R r x (by rw[hc];rfl);rw[hc] at he;exact N8 (t:=false) (by simpa[SV.den,BE.den] using he) (ih D B yh w ag z s k L O V a W Q hY d al bX a0 h R r HP E);rename_i b d3 d4 hc;have he:=bR R r x (by rw[hc];rfl);rw[hc] at he;split at h;rename_i t;simp only[S.ev,sn] at hc;simp only[T.aG] at h;have b0:∀v,B.n7 {s with tmps:=s.tmps.set t v} O V L:=λv=>⟨⟨d.later.ext,d.later.mono,d.later.len,d.later.av⟩,d.NO⟩
  cases hv:b.den O;refine N8 (t:=false) (by simpa[SV.den,hv] using he) (ih D B yh w ag z _ k L O V a W Q hY (b0 _) al bX a0 (h.2 hv) (R.adT hc hv) r HP ?_);exact λe2 s2 O2 V2 a2 W2 L2 af a3 R2 ac=>E e2 s2 O2 V2 a2 W2 L2 ⟨af.ext,af.mono,af.len,af.av⟩ a3 R2 ac
  refine N8 (t:=true) (by simpa[SV.den,hv] using he) (ih D B yh w ag y _ k L O V a W Q hY (b0 _) al a7 a0 (h.1 hv) (R.adT hc hv) r HP ?_);exact λe2 s2 O2 V2 a2 W2 L2 af a3 R2 ac=>E e2 s2 O2 V2 a2 W2 L2 ⟨af.ext,af.mono,af.len,af.av⟩ a3 R2 ac
  exact h.elim;exact h.elim
  
  rename_i id bb b7;split at h;rename_i e ks ey aq hf;obtain⟨G,U,bd,F,h'⟩:=apy R hf h;exact ih D B yh w ag _ G k L O V a W Q hY (d.go U (bZ.refl _ _)) al a4 a0 h' F r HP (λe2 s2 O2 V2 a2 W2 L2 af a3 R2 ac=>E e2 s2 O2 V2 a2 W2 L2 (U.trans af) (bd▸a3) R2 ac);refine yQ (n:=0) ?_;split at h;rename_i hd;subst hd;split at h;rename_i c bf;exact aeU (yP w) ok ih hY HP d bf h R r (λG C A Z X M U H F J=>E .normal G C A Z X M U H F J) (λv G C A Z X M U H F J=>E (.aW v) G C A Z X M U H F J);split at h;rename_i om b8;split at h;exact h.elim;rename_i ca;exact ao0 (yP w) ok (ao8 b5 ok) hY HP d b8 (by simpa using ca) (ao7 _ _ _) h R r (λG C A Z X M U H F J=>E .normal G C A Z X M U H F J) (λv G C A Z X M U H F J=>E (.aW v) G C A Z X M U H F J);split at h;rename_i c bf;exact aeU (yP w) ok ih hY HP d bf h R r (λG C A Z X M U H F J=>E .normal G C A Z X M U H F J) (λv G C A Z X M U H F J=>E (.aW v) G C A Z X M U H F J);exact h.elim;rename_i hd;have cc:b7=false:=by simpa using hd
  subst cc;obtain⟨Rr,bk⟩:=R.room (jU bb.toList);refine wpIn_region ?_;have:=yG (ops:=bb) ok.pt ok.Cw (yP w) ok.jF (Oc ok ih hY) HP (n:=0) (ez (λ_=>false) true false 0 s.boxes.length bb.toList) 0 _ [] L O _ a W (λi m' hi=>by have:=J7 _ _ _ _ _ _ _ _ hi;simpa using this) (d.go bk (bZ.refl _ _)) h (λx hx=>by cases hx) Rr r
   (λG C A Z X M U H F J=>E .normal G C A Z X M (bk.trans U) H F J)
   (λv G C A Z X M U H F J=>E (.aW v) G C A Z X M (bk.trans U) H F J)
  rw[VP] at this;simpa[azz] using this
  
  rename_i x;have a6:w.isSome=true->gF x=false:=λhr=>by have:=a4 hr;simpa only[gF] using this
  split at h;rename_i cl d5;obtain⟨u,cp⟩:∃u,u=cl.at s:=⟨_,rfl⟩;rw[<-cp] at h;split at h;exact h.elim;rename_i hc;simp only[ayb,ax0,not_or,azc] at hc;obtain⟨⟨⟨⟨⟨bv,cs⟩,ct⟩,cv⟩,cx⟩,cy⟩:=hc;simp only[T.aG] at h;obtain⟨I,μ,cI,c0⟩:=h;refine aoR (λN a1 W1=>∃s1 O1 V1,bl s O V s1 O1 V1/\ao p.S0 p.w0 D cf.ty V1 O1 s1 a1 W1/\uk u (Code.kW x) 0 s.tmps s1.tmps=true/\oU u 0 s.boxes s1.boxes=true/\oV s1 u.ks (gT u s1)=true/\uj (fH u s) s1.rs=true/\CE (fH u s) (CD u s1)=true/\s1.pd=s.pd/\I ((gT u s1).map (SV.xv O1))/\μ ((gT u s1).map (SV.xv O1))=N)
   (μ ((gT u s).map (SV.xv O))) ⟨s,O,V,bl.refl _ _ _,R,ct,cv,cs,cx,cy,rfl,cI,rfl⟩ ?_
  rintro N a1 W1 ⟨s1,O1,V1,co,R1,hT,c7,b1,c8,c9,dc,hI,rfl⟩;have RH:=ao.head (ty:=cf.ty) bv R.ei R.eb R.er co R1 hT c7 b1 c8 c9 dc;have dd:=c0 _ (Vl (O1:=O1) b1) hI;have bd:(m6 u (Code.kW x) s).av=s.av+1:=(sJ u.ks {s with av:=s.av+1,rs:=fH u s}).2.2.1;have br:bl s O V (m6 u (Code.kW x) s) (O.ext ((gT u s1).map (SV.xv O1))) (V1.take s.boxes.length):=by
   obtain⟨e1,e2,e3,e4⟩:=sJ u.ks {s with av:=s.av+1,rs:=fH u s};have hE:=yA s.boxes O ((gT u s1).map (SV.xv O1)) V;refine⟨⟨hE.agree,hE.li,hE.lb,hE.lr,λk b2=> ?_⟩,λi hi=> ?_,by simp[m6,NW], ?_⟩;have bs:k<s.boxes.length:=by
    obtain⟨b,hb⟩:=ax1.1 b2;exact(axJ.1 (gG.1 hb)).1
   rw[yH bs];exact co.ext.ad k b2;unfold aD at hi⊢;simp only[m6];rw[JU];simpa using hi;simp only[m6];rw[e3];exact Nat.le_succ _
  have df:∀m,bZ s.av L (⟨s.av,I,μ,m⟩::L):=λm l bs=>by
   simp only[kG];rw[if_neg (by omega)]
  refine ih D B yh w ag x _ _ _ _ _ a1 W1 _ hY (d.go br (df _)) al a6 a0 dd RH (r.ext br.ext) (λch Z X pd y hd hR=>HP ch Z X pd y hd hR) ?_;intro e s2 O2 V2 a2 W2 L2 af a3 R2 ac;have a8:=br.trans af;rw[bd] at a3;have bt:bZ s.av L L2:=λl bs=>by
   rw[a3 l (by omega)];simp only[kG];rw[if_neg (by omega)]
  cases e with
  |normal=>
   simp only[Nb] at ac;split at ac;rename_i b3;simp only[axI,decide_eq_true_eq] at b3;obtain⟨⟨⟨⟨⟨c1,c2⟩,c3⟩,c4⟩,c5⟩,c6⟩:=b3;have dk:kG s.av L2=some ⟨s.av,I,μ,μ ((gT u s1).map (SV.xv O1))⟩:=by
    rw[a3 s.av (by omega)];simp[kG]
   simp only[T.aG,dk] at ac;exact⟨_,ac.2,s2,O2,V2,a8,R2,c1,c2,c3,c4,c5,c6,ac.1,rfl⟩;exact ac.elim
  |ret=>exact E .ret s2 O2 V2 a2 W2 L2 a8 bt R2 ac
  |exit id=>exact E (.exit id) s2 O2 V2 a2 W2 L2 a8 bt R2 ac
  |aW v=>exact E (.aW v) s2 O2 V2 a2 W2 L2 a8 bt R2 ac
  rename_i dn;exact aeu (n+1) (bx D B yh w ag x s k L O V a W Q hY d al a6 a0 (λu=>dn u) h0 R r HP E)
  
  rename_i f ps assign body;have dr:w=none:=by
   cases w with
   |none=>rfl
   |some l=>have:=a4 rfl;simp[gF] at this
  subst dr;split at h;rename_i g d6 ds;split at h;rename_i c nt dx;split at h;exact h.elim;rename_i hc;simp only[ayb,ax0,not_or,azc,aAJ] at hc;obtain⟨⟨⟨⟨dy,dz⟩,dT⟩,d0⟩,d1⟩:=hc;obtain⟨d7,d2⟩:=a0;exact apu ok ih d2 al ds dx dy dz dT d0 d1 h R r HP E;exact h.elim;exact h.elim;exact h.elim
variable{p:Sp}
def apz{X:aa}:∀{l R:List SV},SV.ap U Z l=SV.ap X f R->(one l).den U Z=(one R).den X f
 |[],[],_=>rfl
 |[x],[y],h=>by
  have h:SV.den U Z x=SV.den X f y:=by simpa[SV.ap] using h
  exact h
 |[],_::_,h=>by simp[SV.ap] at h
 |_::_,[],h=>by simp[SV.ap] at h
 |[_],_::_::_,h=>by simp[SV.ap] at h
 |_::_::_,[_],h=>by simp[SV.ap] at h
 |a::b::c,Q::P::N,h=>by
  show Value.tuple (SV.ap U Z (a::b::c)).toArray=Value.tuple (SV.ap X f (Q::P::N)).toArray;rw[h]
def aeZ(Z:List RK):Kc (Z.map RK.rd):=by
 intro k e h;rw[axO] at h;cases X:Z[k]? with
 |none=>rw[X] at h;cases h
 |some x=>rw[X] at h;cases x<;>simp[RK.rd] at h
def apA{D:bB}{a:Act}{W:World}(J:p.ty=cf.ty)(R:ao p.S0 p.w0 D cf.ty Z U w a W)(M:(Jq cf X Q w).aG p U t):p.R (.returned ((one Q).den U Z)) W:=by
 unfold Jq at M;split at M;rename_i E;simp only[axI] at E;obtain⟨⟨⟨ac,af⟩,A⟩,z⟩:=E;have I:∀i,aD ([]:aY) i=true->False:=λi N=>by simp[aD,bU] at N
 have x:=R.mem.km (Oi w.rs);have v:ao p.S0 p.w0 D cf.ty [] U (sR U (w.rs.map RK.rd) w.pd) ⟨#[],a.defers⟩ W:=
  ⟨⟨R.mem.base,λi N=>(I i N).elim,λi j N=>(I i N).elim,λi P C N=>by simp[sR,bU] at N,λk e B H r=>⟨(x.ref k e B H r).1,λb _ i N=>(I i N).elim⟩⟩,rfl,rfl,rfl,by simp[sR,R.er],R.bY,rfl,λP sv n=>by simp[sR] at n,λk e B b H=>absurd H (aeZ _ k e)⟩
 have bv:=R.uu A;obtain⟨m,ag,G,h,u,_,d,g⟩:=Om (a:=⟨#[],a.defers⟩) (V4 (bx:=w.boxes) (O0:=U) (V:=Z) J rfl (λi e C f=>by
  obtain⟨F,c⟩:=ut f;have:=R.mem.box i e C F;rw[qU c] at this;exact⟨this,R.mem.own i (by simp[aD,F]),o8 bv.2 F⟩) 9) Q (w.rs.map RK.rd) U _ v (Up.refl _) (aeZ _) (by rw[R.ei,R.eb,R.er];exact z) M
 have h4:=g G.y [] W (by rw[J];exact h.mem);have h5:(one m).den G []=(one Q).den U Z:=apz (d G (Up.refl _));rw[<-h5];exact h4;exact M U.y Z _ (by rw[J];exact(R.mem.take _).km (Oi _))
def Oo(Z:jE p cf)(n:Nat):uF p cf n/\Ob p cf n:=On n p Z
def ae0(E:jE p cf){M:Func}{c:Code}(z:p.P.funcs[F]?=some M)(j:M.body=some c)
  (i:Jr cf X F c M.ntmps M.results.toList Q w=n)(N:n.aG p U [])(h:dC cf.gl U)(R:ao p.S0 p.w0 bB.none cf.ty Z U {w with tmps:=[]} ⟨#[],[]⟩ p.w0):
  Calls p.P F (SV.ap U Z Q).toArray p.w0 p.R:=by
 subst i;refine J3 z j ?_;have RE:=R.enter Q M.ntmps R.bY;refine(Oo E X).1 bB.none ⟨{w with tmps:=Q++axW (M.ntmps-Q.length) (.bm [])},U,Z,[]⟩ fT none F c _ _ [] U Z _ p.w0 _ (C9 _ _) (jD.here _ _ _ _) rfl (λg=>by cases g) ⟨M,z⟩ N RE h ?_ ?_;intro x L C pd y b hR;obtain⟨ac,I,q0,B,H⟩:=b.kh;show LeavesInM Fence.wide 0 p.P M L.tmps p.R L.defers (.panicking x) C;rw[I];exact pZ (by simp) (ayJ.1 B).1 (λd J=>(H d (by simp[J])).1) (J6 (E.NZ x) (λd J=>(H d (by simp[J])).2) hR);intro e u r V' L C L' hl hL m N;obtain⟨ac,I,q0,B,H⟩:=m.bY.kh;have A:=m.n8 I;have k:∀l,pO cf u M.results.toList=some l->(Jq cf w.boxes.length l u).aG p r L'->LeavesInM Fence.wide 0 p.P M L.tmps p.R L.defers .returning C:=by
  intro l G N;rw[I];exact pZ (by simp) (ayJ.1 B).1 (λd J=>(H d (by simp[J])).1) ⟨_,JS A E.jF G,apA E.pt A N⟩
 cases e with
 |normal=>
  simp only[Nh] at N;split at N;rename_i l G;exact k l G N;exact N.elim
 |ret=>
  simp only[Nh] at N;split at N;rename_i l G;exact k l G N;exact N.elim
 |aW v=>
  show LeavesInM Fence.wide 0 p.P M L.tmps p.R L.defers (.panicking _) C;rw[I];exact pZ (by simp) (ayJ.1 B).1 (λd J=>(H d (by simp[J])).1) (N r.y V' _ A.mem.base)
 |exit id=>exact N.elim
end
end
def zEq:Value->CT->Bool
 |.int k n,.int Z=>decide (k=Z)&&n==0
 |.bool b,.bool=> !b
 |v,.aq z _=>Ct v z
 |_,_=>false
def Gh:List Value->List CT->Bool
 |[],[]=>true
 |v::Z,c::X=>zEq v c&&Gh Z X
 |_,_=>false
def ae2:∀(X:List Value)(W:List CT),Gh X W=true->X=W.map m9
 |[],[],_=>rfl
 |[],_::_,h=>by simp[Gh] at h
 |_::_,[],h=>by simp[Gh] at h
 |v::X,c::W,h=>by
  simp only[Gh,axI] at h;rw[axV,<-ae2 X W h.2];congr 1;have Z:=h.1;unfold zEq at Z;split at Z;simp only[axI,decide_eq_true_eq,beq_iff_eq] at Z;obtain⟨rfl,rfl⟩:=Z;rfl;rename_i b;cases b;rfl;cases Z;exact acb _ _ Z;cases Z
def Gi:List Field->List (Nat×TypeId)->Bool
 |[],[]=>true
 |f::Z,x::X=>f.offset==x.1&&f.type==x.2&&Gi Z X
 |_,_=>false
def ae3:∀(Z:List Field)(X:List (Nat×TypeId)),Gi Z X=true->Z.map (λf=>(f.offset,f.type))=X
 |[],[],_=>rfl
 |[],_::_,h=>by simp[Gi] at h
 |_::_,[],h=>by simp[Gi] at h
 |f::Z,x::X,h=>by
  simp only[Gi,axI,beq_iff_eq] at h;rw[axV,ae3 Z X h.2,h.1.1,h.1.2]
def Wa(ab:List CT):TD->Option TypeDesc->Bool
 |.struct W,some (.struct F)=>Gi F.toList W
 |.arr n e,some (.array V Z)=>n==V&&e==Z
 |.slice e,some (.slice Z)=>e==Z
 |.str,some .string=>true
 |.dV,some (.interface _)=>true
 |.map k e _ _,some (.map X Z)=>k==X&&e==Z
 |.one,some (.int k)=>match ab with
  |[.int X]=>decide (k=X)
  |_=>false
 |.one,some .bool=>match ab with
  |[.bool]=>true
  |_=>false
 |.one,some (.pointer _)|.one,some (.map _ _)|.one,some (.chan _ _)=>match ab with
  |[.aq .nilFunc _]=>false
  |[.aq _ _]=>true
  |_=>false
 |.one,some (.func _ _ _)=>match ab with
  |[.aq _ _]=>true
  |_=>false
 |_,_=>false
def apB{P:Program}{ab:List CT}{d:TD}(h:Wa ab d (P.underlying v)=true):d.Ok P v ab:=by
 unfold Wa at h;split at h;rename_i Q F X;exact⟨F,X,ae3 _ _ h⟩;rename_i n e O V X;simp only[axI,beq_iff_eq] at h;obtain⟨rfl,rfl⟩:=h;exact X;rename_i e V X;simp at h;subst h;exact X;rename_i X;exact X;rename_i m X;exact⟨m,X⟩;rename_i k e n N R V X;simp only[axI,beq_iff_eq] at h;obtain⟨rfl,rfl⟩:=h;exact X;rename_i k X;split at h;rename_i R;simp at h;subst h;exact⟨_,X,⟨trivial,λk Z=>(by cases Z)⟩,λk Z=>(by cases Z;rfl),λZ=>(by cases Z)⟩;cases h;rename_i X;split at h;exact⟨_,X,⟨trivial,λk Z=>(by cases Z)⟩,λk Z=>(by cases Z),λZ=>rfl⟩;cases h;rename_i x X;split at h;cases h;rename_i z U W;exact⟨_,X,⟨trivial,λk Z=>(W (by cases Z;rfl)).elim⟩,λk Z=>(by cases Z),λZ=>(by cases Z)⟩;cases h;rename_i x y X;split at h;cases h;rename_i z U W;exact⟨_,X,⟨trivial,λk Z=>(W (by cases Z;rfl)).elim⟩,λk Z=>(by cases Z),λZ=>(by cases Z)⟩;cases h;rename_i x y X;split at h;cases h;rename_i z U W;exact⟨_,X,⟨trivial,λk Z=>(W (by cases Z;rfl)).elim⟩,λk Z=>(by cases Z),λZ=>(by cases Z)⟩;cases h;rename_i x y z X;split at h;exact⟨_,X,⟨trivial,λk Z=>⟨_,_,_,rfl⟩⟩,λk Z=>(by cases Z),λZ=>(by cases Z)⟩;cases h;cases h
def Wb(P:Program)(t:TypeId)(Z:TI):Bool:=
 match P.info? t with
 |some i=>match i.zero with
  |some z=>decide (i.bytes<=131072)&&i.size==Z.ab.length&&Gh z.cells.toList Z.ab&&Wa Z.ab Z.d (P.underlying t)&&(Nl z==Z.d.isAgg)
  |none=>false
 |none=>false
def apC{P:Program}{Z:TI}(h:Wb P v Z=true)(N:Z.eq=true->∀(X W:List Value)(r:Bool)(x y:Operand)(w:World),iv Z.ab X->iv Z.ab W->gH X W=some r->
  (do eqGuard .eql v x y (.agg X.toArray) (.agg W.toArray);binOp .eql v (.agg X.toArray) (.agg W.toArray)).run P w=.ok (.bool r) w/\
  (do eqGuard .neq v x y (.agg X.toArray) (.agg W.toArray);binOp .neq v (.agg X.toArray) (.agg W.toArray)).run P w=.ok (.bool !r) w)(M:∀k e n R,Z.d=.map k e n R->pV P k n R):cW P v Z:=by
 unfold Wb at h;split at h;rename_i i U;split at h;rename_i z Q;simp only[axI,beq_iff_eq,decide_eq_true_eq] at h;obtain⟨h,L⟩:=h;exact⟨⟨i,U,h.1.1.2,z,Q,ae2 _ _ h.1.2⟩,apB h.2,λj V=>(by rw[U] at V;cases V;exact h.1.1.1),N,M,λj J V O=>(by rw[U] at V;cases V;rw[Q] at O;cases O;exact L)⟩;cases h;cases h
def ae4{Z:Type}(l:List (Option Z))(i:Nat):Option Z:=azw (motive:=λ_=>Nat->Option Z) (λ_=>none) (λx _ X t=>aAf (motive:=λ_=>Option Z) x (λm _=>X m) t) l i
def Wc{Z:Type}(l:List (List Z))(i:Nat):List Z:=azw (motive:=λ_=>Nat->List Z) (λ_=>[]) (λx _ X t=>aAf (motive:=λ_=>List Z) x (λm _=>X m) t) l i
def look{Z:Type}(l:List (List (Option Z)))(t:Nat):Option Z:=ae4 (Wc l (t/16)) (t%16)
def ae5{Z:Type}{x:Z}:∀{l:List (Option Z)}{i:Nat},ae4 l i=some x->l[i]?=some (some x)
 |[],_,h=>by cases h
 |y::_,0,h=>by simp only[ayB];exact congrArg some h
 |_::l,i+1,h=>by rw[ayk];exact ae5 (l:=l) h
def ae6{Z:Type}:∀(l:List (List Z))(i:Nat),l[i]?=some (Wc l i)\/Wc l i=[]
 |[],_=>.inr rfl
 |_::_,0=>.inl rfl
 |_::l,i+1=>by rw[ayk];exact ae6 l i
def Da{X:Type}(Z:Nat->X->Bool):Nat->List (Option X)->Bool
 |_,[]=>true
 |n,none::r=>Da Z (n+1) r
 |n,some x::r=>Z n x&&Da Z (n+1) r
def AI{Z:Type}(X:Nat->Z->Bool):Nat->List (List (Option Z))->Bool
 |_,[]=>true
 |n,r::W=>Da X n r&&AI X (n+16) W
def We{X:Type}{W:Nat->X->Bool}:∀{r:List (Option X)}{n i:Nat}{x:X},Da W n r=true->r[i]?=some (some x)->W (n+i) x=true
 |[],n,i,x,_,h=>by simp at h
 |none::r,n,0,x,_,h=>by simp at h
 |none::r,n,i+1,x,Z,h=>by
  simp only[Da] at Z;have:=We Z (by simpa using h)
  rwa [show n+1+i=n+(i+1) by omega] at this
 |some y::r,n,0,x,Z,h=>by simp[Da] at Z;simp at h;subst h;exact Z.1
 |some y::r,n,i+1,x,Z,h=>by
  simp only[Da,axI] at Z;have:=We Z.2 (by simpa using h)
  rwa [show n+1+i=n+(i+1) by omega] at this
def ae7{X:Type}{V:Nat->X->Bool}:∀{l:List (List (Option X))}{n q i:Nat}{r:List (Option X)}{x:X},AI V n l=true->l[q]?=some r->r[i]?=some (some x)->V (n+16*q+i) x=true
 |[],n,q,i,r,x,_,h,_=>by simp at h
 |y::l,n,0,i,r,x,Z,h,W=>by simp only[AI,axI] at Z;simp at h;subst h;simpa using We Z.1 W
 |y::l,n,q+1,i,r,x,Z,h,W=>by
  simp only[AI,axI] at Z;have:=ae7 Z.2 (by simpa using h) W
  rwa [show n+16+16*q+i=n+16*(q+1)+i by omega] at this
def ae8{Z:Type}{U:Nat->Z->Bool}{l:List (List (Option Z))}(h:AI U 0 l=true){x:Z}(R:look l X=some x):U X x=true:=by
 have W:=ae5 R;rcases ae6 l (X/16) with V|V;have:=ae7 h V W
 rwa [ayg,aAm] at this
 rw[V] at W;simp at W
def Wf(P:Program)(l:List Nat)(g:FuncId):Option (Code×Nat×List ResultVar):=if l.contains g then(match P.funcs[g]? with
 |some Z=>match Z.body with
  |some c=>some (c,Z.ntmps,Z.results.toList)
  |none=>none
 |none=>none) else none
def aay(P:Program)(g:Nat):Bool:=match P.funcs[g]? with
 |some Z=>Z.body.isSome&& !(Z.name== "runtime.NumGoroutine")
 |none=>false
def uG{P:Program}(h:aay P X=true):∀Z W,(callFunc X Z).run P W=.ok (.enter X Z) W:=by
 unfold aay at h;split at h;rename_i V U;simp only[axI,ax0] at h;intro Z W;have R:V.name≠ "runtime.NumGoroutine":=by simpa using h.2
 obtain⟨c,Q⟩:=ax1.1 h.1;simp[callFunc,U,R,Q];cases h
def apD(Z:List (Nat×Nat))(f i:Nat):Option FK:=match Z.find? (λx=>x.1==f&&(x.2%1000==i&&decide (1000<=x.2))) with
 |some x=>if x.2/1000==1 then some .box else some (.slot (x.2/1000-2) [0,1,2,3])
 |none=>none
def mA(P:Program)(jF:List (List (Option TI)))(X:List (List (Option (List TypeId))))(W:List (Nat×Nat×Nat))(V:List Nat)(loops:List (Nat×Nat×dA))(U:List (FuncId×FuncId×TypeId×aI×Bool))(ml:Bool:=false)(Z:List (Nat×Nat):=[]):bh:=
 {ty:=look jF,gl:=W,inl:=Wf P V,sig:=look X,loop:=λf i=>match loops.find? (λx=>x.1==f&&x.2.1==i) with
  |some x=>.inv x.2.2
  |none=>.amA,Cw:=λf g=>(U.find? λx=>x.1==f&&x.2.1==g).map (·.2.2),ml:=ml,TZ:=λf i=>Z.contains (f,i),frk:=λf i=>apD Z f i}
def Oq{P:Program}{jF:List (List (Option TI))}{L:List (List (Option (List TypeId)))}{H:List (Nat×Nat×Nat)}{loops:List (Nat×Nat×dA)}{O:List (FuncId×FuncId×TypeId×aI×Bool)}{ml:Bool}{G:List (Nat×Nat)}{J:World}{D:bB}{R:Ending->World->Prop}{Q:Exit->Act->World->Prop}
  (F:fK P (look jF))(E:AI (λg _=>aay P g) 0 L=true)(C:Z.all (aay P)=true)(B:P.follows .mixedOrders=true)(A:∀I W b o,J.heap.size<=b->R (.panicked I) W->R (.panicked I) (W.putObj b o))(z:∀x∈O,lQ P (look jF) x.1 x.2.1 x.2.2.1 x.2.2.2.1 x.2.2.2.2):jE ⟨P,look jF,f,J,D,R,Q⟩ (mA P jF L H Z loops O ml G):=by
 refine⟨rfl,B,F,λX g e t s h=> ?_,λg U=> ?_,A,λg c r q h=> ?_⟩;simp only[mA] at h;cases V:O.find? (λx=>x.1==X&&x.2.1==g) with
 |none=>rw[V] at h;cases h
 |some x=>
  rw[V] at h;simp only[axR,axM] at h;have N:=az0 V;simp only[axI,beq_iff_eq] at N;have:=z x (azm V);rw[N.1,N.2,h] at this;exact this
 rcases U with U|U;obtain⟨p,y⟩:=ax1.1 U;exact uG (ae8 E y);obtain⟨x,M⟩:=ax1.1 U;simp only[mA,Wf] at M;split at M;rename_i w;exact uG (axU.1 C g (ayj.1 w));cases M;simp only[mA,Wf] at h;split at h;split at h;rename_i v V;split at h;rename_i n u;cases h;exact⟨v,V,u,rfl,rfl⟩;cases h;cases h;cases h
variable{l:List (List RV)}
inductive bW:RV->RV->Prop where
 |sl (A A':Option Addr) (len cap cap':Nat) (rows aA:List (List RV)) (h1:rows.length=aA.length) (h2:∀(i:Nat)(row row':List RV),rows[i]?=some row->aA[i]?=some row'->row.length=row'.length)
   (h3:∀(i j:Nat)(row row':List RV)(c c':RV),rows[i]?=some row->aA[i]?=some row'->row[j]?=some c->row'[j]?=some c'->bW c c'):bW (.mk (.slice A len cap) rows) (.mk (.slice A' len cap') aA)
 |val (v:Value) (rows:List (List RV)) (h:∀a l c,v≠ .slice a l c):bW (.mk v rows) (.mk v rows)
def Gj:XV->XV->Prop
 |.i n,.i m=>n=m
 |.b x,.b y=>x=y
 |.r v,.r w=>bW v w
 |_,_=>False
def wB:List XV->List XV->Prop
 |[],[]=>True
 |x::Z,y::X=>Gj x y/\wB Z X
 |_,_=>False
structure jH(O O':aa):Prop where
 i:O.i=O'.i
 b:O.b=O'.b
 len:O.r.length=O'.r.length
 r:∀(k:Nat)(v v':RV),O.r[k]?=some v->O'.r[k]?=some v'->bW v v'
def bW.refl:∀(v:RV),bW v v
 |.mk v W=>by
  by_cases h:∃a l c,v=.slice a l c;obtain⟨a,l,c,rfl⟩:=h;refine bW.sl a a l c c W W rfl (λi R Q X Z=>by rw[X] at Z;cases Z;rfl) (λi j R Q x O X Z V U=> ?_);rw[X] at Z;cases Z;rw[V] at U;cases U;exact bW.refl x;exact bW.val v W (λa l c P=>h ⟨a,l,c,P⟩)
termination_by v=>SizeOf.sizeOf v
decreasing_by
 have N:=aA2 (ax4 X);have M:=aA2 (ax4 V);simp only[RV.mk.sizeOf_spec];omega
def bW.default:bW default default:=bW.refl _
def jH.rv{O Z:aa}(h:jH O Z)(k:Nat):bW (O.rv k) (Z.rv k):=by
 unfold aa.rv;simp only[axN];cases X:O.r[k]? with
 |none=>
  have:Z.r[k]?=none:=by rw[ayC] at X⊢;have:=h.len;omega
  rw[this];exact bW.default
 |some v=>
  cases W:Z.r[k]? with
  |none=>rw[ayC] at W;have:=(axJ.1 X).1;have:=h.len;omega
  |some V=>exact h.r k v V X W
def bW.cellAt{v P:RV}(h:bW v P)(i:Int)(j:Nat):bW (Y.cellAt v.rows i j) (Y.cellAt P.rows i j):=by
 cases h with
 |sl A L J I H V aA G N M=>
  simp only[Y.cellAt,RV.jz,axN];cases X:V[i.toNat]? with
  |none=>
   have:aA[i.toNat]?=none:=by rw[ayC] at X⊢;omega
   rw[this];exact bW.default
  |some W=>
   obtain⟨Z,U⟩:∃Z,aA[i.toNat]?=some Z:=by
    have:i.toNat<V.length:=(axJ.1 X).1;exact⟨aA[i.toNat],axK (by omega)⟩
   rw[U];simp only[ayo];have F:=N _ W Z X U;cases R:W[j]? with
   |none=>
    have:Z[j]?=none:=by rw[ayC] at R⊢;omega
    rw[this];exact bW.default
   |some c=>
    obtain⟨Q,O⟩:∃Q,Z[j]?=some Q:=by
     have:j<W.length:=(axJ.1 R).1;exact⟨Z[j],axK (by omega)⟩
    rw[O];exact M _ j W Z c Q X U R O
 |val v V E=>exact bW.refl _
def bW.bg{v Z:RV}(h:bW v Z):Y.bg v.val=Y.bg Z.val/\Y.gV v.val=Y.gV Z.val/\lenOf v.val=lenOf Z.val/\(∀i,Ar v.val i=Ar Z.val i)/\(∀w,nV v.val w=nV Z.val w)/\∀w,nV w v.val=nV w Z.val:=by
 cases h with
 |sl A W V U R X aA=>exact⟨rfl,rfl,rfl,λ_=>rfl,λ_=>rfl,λw=>by cases w<;>rfl⟩
 |val v X Q=>exact⟨rfl,rfl,rfl,λ_=>rfl,λ_=>rfl,λ_=>rfl⟩
def bW.cd{v O:RV}(h:bW v O)(k:RK):bW (Y.cd k v) (Y.cd k O):=by
 cases h with
 |sl A Z X W V U aA R Q P=>
  cases k with
  |sl e=>exact bW.sl A Z X W V U aA R Q P
  |str=>exact bW.refl _
  |aq=>exact bW.sl A Z X W V [] [] rfl (λi N M q=>by simp at q) (λi j N M c L q=>by simp at q)
  |own e=>exact bW.sl A Z X W V U aA R Q P
  |dead=>exact bW.sl A Z X W V U aA R Q P
  |mr J=>exact bW.sl A Z X W V U aA R Q P
 |val v U I=>exact bW.refl _
structure fz(rows aA:List (List RV)):Prop where
 len:rows.length=aA.length
 row:∀(i:Nat)(row row':List RV),rows[i]?=some row->aA[i]?=some row'->row.length=row'.length
 cell:∀(i j:Nat)(row row':List RV)(c c':RV),rows[i]?=some row->aA[i]?=some row'->row[j]?=some c->row'[j]?=some c'->bW c c'
def bW.Gk{v V:RV}(h:bW v V):fz v.rows V.rows:=by
 cases h with
 |sl A O N M L R aA X Z W=>exact⟨X,Z,W⟩
 |val v R J=>exact⟨rfl,λi Q P X Z=>by rw[X] at Z;cases Z;rfl,λi j Q P c I X Z W U=>by rw[X] at Z;cases Z;rw[W] at U;cases U;exact bW.refl _⟩
def lR(Z X:List RV):Prop:=Z.length=X.length/\∀(j:Nat)(c W:RV),Z[j]?=some c->X[j]?=some W->bW c W
def fz.cons{r Z:List RV}{Q:List (List RV)}(h:fz (r::l) (Z::Q)):lR r Z/\fz l Q:=
 ⟨⟨h.row 0 r Z rfl rfl,λj c X=>h.cell 0 j r Z c X rfl rfl⟩,by simpa using h.len,λi W V U R=>h.row (i+1) W V (by simpa using U) (by simpa using R),λi j W V c X U R=>h.cell (i+1) j W V c X (by simpa using U) (by simpa using R)⟩
def fz.Gl{r U:List RV}{R:List (List RV)}(h:lR r U)(k:fz l R):fz (r::l) (U::R):=by
 refine⟨by simp[k.len],λi W V Z X=> ?_,λi j W V c Q Z X=> ?_⟩;cases i with
 |zero=>simp at Z X;subst Z X;exact h.1
 |succ i=>exact k.row i W V (by simpa using Z) (by simpa using X)
 cases i with
 |zero=>simp at Z X;subst Z X;exact h.2 j c Q
 |succ i=>exact k.cell i j W V c Q (by simpa using Z) (by simpa using X)
def lR.getD{X Z:List RV}(h:lR X Z)(j:Nat):bW (X.getD j Inhabited.default) (Z.getD j Inhabited.default):=by
 simp only[axN];cases W:X[j]? with
 |none=>
  have:Z[j]?=none:=by rw[ayC] at W⊢;have:=h.1;omega
  rw[this];exact bW.refl _
 |some c=>
  obtain⟨V,U⟩:∃V,Z[j]?=some V:=by
   have:j<X.length:=(axJ.1 W).1;exact⟨Z[j]'(by have:=h.1;omega),axK _⟩
  rw[U];exact h.2 j c V W U
def lR.ints{X Z:List RV}(h:lR X Z)(n:Nat):(X.take n).map (λc=>Y.bg c.val)=(Z.take n).map λc=>Y.bg c.val:=by
 apply ayf;intro j;simp only[axO,ayi];split;cases W:X[j]? with
 |none=>
  have:Z[j]?=none:=by rw[ayC] at W⊢;have:=h.1;omega
  rw[this]
 |some c=>
  obtain⟨V,U⟩:∃V,Z[j]?=some V:=by
   have:j<X.length:=(axJ.1 W).1;exact⟨Z[j]'(by have:=h.1;omega),axK _⟩
  rw[U];simp only[axR,(h.2 j c V W U).bg.1]
 rfl
def lR.i8{Z X:List RV}(h:lR Z X)(n:Nat)(W:List Int):Y.i8 n W Z=Y.i8 n W X:=by
 simp only[Y.i8,h.ints n]
def Ot{n:Nat}{ks:List Int}:∀{Z aA:List (List RV)},fz Z aA->(jA n ks Z=none/\jA n ks aA=none)\/∃X W,jA n ks Z=some X/\jA n ks aA=some W/\lR X W
 |[],[],_=>.inl ⟨rfl,rfl⟩
 |[],_::_,h=>by have:=h.len;simp at this
 |_::_,[],h=>by have:=h.len;simp at this
 |r::Q,U::P,h=>by
  obtain⟨V,R⟩:=h.cons;simp only[jA,aAO,<-V.i8 n ks];cases Y.i8 n ks r with
  |true=>exact .inr ⟨r,U,rfl,rfl,V⟩
  |false=>exact Ot R
def ae9{n:Nat}{Z X:List RV}(h:lR Z X):∀{W aA:List (List RV)},fz W aA->fz (eK n Z W) (eK n X aA)
 |[],[],k=>fz.Gl h k
 |[],_::_,k=>by have:=k.len;simp at this
 |_::_,[],k=>by have:=k.len;simp at this
 |r::R,Q::P,k=>by
  obtain⟨V,U⟩:=k.cons;simp only[eK,h.ints n,<-V.i8 n];split;exact fz.Gl h U;exact fz.Gl V (ae9 h U)
mutual
def IE.b9{O Z:aa}(h:jH O Z):∀e:IE,e.den O=e.den Z
 |.c n=>rfl
 |.v k=>by simp only[IE.den,h.i]
 |.bin o k a b=>by simp only[IE.den,IE.b9 h a,IE.b9 h b]
 |.conv k a=>by simp only[IE.den,IE.b9 h a]
 |.len r=>by simp only[IE.den];exact(RE.b9 h r).bg.2.2.1
 |.mm m a b=>by simp only[IE.den,IE.b9 h a,IE.b9 h b]
 |.bT b x y=>by simp only[IE.den,BE.b9 h b,IE.b9 h x,IE.b9 h y]
 |.cell r i j=>by simp only[IE.den,IE.b9 h i];exact((RE.b9 h r).cellAt _ j).bg.1
 |.jS r i=>by simp only[IE.den,IE.b9 h i];exact(RE.b9 h r).bg.2.2.2.1 _
 |.look r n a b c j=>by
  simp only[IE.den,IE.b9 h a,IE.b9 h b,IE.b9 h c];rcases Ot (n:=n) (ks:=[a.den Z,b.den Z,c.den Z]) (RE.b9 h r).Gk with⟨X,W⟩|⟨U,R,X,W,V⟩;rw[X,W];rw[X,W];exact(V.getD j).bg.1
def BE.b9{O Z:aa}(h:jH O Z):∀e:BE,e.den O=e.den Z
 |.c n=>rfl
 |.v k=>by simp only[BE.den,h.b]
 |.cmp o a b=>by simp only[BE.den,IE.b9 h a,IE.b9 h b]
 |.not a=>by simp only[BE.den,BE.b9 h a]
 |.and a b=>by simp only[BE.den,BE.b9 h a,BE.b9 h b]
 |.beq a b=>by simp only[BE.den,BE.b9 h a,BE.b9 h b]
 |.bT b x y=>by simp only[BE.den,BE.b9 h b,BE.b9 h x,BE.b9 h y]
 |.cell r i j=>by simp only[BE.den,IE.b9 h i];exact((RE.b9 h r).cellAt _ j).bg.2.1
 |.seq a b=>by simp only[BE.den];rw[(RE.b9 h a).bg.2.2.2.2.1,(RE.b9 h b).bg.2.2.2.2.2]
 |.look r n a b c j=>by
  simp only[BE.den,IE.b9 h a,IE.b9 h b,IE.b9 h c];rcases Ot (n:=n) (ks:=[a.den Z,b.den Z,c.den Z]) (RE.b9 h r).Gk with⟨X,W⟩|⟨U,R,X,W,V⟩;rw[X,W];rw[X,W];exact(V.getD j).bg.2.1
 |.has r n a b c=>by
  simp only[BE.den,IE.b9 h a,IE.b9 h b,IE.b9 h c];rcases Ot (n:=n) (ks:=[a.den Z,b.den Z,c.den Z]) (RE.b9 h r).Gk with⟨X,W⟩|⟨U,R,X,W,V⟩;rw[X,W];rw[X,W];rfl
def RE.b9{O Z:aa}(h:jH O Z):∀r:RE,bW (r.rv O) (r.rv Z)
 |.v k=>by simp only[RE.rv];exact h.rv k
 |.cell r i j k=>by simp only[RE.rv,IE.b9 h i];exact((RE.b9 h r).cellAt _ j).cd k
 |.k v=>by simp only[RE.rv];exact bW.refl _
end
def SV.apE{Z:aa}(h:jH U Z)(v:SV):Gj (v.xv U) (v.xv Z):=by
 cases v<;>simp only[SV.xv,Gj];exact IE.b9 h _;exact BE.b9 h _;exact RE.b9 h _
def SV.apF{Z:aa}(h:jH U Z)(v:SV):bW (v.bu U) (v.bu Z):=by
 cases v<;>simp only[SV.bu];rw[IE.b9 h];exact bW.refl _;rw[BE.b9 h];exact bW.refl _;exact RE.b9 h _
 all_goals exact bW.refl _
def fz.of{aA:List (List RV)}(R:l.length=aA.length)(h:∀(i:Nat)(Z X:List RV),l[i]?=some Z->aA[i]?=some X->Z.length=X.length/\∀(j:Nat)(c W:RV),Z[j]?=some c->X[j]?=some W->bW c W):fz l aA:=
 ⟨R,λi Z X V U=>(h i Z X V U).1,λi j Z X c W V U=>(h i Z X V U).2 j c W⟩
def Ou{W:aa}(h:jH U W)(l:List SV):(l.map (SV.bu U)).length=(l.map (SV.bu W)).length/\∀(j:Nat)(c V:RV),(l.map (SV.bu U))[j]?=some c->(l.map (SV.bu W))[j]?=some V->bW c V:=by
 refine⟨by simp,λj c V Z X=> ?_⟩;rw[axO] at Z X;cases R:l[j]? with
 |none=>rw[R] at Z;cases Z
 |some v=>
  rw[R] at Z X;simp only[axR,axM] at Z X;rw[<-Z,<-X];exact SV.apF h v
def afa:∀{Q P V U:List RV}{R:Nat},Q.length=P.length->(∀(j:Nat)(c Z:RV),Q[j]?=some c->P[j]?=some Z->bW c Z)->V.length=U.length->(∀(j:Nat)(c Z:RV),V[j]?=some c->U[j]?=some Z->bW c Z)->
  (eU V R Q).length=(eU U R P).length/\∀(j:Nat)(c Z:RV),(eU V R Q)[j]?=some c->(eU U R P)[j]?=some Z->bW c Z
 |[],[],V,U,R,_,_,O,N=>⟨O,N⟩
 |[],_::_,_,_,_,h,_,_,_=>by simp at h
 |_::_,[],_,_,_,h,_,_,_=>by simp at h
 |v::Q,I::P,V,U,R,J,L,O,N=>by
  simp only[eU];refine afa (by simpa using J) (λj c Z W X=>L (j+1) c Z (by simpa using W) (by simpa using X)) (by simp[O]) (λj c Z W X=> ?_);rw[ayD] at W X;split at W;rename_i M;rw[if_pos M] at X;split at W;split at X;cases W;cases X;exact L 0 _ _ rfl rfl;cases X;cases W;rename_i M;rw[if_neg M] at X;exact N j c Z W X
def LE.b9{O I:aa}(h:jH O I):∀x:LE,fz (x.rows O) (x.rows I)
 |.ref r=>(RE.b9 h r).Gk
 |.lit l=>by
  simp only[LE.rows];refine fz.of (by simp) (λi V U Z X=> ?_);rw[axO] at Z X;cases H:l[i]? with
  |none=>rw[H] at Z;cases Z
  |some v=>
   rw[H] at Z X;simp only[axR,axM] at Z X;rw[<-Z,<-X];exact Ou h v
 |.jr a b=>by
  simp only[LE.rows];have W:=LE.b9 h a;have M:=LE.b9 h b;refine fz.of (by simp[W.len,M.len]) (λi V U Z X=> ?_);by_cases N:i<(a.rows O).length;rw[axL N] at Z;rw[axL (by rw[<-W.len];exact N)] at X;exact⟨W.row i V U Z X,λj c R=>W.cell i j V U c R Z X⟩;rw[axP (by omega)] at Z;rw[axP (by rw[<-W.len];omega),<-W.len] at X;exact⟨M.row _ V U Z X,λj c R=>M.cell _ j V U c R Z X⟩
 |.mW n V=>by
  simp only[LE.rows,IE.b9 h n];refine fz.of (by simp) (λi r C Z X=> ?_);rw[ayO] at Z X;split at Z;rename_i N;rw[if_pos N] at X;cases Z;cases X;exact Ou h V;cases Z
 |.set a i B L=>by
  simp only[LE.rows,IE.b9 h i];have W:=LE.b9 h a;have G:=Ou h L;refine fz.of (by simp[W.len]) (λA V U Z X=> ?_);rcases FU Z with⟨rfl,F,Q,rfl⟩|⟨J,Q⟩;rcases FU X with⟨_,E,P,rfl⟩|⟨J,_⟩;exact afa G.1 G.2 (W.row _ F E Q P) (λj c R=>W.cell _ j F E c R Q P);exact absurd rfl J;rcases FU X with⟨rfl,_⟩|⟨_,P⟩;exact absurd rfl J;exact⟨W.row _ V U Q P,λj c R=>W.cell _ j V U c R Q P⟩
 |.sub a D N=>by
  simp only[LE.rows,IE.b9 h D,IE.b9 h N];have W:=LE.b9 h a;refine fz.of (by simp[W.len]) (λi V U Z X=> ?_);have Q:=(JK Z).1;have P:=(JK X).1;exact⟨W.row _ V U Q P,λj c R=>W.cell _ j V U c R Q P⟩
 |.ins a n L=>by
  simp only[LE.rows];exact ae9 (Ou h L) (LE.b9 h a)
def afb{W:aa}(h:jH U W)(x:LE){A:Option Addr}:bW (eI x U) (.mk (.slice A (x.rows W).length X) (x.rows W)):=by
 have Z:=LE.b9 h x;unfold eI;rw[Z.len];exact bW.sl _ _ _ _ _ _ _ Z.len Z.row Z.cell
def jH.add{O V:aa}(h:jH O V){x y:XV}(W:Gj x y):jH (O.add x) (V.add y):=by
 cases x<;>cases y<;>simp only[Gj] at W;subst W;exact⟨by simp[aa.add,h.i],h.b,h.len,h.r⟩;subst W;exact⟨h.i,by simp[aa.add,h.b],h.len,h.r⟩;refine⟨h.i,h.b,by simp[aa.add,h.len],λk v R Z X=> ?_⟩;simp only[aa.add] at Z X;by_cases U:k<O.r.length;rw[axL U] at Z;rw[axL (by rw[<-h.len];exact U)] at X;exact h.r k v R Z X;have Q:k=O.r.length:=by
  have:=(axJ.1 Z).1;simp at this;omega
 subst Q;simp at Z;rw[h.len] at X;simp at X;subst Z X;exact W
def jH.ext:∀{X W:List XV}{O V:aa},jH O V->wB X W->jH (O.ext X) (V.ext W)
 |[],[],_,_,h,_=>h
 |[],_::_,_,_,_,Z=>Z.elim
 |_::_,[],_,_,_,Z=>Z.elim
 |x::X,y::W,_,_,h,Z=>(h.add Z.1).ext Z.2
inductive aT where
 |ret (xs:List XV)
 |aW (v:Value)
abbrev kn:=FuncId->List XV->Option aT
def Gm:LK->XV->Bool
 |.int _,.i _=>true
 |.bool,.b _=>true
 |.ref _,.r _=>true
 |_,_=>false
def dh:List LK->List XV->Bool
 |[],[]=>true
 |k::Z,x::X=>Gm k x&&dh Z X
 |_,_=>false
def AJ(Z:Ty)(X:List RK):LK->SV->Bool
 |.int k,.int W _=>decide (k=W)
 |.bool,.bool _=>true
 |.ref e,.ref r=>match e with
  |.mr V=>r.mX Z ⟨[],[],0,0,X,0,0,[]⟩ V
  |e=>r.fits Z ⟨[],[],0,0,X,0,0,[]⟩ e.rd
 |_,_=>false
def hU(Z:Ty)(X:List RK):List LK->List SV->Bool
 |[],[]=>true
 |k::W,v::V=>AJ Z X k v&&hU Z X W V
 |_,_=>false
def gP(X:Ty):List TypeId->List SV->Option (List SV)
 |[],[]=>some []
 |t::W,v::V=>match X t,gP X W V with
  |some Z,some r=>if Z.d.isAgg then(match v with
    |.agg l=>if l.length==Z.ab.length then some (l++r) else none
    |_=>none) else(if Z.ab.length==1 then some (v::r) else none)
  |_,_=>none
 |_,_=>none
def uH(n:Nat):SV->List SV
 |.bm l=>if n==1 then[.bm l] else l
 |v=>[v]
def Db(O:aa):SV->Option Value
 |.dV t (.int k e)=>some (.iface t (.int k (e.den O)))
 |_=>none
structure Fr where
 av:Nat
 ks:List LK
 t:T
 O:aa
 rs:List RK
def Dc(av:Nat):List Fr->Option (Fr×List Fr)
 |[]=>none
 |x::Z=>if x.av=av then some (x,Z) else Dc av Z
def gt:List LK->List RK
 |[]=>[]
 |.ref e::Z=>e::gt Z
 |_::Z=>gt Z
def pi:Nat->Nat->Nat->List LK->List SV->Bool
 |_,_,_,[],[]=>true
 |a,b,c,.int k::Z,.int X (.v n)::l=>decide (k=X)&&n==a&&pi (a+1) b c Z l
 |a,b,c,.bool::Z,.bool (.v n)::l=>n==b&&pi a (b+1) c Z l
 |a,b,c,.ref _::Z,.ref (.v n)::l=>n==c&&pi a b (c+1) Z l
 |_,_,_,_,_=>false
def Ov:RK->RK->Bool
 |_,.dead=>true
 |.own t,.sl Z=>decide (t=Z)
 |.sl t,.sl Z=>decide (t=Z)
 |.str,.str=>true
 |.aq,.aq=>true
 |.mr a,.mr b=>decide (a=b)
 |_,_=>false
def yS:List RK->List RK->Bool
 |[],[]=>true
 |x::Z,y::X=>Ov x y&&yS Z X
 |_,_=>false
def afc:RK->RK->Bool
 |.own t,.own Z=>decide (t=Z)
 |x,y=>Ov x y
def yT:List RK->List RK->Bool
 |[],[]=>true
 |x::Z,y::X=>afc x y&&yT Z X
 |_,_=>false
def Wg(Z:Ty)(X:List TypeId)(v:SV)(V:List RK)(O:aa):Option aT:=match gP Z X (uH X.length v),fb Z X with
 |some l,some W=>if hU Z V W l&&mq W then some (.ret (l.map (SV.xv O))) else none
 |_,_=>none
def Wh(Z:Ty)(R Q:FuncId->Option (List TypeId))(f:FuncId)(P:List SV)(N:List RK)(W:List LK)(eP:SV)(O:aa):Option (List XV):=match R f,Q f with
 |some V,some X=>match gP Z V P,fb Z V,fb Z X,gP Z X (uH X.length eP) with
  |some l,some U,some M,some r=>if hU Z N U l&&mq U&&decide (M=W)&&pi O.i.length O.b.length O.r.length W r then some (l.map (SV.xv O)) else none
  |_,_,_,_=>none
 |_,_=>none
def Wi(Z:List RK)(r:RE)(e:TypeId):Bool:=match r with
 |.v k=>decide (Z[k]?=some (.own e))
 |.k (.slice none 0 0)=>true
 |_=>false
def Wj:RK->Bool
 |.mr _=>true
 |_=>false
def lR.key{x y:List RV}(h:lR x y)(c:Nat):aP c x=aP c y:=(h.getD c).bg.1
def afd{d:Bool}{x X y W:List RV}(V:lR x X)(U:lR y W):∀Z:List Nat,fJ d Z x y=fJ d Z X W
 |[]=>rfl
 |c::Z=>by simp only[fJ,V.key,U.key,afd V U Z]
def Wk{Z:aI}{x X y W:List RV}(V:lR x X)(U:lR y W):Z.lt x y=Z.lt X W:=by
 cases Z with
 |lex R d=>exact afd V U R
 |ratio n d=>simp only[aI.lt,V.key,U.key]
 |cz k o Q=>rfl
def apG{Z:aI}{x X:List RV}(W:lR x X):Z.ok x=Z.ok X:=by
 cases Z with
 |lex V d=>rfl
 |ratio n d=>simp only[aI.ok,W.key]
 |cz k o U=>rfl
def fz.Ow(h:fz [] l):l=[]:=by cases l with
 |nil=>rfl
 |cons x Z=>have:=h.len;simp at this
def afe{W:aI}{x V:List RV}(Z:lR x V):∀{l X:List (List RV)},fz l X->fz (cU W.lt x l) (cU W.lt V X)
 |[],X,h=>by have R:=h.Ow;subst R;exact fz.Gl Z h
 |y::l,[],h=>by have:=h.len;simp at this
 |y::l,P::X,h=>by
  obtain⟨U,Q⟩:=h.cons;simp only[cU,Wk Z U];split;exact fz.Gl Z h;exact fz.Gl U (afe Z Q)
def aff{V:aI}:∀{l X:List (List RV)}{acc Z:List (List RV)},fz l X->fz acc Z->fz (l.foldl (λacc x=>cU V.lt x acc) acc) (X.foldl (λacc x=>cU V.lt x acc) Z)
 |[],X,acc,Z,h,W=>by rw[h.Ow];exact W
 |y::l,[],acc,Z,h,W=>by have:=h.len;simp at this
 |y::l,Q::X,acc,Z,h,W=>by
  obtain⟨U,R⟩:=h.cons;simp only[ay8];exact aff R (afe U W)
def Wl{f g:List RV->Bool}:∀{l Z:List (List RV)},(∀x X,lR x X->f x=g X)->fz l Z->l.all f=Z.all g
 |[],Z,_,h=>by rw[h.Ow];rfl
 |y::l,[],_,h=>by have:=h.len;simp at this
 |y::l,R::Z,W,h=>by
  obtain⟨V,U⟩:=h.cons;simp only[azx,W _ _ V,Wl W U]
def afg{Z:aI}:∀{l X:List (List RV)},fz l X->pU Z.lt l=pU Z.lt X
 |[],X,h=>by rw[h.Ow]
 |y::l,[],h=>by have:=h.len;simp at this
 |y::l,W::X,h=>by
  obtain⟨V,U⟩:=h.cons;have Q:(l.all λz=>Z.lt y z||Z.lt z y)=X.all λz=>Z.lt W z||Z.lt z W:=Wl (λx P R=>by rw[Wk V R,Wk R V]) U
  simp only[pU,afg U,Q]
def afh{X:aI}{V:Bool}{U r:List (List RV)}(h:fz l U)(Z:dB X V l=some r):∃R,dB X V U=some R/\fz r R:=by
 cases X with
 |cz k o M=>simp[dB] at Z
 |_=>
  simp only[dB] at Z⊢;rw[Wl (λx L Q=>apG Q) h,afg h,h.len] at Z;split at Z;rename_i P;cases Z;rw[if_pos P];exact⟨_,rfl,aff h ⟨rfl,λi O N W=>by simp at W,λi j O N c J W=>by simp at W⟩⟩;cases Z
def bW.dq{a b:RV}(h:bW a b){U:aI}{R:Bool}{X:List (List RV)}(W:dB U R a.rows=some l)(Z:dB U R b.rows=some X):bW (.mk a.val l) (.mk b.val X):=by
 obtain⟨J,Q,V⟩:=afh h.Gk W;rw[Z] at Q;cases Q;cases h with
 |sl A P O N M L aA I H G=>exact bW.sl A P O N M l X V.len V.row V.cell
 |val v L F=>
  rw[RV.jz] at W Z;rw[W] at Z;cases Z;exact bW.refl _
def apH{W:RV}(V:cu h (.own v) (.mk W.val l) X)(U:∀x∈l,x∈W.rows):cu h (.own v) W X:=by
 obtain⟨Z,R⟩:=W;simp only[RV.kf,RV.jz] at V U;cases V with
 |own v W X V=>
  refine cu.own v _ X ?_;generalize Q:RV.mk Z l=W at V;cases V with
  |here v a P O aA=>cases Q;exact cu.here v a P O R
  |deep v F aA i j N c z k X M L J I=>
   cases Q;obtain⟨H,G⟩:=ayx (U _ (ax4 M));exact cu.deep v Z R H j N c z k X G L J I
mutual
def AK:RV->RV->Bool
 |.mk v Z,.mk X aA=>(match v,X with
  |.int k a,.int W b=>decide (k=W)&&a==b
  |.bool a,.bool b=>a==b
  |.string a,.string b=>decide (a=b)
  |.slice none a b,.slice none c d=>a==c&&b==d
  |_,_=>false)&&uI Z aA
def uI:List (List RV)->List (List RV)->Bool
 |[],[]=>true
 |r::Z,X::W=>wC r X&&uI Z W
 |_,_=>false
def wC:List RV->List RV->Bool
 |[],[]=>true
 |c::Z,X::W=>AK c X&&wC Z W
 |_,_=>false
end
def Dd:XV->XV->Bool
 |.i a,.i b=>a==b
 |.b a,.b b=>a==b
 |.r a,.r b=>AK a b
 |_,_=>false
def De:List XV->List XV->Bool
 |[],[]=>true
 |x::Z,y::X=>Dd x y&&De Z X
 |_,_=>false
def afi:Value->Value->Bool
 |.iface t (.int k a),.iface Z (.int X b)=>t==Z&&decide (k=X)&&a==b
 |_,_=>false
def sL:aT->aT->Bool
 |.ret a,.ret b=>De a b
 |.aW a,.aW b=>afi a b
 |_,_=>false
def wD:Option aT->Option aT->Option aT
 |some a,some b=>if sL a b then some a else none
 |_,_=>none
def aam:List (Option aT)->Option aT
 |[]=>none
 |[o]=>o
 |o::Z=>wD o (aam Z)
mutual
def afj:∀(a b:RV),AK a b=true->a=b
 |.mk v Z,.mk V aA,h=>by
  simp only[AK,axI] at h;have X:=afk Z aA h.2;subst X;congr 1;have W:=h.1;split at W<;>simp_all
def afk:∀(a b:List (List RV)),uI a b=true->a=b
 |[],[],_=>rfl
 |[],_::_,h=>by simp[uI] at h
 |_::_,[],h=>by simp[uI] at h
 |r::Z,X::W,h=>by
  simp only[uI,axI] at h;rw[afl r X h.1,afk Z W h.2]
def afl:∀(a b:List RV),wC a b=true->a=b
 |[],[],_=>rfl
 |[],_::_,h=>by simp[wC] at h
 |_::_,[],h=>by simp[wC] at h
 |r::Z,X::W,h=>by
  simp only[wC,axI] at h;rw[afj r X h.1,afl Z W h.2]
end
def apI:∀(a b:XV),Dd a b=true->a=b
 |.i a,b,h=>by cases b<;>simp[Dd] at h;rw[h]
 |.b a,b,h=>by cases b<;>simp[Dd] at h;rw[h]
 |.r a,b,h=>by cases b<;>simp[Dd] at h;rw[afj _ _ h]
def afm:∀(a b:List XV),De a b=true->a=b
 |[],b,h=>by cases b<;>simp[De] at h;rfl
 |x::Z,b,h=>by cases b<;>simp[De] at h;rw[apI _ _ h.1,afm _ _ h.2]
def apJ:∀(a b:aT),sL a b=true->a=b
 |.ret a,b,h=>by cases b<;>simp[sL] at h;rw[afm _ _ h]
 |.aW a,b,h=>by
  cases b<;>simp[sL] at h;rename_i v;unfold afi at h;split at h;simp only[axI,beq_iff_eq,decide_eq_true_eq] at h;obtain⟨⟨rfl,rfl⟩,rfl⟩:=h;rfl;cases h
def Ox{a b:Option aT}{o:aT}(h:wD a b=some o):a=some o/\b=some o:=by
 unfold wD at h;split at h;split at h;rename_i x y Z;cases h;rw[apJ _ _ Z];exact⟨rfl,rfl⟩;cases h;cases h
def Oy:∀{l:List (Option aT)}{o:aT},aam l=some o->∀x∈l,x=some o
 |[],o,h=>by simp[aam] at h
 |[x],o,h=>by simp only[aam] at h;intro y X;simp at X;rw[X];exact h
 |x::y::r,o,h=>by
  simp only[aam] at h;obtain⟨W,V⟩:=Ox h;intro z Z;rcases axT.1 Z with rfl|Z;exact W;exact Oy (l:=y::r) V z Z
def Wm{a b Z X:Option aT}{o:aT}(h:wD a b=some o)(U:a=some o->Z=some o)(R:b=some o->X=some o):wD Z X=some o:=by
 obtain⟨W,V⟩:=Ox h;rw[W,V] at h;rw[U W,R V];exact h
def Wn{Z:Type}{l:List Z}{f g:Z->Option aT}{o:aT}(h:aam (l.map f)=some o)(W:∀x∈l,f x=some o->g x=some o):aam (l.map g)=some o:=by
 rw[<-h];congr 1;refine ax7 λx X=> ?_
 have:=Oy h (f x) (aya.2 ⟨x,X,rfl⟩);rw[this,W x X this]
def n9(m:IE)(g h:BE)(O:aa):List (Option Int):=(((ax6 (m.den O).toNat).map λ(j:Nat)=>(j:Int)).filter λj=>g.den (O.add (.i j))).map some++(if h.den O then[none] else[])
def Wo{m:IE}{g h:BE}{j:Int}(X:0<=j)(W:j<m.den U)(Z:g.den (U.add (.i j))=true):some j∈n9 m g h U:=by
 simp only[n9,axS,aya,ayr,ayR];exact .inl ⟨j,⟨⟨j.toNat,by omega,by omega⟩,Z⟩,rfl⟩
def Wp{m:IE}{g h:BE}(Z:h.den U=true):none∈n9 m g h U:=by
 simp[n9,Z]
def run(W:Ty)(V U:FuncId->Option (List TypeId))(aQ:kn)(R:List TypeId):Nat->T->aa->List RK->List Fr->Option aT
 |0,_,_,_,_=>none
 |n+1,.ret v _ Q,O,Z,_=>if yS Z Q then Wg W R v Q O else none
 |n+1,.aW v,O,_,_=>(Db O v).map .aW
 |n+1,.node b t f,O,Z,X=>if b.den O then run W V U aQ R n t O Z X else run W V U aQ R n f O Z X
 |n+1,.az b t,O,Z,X=>if b.den O then run W V U aQ R n t O Z X else none
 |n+1,.call f J _ Q P eP t,O,Z,X=>if yS Z Q then(match Wh W V U f J Q P eP O with
   |some I=>match aQ f I with
    |some (.ret M)=>if dh P M then run W V U aQ R n t (O.ext M) (Z++gt P) X else none
    |some (.aW v)=>some (.aW v)
    |none=>none
   |none=>none) else none
 |n+1,.loop av P L t,O,Z,X=>if hU W Z P L then run W V U aQ R n t (O.ext (L.map (SV.xv O))) (Z++gt P) (⟨av,P,t,O,Z++gt P⟩::X) else none
 |n+1,.back av x,O,Z,X=>match Dc av X with
  |some (N,H)=>if hU W Z N.ks x then run W V U aQ R n N.t (N.O.ext (x.map (SV.xv O))) N.rs (N::H) else none
  |none=>none
 |n+1,.rows k x _ t,O,Z,X=>if Wj k then run W V U aQ R n t (O.add (.r (eI x O))) (Z++[k]) X else none
 |n+1,.ey g h t f,O,Z,X=>if g.den O then(if h.den O then wD (run W V U aQ R n t O Z X) (run W V U aQ R n f O Z X) else run W V U aQ R n t O Z X) else(if h.den O then run W V U aQ R n f O Z X else none)
 |n+1,.pick m g h t f,O,Z,X=>aam ((n9 m g h O).map λj=>match j with
  |some j=>run W V U aQ R n t (O.add (.i j)) Z X
  |none=>run W V U aQ R n f O Z X)
 |n+1,.dq _ _ e G F r Q t,O,Z,X=>if yT Z Q&&Wi Z r e then(match dB G F (r.rv O).rows with
  |some E=>run W V U aQ R n t (O.add (.r (.mk (r.rv O).val E))) (Z++[.own e]) X
  |none=>none) else none
 |n+1,.new e x Q _ t,O,Z,X=>if yT Z Q then run W V U aQ R n t (O.add (.r (eI x O))) (Z++[.own e]) X else none
 |_,_,_,_,_=>none
variable{r:List LK}{k:List XV}{N:List RK}
section
def Kd{w Z:World}(h:dM [] w Z):Below w.heap.size w Z:=⟨h.os,h.tape,h.output,h.size,λk X=>h.block k X (by simp)⟩
def apK{a b c:World}(h:Below a.heap.size a b)(k:Below b.heap.size b c):Below a.heap.size a c:=h.trans (k.mono h.size)
def lS:List LK->List XV->List Value
 |k::Z,x::X=>x.at k::lS Z X
 |_,_=>[]
def aaA(u:Ty):List TypeId->List Value->List Value
 |[],_=>[]
 |t::X,l=>match u t with
  |some Z=>(if Z.d.isAgg then .agg (l.take Z.ab.length).toArray else l.getD 0 undef)::aaA u X (l.drop Z.ab.length)
  |none=>[]
def Df:List Value->Value
 |[v]=>v
 |l=>.tuple l.toArray
def afn{u:Ty}:∀{Z:List TypeId}{X l:List SV},gP u Z X=some l->Z.length=X.length
 |[],[],l,_=>rfl
 |[],_::_,l,h=>by simp[gP] at h
 |_::_,[],l,h=>by simp[gP] at h
 |t::Z,v::X,l,h=>by
  simp only[gP] at h;split at h;rename_i V r U W;simp[afn W];cases h
def Oz{u:Ty}{O:aa}{V:List Nat}:∀{X:List TypeId}{W l:List SV},gP u X W=some l->SV.ap O V W=aaA u X (SV.ap O V l)
 |[],[],l,_=>rfl
 |[],_::_,l,h=>by simp[gP] at h
 |_::_,[],l,h=>by simp[gP] at h
 |t::X,v::W,l,h=>by
  simp only[gP] at h;split at h;rename_i M r Q N;have R:=Oz (O:=O) (V:=V) N;simp only[aaA,Q];split at h;rename_i U;rw[if_pos U];split at h;rename_i L;split at h;rename_i Z;simp only[beq_iff_eq] at Z;cases h;rw[Ni,<-Z,List.take_left' (by simp),az4 (by simp),<-R];simp only[SV.ap,SV.den];cases h;cases h;rename_i U;rw[if_neg U];split at h;rename_i Z;simp only[beq_iff_eq] at Z;cases h;rw[Z];simp only[SV.ap,ay1,List.drop_succ_cons,aAY,<-R];cases h;cases h
def afo{u:Ty}{O:aa}{V:List Nat}{Z:List TypeId}{v:SV}{l:List SV}(h:gP u Z (uH Z.length v)=some l):v.den O V=Df (aaA u Z (SV.ap O V l)):=by
 have X:=afn h;rw[<-Oz h];cases v
 case bm R=>
  simp only[uH] at X⊢;by_cases W:Z.length==1;simp[W,SV.ap,Df];simp only[W,if_false,ax3] at X⊢;have U:R.length≠1:=by rw[<-X];simpa using W
  match R,U with
  |[],_=>simp[SV.ap,Df,SV.den]
  |[x],U=>simp at U
  |x::y::z,_=>simp[SV.ap,Df,SV.den]
 all_goals simp[uH,SV.ap,Df]
def apL{u:Ty}{Z:List RK}{O:aa}{V:List Nat}{k:LK}{v:SV}(h:AJ u Z k v=true):v.den O V=(v.xv O).at k/\nX k (v.xv O):=by
 unfold AJ at h;split at h;rename_i k X e;simp at h;subst h;exact⟨rfl,trivial⟩;exact⟨rfl,trivial⟩;exact⟨rfl,trivial⟩;cases h
def Gn{u:Ty}{X:List RK}{O:aa}{V:List Nat}:∀{Z:List LK}{l:List SV},hU u X Z l=true->SV.ap O V l=lS Z (l.map (SV.xv O))/\cV Z (l.map (SV.xv O))
 |[],[],_=>⟨rfl,trivial⟩
 |[],_::_,h=>by simp[hU] at h
 |_::_,[],h=>by simp[hU] at h
 |k::Z,v::l,h=>by
  simp only[hU,axI] at h;obtain⟨W,U⟩:=apL (O:=O) (V:=V) h.1;obtain⟨R,Q⟩:=Gn (O:=O) (V:=V) h.2;exact⟨by simp only[SV.ap,axV,lS,W,R],U,Q⟩
def apM(h:dh r k=true):cV r k:=by
 induction r generalizing k with
 |nil=>cases k with
  |nil=>trivial
  |cons=>simp[dh] at h
 |cons Z r X=>cases k with
  |nil=>simp[dh] at h
  |cons x k=>
   simp only[dh,axI] at h;refine⟨?_,X h.2⟩;cases Z<;>cases x<;>first|trivial|simp[Gm] at h
def Wq:∀{Z:List LK}{X W:List XV},cV Z W->wB X W->cV Z X
 |[],[],[],_,_=>trivial
 |[],_::_,[],_,h=>h.elim
 |[],_,_::_,h,_=>h.elim
 |_::_,_,[],h,_=>h.elim
 |_::_,[],_::_,_,h=>h.elim
 |k::Z,x::X,y::W,h,V=>by
  refine⟨?_,Wq h.2 V.2⟩;have U:=h.1;have R:=V.1;cases k<;>cases x<;>cases y<;>simp_all[nX,Gj]
def Ke{O Z:aa}(h:jH O Z):∀l:List SV,wB (l.map (SV.xv O)) (l.map (SV.xv Z))
 |[]=>trivial
 |v::l=>⟨SV.apE h v,Ke h l⟩
def Kf{V:List Nat}:∀{W:List LK}{l:List SV}{Z:List XV}{O:aa}{a b c:Nat},pi a b c W l=true->cV W Z->O.i.length=a->O.b.length=b->O.r.length=c->SV.ap (O.ext Z) V l=lS W Z
 |[],[],[],O,a,b,c,_,_,_,_,_=>rfl
 |[],[],_::_,O,a,b,c,_,h,_,_,_=>h.elim
 |[],_::_,Z,O,a,b,c,h,_,_,_,_=>by simp[pi] at h
 |k::W,[],Z,O,a,b,c,h,_,_,_,_=>by cases k<;>simp[pi] at h
 |_::_,_::_,[],O,a,b,c,_,h,_,_,_=>h.elim
 |k::W,v::l,x::Z,O,a,b,c,h,I,U,R,Q=>by
  have M:=As Z (O.add x);obtain⟨L,J⟩:=I;simp only[SV.ap,aa.ext,lS];unfold pi at h;split at h;rename_i X;cases X;rename_i X N;cases X;cases N;cases x<;>simp[nX] at L;simp only[axI,decide_eq_true_eq,beq_iff_eq] at h;obtain⟨⟨rfl,rfl⟩,h⟩:=h;rw[Kf h J (by simp[aa.add,U]) (by simp[aa.add,R]) (by simp[aa.add,Q])];simp only[SV.den,IE.den,XV.at];rw[M.i _ (by simp[aa.add,U])];simp[aa.add,<-U];rename_i X N;cases X;cases N;cases x<;>simp[nX] at L;simp only[axI,beq_iff_eq] at h;obtain⟨rfl,h⟩:=h;rw[Kf h J (by simp[aa.add,U]) (by simp[aa.add,R]) (by simp[aa.add,Q])];simp only[SV.den,BE.den,XV.at];rw[M.b _ (by simp[aa.add,R])];simp[aa.add,<-R];rename_i X N;cases X;cases N;cases x<;>simp[nX] at L;simp only[axI,beq_iff_eq] at h;obtain⟨rfl,h⟩:=h;rw[Kf h J (by simp[aa.add,U]) (by simp[aa.add,R]) (by simp[aa.add,Q])];simp only[SV.den,RE.den,RE.rv,XV.at];rw[M.r _ (by simp[aa.add,Q])];simp[aa.add,aa.rv,<-Q];cases h
def apN{u:Ty}{O:aa}{s:S}{b:Nat}{r:RE}{e:RK}(R:e≠ .aq)(h:r.kind u s=e)(X:cu u e (r.rv O) b):O.mw u s.rs b:=by
 obtain⟨W,V,N,U,Z⟩:=Nz R h X;rcases Z with⟨rfl,Z⟩|⟨t,Z,Q⟩;exact⟨W,V,U,Ny (by rw[Z];exact X)⟩;exact⟨W,V,U,FO Z Q⟩
def afp{u:Ty}{e:RK}{Z:RV}{b:Nat}(h:cu u e Z b):cu u e.rd Z b:=by
 cases h with
 |own e Z b h=>exact h
 |here e a W V X=>exact cu.here e a W V X
 |deep e v X i j U c z k b R Q O N=>exact cu.deep e v X i j U c z k b R Q O N
def uJ(u:Ty)(X:List LK)(W:List XV)(b:Nat):Prop:=∃(q:Nat)(e:RK)(Z:RV),X[q]?=some (.ref e)/\W[q]?=some (.r Z)/\cu u e Z b
def afq{u:Ty}{V:List RK}:∀{X:List LK}{l:List SV},hU u V X l=true->∀(q:Nat)(k:LK)(v:SV),X[q]?=some k->l[q]?=some v->AJ u V k v=true
 |[],_,_,q,k,v,Z,_=>by simp at Z
 |_::_,[],h,q,k,v,_,_=>by simp[hU] at h
 |U::X,R::l,h,0,k,v,Z,W=>by simp only[hU,axI] at h;simp at Z W;subst Z W;exact h.1
 |U::X,R::l,h,q+1,k,v,Z,W=>by simp only[hU,axI] at h;exact afq h.2 q k v (by simpa using Z) (by simpa using W)
def afr{u:Ty}{W:List RK}{O:aa}{U:List LK}{l:List SV}(h:hU u W U l=true){q:Nat}{e:RK}{R:RV}(N:U[q]?=some (.ref e))(Z:(l.map (SV.xv O))[q]?=some (.r R)):
  ∃r:RE,((∃Q,e=.mr Q/\r.mX u ⟨[],[],0,0,W,0,0,[]⟩ Q=true)\/r.fits u ⟨[],[],0,0,W,0,0,[]⟩ e.rd=true)/\R=r.rv O:=by
 rw[axO] at Z;cases V:l[q]? with
 |none=>rw[V] at Z;cases Z
 |some v=>
  rw[V] at Z;have:=afq h q _ v N V;unfold AJ at this;split at this;rename_i X;cases X;rename_i X;cases X;rename_i X;cases X;simp only[axR,axM,SV.xv,XV.r.injEq] at Z;refine⟨_, ?_,Z.symm⟩;split at this;exact .inl ⟨_,rfl,this⟩;exact .inr this;cases this
def Kg{u:Ty}{Z:List RK}{O:aa}{W:List LK}{l:List SV}(h:hU u Z W l=true){b:Nat}(R:uJ u W (l.map (SV.xv O)) b):O.mw u Z b:=by
 obtain⟨q,e,J,Q,N,V⟩:=R;obtain⟨r,X,rfl⟩:=afr h Q N;rcases X with⟨I,rfl,-⟩|X;cases V;have U:=afp V;obtain⟨M,L⟩:=UM (O:=O) X U;exact apN (s:=⟨[],[],0,0,Z,0,0,[]⟩) L M U
def uK(u:Ty)(W:World)(X:List LK)(V:List XV):Prop:=∀(q:Nat)(e:RK)(Z:RV),X[q]?=some (.ref e)->V[q]?=some (.r Z)->aX W u e Z
def afs{u:Ty}{W:World}{B:Nat}{old:Nat->Prop}:∀{X:List LK}{Z:List XV},uK u W X Z->(∀b,uJ u X Z b->B<=b\/old b)->Fw u W B old X Z
 |[],Z,_,_=>by cases Z<;>trivial
 |_::_,[],_,_=>trivial
 |k::X,x::Z,h,Q=>by
  refine⟨?_,afs (λq e V U R=>h (q+1) e V (by simpa using U) (by simpa using R)) (λb ⟨q,e,V,U,R,O⟩=>Q b ⟨q+1,e,V,by simpa using U,by simpa using R,O⟩)⟩;cases k<;>cases x<;>try trivial
  exact⟨h 0 _ _ rfl rfl,λb N=>Q b ⟨0,_,_,rfl,rfl,N⟩⟩
def OA(C W:World):cL C bB.none [] [] [] W:=⟨rfl,rfl,λn l r Z h=>by simp[bB.none] at h,λn X l r V h=>by simp[bB.none] at h,[],rfl,λ_=>rfl,by simp[bB.none],λd h=>by simp[bB.none] at h⟩
def gY.OC{U:List Nat}{C:World}{V:List Nat}{O:aa}{N:aY}{u:Ty}{Z:List RK}{W:World}(R:gY U C V O N u Z W)(M:O.r.length=Z.length)(L:∀(k:Nat)(t:TypeId),Z[k]?≠some (.own t)):ao U C bB.none u [] (O.at []) ⟨[],[],O.i.length,O.b.length,Z,0,0,[]⟩ ⟨#[],[]⟩ W:=
 ⟨⟨R.base,λi h=>by simp[aD,bU] at h,λi j h=>by simp[aD,bU] at h,λi t H h=>by simp[bU] at h,λk e Q X J=>⟨(R.ref k e Q X J).1,λb F i I=>by simp[aD,bU] at I⟩⟩,rfl,rfl,rfl,M,OA _ _,rfl,λt E h=>by simp at h,λk e Q b X=>absurd X (L k e)⟩
def OD:∀{l X:List RK},yS l X=true->my l X/\∀(k:Nat)(t:TypeId),X[k]?≠some (.own t)
 |[],[],_=>⟨my.refl _,λk t h=>by simp at h⟩
 |[],_::_,h=>by simp[yS] at h
 |_::_,[],h=>by simp[yS] at h
 |x::Q,y::O,h=>by
  simp only[yS,axI] at h;obtain⟨W,U⟩:=OD h.2;have V:na x y/\∀t,y≠ .own t:=by
   have N:=h.1;cases x<;>cases y<;>simp_all[Ov,na]
  refine⟨⟨by simp[W.len],λk R Z=> ?_⟩,λk t Z=> ?_⟩;cases k with
  |zero=>simp at Z;subst Z;exact⟨x,rfl,V.1⟩
  |succ k=>exact W.get k R (by simpa using Z)
  cases k with
  |zero=>simp at Z;exact V.2 t Z
  |succ k=>exact U k t (by simpa using Z)
def apO{e:RK}(h:CH (.ref e)=true):e.rd=e:=by cases e<;>simp[CH] at h<;>rfl
def Wr{u:Ty}{O:aa}{Z X:List RK}(h:my Z X){b:Nat}(W:O.mw u X b):O.mw u Z b:=by
 obtain⟨k,e,V,U⟩:=W;obtain⟨R,Q,N⟩:=h.get k e V;exact⟨k,R,Q,U.km N⟩
def afu:∀{l X:List RK},yT l X=true->my l X
 |[],[],_=>my.refl _
 |[],_::_,h=>by simp[yT] at h
 |_::_,[],h=>by simp[yT] at h
 |x::R,y::Q,h=>by
  simp only[yT,axI] at h;have W:=afu h.2;have V:na x y:=by
   have O:=h.1;cases x<;>cases y<;>simp_all[Ov,afc,na]
  refine⟨by simp[W.len],λk U Z=> ?_⟩;cases k with
  |zero=>simp at Z;subst Z;exact⟨x,rfl,V⟩
  |succ k=>exact W.get k U (by simpa using Z)
def afv{J:List Nat}{C:World}{V:List Nat}{O:aa}{I:aY}{u:Ty}{X:List RK}{W:World}(R:gY J C V O I u X W)(Q:O.r.length=X.length)(N:∀(k:Nat)(t:TypeId),X[k]?≠some (.own t)){U:List LK}{l:List SV}(h:hU u X U l=true)(H:mq U=true):uK u W U (l.map (SV.xv O)):=by
 intro q e E M F;obtain⟨r,Z,rfl⟩:=afr h M F;rcases Z with⟨L,rfl,Z⟩|Z;simp only[RE.mX,ayb,decide_eq_true_eq] at Z;rcases Z with Z|Z;have:=nZ (R.OC Q N) (e:=.mr L) (r:=r) (by simp) (by
  rw[yI (s:=⟨[],[],O.i.length,O.b.length,X,0,0,[]⟩) (s':=⟨[],[],0,0,X,0,0,[]⟩) rfl r];exact Z)
 rwa [RE.jG] at this
 unfold RE.nil at Z;split at Z;exact aX.mr L [] (by simp) (by simp) (by simp) (by simp);cases Z;have:=acR (R.OC Q N) (k:=e.rd) (r:=r) (by
  unfold RE.fits at Z⊢;rw[yI (s:=⟨[],[],O.i.length,O.b.length,X,0,0,[]⟩) (s':=⟨[],[],0,0,X,0,0,[]⟩) rfl r];exact Z)
 rwa [apO (NT H M),RE.jG] at this
def Dg(u:Ty)(B:Nat)(old:Nat->Prop)(O:aa)(Z:List RK):Prop:=∀b,O.mw u Z b->B<=b\/old b
def OE:∀(Z:List LK)(s:S),(s.bE Z).2.rs=s.rs++gt Z
 |[],s=>by simp[S.bE,gt]
 |k::Z,s=>by
  simp only[S.bE];rw[OE Z];cases k<;>simp[S.fresh,gt]
def Kh(Z:cV r k)(X:U.r.length=N.length):(U.ext k).r.length=(N++gt r).length:=by
 have:=(uB r k ⟨[],[],U.i.length,U.b.length,N,0,0,[]⟩ U Z rfl rfl X).2.2
 rwa [OE] at this
def Dg.ext{u:Ty}{B:Nat}{old:Nat->Prop}{O:aa}{W:List RK}(h:Dg u B old O W){V:List LK}{Z:List XV}(N:cV V Z)(M:O.r.length=W.length)(J:∀b,uJ u V Z b->B<=b\/old b):Dg u B old (O.ext Z) (W++gt V):=by
 intro b ⟨k,e,L,I⟩;have H:k<(O.ext Z).r.length:=by rw[Kh N M];exact(axJ.1 L).1
 have F:(O.ext Z).r[k]?=some ((O.ext Z).rv k):=by simp[aa.rv,H]
 have:=C3 (PP:=λe X=>∀b,cu u e X b->B<=b\/old b) V Z ⟨[],[],O.i.length,O.b.length,W,0,0,[]⟩ O N M
  (λq e X R U b Q=>J b ⟨q,e,X,R,U,Q⟩) (λk e X R U b Q=>h b ⟨k,e,R,by
   have E:k<O.r.length:=(axJ.1 U).1;have:O.rv k=X:=by simp[aa.rv,U]
   rw[this];exact Q⟩)
 rw[OE] at this;exact this k e _ L F b I
def Ki(u:Ty)(D:List TypeId)(I:List LK)(C:World)(J:List LK)(M:List XV)(out:aT):Ending->World->Prop
 |.returned v,X=>∃W Z,out=.ret W/\wB W Z/\cV I Z/\v=Df (aaA u D (lS I Z))/\Below C.heap.size C X/\uK u X I Z/\∀b,uJ u I Z b->C.heap.size<=b\/uJ u J M b
 |.panicked V,X=>Below C.heap.size C X/\∃v,out=.aW v/\V=[{v:=v,recovered:=false}]
 |.outgrown,_=>False
def Dh(P:Program)(u:Ty)(E H:FuncId->Option (List TypeId))(G:World->Prop)(f:FuncId)(F:List XV->Option aT):Prop:=
 ∀X D J I,E f=some X->H f=some D->fb u X=some J->fb u D=some I->∀(V Z:List XV)(out:aT),F V=some out->wB V Z->cV J Z->∀W,G W->uK u W J Z->
  Calls P f (aaA u X (lS J Z)).toArray W (Ki u D I W J Z out)
section
variable{P:Program}{u:Ty}{E H:FuncId->Option (List TypeId)}{aQ:kn}{G:World->Prop}{C:World}{D:List TypeId}{I J:List LK}{M:List XV}{out:aT}{old:Nat->Prop}
def Kj(P:Program)(u:Ty)(C:World)(D:List TypeId)(I J:List LK)(M:List XV)(out:aT):Sp:=⟨P,u,[],C,bB.none,Ki u D I C J M out,λ_ _ _=>False⟩
def Kk(u:Ty)(E H:FuncId->Option (List TypeId))(aQ:kn)(D:List TypeId)(out:aT)(Z:Fr)(W:List Fr)(V:List XV)(n:Nat):Prop:=∃X,wB X V/\run u E H aQ D n Z.t (Z.O.ext X) Z.rs (Z::W)=some out
def Ws(u:Ty)(E H:FuncId->Option (List TypeId))(aQ:kn)(C:World)(D:List TypeId)(old:Nat->Prop)(out:aT)(Z:Fr)(W:List Fr)(N:Nat)(X:List XV):Prop:=
 (∀b,uJ u Z.ks X b->C.heap.size<=b\/old b)/\∃n,n<=N/\Kk u E H aQ D out Z W X n
def afw(W:World)(Z:List PanicEntry)(X:World)(b:Nat)(o:Obj)(U:W.heap.size<=b)(h:Ki u D I W J M out (.panicked Z) X):Ki u D I W J M out (.panicked Z) (X.putObj b o):=
 ⟨⟨h.1.os,h.1.tape,h.1.output,by have:=h.1.size;simpa[World.putObj] using this,λk V=>(World.putObj_heap_other (by omega)).trans (h.1.block k V)⟩,h.2⟩
def apP{p:Nat->Prop}:∀{n:Nat},p n->∃m,p m/\m<=n/\∀k,p k->m<=k:=by
 intro n;induction n using az3 with
 |ind n W=>
  intro h;by_cases X:∃k,k<n/\p k;obtain⟨k,Z,V⟩:=X;obtain⟨m,U,O,R⟩:=W k Z V;exact⟨m,U,by omega,R⟩;exact⟨n,h,axQ _,λk Z=>by by_cases Q:k<n;exact absurd ⟨k,Q,Z⟩ X;omega⟩
open Classical in
noncomputable def Gp(p:Nat->Prop):Nat:=if h:∃m,p m/\∀k,p k->m<=k then Classical.choose h else 0
def afx{p:Nat->Prop}(h:p X):p (Gp p)/\Gp p<=X:=by
 obtain⟨m,W,U,V⟩:=apP h;have Z:∃m,p m/\∀k,p k->m<=k:=⟨m,W,V⟩;unfold Gp;rw[dif_pos Z];exact⟨(Classical.choose_spec Z).1,(Classical.choose_spec Z).2 X h⟩
inductive aaB(u:Ty)(E H:FuncId->Option (List TypeId))(aQ:kn)(C:World)(D:List TypeId)(old:Nat->Prop)(out:aT):Nat->List Fr->List LC->Prop where
 |nil (n:Nat):aaB u E H aQ C D old out n [] []
 |cons (n N m:Nat) (fr:Fr) (st:List Fr) (L:List LC):n<=m->m<=N->aaB u E H aQ C D old out n st L->
   aaB u E H aQ C D old out n (fr::st) (⟨fr.av,Ws u E H aQ C D old out fr st N,λxs=>Gp (Kk u E H aQ D out fr st xs),m⟩::L)
def aaB.mono{W:Nat}{Z:List Fr}(h:aaB u E H aQ C D old out X Z t)(R:W<=X):aaB u E H aQ C D old out W Z t:=by
 induction h with
 |nil=>exact aaB.nil _
 |cons N m Q Z t O V M U=>exact aaB.cons _ _ _ _ _ _ (by omega) V U
def aaB.find{av:Nat}{V U:List Fr}{W:Fr}(h:aaB u E H aQ C D old out X V t)(Z:Dc av V=some (W,U)):
  ∃N m,X<=m/\m<=N/\kG av t=some ⟨W.av,Ws u E H aQ C D old out W U N,λQ=>Gp (Kk u E H aQ D out W U Q),m⟩:=by
 induction h with
 |nil=>simp[Dc] at Z
 |cons N m y V t O M x J=>
  simp only[Dc] at Z;split at Z;rename_i R;cases Z;exact⟨N,m,O,M,by simp[kG,R]⟩;rename_i R;obtain⟨I,F,B,A,z⟩:=J Z;exact⟨I,F,B,A,by simp only[kG,R,if_false];exact z⟩
def apQ(bd:∀f,Dh P u E H G f (aQ f))(hG:∀W W',Below W.heap.size W W'->G W->G W')(bf:G C)(bk:fb u D=some I)(br:∀ys b,uJ u I ys b->old b->uJ u J M b):
  ∀(n:Nat)(t:T)(F O:aa)(X:List RK)(w:List Fr)(L:List LC),run u E H aQ D n t F X w=some out->jH F O->O.r.length=X.length->Dg u C.heap.size old O X->aaB u E H aQ C D old out n w L->
   t.aG (Kj P u C D I J M out) O L:=by
 intro n;induction n using az3 with
 |ind n d=>
  intro t F O X w L h Z U R p;cases n with
  |zero=>simp[run] at h
  |succ n=>
   cases t with
   |out e s=>simp[run] at h
   |stuck m=>simp[run] at h
   |ret v bx al=>
    simp only[run] at h;split at h;rename_i a;obtain⟨hw,a3⟩:=OD a;unfold Wg at h;split at h;rename_i l ks q B;rw[bk] at B;cases B;split at h;rename_i ac;cases h;simp only[axI] at ac;obtain⟨ac,bs⟩:=ac;intro y V W hR;have Z:jH F (O.at y):=⟨Z.i,Z.b,Z.len,Z.r⟩;have U:(O.at y).r.length=X.length:=U;have R:Dg u C.heap.size old (O.at y) X:=R;generalize O.at y=O at Z U R hR⊢;obtain⟨h1,h2⟩:=Gn (O:=O) (V:=V) ac;refine⟨_,l.map (SV.xv O),rfl,Ke Z l,h2,by rw[afo q,h1],Kd hR.base,afv hR (U.trans hw.len.symm) a3 ac bs,λb Q=>(R b (Wr hw (Kg ac Q))).imp id (br _ b Q)⟩;cases h;cases h;cases h
   |aW v=>
    simp only[run,azi] at h;obtain⟨pv,hv,rfl⟩:=h;intro y V W hO;have Z:jH F (O.at y):=⟨Z.i,Z.b,Z.len,Z.r⟩;refine⟨Kd hO,pv,rfl, ?_⟩;unfold Db at hv;split at hv;cases hv;simp only[SV.den,IE.b9 Z];cases hv
   |node b t f=>
    simp only[run] at h;rw[BE.b9 Z] at h;refine⟨λQ=> ?_,λQ=> ?_⟩;rw[if_pos Q] at h;exact d n (by omega) t F O X w L h Z U R (p.mono (by omega));rw[if_neg (by simp[Q])] at h;exact d n (by omega) f F O X w L h Z U R (p.mono (by omega))
   |az b t=>
    simp only[run] at h;rw[BE.b9 Z] at h;split at h;rename_i Q;exact⟨Q,d n (by omega) t F O X w L h Z U R (p.mono (by omega))⟩;cases h
   |call f cs bx al ks eP t=>
    simp only[run] at h;split at h;rename_i a;obtain⟨hw,a3⟩:=OD a;split at h;rename_i ct hx;unfold Wh at hx;split at hx;rename_i ps bt bX b0;split at hx;rename_i l b1 b2 r q b3 b4 b5;split at hx;rename_i hc;simp only[axI,decide_eq_true_eq] at hc;obtain⟨⟨⟨c1,cp⟩,rfl⟩,c3⟩:=hc;cases hx;intro y V W hR;have an:jH F (O.at y):=⟨Z.i,Z.b,Z.len,Z.r⟩;have cv:Dg u C.heap.size old (O.at y) X:=R;obtain⟨a1,a2⟩:=Gn (O:=O.at y) (V:=V) c1;have hB:=Kd hR.base;have b6:=afv hR (U.trans hw.len.symm) a3 c1 cp;rw[Oz q,a1];cases ho:aQ f (l.map (SV.xv F)) with
    |none=>rw[ho] at h;cases h
    |some o=>
     rw[ho] at h;refine(bd f ps bt b1 b2 bX b0 b3 b4 _ _ o ho (Ke an l) a2 W (hG _ _ hB bf) b6).mono ?_;intro e W' hE;cases e with
     |outgrown=>exact hE.elim
     |panicked ch=>
      obtain⟨e1,pv,rfl,rfl⟩:=hE;simp only[axM] at h;subst h;exact⟨e1,apK hB e1,pv,rfl,rfl⟩
     |returned v=>
      obtain⟨yh,ys,rfl,e2,e3,rfl,e5,e6,e7⟩:=hE;rw[show SV.xv (O.at y)=SV.xv O from funext (SV.VM O y)] at e7;simp only at h;split at h;rename_i cx;refine⟨ys,e3, ?_,e5,afs e6 (λb Q=>(e7 b Q).imp id (λb7=>Kg c1 b7)), ?_⟩;rw[<-J4,afo b5,Kf c3 e3 (by rw[an.i]) (by rw[an.b]) (by rw[an.len])];refine d n (by omega) t _ _ _ w L h (Z.ext e2) (Kh e3 U) (R.ext e3 U (λb Q=> ?_)) (p.mono (by omega));rcases e7 b Q with h1|h1;exact .inl (ayt hB.size h1);exact R b (Wr hw (Kg c1 h1));cases h
    cases hx;cases hx;cases hx;cases h;cases h
   |loop av ks x0 t=>
    simp only[run] at h;split at h;rename_i ac;have cy:=(Gn (O:=O) (V:=[]) ac).2;refine⟨Ws u E H aQ C D old out ⟨av,ks,t,F,X++gt ks⟩ w n,λxs=>Gp (Kk u E H aQ D out ⟨av,ks,t,F,X++gt ks⟩ w xs),⟨λb Q=>R b (Kg ac Q),n,axQ _,x0.map (SV.xv F),Ke Z x0,h⟩, ?_⟩;intro xs hf ⟨i1,n1,i2,i3⟩;obtain⟨⟨xh,j1,j2⟩,j3⟩:=afx i3;refine d _ (by omega) t _ _ _ _ _ j2 (Z.ext j1) (Kh hf U) (R.ext hf U i1) ?_;exact aaB.cons _ _ _ _ _ _ (axQ _) (ayt j3 i2) (p.mono (by omega));cases h
   |back av x=>
    simp only[run] at h;split at h;rename_i fr b8 ca;split at h;rename_i ac;obtain⟨N,m,g1,g2,g3⟩:=p.find ca;simp only[T.aG,g3];have a5:Kk u E H aQ D out fr b8 (x.map (SV.xv O)) n:=⟨x.map (SV.xv F),Ke Z x,h⟩;refine⟨⟨λb Q=>R b (Kg ac Q),n,by omega,a5⟩, ?_⟩;have:=(afx a5).2;omega;cases h;cases h
   |new e x al cI t=>
    simp only[run] at h;split at h;rename_i a;have hw:=afu a;intro rv a6;obtain⟨A,m,c,rfl,hm⟩:=a6.val;subst hm;refine d n (by omega) t _ _ _ w L h (Z.add (afb Z x)) (by simp[aa.add,U]) ?_ (p.mono (by omega));intro b ⟨k,e',B,q⟩;by_cases af:k<X.length;rw[axL af] at B;refine R b ⟨k,e',B, ?_⟩;have:(O.add (.r (.mk (.slice A (x.rows O).length c) (x.rows O)))).rv k=O.rv k:=by simp[aa.rv,aa.add,axL,U,af]
    rw[<-this];exact q;have ag:k=X.length:=by
     have:=(axJ.1 B).1;simp at this;omega
    subst ag;simp at B;subst B;have e1:(O.add (.r (.mk (.slice A (x.rows O).length c) (x.rows O)))).rv X.length=.mk (.slice A (x.rows O).length c) (x.rows O):=by rw[<-U];simp[aa.rv,aa.add]
    rw[e1] at q;have cc:=afp q;rcases a6.mw b cc with g|g|g;exact .inl g;cases g;exact R b (Wr hw g);cases h
   |rows k x al t=>
    simp only[run] at h;split at h;rename_i a;refine d n (by omega) t _ _ _ w L h (Z.add (afb Z x)) (by simp[aa.add,U]) ?_ (p.mono (by omega));intro b ⟨k',e',B,q⟩;by_cases af:k'<X.length;rw[axL af] at B;refine R b ⟨k',e',B, ?_⟩;have:(O.add (.r (eI x O))).rv k'=O.rv k':=by simp[aa.rv,aa.add,axL,U,af]
    rw[<-this];exact q;have ag:k'=X.length:=by
     have:=(axJ.1 B).1;simp at this;omega
    subst ag;simp at B;subst B;cases k<;>simp[Wj] at a;cases q;cases h
   |ey g h' t f=>
    simp only[run] at h;rw[BE.b9 Z,BE.b9 Z] at h;refine⟨λQ=> ?_,λQ=> ?_⟩;rw[if_pos Q] at h;split at h;exact d n (by omega) t F O X w L (Ox h).1 Z U R (p.mono (by omega));exact d n (by omega) t F O X w L h Z U R (p.mono (by omega));simp only[Q,if_true] at h;split at h;exact d n (by omega) f F O X w L (Ox h).2 Z U R (p.mono (by omega));exact d n (by omega) f F O X w L h Z U R (p.mono (by omega))
   |pick m g h' t f=>
    simp only[run] at h;refine⟨λj h1 h2 h3=> ?_,λQ=> ?_⟩;have a7:jH (F.add (.i j)) (O.add (.i j)):=Z.add (x:=.i j) (y:=.i j) rfl;have hj:=Oy h _ (aya.2 ⟨some j,Wo (g:=g) (h:=h') h1 (by rw[IE.b9 Z];exact h2) (by rw[BE.b9 a7];exact h3),rfl⟩);exact d n (by omega) t _ _ X w L hj a7 U R (p.mono (by omega));have hj:=Oy h _ (aya.2 ⟨none,Wp (m:=m) (g:=g) (h:=h') (by rw[BE.b9 Z];exact Q),rfl⟩);exact d n (by omega) f _ _ X w L hj Z U R (p.mono (by omega))
   |dq f g e sp sb r al t=>
    simp only[run] at h;split at h;rename_i a;simp only[axI] at a;obtain⟨a,a0⟩:=a;have a8:=RE.b9 Z r;split at h;rename_i cf a9;obtain⟨rows,a4,c0⟩:=afh a8.Gk a9;refine⟨rows,amK a4, ?_⟩;have bb:=Vc a4;have cl:bW (.mk (r.rv F).val cf) (.mk (r.rv O).val rows):=a8.dq a9 a4;refine d n (by omega) t _ _ _ w L h (Z.add cl) (by simp[aa.add,U]) ?_ (p.mono (by omega));intro b ⟨k,e',B,q⟩;by_cases af:k<X.length;rw[axL af] at B;refine R b ⟨k,e',B, ?_⟩;have:(O.add (.r (.mk (r.rv O).val rows))).rv k=O.rv k:=by simp[aa.rv,aa.add,axL,U,af]
    rw[<-this];exact q;have ag:k=X.length:=by
     have:=(axJ.1 B).1;simp at this;omega
    subst ag;simp at B;subst B;have e1:(O.add (.r (.mk (r.rv O).val rows))).rv X.length=.mk (r.rv O).val rows:=by rw[<-U];simp[aa.rv,aa.add]
    rw[e1] at q;unfold Wi at a0;split at a0;rename_i k;exact R b ⟨k,_,of_decide_eq_true a0,apH q bb⟩;cases q with
    |own e rv b q=>
     have h0:rows=[]:=by
      cases rows with
      |nil=>rfl
      |cons x xs=>have:=bb x (by simp);simp[RE.rv] at this
     subst h0;simp only[RE.rv] at q;cases q with
     |deep e v rows i j c2 c z k b h1 h2 h3 h4=>simp at h1
    cases a0;cases h;cases h
def rf:List LK->Bool
 |[]=>true
 |.ref (.sl _)::_=>false
 |.ref (.own _)::_=>false
 |_::Z=>rf Z
def afy:∀{ks:List LK}{xs:List XV}{b:Nat},rf ks=true->¬uJ u ks xs b
 |[],xs,b,_,⟨q,e,X,Z,_,_⟩=>by simp at Z
 |k::ks,xs,b,h,⟨0,e,X,Z,W,V⟩=>by
  simp at Z;subst Z;cases V<;>simp[rf] at h
 |k::ks,[],b,h,⟨q+1,e,X,Z,W,V⟩=>by simp at W
 |k::ks,x::xs,b,h,⟨q+1,e,X,Z,W,V⟩=>afy (ks:=ks) (xs:=xs) (b:=b) (by
   cases k with
   |ref r=>cases r<;>simp[rf] at h⊢<;>exact h
   |int _=>simpa[rf] using h
   |bool=>simpa[rf] using h) ⟨q,e,X,by simpa using Z,by simpa using W,V⟩
def de(Z:List RV)(X:List XV):aa:=(⟨[],[],Z,[]⟩:aa).ext X
end
end
variable{g:aT}
section
def Kl:SV->List SV
 |.agg l=>l
 |v=>[v]
def kJ:List SV->List SV
 |[]=>[]
 |v::Z=>Kl v++kJ Z
def aaC:SV->List SV
 |.bm l=>kJ l
 |v=>Kl v
def apR:SV->Bool
 |.dV _ (.int _ _)=>true
 |_=>false
def nI:List LK->Nat
 |[]=>0
 |.int _::Z=>nI Z+1
 |_::Z=>nI Z
def nB:List LK->Nat
 |[]=>0
 |.bool::Z=>nB Z+1
 |_::Z=>nB Z
def afz(c:Ty)(d:List TypeId)(v:SV)(X:List RK):Bool:=match gP c d (uH d.length v),fb c d with
 |some l,some Z=>hU c X Z l&&mq Z
 |_,_=>false
def afA(c:Ty)(p s:FuncId->Option (List TypeId))(f:FuncId)(R:List SV)(Q P:Nat)(X:List RK)(W:List LK)(eP:SV):Bool:=match p f,s f with
 |some V,some Z=>match gP c V R,fb c V,fb c Z,gP c Z (uH Z.length eP) with
  |some l,some U,some O,some r=>hU c X U l&&mq U&&decide (O=W)&&pi Q P X.length W r
  |_,_,_,_=>false
 |_,_=>false
def Km(av:Nat):List (Nat×List LK)->Option (List LK)
 |[]=>none
 |x::Z=>if x.1=av then some x.2 else Km av Z
def T.eB(c:Ty)(p s:FuncId->Option (List TypeId))(d:List TypeId):T->Nat->Nat->List RK->List (Nat×List LK)->Bool
 |.ret v _ R,_,_,Z,_=>yS Z R&&afz c d v R
 |.aW v,_,_,_,_=>apR v
 |.node _ t f,W,V,Z,X=>t.eB c p s d W V Z X&&f.eB c p s d W V Z X
 |.az _ t,W,V,Z,X=>t.eB c p s d W V Z X
 |.call f Q _ R U eP t,W,V,Z,X=>yS Z R&&afA c p s f Q W V R U eP&&t.eB c p s d (W+nI U) (V+nB U) (Z++gt U) X
 |.loop av U P t,W,V,Z,X=>hU c Z U P&&t.eB c p s d (W+nI U) (V+nB U) (Z++gt U) ((av,U)::X)
 |.back av x,_,_,Z,X=>match Km av X with
  |some U=>hU c Z U x
  |none=>false
 |.new e _ R _ t,W,V,Z,X=>yT Z R&&t.eB c p s d W V (Z++[.own e]) X
 |.rows k _ _ t,W,V,Z,X=>Wj k&&t.eB c p s d W V (Z++[k]) X
 |.ey _ _ t f,W,V,Z,X=>t.eB c p s d W V Z X&&f.eB c p s d W V Z X
 |.pick _ _ _ t f,W,V,Z,X=>t.eB c p s d (W+1) V Z X&&f.eB c p s d W V Z X
 |.dq _ _ e _ _ r R t,W,V,Z,X=>yT Z R&&Wi Z r e&&t.eB c p s d W V (Z++[.own e]) X
 |.stuck _,_,_,_,_=>true
 |.out _ _,_,_,_,_=>false
structure Lp where
 av:Nat
 t:T
 O:aa
def pj(av:Nat):List Lp->Option (Lp×List Lp)
 |[]=>none
 |x::Z=>if x.av=av then some (x,Z) else pj av Z
def exec(aQ:kn):Nat->T->aa->List Lp->Option aT
 |0,_,_,_=>none
 |_+1,.ret v _ _,O,_=>some (.ret ((aaC v).map (SV.xv O)))
 |_+1,.aW v,O,_=>(Db O v).map .aW
 |n+1,.node b t f,O,Z=>if b.den O then exec aQ n t O Z else exec aQ n f O Z
 |n+1,.az b t,O,Z=>if b.den O then exec aQ n t O Z else none
 |n+1,.call f V _ _ U _ t,O,Z=>match aQ f ((kJ V).map (SV.xv O)) with
  |some (.ret W)=>if dh U W then exec aQ n t (O.ext W) Z else none
  |some (.aW v)=>some (.aW v)
  |none=>none
 |n+1,.loop av _ R t,O,Z=>exec aQ n t (O.ext (R.map (SV.xv O))) (⟨av,t,O⟩::Z)
 |n+1,.back av x,O,Z=>match pj av Z with
  |some (X,Q)=>exec aQ n X.t (X.O.ext (x.map (SV.xv O))) (X::Q)
  |none=>none
 |n+1,.new _ x _ _ t,O,Z=>exec aQ n t (O.add (.r (eI x O))) Z
 |n+1,.rows _ x _ t,O,Z=>exec aQ n t (O.add (.r (eI x O))) Z
 |n+1,.ey g h t f,O,Z=>if g.den O then(if h.den O then wD (exec aQ n t O Z) (exec aQ n f O Z) else exec aQ n t O Z) else(if h.den O then exec aQ n f O Z else none)
 |n+1,.pick m g h t f,O,Z=>aam ((n9 m g h O).map λj=>match j with
  |some j=>exec aQ n t (O.add (.i j)) Z
  |none=>exec aQ n f O Z)
 |n+1,.dq _ _ _ P N r _ t,O,Z=>match dB P N (r.rv O).rows with
  |some M=>exec aQ n t (O.add (.r (.mk (r.rv O).val M))) Z
  |none=>none
 |_,_,_,_=>none
def apS{c:Ty}{Z:List RK}{k:LK}{v:SV}(h:AJ c Z k v=true):Kl v=[v]:=by
 unfold AJ at h;split at h<;>first|rfl|cases h
def Ko{c:Ty}{R:List RK}:∀{d:List TypeId}{O l:List SV}{Z:List LK},gP c d O=some l->fb c d=some Z->hU c R Z l=true->kJ O=l
 |[],[],l,Z,h,_,_=>by simp[gP] at h;simp[kJ,h]
 |[],_::_,l,Z,h,_,_=>by simp[gP] at h
 |_::_,[],l,Z,h,_,_=>by simp[gP] at h
 |t::d,v::O,l,Z,h,Q,N=>by
  simp only[gP] at h;split at h;rename_i D r H M;simp only[fb,H] at Q;split at Q;rename_i C L G J;cases G;cases Q;have I:∀(a:List LK)(b:List SV),a.length=b.length->hU c R (a++L) (b++r)=true->hU c R a b=true/\hU c R L r=true:=by
   intro a;induction a with
   |nil=>intro b P V;cases b with
    |nil=>exact⟨rfl,V⟩
    |cons=>simp at P
   |cons k a F=>intro b P V;cases b with
    |nil=>simp at P
    |cons x b=>
     simp only[axY,hU,axI] at V⊢;obtain⟨X,U⟩:=F b (by simpa using P) V.2;exact⟨⟨V.1,X⟩,U⟩
  split at h;split at h;rename_i B;split at h;rename_i W;simp only[beq_iff_eq] at W;cases h;obtain⟨X,U⟩:=I _ _ (by simp[W]) N;simp only[kJ,Kl,Ko M J U];cases h;cases h;split at h;rename_i W;simp only[beq_iff_eq] at W;cases h;obtain⟨X,U⟩:=I _ [v] (by simp[W]) N;obtain⟨A,E⟩:=aye.1 W;rw[E] at X;simp only[axV,ay2,hU,azH] at X;simp only[kJ,apS X,Ko M J U,axY,ax2];cases h;cases Q;cases h
def apT{c:Ty}{R:List RK}{d:List TypeId}{v:SV}{l:List SV}{V:List LK}(h:gP c d (uH d.length v)=some l)(X:fb c d=some V)(Z:hU c R V l=true):aaC v=l:=by
 rw[<-Ko h X Z];cases v
 case bm L=>
  simp only[uH,aaC];split;rename_i W;simp only[beq_iff_eq] at W;exfalso;have Q:=Ko h X Z;simp only[uH,W,beq_self_eq_true,if_true] at h Q;obtain⟨t,P⟩:=aye.1 W;subst P;simp only[gP,fb] at h X;split at h;rename_i J r W O;cases O;split at h;cases h;split at h;rename_i U;cases h;rw[W] at X;simp only[axM] at X;subst X;simp only[beq_iff_eq] at U;obtain⟨I,N⟩:=aye.1 U;rw[N] at Z;simp only[axV,ay2,azf,hU,azH] at Z;unfold AJ at Z;split at Z<;>first|(rename_i M;cases M)|cases Z
  cases h;cases h;rfl
 all_goals simp[uH,aaC,kJ]
section
variable{c:Ty}{p s:FuncId->Option (List TypeId)}{aQ:kn}{d:List TypeId}
def AL:∀{Z:List LK}{X:List XV}{O:aa},cV Z X->(O.ext X).i.length=O.i.length+nI Z/\(O.ext X).b.length=O.b.length+nB Z/\(O.ext X).r.length=O.r.length+(gt Z).length
 |[],[],O,_=>⟨rfl,rfl,rfl⟩
 |[],_::_,O,h=>h.elim
 |_::_,[],O,h=>h.elim
 |k::Z,x::X,O,h=>by
  obtain⟨W,V⟩:=h;obtain⟨U,R,Q⟩:=AL (O:=O.add x) V;simp only[aa.ext,U,R,Q];cases k<;>cases x<;>simp only[nX] at W<;>simp[aa.add,nI,nB,gt]<;>omega
inductive wE(c:Ty)(p s:FuncId->Option (List TypeId))(d:List TypeId):List (Nat×List LK)->List Lp->List Fr->Prop where
 |nil:wE c p s d [] [] []
 |cons (av:Nat) (ks:List LK) (t:T) (O:aa) (rs:List RK) (lv:List (Nat×List LK)) (sl:List Lp) (st:List Fr):O.r.length=rs.length->t.eB c p s d (O.i.length+nI ks) (O.b.length+nB ks) (rs++gt ks) ((av,ks)::lv)=true->wE c p s d lv sl st->
   wE c p s d ((av,ks)::lv) (⟨av,t,O⟩::sl) (⟨av,ks,t,O,rs++gt ks⟩::st)
def wE.find{R:List (Nat×List LK)}{P N:List Lp}{Q:List Fr}{Z:Lp}(h:wE c p s d R P Q)(W:Km X R=some r)(V:pj X P=some (Z,N)):
  ∃U M L,Dc X Q=some (⟨Z.av,r,Z.t,Z.O,U++gt r⟩,L)/\Z.O.r.length=U.length/\Z.t.eB c p s d (Z.O.i.length+nI r) (Z.O.b.length+nB r) (U++gt r) ((Z.av,r)::M)=true/\wE c p s d M N L:=by
 induction h with
 |nil=>simp[Km] at W
 |cons I D t O U R P Q H G F E=>
  simp only[Km,pj,Dc] at W V⊢;by_cases J:I=X;rw[if_pos J] at W V⊢;cases W;cases V;exact⟨U,R,Q,rfl,H,G,F⟩;rw[if_neg J] at W V⊢;exact E W V
def qa:∀(n:Nat)(t:T)(O:aa)(R:List RK)(X:List (Nat×List LK))(W:List Lp)(U:List Fr)(o:aT),exec aQ n t O W=some o->t.eB c p s d O.i.length O.b.length R X=true->O.r.length=R.length->wE c p s d X W U->
  run c p s aQ d n t O R U=some o
 |0,t,O,R,X,W,U,o,h,_,_,_=>by simp[exec] at h
 |n+1,.out _ _,O,R,X,W,U,o,h,_,_,_=>by simp[exec] at h
 |n+1,.stuck _,O,R,X,W,U,o,h,_,_,_=>by simp[exec] at h
 |n+1,.ret v bx M,O,R,X,W,U,o,h,Z,Q,P=>by
  simp only[exec,axM] at h;simp only[T.eB,axI] at Z;obtain⟨E,Z⟩:=Z;simp only[run,E,if_true,Wg];unfold afz at Z;split at Z
  ·rename_i l L D C
   try rw[D,C]
   simp only[Z,if_true];simp only[axI] at Z;rw[<-apT D C Z.1,h]
  cases Z
 |n+1,.aW v,O,R,X,W,U,o,h,Z,Q,P=>by simpa only[exec,run] using h
 |n+1,.node b t f,O,R,X,W,U,o,h,Z,Q,P=>by
  simp only[exec] at h;simp only[T.eB,axI] at Z;simp only[run];split at h;rename_i J;rw[if_pos J];exact qa n t O R X W U o h Z.1 Q P;rename_i J;rw[if_neg J];exact qa n f O R X W U o h Z.2 Q P
 |n+1,.az b t,O,R,X,W,U,o,h,Z,Q,P=>by
  simp only[exec] at h;simp only[T.eB] at Z;simp only[run];split at h;rename_i J;rw[if_pos J];exact qa n t O R X W U o h Z Q P;cases h
 |n+1,.call f a0 bx M L eP t,O,R,X,W,U,o,h,Z,Q,P=>by
  simp only[exec] at h;simp only[T.eB,axI] at Z;obtain⟨⟨E,N⟩,ac⟩:=Z;have af:=(OD E).1.len;simp only[run,E,if_true,Wh];unfold afA at N;split at N
  ·rename_i ps qs D C
   try rw[D,C]
   try simp only
   split at N
   ·rename_i l pk qk r y w g3 g4
    try rw[y,w,g3,g4]
    try simp only
    rw[af,<-Q] at N;rw[if_pos N];simp only[axI] at N;rw[Ko y w N.1.1.1] at h
    try simp only
    split at h
    ·rename_i ys A
     try rw[A]
     try simp only
     split at h;rename_i u;rw[if_pos u];obtain⟨I,H,G⟩:=AL (O:=O) (apM u);exact qa n t _ _ X W U o h (by rw[I,H];exact ac) (by rw[G,axX,Q]) P;cases h
    ·rename_i v A;(try rw[A]);exact h
    cases h
   cases N
  cases N
 |n+1,.loop av L x0 t,O,R,X,W,U,o,h,Z,Q,P=>by
  simp only[exec] at h;simp only[T.eB,axI] at Z;simp only[run,Z.1,if_true];obtain⟨I,H,G⟩:=AL (O:=O) (Gn (O:=O) (V:=[]) Z.1).2;exact qa n t _ _ ((av,L)::X) _ _ o h (by rw[I,H];exact Z.2) (by rw[G,axX,Q]) (wE.cons _ _ _ _ _ _ _ _ Q Z.2 P)
 |n+1,.back av x,O,R,X,W,U,o,h,Z,Q,P=>by
  simp only[exec] at h;simp only[T.eB] at Z;split at h;rename_i B ag hf;split at Z;rename_i L hk;obtain⟨M,al,a1,q1,a,q3,q4⟩:=P.find hk hf;simp only[run,q1,Z,if_true];obtain⟨I,H,G⟩:=AL (O:=B.O) (Gn (O:=O) (V:=[]) Z).2;exact qa n B.t _ _ ((B.av,L)::al) (B::ag) _ o h (by rw[I,H];exact q3) (by rw[G,axX,a]) (wE.cons _ _ _ _ _ _ _ _ a q3 q4);cases Z;cases h
 |n+1,.new e x M a2 t,O,R,X,W,U,o,h,Z,Q,P=>by
  simp only[exec] at h;simp only[T.eB,axI] at Z;simp only[run,Z.1,if_true];exact qa n t _ _ X W U o h (by simpa[aa.add] using Z.2) (by simp[aa.add,Q]) P
 |n+1,.rows k x M t,O,R,X,W,U,o,h,Z,Q,P=>by
  simp only[exec] at h;simp only[T.eB,axI] at Z;simp only[run,Z.1,if_true];exact qa n t _ _ X W U o h (by simpa[aa.add] using Z.2) (by simp[aa.add,Q]) P
 |n+1,.ey g h' t f,O,R,X,W,U,o,h,Z,Q,P=>by
  simp only[exec] at h;simp only[T.eB,axI] at Z;simp only[run];have i1:=λq=>qa n t O R X W U o q Z.1 Q P
  have i2:=λq=>qa n f O R X W U o q Z.2 Q P
  split at h;rename_i z;rw[if_pos z];split at h;rename_i F;rw[if_pos F];exact Wm h i1 i2;rename_i F;rw[if_neg F];exact i1 h;rename_i z;rw[if_neg z];split at h;rename_i F;rw[if_pos F];exact i2 h;cases h
 |n+1,.pick m g h' t f,O,R,X,W,U,o,h,Z,Q,P=>by
  simp only[exec] at h;simp only[T.eB,axI] at Z;simp only[run];refine Wn h λj _ q=> ?_
  cases j with
  |some j=>exact qa n t (O.add (.i j)) R X W U o q (by simpa[aa.add] using Z.1) (by simpa[aa.add] using Q) P
  |none=>exact qa n f O R X W U o q Z.2 Q P
 |n+1,.dq f g e sp sb r M t,O,R,X,W,U,o,h,Z,Q,P=>by
  simp only[exec] at h;simp only[T.eB,axI] at Z;simp only[run,Z.1.1,Z.1.2,aza,if_true];split at h
  ·rename_i a3 an
   try rw[an]
   exact qa n t _ _ X W U o h (by simpa[aa.add] using Z.2) (by simp[aa.add,Q]) P
  cases h
def rg(aQ:kn)(t:T)(O:aa)(Z:List Lp)(o:aT):Prop:=∃n,exec aQ n t O Z=some o
def Gq{aQ:kn}{X:List Lp}:rg aQ n U X g<->∃Z,exec aQ (Z+1) n U X=some g:=
 ⟨λ⟨Z,h⟩=>by
  cases Z with
  |zero=>simp[exec] at h
  |succ Z=>exact⟨Z,h⟩,λ⟨Z,h⟩=>⟨Z+1,h⟩⟩
@[simp] def aw0 {Z:aY} {X:List Lp}:rg aQ (.ret b Z N) U X g<->g=.ret ((aaC b).map (SV.xv U)):=by
 rw[Gq];simp only[exec,axM];exact⟨λ⟨_,h⟩=>h.symm,λh=>⟨0,h.symm⟩⟩
@[simp] def aw1 {Z:List Lp}:rg aQ (.aW b) U Z g<->(Db U b).map .aW=some g:=by
 rw[Gq];simp only[exec];exact⟨λ⟨_,h⟩=>h,λh=>⟨0,h⟩⟩
@[simp] def aw2 {b:BE} {f:T} {Z:List Lp}:rg aQ (.node b n f) U Z g<->if b.den U=true then rg aQ n U Z g else rg aQ f U Z g:=by
 rw[Gq];simp only[exec];split<;>rfl
@[simp] def aw3 {b:BE} {Z:List Lp}:rg aQ (.az b n) U Z g<->b.den U=true/\rg aQ n U Z g:=by
 rw[Gq];simp only[exec];by_cases X:b.den U=true;simp only[X,if_true,true_and];rfl;simp[X]
@[simp] def aw4 {Z:List Lp}:rg aQ (.loop X r Q n) U Z g<->rg aQ n (U.ext (Q.map (SV.xv U))) (⟨X,n,U⟩::Z) g:=by
 rw[Gq];simp only[exec];rfl
@[simp] def aw5 {x:LE} {X:List RK} {Z:List Lp}:rg aQ (.new v x N X n) U Z g<->rg aQ n (U.add (.r (eI x U))) Z g:=by
 rw[Gq];simp only[exec];rfl
end
end
section
structure oa(P:Program)(g:FuncId)(eT:TypeId):Prop where
 AB:∀args W,(callFunc g args).run P W=.ok (.enter g args) W
 ret:∀(W:World)(b:Nat),CallsDIn Fence.wide 0 P g #[.pointer (some ⟨b,0,none⟩)] .returning W λen u W'=>(∃v,en=.returned v)/\u=.returning/\W'=W
 aW:∀(W:World)(b:Nat)(k0 k:Int),W.heap[b]?=some (.cells #[.int .i64 k0] eT (0,0))->CallsDIn Fence.wide 0 P g #[.pointer (some ⟨b,0,none⟩)] (.panicking [{v:=.iface eT (.int .i64 k),recovered:=false}]) W λen u W'=>
  (∃v,en=.returned v)/\u=.panicking [{v:=.iface eT (.int .i64 k),recovered:=true}]/\W'=W.putObj b (.cells #[.int .i64 k] eT (0,0))
def apU{c:Code}{d:DI}(h:qR c=some d):∃R Q V Z X first U W,c=.seq (.region R d.oX false) (.seq (.region Q V false) d.rest)/\V= #[Z,X]/\Z.op=.makeFunc (.func d.g) first U/\first= #[]/\U= #[.tmp d.te]/\Z.dst=some d.tf/\Z.guard=none/\X.op=.defer W/\W.callee=.value (.tmp d.tf)/\W.args= #[]/\X.guard=none/\X.dst=none:=by
 unfold qR at h;split at h;rename_i R oX Q V C;unfold ab9 at h;split at h;rename_i Z X O;split at h;rename_i g first U B W N M L J I H
 split at h;rename_i A z G F E D;split at h;rename_i P;simp only[beq_iff_eq] at P;subst P;cases h;exact⟨R,Q,V,Z,X,first,U,W,rfl,by apply ayF;simp[O],N,by apply ayF;simp[G],by apply ayF;simp[F],M,L,J,E,by apply ayF;simp[D],I,H⟩;cases h;cases h;cases h;cases h;cases h
section
variable{p:Sp}{cf:bh}
def apV(z:jE p cf)(a0:∀ch W,¬p.R (.panicked ch) W){J:Func}{c:Code}(hf:p.P.funcs[F]?=some J)(hb:J.body=some c){d:DI}(j:qR c=some d)(bi:oa p.P d.g v)
  (ht:Js cf X F c J.ntmps J.results.toList v Q w=n)(I:n.aG p U [])(hg:dC cf.gl U)(R:ao p.S0 p.w0 bB.none cf.ty Z U {w with tmps:=[]} ⟨#[],[]⟩ p.w0):
  Calls p.P F (SV.ap U Z Q).toArray p.w0 p.R:=by
 subst ht;unfold Js at I;rw[j] at I;simp only at I;obtain⟨i0,i1,cy,r,q,first,cI,dc,hc,ho,g1,g2,g3,g4,g5,g6,g7,g8,g9,bx⟩:=apU j;subst ho g2 g3;refine J3 hf hb ?_;rw[hc];obtain⟨D1,al⟩:∃D1:bB,D1=⟨[],[],true,[]⟩:=⟨_,rfl⟩;have bX:cL p.w0 D1 w.pd U.y [] p.w0:=by
  subst al;have h:=R.bY;exact⟨h.len,h.oZ,h.cH,h.inj,[],rfl,λ_=>rfl,by simp,λd j=>by simp at j⟩
 have RE:=R.enter Q J.ntmps bX;obtain⟨Rr,a2⟩:=RE.room (jU d.oX.toList);refine VK (yQ (n:=0) (wpIn_region ?_));have hY:=C9 (p:=p) (cf:=cf) D1.cH ⟨{w with tmps:=Q++axW (J.ntmps-Q.length) (.bm [])},U,Z,[]⟩;have a3:=yG (ops:=d.oX) z.pt z.Cw (yP none) z.jF (Oc z (Oo z X).1 hY) (D:=D1) (k:=Un cf X F d v w.boxes.length J.results.toList) (kp:=λ_ _=>.stuck "") (Q:=Exit.then (λE C=>gZ none F p.P (.seq (.region i1 #[r,q] false) d.rest) (bodyPostM Fence.wide 0 p.P J p.R) E C) (bodyPostM Fence.wide 0 p.P J p.R)) (λch E C pd y hA hR=>(a0 ch C hR).elim) (n:=0) (ez (λ_=>false) true false 0 w.boxes.length d.oX.toList) 0 _ [] [] U _ _ p.w0
  (λi m' hi=>by have:=J7 _ _ _ _ _ _ _ _ hi;simpa using this) ((jD.here _ _ _ _).go a2 (bZ.refl _ _)) I (λx hx=>by cases hx) Rr hg ?_ (λN s' o V' E C L' hl hL R' b0=>b0.elim)
 rw[VP] at a3;simpa[azz] using a3;intro b a L G B L1 co c0 R1 ac;show gZ none F p.P (.seq (.region i1 #[r,q] false) d.rest) (bodyPostM Fence.wide 0 p.P J p.R) G B;unfold Un at ac;split at ac;rename_i M b1;split at ac;rename_i a4;simp only[axI,ax0,decide_eq_true_eq] at a4;obtain⟨⟨a5,b2⟩,b3⟩:=a4;have b4:G.tmps[d.te]?=some (.pointer (some ⟨ad L M,0,none⟩)):=by
  rcases R1.tmps _ _ b1 with h|h;cases h;exact h
 have b5:G.defers=[]:=by
  have h:=R1.bY;rw[al] at h;obtain⟨ms,q1,q0,-,-⟩:=h.kh;have:=q0 rfl;subst this;simpa using q1
 have b6:(SV.fn d.g [.loc M 0]).den a L=.func (.func d.g) #[] #[.pointer (some ⟨ad L M,0,none⟩)]:=by simp[SV.den,SV.ap]
 have A:=R1.put (some d.tf) (.fn d.g [.loc M 0]);rw[b6] at A;obtain⟨H,ag⟩:∃H:Deferred,H={target:=.fn (.func d.g) #[.pointer (some ⟨ad L M,0,none⟩)],args:= #[]}:=⟨_,rfl⟩;have b7:cL p.w0 ⟨[],[],false,[H]⟩ b.pd a.y [H] B:=by
  have h:=R1.bY;rw[al] at h;exact⟨h.len,h.oZ,h.cH,h.inj,[],rfl,λ_=>rfl,by simp,λd j=>by simp at j⟩
 have c1:(b.put (some d.tf) (.fn d.g [.loc M 0])).pd=b.pd:=rfl;have R2:ao p.S0 p.w0 ⟨[],[],false,[H]⟩ cf.ty L a (b.put (some d.tf) (.fn d.g [.loc M 0])) {G.put (some d.tf) (.func (.func d.g) #[] #[.pointer (some ⟨ad L M,0,none⟩)]) with defers:=[H]} B:=
  ⟨A.mem,A.dX,A.ei,A.eb,A.er,b7,A.size,A.tmps,A.bw⟩
 refine VK (yQ (n:=0) (wpIn_region ?_));have b8:ax6 (#[r,q]:Array Oper).size=[0,1]:=rfl;rw[b8];have e1:(execOp G.eval r).run p.P B=.ok (.value (.func (.func d.g) #[] #[.pointer (some ⟨ad L M,0,none⟩)])) B:=by
  have:G.eval (.tmp d.te)=.pointer (some ⟨ad L M,0,none⟩):=by simp[Act.eval,aAx,b4]
  simp[execOp,g1,this,Instr.makeFunc]
 have e2:(execOp (G.put (some d.tf) (.func (.func d.g) #[] #[.pointer (some ⟨ad L M,0,none⟩)])).eval q).run p.P B=.ok (.defer H) B:=by
  have ca:d.tf<G.tmps.size:=by rw[R1.size];exact b3
  have:(G.put (some d.tf) (.func (.func d.g) #[] #[.pointer (some ⟨ad L M,0,none⟩)])).eval (.tmp d.tf)=.func (.func d.g) #[] #[.pointer (some ⟨ad L M,0,none⟩)]:=by
   simp[Act.eval,Act.put,aAx,ca]
  simp[execOp,g6,resolve,g7,g8,this,Deferred.ofValue,ag]
 have cc:Region.wanted r (yielded #[r,q] G.tmps)=true:=by simp[Region.wanted,g5]
 have cl:∀y,Region.wanted q y=true:=λy=>by simp[Region.wanted,g9]
 have cp:∀c',r.op≠ .defer c':=λc' a6=>by rw[g1] at a6;cases a6
 have hF:=yP none;show wpOpsIn _ 0 p.P #[r,q] _ [0,1] G B;simp only[wpOpsIn,aAi,ayB,ayk,cc,cl,if_true];refine⟨λF _=>hF.fn F, ?_⟩;rw[Oper.semAt_eq _ _ _ cp,e1,Oper.uponIn_value,g4];refine⟨λF _=>hF.fn F, ?_⟩;rw[show(N7 none).round=none from rfl,Oper.semAt_none,e2,Oper.uponIn_defer];have cs:({(G.put (some d.tf) (.func (.func d.g) #[] #[.pointer (some ⟨ad L M,0,none⟩)])) with defers:=H::(G.put (some d.tf) (.func (.func d.g) #[] #[.pointer (some ⟨ad L M,0,none⟩)])).defers}:Act).put q.dst undef={G.put (some d.tf) (.func (.func d.g) #[] #[.pointer (some ⟨ad L M,0,none⟩)]) with defers:=[H]}:=by
  rw[bx];have:(G.put (some d.tf) (.func (.func d.g) #[] #[.pointer (some ⟨ad L M,0,none⟩)])).defers=[]:=b5;rw[this];rfl
 rw[cs];show gZ none F p.P d.rest (bodyPostM Fence.wide 0 p.P J p.R) _ B;have ct:(jD.mk (b.put (some d.tf) (.fn d.g [.loc M 0])) a L L1).n7 (b.put (some d.tf) (.fn d.g [.loc M 0])) a L L1:=jD.here _ _ _ _;refine(Oo z X).1 ⟨[],[],false,[H]⟩ _ fT none F d.rest _ _ L1 a L _ B _ (C9 _ _) ct rfl (λhh=>by cases hh) ⟨J,hf⟩ ac R2 ((hg.ext a2.ext).ext co.ext) (λch E C pd y hA hR=>(a0 ch C hR).elim) ?_;intro e s' o V' E C L' hl hL RR I;obtain⟨a7,q1,q0,q2,q3⟩:=RR.bY.kh;have R3:=RR.n8 q1;have c2:({E with defers:=[H]}:Act)={E with defers:=[H]}:=rfl;have a8:∀d0∈a7,C.heap[d0]?=some (.deferred (some [])):=λd0 cv=>(q3 d0 (by simp[cv])).1
 have a9:a7.Nodup:=(ayJ.1 q2).1;have bb:ad V' M=ad L M:=hl.ext.ad M b2;have bd:∀m,(invoke H.target H.args).run p.P m=.ok (.enter d.g #[.pointer (some ⟨ad L M,0,none⟩)]) m:=λm=>by
  rw[ag];simp[invoke,bi.AB]
 have bf:∀s2:S,∀m,ao p.S0 p.w0 ⟨[],[],false,[H]⟩ cf.ty V' o s2 {E with defers:=[H]} m->(Fv cf w.boxes.length J.results.toList s2).aG p o L'->LeavesInM Fence.wide 0 p.P J E.tmps p.R [] .returning m:=by
  intro s2 m R4 af;unfold Fv at af;split at af;rename_i l cx;refine⟨_,JS R4 z.jF cx, ?_⟩;exact af o.y V' _ (by rw[z.pt];exact(R4.mem.take _).km (Oi _));exact af.elim
 have bk:(Fv cf w.boxes.length J.results.toList s').aG p o L'->LeavesInM Fence.wide 0 p.P J E.tmps p.R E.defers .returning C:=by
  intro af;rw[q1];refine pZ (by simp) a9 a8 ⟨by simp,.inr ⟨by simp[Fence.wide],_,_,_,_,by rw[ag],bd _,λg hg=>trivial, ?_⟩⟩;refine(bi.ret _ _).mono ?_;rintro en u W4 ⟨⟨N,rfl⟩,rfl,rfl⟩;exact bf s' _ R3 af
 cases e with
 |normal=>exact bk I
 |ret=>exact bk I
 |exit id=>exact I.elim
 |aW N=>
  simp only[Um] at I;split at I;rename_i tt x;split at I;rename_i bt y br;split at I;rename_i bs;simp only[axI,beq_iff_eq] at bs;obtain⟨rfl,rfl⟩:=bs;have an:=R3.mem.box M bt _ br;rw[qU a5] at an;rw[bb] at an;show LeavesInM Fence.wide 0 p.P J E.tmps p.R E.defers (.panicking _) C;rw[q1];refine pZ (by simp) a9 a8 ⟨by simp,.inr ⟨by simp[Fence.wide],_,_,_,_,by rw[ag],bd _,λg hg=>trivial, ?_⟩⟩;refine(bi.aW _ (ad L M) (y.den o) (x.den o) an).mono ?_;rintro en u W4 ⟨⟨N,rfl⟩,rfl,rfl⟩;have R4:=R3.ac2 (cs':=[.int .i64 x]) br;rw[qU a5,bb] at R4;exact bf _ _ R4 I;exact I.elim;exact I.elim;exact I.elim
 exact ac.elim;exact ac.elim
end
end
section
section
variable{P:Program}{a:Ty}{u x:FuncId->Option (List TypeId)}{aQ:kn}{G:World->Prop}{s B:List TypeId}{A m:List LK}
structure Kq(a:Ty)(gl:List (Nat×Nat×Nat))(glk:List RK)(glv:List RV)(W:World)(glw:List RV):Prop where
 len:glv.length=glw.length
 eq:∀(k:Nat)(v v':RV),glv[k]?=some v->glw[k]?=some v'->bW v v'
 held:∀(k:Nat)(e:RK)(rv:RV),glk[k]?=some e->glw[k]?=some rv->aX W a e rv
 afB:∀xs,dC gl (de glw xs)
def afC{w:bh}{J:List RV}{l:List SV}{c:Nat}{M:List RK}
  (af:w.ty=a)(ag:∀f,Dh P a u x G f (aQ f))(hG:∀W W',Below W.heap.size W W'->G W->G W')(al:fb a s=some A)
  (hl:gP a B Q=some l)(an:pi 0 0 J.length m l=true)(bp:M=N++gt m)(a0:∀(Z:Nat)(n:TypeId),M[Z]?≠some (.own n))(a1:J.length=N.length)(E:J=[]\/rf A=true)
  (a2:∀R U,cV m U->(de R U).i.length=X)(a3:∀R U,cV m U->(de R U).b.length=c)
  {W:World}(a4:G W){R:List RV}(I:Kq a w.gl N J W R){U:List XV}{V:Nat}(hN:run a u x aQ s V n (de J k) M []=some g)(hx:wB k U)(H:cV m U)(hH:uK a W m U):
  n.aG (Kj P a W s A m U g) (de R U) []/\SV.ap (de R U) [] Q=aaA a B (lS m U)/\ao [] W bB.none w.ty [] (de R U) ⟨[],[],X,c,M,0,0,[]⟩ ⟨#[],[]⟩ W:=by
 have z:R.length=N.length:=by rw[<-I.len];exact a1
 have hv:SV.ap (de R U) [] Q=aaA a B (lS m U):=by
  rw[Oz hl,de,Kf (by rw[<-I.len];exact an) H rfl rfl rfl]
 have ac:(de R U).r.length=M.length:=by rw[bp];exact Kh H z
 have hS:jH (de J k) (de R U):=jH.ext ⟨rfl,rfl,I.len,λZ v v' p d=>I.eq Z v v' p d⟩ hx;have a5:n.aG (Kj P a W s A m U g) (de R U) []:=by
  refine apQ (old:=λb=>uJ a m U b\/R≠[]) ag hG a4 al (λys b F D=> ?_) V n _ _ M [] [] hN hS ac ?_ (aaB.nil _);rcases D with D|D;exact D;rcases E with E|E;subst E;have:R=[]:=ayl.1 (by rw[<-I.len];rfl);exact absurd this D;exact(afy E F).elim;rw[bp];refine Dg.ext (λb F=> ?_) H z (λb F=>.inr (.inl F));obtain⟨Z,e,hk,hl⟩:=F;refine .inr (.inr (λhe=> ?_));subst he;have:=(axJ.1 hk).1;simp at z;omega
 have a6:∀(Z:Nat)(e:RK)(O:RV),M[Z]?=some e->(de R U).r[Z]?=some O->aX W a e O:=by
  intro Z e O p d;have:=C3 (PP:=λe O=>aX W a e O) m U ⟨[],[],0,0,N,0,0,[]⟩ ⟨[],[],R,[]⟩ H z (λq e O L C=>hH q e O L C) (λZ e O L C=>I.held Z e O L C);rw[OE] at this;exact this Z e O (by rw[<-bp];exact p) d
 exact⟨a5,hv,⟨⟨dM.refl _ _,λi h=>by simp[aD,bU] at h,λi j h=>by simp[aD,bU] at h,λi n cs h=>by simp[bU] at h,λZ e O L C=>⟨by rw[af];exact a6 Z e O L C,λb F i hi=>by simp[aD,bU] at hi⟩⟩,rfl,a2 _ U H,a3 _ U H,ac,by rw[show(de R U).y=[] from FX U _];exact OA _ _,rfl,λn sv h=>by simp at h,λZ e O b L=>absurd L (a0 Z e)⟩⟩
def apW{cf:bh}{M:Func}{c:Code}{Z:List XV->Option aT}{glk:List RK}{glv:List RV}{l:List SV}{L J:Nat}
  (h:∀w R,(∀I W b o,w.heap.size<=b->R (.panicked I) W->R (.panicked I) (W.putObj b o))->jE ⟨P,a,[],w,bB.none,R,λ_ _ _=>False⟩ cf)(g:cf.ty=a)(e:∀F,Dh P a u x G F (aQ F))(d:∀W H,Below W.heap.size W H->G W->G H)
  (hf:P.funcs[F]?=some M)(hb:M.body=some c)(ac:u F=some B)(af:x F=some s)(ag:fb a B=some m)(E:fb a s=some A)
  (hl:gP a B Q=some l)(al:pi 0 0 glv.length m l=true)(bp:N=glk++gt m)(an:∀(k:Nat)(n:TypeId),N[k]?≠some (.own n))(a0:glv.length=glk.length)(hq:glv=[]\/rf A=true)
  (a1:∀O U,cV m U->(de O U).i.length=L)(a2:∀O U,cV m U->(de O U).b.length=J)
  (a3:∀W,G W->∃O,Kq a cf.gl glk glv W O)
  (ht:Jr cf X F c M.ntmps M.results.toList Q ⟨[],[],L,J,N,0,0,[]⟩=n)
  (hF:∀U o,cV m U->Z U=some o->∃V,run a u x aQ s V n (de glv U) N []=some o):Dh P a u x G F Z:=by
 intro a5 a6 a7 a8 D C z y xh U o ho v r W q hH;rw[ac] at D;cases D;rw[af] at C;cases C;rw[ag] at z;cases z;rw[E] at y;cases y;obtain⟨V,hN⟩:=hF xh o (Wq r v) ho;obtain⟨O,j⟩:=a3 W q;obtain⟨a4,hv,hR⟩:=afC g e d E hl al bp an a0 hq a1 a2 q j hN v r hH;rw[<-hv];exact ae0 (p:=Kj P a W s A m U o) (cf:=cf) (h W _ (afw W)) hf hb ht a4 (j.afB U) hR
def apX{cf:bh}{L:Func}{c:Code}{Z:List XV->Option aT}{glk:List RK}{glv:List RV}{l:List SV}{E D:Nat}{d:DI}
  (ag:∀w R,(∀J W b o,w.heap.size<=b->R (.panicked J) W->R (.panicked J) (W.putObj b o))->jE ⟨P,a,[],w,bB.none,R,λ_ _ _=>False⟩ cf)(al:cf.ty=a)(an:∀F,Dh P a u x G F (aQ F))(hG:∀W I,Below W.heap.size W I->G W->G I)
  (hf:P.funcs[F]?=some L)(hb:L.body=some c)(hd:qR c=some d)(bi:oa P d.g v)(a0:u F=some B)(a1:x F=some s)(a2:fb a B=some m)(C:fb a s=some A)
  (hl:gP a B Q=some l)(a3:pi 0 0 glv.length m l=true)(bp:N=glk++gt m)(a4:∀(k:Nat)(n:TypeId),N[k]?≠some (.own n))(a5:glv.length=glk.length)(hq:glv=[]\/rf A=true)
  (a6:∀M O,cV m O->(de M O).i.length=E)(a7:∀M O,cV m O->(de M O).b.length=D)
  (a8:∀W,G W->∃M,Kq a cf.gl glk glv W M)
  (ht:Js cf X F c L.ntmps L.results.toList v Q ⟨[],[],E,D,N,0,0,[]⟩=n)(a9:∀O V,Z O≠some (.aW V))
  (hF:∀O o,cV m O->Z O=some o->∃U,run a u x aQ s U n (de glv O) N []=some o):Dh P a u x G F Z:=by
 intro bd bf bk br z y r q j O o h e ac W af hH;rw[a0] at z;cases z;rw[a1] at y;cases y;rw[a2] at r;cases r;rw[C] at q;cases q;obtain⟨U,hN⟩:=hF j o (Wq ac e) h;obtain⟨M,hL⟩:=a8 W af;obtain⟨bb,hv,H⟩:=afC al an hG C hl a3 bp a4 a5 hq a6 a7 af hL hN e ac hH;rw[<-hv];refine apV (p:=Kj P a W s A m O o) (cf:=cf) (ag W _ (afw W)) (λJ I H=> ?_) hf hb hd bi ht bb (hL.afB O) H;obtain⟨-,V,h5,-⟩:=H;exact a9 j V (by rw[h,h5])
end
end
def afD:Op->Bool
 |.move _|.assign _|.fieldAddr _ _ _|.field _ _ _|.load _ _|.indexAddr _ _ _|.build _ _|.index _ _ _|.unOp _ _ _|.convert _ _ _|.makeInterface _ _|.makeFunc _ _ _|.extract _ _|.nilCheck _|.alloc _|.box _ _|.pick _ _ _=>true
 |.binOp Z _ _ _ _=>match Z with
  |.eql|.neq=>false
  |_=>true
 |_=>false
def Wt(Z:bh)(m:OM)(s:S):Bool:=(yf Z m s).isSome
def apY{Z:bh}{m:OM}(h:Wt Z m w=false):yf Z m w=none:=by
 simpa[Wt] using h
def OF(V:bh)(Q:oR)(m:OM)(s:S)(Z:S->Fx->T)(U:SV->S->T)(W:Fx):T:=
 if afD m.o.op then match dR V m s with
  |.ok X=>Z X W
  |.az b X=>.az b (Z X W)
  |.split b P O=>ye s W b (Z P) (Z O)
  |.no N=>.stuck N
 else if Wt V m s then aa1 V Q m s Z U W else match vZ V m s with
 |some (e,M,L,R)=>Ai e (λg J=>Q (.fn g) (R++J) s (λv X=>Z (X.put m.o.dst v) (lH s W)) U) M L
 |none=>
 match db V s m.o with
 |.call (.fn g) R=>Q (.fn g) R s (λv X=>Z (X.put m.o.dst v) (lH s W)) U
 |.call (.yl n) R=>if m.so then Q (.yl n) R s (λv X=>Z (X.put m.o.dst v) (lH s W)) U else .stuck ""
 |.aW v=>U v s
 |.no=>.stuck ""
 |.op=>match vY V m s Z W with
  |some t=>t
  |none=>match cP V m.o m.bc m.dr s with
  |some b=>.az b.az (.new b.e b.x s.rs b.s.rs (Z b.s (lH s W)))
  |none=>match dR V m s with
  |.ok X=>Z X W
  |.az b X=>.az b (Z X W)
  |.split b P O=>ye s W b (Z P) (Z O)
  |.no N=>.stuck N
def apZ(Z:bh)(V:oR)(m:OM)(s:S)(U:S->Fx->T)(R:SV->S->T)(Q:Fx):OF Z V m s U R Q=aa1 Z V m s U R Q:=by
 unfold OF;split;rename_i X;unfold aa1;cases W:m.o.op<;>rw[W] at X<;>simp only[afD,ax3] at X<;>try(simp[vZ,yf,db,vY,cP,W]<;>rfl)
 rename_i P t x y z;cases P<;>simp only[ax3] at X<;>(simp[vZ,yf,db,vY,cP,W]<;>rfl);split;rfl;rename_i O;unfold aa1;rw[apY (by simpa using O)];cases vZ Z m s<;>rfl
def OM.up(n:Nat)(m:OM):OM:={m with ix:=m.ix+n}
def OG(bc:Nat->Bool)(Z X:Bool)(k:Nat):∀(l:List Oper)(j n:Nat),ez bc Z X j (n+k) l=(ez bc Z X j n l).map (OM.up k)
 |[],_,_=>rfl
 |o::r,j,n=>by
  simp only[ez,axV];congr 1;rw[<-OG bc Z X k r];congr 1;split<;>omega
def ap0(k:Nat)(l:List OM)(Z:List Nat):Fe (l.map (OM.up k)) Z=(Fe l Z).map (OM.up k):=by
 simp only[Fe,List.map_filterMap,axO]
def Wu(k:Nat)(Z:List Nat):∀l:List OM,wc Z (l.map (OM.up k))=wc Z l
 |[]=>rfl
 |x::r=>by simp only[axV,wc,Wu k Z r,azU];rfl
def afE(k:Nat)(Z:List Nat):∀(l X:List OM),pS Z (X.map (OM.up k)) (l.map (OM.up k))=(pS Z X l).map (OM.up k)
 |[],_=>rfl
 |m::r,X=>by
  simp only[axV,pS];congr 1;have h:=Wu k Z (m::r);simp only[axV] at h;rw[h,azU];rfl;rw[<-afE k Z r (X++[m]),aze];rfl
def afF(k:Nat)(Z:Array Oper):∀(l:List OM)(done:List Nat),Al Z done (l.map (OM.up k))=Al Z done l
 |[],_=>rfl
 |x::r,done=>by simp only[axV,Al,afF k Z r];rfl
def ap1(k a b:Nat):(a+k !=b+k)=(a !=b):=by
 rw[ayS];simp
def ap2(k:Nat)(Z:Array Oper)(x y:OM):pR Z (OM.up k x) (OM.up k y)=pR Z x y:=by
 have h:((OM.up k x).ix !=(OM.up k y).ix)=(x.ix !=y.ix):=ap1 k _ _;unfold pR Fc Jg;rw[h];rfl
def afG(k:Nat)(Z:Array Oper)(X:List Nat):∀l:List OM,Ak Z X (l.map (OM.up k))=Ak Z X l
 |[]=>rfl
 |x::r=>by
  simp only[axV,Ak,afG k Z X r,azU];congr 2;funext y;simp only[Function.comp,ap2];rfl
def afH(k:Nat):∀l:List Nat,jV (l.map (· +k))=jV l
 |[]=>rfl
 |x::r=>by
  simp only[axV,jV,afH k r];congr 2;rw[ayS];simp
def lT(Z:Array Oper)(n:Nat):List OM:=pS (lI Z.toList) [] (Fe (ez (Ji Z.toList (lI Z.toList)) false true 0 n Z.toList) (Jh Z.toList Z.size []))
def ap3(Z:Array Oper)(n:Nat):lT Z n=(lT Z 0).map (OM.up n):=by
 unfold lT;rw[show ez (Ji Z.toList (lI Z.toList)) false true 0 n Z.toList=(ez (Ji Z.toList (lI Z.toList)) false true 0 0 Z.toList).map (OM.up n) by rw[<-OG];simp,ap0,<-afE];rfl
def Wv(Z:Array Oper)(n:Nat):Option (List OM):=match Ff Z 0 with
 |some l=>some (l.map (OM.up n))
 |none=>none
def afI(Z:Array Oper)(n:Nat):Ff Z n=if M6 Z.toList (lI Z.toList)&&Al Z [] (lT Z n)&&Ak Z (lI Z.toList) (lT Z n)&&jV ((lT Z n).filterMap (·.o.dst))&&jV ((lT Z n).map (·.j))&&jV (((lT Z n).filter λm=>dW m.o.op).map (·.ix))&&(lT Z n).length==Z.size&&(ax6 Z.size).all (λi=>(lT Z n).any λm=>m.j==i) then some (lT Z n) else none:=rfl
def ap4(Z:Array Oper)(n:Nat):Wv Z n=Ff Z n:=by
 unfold Wv;rw[afI Z n,afI Z 0,ap3 Z n,afF,afG];have W:((lT Z 0).map (OM.up n)).filterMap (·.o.dst)=(lT Z 0).filterMap (·.o.dst):=by rw[aBk];rfl
 have V:((lT Z 0).map (OM.up n)).map (·.j)=(lT Z 0).map (·.j):=by rw[ayw];rfl
 have U:(((lT Z 0).map (OM.up n)).filter λm=>dW m.o.op).map (·.ix)=(((lT Z 0).filter λm=>dW m.o.op).map (·.ix)).map (· +n):=by rw[aAP,ayw,ayw];rfl
 have R:∀i,(((lT Z 0).map (OM.up n)).any λm=>m.j==i)=((lT Z 0).any λm=>m.j==i):=λi=>by rw[aAH];rfl
 rw[W,V,U,afH,ayA];simp only[R];split;rename_i l h;split at h;rename_i X;cases h;rw[if_pos X];cases h;rename_i h;split at h;cases h;rename_i X;rw[if_neg X]
def afJ(X:Bool)(Z:Array Oper)(n:Nat):yo X Z n=(yo X Z 0).map (OM.up n)/\yp X Z n=(yp X Z 0).map (OM.up n):=by
 unfold yo yp;rw[show ez (λ_=>false) false true 0 n Z.toList=(ez (λ_=>false) false true 0 0 Z.toList).map (OM.up n) by rw[<-OG];simp,aAP,aAP];exact⟨rfl,rfl⟩
def ap5(X:Bool)(Z:Array Oper)(n:Nat):Fo X Z n=Fo X Z 0:=by
 unfold Fo;obtain⟨W,V⟩:=afJ X Z n;rw[W,V,show ez (λ_=>false) false true 0 n Z.toList=(ez (λ_=>false) false true 0 0 Z.toList).map (OM.up n) by rw[<-OG];simp];unfold Uh;rw[<-aze];have U:∀l:List OM,(l.map (OM.up n)).filterMap (·.o.dst)=l.filterMap (·.o.dst):=λl=>by rw[aBk];rfl
 have R:∀l:List OM,(l.map (OM.up n)).map (·.j)=l.map (·.j):=λl=>by rw[ayw];rfl
 rw[U,R,ayA];simp only[azU,aAH,Function.comp_def];rfl
def OH(W:bh)(X:Bool)(Z:Array Oper)(s:S):Option Jk:=
 if(!X||(Ug W s Z.toList||(W.ml&&Z.toList.any λo=>ab5 o.op))&&wc (lI Z.toList) (yp X Z 0))&&Fo X Z 0 then(Ap W ((yo X Z 0).map (OM.up s.boxes.length)) (s.room (jU Z.toList))).bind (Ui W ((yo X Z 0).map (OM.up s.boxes.length)) ((yp X Z 0).map (OM.up s.boxes.length))) else none
def ap6(W:bh)(Z:Bool)(X:Array Oper)(s:S):OH W Z X s=Fp W Z X s:=by
 unfold OH Fp;obtain⟨U,V⟩:=afJ Z X s.boxes.length;rw[<-U,<-V,ap5 Z X s.boxes.length,V,Wu]
def Di{Z:Type}(l:List Z):(List Z->T)->T:=azw (motive:=λ_=>(List Z->T)->T) (λk=>k []) (λx _ X k=>X λW=>k (x::W)) l
def Ww{X:Type}:∀(l:List X)(k:List X->T),Di l k=k l
 |[],_=>rfl
 |x::Z,k=>Ww Z λZ=>k (x::Z)
def bA(n:Nat)(k:Nat->T):T:=aAf (motive:=λ_=>T) (k 0) (λm _=>k (Nat.succ m)) n
def ig:∀(n:Nat)(k:Nat->T),bA n k=k n
 |0,_=>rfl
 |_+1,_=>rfl
def S.Wy(s:S)(k:S->T):T:=S.rec (motive:=λ_=>T) (λZ b X W V av U R=>Di Z λZ=>Di b λb=>bA X λX=>bA W λW=>Di V λV=>bA av λav=>bA U λU=>Di R λR=>k ⟨Z,b,X,W,V,av,U,R⟩) s
def ap7(s:S)(k:S->T):s.Wy k=k s:=by
 cases s;simp only[S.Wy,Ww,ig]
def Kr{Z:Type}(l:List Z)(k:List Z->T):T:=azw (motive:=λ_=>T) (k []) (λx X _=>k (x::X)) l
def ap8{Z:Type}(l:List Z)(k:List Z->T):Kr l k=k l:=by cases l<;>rfl
def S.Wz(s:S)(k:S->T):T:=S.rec (motive:=λ_=>T) (λZ b X W V av U R=>Kr Z λZ=>Kr b λb=>bA X λX=>bA W λW=>Kr V λV=>bA av λav=>bA U λU=>Kr R λR=>k ⟨Z,b,X,W,V,av,U,R⟩) s
def ap9(s:S)(k:S->T):s.Wz k=k s:=by
 cases s;simp only[S.Wz,ap8,ig]
def AM(Z:bh)(X:oR)(W:Array Oper)(k:S->T)(V:SV->S->T):List OM->S->Fx->T
 |[],s,_=>k s
 |m::U,s,R=>s.Wz λs=>MZ W m s R (OF Z X m s (AM Z X W k V U) V) (AM Z X W k V U (s.put m.o.dst (.bm [])))
def OI(Z:bh)(X:oR)(V:Array Oper)(k:S->T)(W:SV->S->T):∀(l:List OM),AM Z X V k W l=kD Z X V k W l
 |[]=>by funext s R;rfl
 |m::U=>by
  funext s R;have:OF Z X m s (AM Z X V k W U) W=aa1 Z X m s (kD Z X V k W U) W:=by
   funext R;rw[apZ,OI Z X V k W U]
  simp only[AM,kD,ap9];rw[this,OI Z X V k W U]
def Ks(n:Int)(k:Int->T):T:=Int.rec (motive:=λ_=>T) (λn=>bA n λn=>k (aBl n)) (λn=>bA n λn=>k (aAV n)) n
def aqa:∀(n:Int)(k:Int->T),Ks n k=k n
 |.ofNat n,k=>ig n λn=>k (aBl n)
 |.negSucc n,k=>ig n λn=>k (aAV n)
def IE.deep(e:IE):(IE->T)->T:=IE.rec (motive_1:=λ_=>(IE->T)->T) (motive_2:=λ_=>(BE->T)->T) (motive_3:=λ_=>(RE->T)->T) (λn k=>Ks n λn=>k (.c n)) (λn k=>bA n λn=>k (.v n)) (λo q a b Z X k=>Z λa=>X λb=>k (.bin o q a b)) (λq a Z k=>Z λa=>k (.conv q a)) (λr W k=>W λr=>k (.len r)) (λm a b Z X k=>Z λa=>X λb=>k (.mm m a b)) (λb x y X R Q k=>X λb=>R λx=>Q λy=>k (.bT b x y)) (λr i j W V k=>W λr=>V λi=>bA j λj=>k (.cell r i j)) (λr i W V k=>W λr=>V λi=>k (.jS r i)) (λr n a b c j W Z X U k=>W λr=>Z λa=>X λb=>U λc=>bA n λn=>bA j λj=>k (.look r n a b c j)) (λb k=>k (.c b)) (λn k=>bA n λn=>k (.v n)) (λo a b Z X k=>Z λa=>X λb=>k (.cmp o a b)) (λa Z k=>Z λa=>k (.not a)) (λa b Z X k=>Z λa=>X λb=>k (.and a b)) (λa b Z X k=>Z λa=>X λb=>k (.beq a b)) (λb x y X R Q k=>X λb=>R λx=>Q λy=>k (.bT b x y)) (λr i j W V k=>W λr=>V λi=>bA j λj=>k (.cell r i j)) (λa b Z X k=>Z λa=>X λb=>k (.seq a b)) (λr n a b c j W Z X U k=>W λr=>Z λa=>X λb=>U λc=>bA n λn=>bA j λj=>k (.look r n a b c j)) (λr n a b c W Z X U k=>W λr=>Z λa=>X λb=>U λc=>bA n λn=>k (.has r n a b c)) (λn k=>bA n λn=>k (.v n)) (λr i j q W V k=>W λr=>V λi=>bA j λj=>k (.cell r i j q)) (λv k=>k (.k v)) e
def BE.deep(e:BE):(BE->T)->T:=BE.rec (motive_1:=λ_=>(IE->T)->T) (motive_2:=λ_=>(BE->T)->T) (motive_3:=λ_=>(RE->T)->T) (λn k=>Ks n λn=>k (.c n)) (λn k=>bA n λn=>k (.v n)) (λo q a b Z X k=>Z λa=>X λb=>k (.bin o q a b)) (λq a Z k=>Z λa=>k (.conv q a)) (λr W k=>W λr=>k (.len r)) (λm a b Z X k=>Z λa=>X λb=>k (.mm m a b)) (λb x y X R Q k=>X λb=>R λx=>Q λy=>k (.bT b x y)) (λr i j W V k=>W λr=>V λi=>bA j λj=>k (.cell r i j)) (λr i W V k=>W λr=>V λi=>k (.jS r i)) (λr n a b c j W Z X U k=>W λr=>Z λa=>X λb=>U λc=>bA n λn=>bA j λj=>k (.look r n a b c j)) (λb k=>k (.c b)) (λn k=>bA n λn=>k (.v n)) (λo a b Z X k=>Z λa=>X λb=>k (.cmp o a b)) (λa Z k=>Z λa=>k (.not a)) (λa b Z X k=>Z λa=>X λb=>k (.and a b)) (λa b Z X k=>Z λa=>X λb=>k (.beq a b)) (λb x y X R Q k=>X λb=>R λx=>Q λy=>k (.bT b x y)) (λr i j W V k=>W λr=>V λi=>bA j λj=>k (.cell r i j)) (λa b Z X k=>Z λa=>X λb=>k (.seq a b)) (λr n a b c j W Z X U k=>W λr=>Z λa=>X λb=>U λc=>bA n λn=>bA j λj=>k (.look r n a b c j)) (λr n a b c W Z X U k=>W λr=>Z λa=>X λb=>U λc=>bA n λn=>k (.has r n a b c)) (λn k=>bA n λn=>k (.v n)) (λr i j q W V k=>W λr=>V λi=>bA j λj=>k (.cell r i j q)) (λv k=>k (.k v)) e
def RE.deep(e:RE):(RE->T)->T:=RE.rec (motive_1:=λ_=>(IE->T)->T) (motive_2:=λ_=>(BE->T)->T) (motive_3:=λ_=>(RE->T)->T) (λn k=>Ks n λn=>k (.c n)) (λn k=>bA n λn=>k (.v n)) (λo q a b Z X k=>Z λa=>X λb=>k (.bin o q a b)) (λq a Z k=>Z λa=>k (.conv q a)) (λr W k=>W λr=>k (.len r)) (λm a b Z X k=>Z λa=>X λb=>k (.mm m a b)) (λb x y X R Q k=>X λb=>R λx=>Q λy=>k (.bT b x y)) (λr i j W V k=>W λr=>V λi=>bA j λj=>k (.cell r i j)) (λr i W V k=>W λr=>V λi=>k (.jS r i)) (λr n a b c j W Z X U k=>W λr=>Z λa=>X λb=>U λc=>bA n λn=>bA j λj=>k (.look r n a b c j)) (λb k=>k (.c b)) (λn k=>bA n λn=>k (.v n)) (λo a b Z X k=>Z λa=>X λb=>k (.cmp o a b)) (λa Z k=>Z λa=>k (.not a)) (λa b Z X k=>Z λa=>X λb=>k (.and a b)) (λa b Z X k=>Z λa=>X λb=>k (.beq a b)) (λb x y X R Q k=>X λb=>R λx=>Q λy=>k (.bT b x y)) (λr i j W V k=>W λr=>V λi=>bA j λj=>k (.cell r i j)) (λa b Z X k=>Z λa=>X λb=>k (.seq a b)) (λr n a b c j W Z X U k=>W λr=>Z λa=>X λb=>U λc=>bA n λn=>bA j λj=>k (.look r n a b c j)) (λr n a b c W Z X U k=>W λr=>Z λa=>X λb=>U λc=>bA n λn=>k (.has r n a b c)) (λn k=>bA n λn=>k (.v n)) (λr i j q W V k=>W λr=>V λi=>bA j λj=>k (.cell r i j q)) (λv k=>k (.k v)) e
mutual
def IE.di:∀(e:IE)(k:IE->T),e.deep k=k e
 |.c n,k=>by show(Ks n λn=>k (.c n))=_;rw[aqa]
 |.v n,k=>by show(bA n λn=>k (.v n))=_;rw[ig]
 |.bin o q a b,k=>by show(IE.deep a λa=>IE.deep b λb=>k (.bin o q a b))=_;rw[IE.di a,IE.di b]
 |.conv q a,k=>by show(IE.deep a λa=>k (.conv q a))=_;rw[IE.di a]
 |.len r,k=>by show(RE.deep r λr=>k (.len r))=_;rw[RE.di r]
 |.mm m a b,k=>by show(IE.deep a λa=>IE.deep b λb=>k (.mm m a b))=_;rw[IE.di a,IE.di b]
 |.bT b x y,k=>by show(BE.deep b λb=>IE.deep x λx=>IE.deep y λy=>k (.bT b x y))=_;rw[BE.di b,IE.di x,IE.di y]
 |.cell r i j,k=>by show(RE.deep r λr=>IE.deep i λi=>bA j λj=>k (.cell r i j))=_;rw[RE.di r,IE.di i,ig]
 |.jS r i,k=>by show(RE.deep r λr=>IE.deep i λi=>k (.jS r i))=_;rw[RE.di r,IE.di i]
 |.look r n a b c j,k=>by show(RE.deep r λr=>IE.deep a λa=>IE.deep b λb=>IE.deep c λc=>bA n λn=>bA j λj=>k (.look r n a b c j))=_;rw[RE.di r,IE.di a,IE.di b,IE.di c,ig,ig]
def BE.di:∀(e:BE)(k:BE->T),e.deep k=k e
 |.c b,k=>rfl
 |.v n,k=>by show(bA n λn=>k (.v n))=_;rw[ig]
 |.cmp o a b,k=>by show(IE.deep a λa=>IE.deep b λb=>k (.cmp o a b))=_;rw[IE.di a,IE.di b]
 |.not a,k=>by show(BE.deep a λa=>k (.not a))=_;rw[BE.di a]
 |.and a b,k=>by show(BE.deep a λa=>BE.deep b λb=>k (.and a b))=_;rw[BE.di a,BE.di b]
 |.beq a b,k=>by show(BE.deep a λa=>BE.deep b λb=>k (.beq a b))=_;rw[BE.di a,BE.di b]
 |.bT b x y,k=>by show(BE.deep b λb=>BE.deep x λx=>BE.deep y λy=>k (.bT b x y))=_;rw[BE.di b,BE.di x,BE.di y]
 |.cell r i j,k=>by show(RE.deep r λr=>IE.deep i λi=>bA j λj=>k (.cell r i j))=_;rw[RE.di r,IE.di i,ig]
 |.seq a b,k=>by show(RE.deep a λa=>RE.deep b λb=>k (.seq a b))=_;rw[RE.di a,RE.di b]
 |.look r n a b c j,k=>by show(RE.deep r λr=>IE.deep a λa=>IE.deep b λb=>IE.deep c λc=>bA n λn=>bA j λj=>k (.look r n a b c j))=_;rw[RE.di r,IE.di a,IE.di b,IE.di c,ig,ig]
 |.has r n a b c,k=>by show(RE.deep r λr=>IE.deep a λa=>IE.deep b λb=>IE.deep c λc=>bA n λn=>k (.has r n a b c))=_;rw[RE.di r,IE.di a,IE.di b,IE.di c,ig]
def RE.di:∀(e:RE)(k:RE->T),e.deep k=k e
 |.v n,k=>by show(bA n λn=>k (.v n))=_;rw[ig]
 |.cell r i j q,k=>by show(RE.deep r λr=>IE.deep i λi=>bA j λj=>k (.cell r i j q))=_;rw[RE.di r,IE.di i,ig]
 |.k v,k=>rfl
end
def SV.deep(v:SV):(SV->T)->T:=SV.rec (motive_1:=λ_=>(SV->T)->T) (motive_2:=λ_=>(List SV->T)->T) (λq e k=>e.deep λe=>k (.int q e)) (λb k=>b.deep λb=>k (.bool b)) (λr k=>r.deep λr=>k (.ref r)) (λi o k=>bA i λi=>bA o λo=>k (.loc i o)) (λr w i o k=>r.deep λr=>i.deep λi=>bA w λw=>bA o λo=>k (.el r w i o)) (λi o l c k=>bA i λi=>bA o λo=>bA l λl=>bA c λc=>k (.fy i o l c)) (λl Z k=>Z λl=>k (.agg l)) (λl Z k=>Z λl=>k (.bm l)) (λf l Z k=>Z λl=>bA f λf=>k (.fn f l)) (λt x X k=>X λx=>k (.dV t x)) (λn k=>bA n λn=>k (.yl n)) (λk=>k .any) (λi k=>bA i λi=>k (.mp i)) (λe V W U k=>e.deep λe=>U λW=>k (.dI e V W)) (λk=>k []) (λ_ _ X R k=>X λx=>R λQ=>k (x::Q)) v
def SV.yU(l:List SV):(List SV->T)->T:=SV.rec_1 (motive_1:=λ_=>(SV->T)->T) (motive_2:=λ_=>(List SV->T)->T) (λq e k=>e.deep λe=>k (.int q e)) (λb k=>b.deep λb=>k (.bool b)) (λr k=>r.deep λr=>k (.ref r)) (λi o k=>bA i λi=>bA o λo=>k (.loc i o)) (λr w i o k=>r.deep λr=>i.deep λi=>bA w λw=>bA o λo=>k (.el r w i o)) (λi o l c k=>bA i λi=>bA o λo=>bA l λl=>bA c λc=>k (.fy i o l c)) (λl Z k=>Z λl=>k (.agg l)) (λl Z k=>Z λl=>k (.bm l)) (λf l Z k=>Z λl=>bA f λf=>k (.fn f l)) (λt x X k=>X λx=>k (.dV t x)) (λn k=>bA n λn=>k (.yl n)) (λk=>k .any) (λi k=>bA i λi=>k (.mp i)) (λe V W U k=>e.deep λe=>U λW=>k (.dI e V W)) (λk=>k []) (λ_ _ X R k=>X λx=>R λQ=>k (x::Q)) l
mutual
def SV.di:∀(v:SV)(k:SV->T),v.deep k=k v
 |.int q e,k=>by show(IE.deep e λe=>k (.int q e))=_;rw[IE.di]
 |.bool b,k=>by show(BE.deep b λb=>k (.bool b))=_;rw[BE.di]
 |.ref r,k=>by show(RE.deep r λr=>k (.ref r))=_;rw[RE.di]
 |.loc i o,k=>by show(bA i λi=>bA o λo=>k (.loc i o))=_;rw[ig,ig]
 |.el r w i o,k=>by show(RE.deep r λr=>IE.deep i λi=>bA w λw=>bA o λo=>k (.el r w i o))=_;rw[RE.di,IE.di,ig,ig]
 |.fy i o l c,k=>by show(bA i λi=>bA o λo=>bA l λl=>bA c λc=>k (.fy i o l c))=_;rw[ig,ig,ig,ig]
 |.agg l,k=>by show(SV.yU l λl=>k (.agg l))=_;rw[SV.Dj l]
 |.bm l,k=>by show(SV.yU l λl=>k (.bm l))=_;rw[SV.Dj l]
 |.fn f l,k=>by show(SV.yU l λl=>bA f λf=>k (.fn f l))=_;rw[SV.Dj l,ig]
 |.dV t x,k=>by show(SV.deep x λx=>k (.dV t x))=_;rw[SV.di x]
 |.yl n,k=>by show(bA n λn=>k (.yl n))=_;rw[ig]
 |.any,k=>rfl
 |.mp i,k=>by show(bA i λi=>k (.mp i))=_;rw[ig]
 |.dI e X Z,k=>by show(IE.deep e λe=>SV.yU Z λZ=>k (.dI e X Z))=_;rw[IE.di,SV.Dj Z]
def SV.Dj:∀(l:List SV)(k:List SV->T),SV.yU l k=k l
 |[],k=>rfl
 |x::Z,k=>by show(SV.deep x λx=>SV.yU Z λZ=>k (x::Z))=_;rw[SV.di x,SV.Dj Z]
end
def WA(l:aY):(aY->T)->T:=azw (motive:=λ_=>(aY->T)->T) (λk=>k []) (λx _ W k=>Option.rec (motive:=λ_=>T) (W λZ=>k (none::Z)) (λb=>Prod.rec (motive:=λ_=>T) (λt X=>bA t λt=>SV.yU X λX=>W λZ=>k (some (t,X)::Z)) b) x) l
def WB:∀(l:aY)(k:aY->T),WA l k=k l
 |[],_=>rfl
 |none::Z,k=>WB Z _
 |some (t,X)::Z,k=>by
  show(bA t λt=>SV.yU X λX=>WA Z λZ=>k (some (t,X)::Z))=_;rw[ig,SV.Dj,WB]
def S.deep(s:S)(k:S->T):T:=S.rec (motive:=λ_=>T) (λZ b X W V av U R=>SV.yU Z λZ=>WA b λb=>bA X λX=>bA W λW=>Di V λV=>bA av λav=>bA U λU=>Di R λR=>k ⟨Z,b,X,W,V,av,U,R⟩) s
def di(s:S)(k:S->T):s.deep k=k s:=by
 cases s;simp only[S.deep,Ww,ig,SV.Dj,WB]
def WC(k:XE->S->T):XE->S->T:=λe s=>s.deep (k e)
def aqb(k:XE->S->T):WC k=k:=by funext e s;exact di s (k e)
def lW(l:List Nat):Nat:=azw (motive:=λ_=>Nat) 0 (λd _ m=>axZ (ayn 1 d) m) l
def AN(m n:Nat):Bool:=aAd (motive:=λ_=>Bool) true false (ayz (Nat.land 1 (aA3 m n)) 0)
def afK(m n:Nat):AN m n=m.testBit n:=by
 have:m.testBit n= !(ayz (Nat.land 1 (aA3 m n)) 0):=by
  show((1&&&(m>>>n))!=0)= !(ayz (1&&&(m>>>n)) 0);cases h:ayz (1&&&(m>>>n)) 0 with
  |true=>rw[aAW h];rfl
  |false=>simp only[bne,Bool.not_false,ax0,beq_eq_false_iff_ne];exact λe=>by rw[e] at h;cases h
 rw[this,AN];cases ayz (Nat.land 1 (aA3 m n)) 0<;>rfl
def OJ:∀(l:List Nat)(n:Nat),(lW l).testBit n=l.contains n
 |[],n=>by simp[lW]
 |d::l,n=>by
  have:lW (d::l)=(1<<<d)|||lW l:=rfl;rw[this,azb,OJ l n,aAC,aA8];rw[ayS];simp only[ayb,decide_eq_true_eq,ayj,axT];exact⟨λh=>h.imp Eq.symm id,λh=>h.imp Eq.symm id⟩
def aqc(l:List Nat)(n:Nat):AN (lW l) n=l.contains n:=by rw[afK,OJ]
def OK(a:dA)(m Z:Nat)(X:List SV):Nat->List SV->List SV
 |_,[]=>[]
 |n,x::W=>(if AN Z n then(qQ n a.tm X).getD (if AN m n then .any else x) else if AN m n then .any else x)::OK a m Z X (n+1) W
def afL{n:Nat}:∀{X:List (Nat×LK)}{Z:List SV},(X.map (·.1)).contains n=false->qQ n X Z=none
 |[],Z,_=>by cases Z<;>rfl
 |(t,k)::r,[],_=>rfl
 |(t,k)::r,v::V,h=>by
  simp only[axV,List.contains_cons,ayp] at h;have W:(t==n)=false:=by
   have:=h.1;simp only[beq_eq_false_iff_ne,ne_eq] at this⊢;exact λe=>this e.symm
  simp only[qQ,W,ax3,if_false];exact afL h.2
def afM(a:dA)(Z:List Nat)(X:List SV):∀(n:Nat)(l:List SV),OK a (lW Z) (lW (a.tm.map (·.1))) X n l=abb a Z X n l
 |_,[]=>rfl
 |n,x::W=>by
  simp only[OK,abb,afM a Z X (n+1) W,aqc];cases V:(a.tm.map (·.1)).contains n with
  |true=>rfl
  |false=>rw[afL V];rfl
def Kt(m:Nat):Nat->List SV->List SV->Bool
 |_,[],[]=>true
 |n,x::Z,y::X=>(AN m n||SV.same x y)&&Kt m (n+1) Z X
 |_,_,_=>false
def WD(a:dA)(Z:List Nat):∀(n:Nat)(l k:List SV),Kt (axZ (lW Z) (lW (a.tm.map (·.1)))) n l k=uk a Z n l k
 |_,[],[]=>rfl
 |_,[],_::_=>rfl
 |_,_::_,[]=>rfl
 |n,x::X,y::W=>by
  simp only[Kt,uk,WD a Z (n+1) X W];congr 1;have:AN (axZ (lW Z) (lW (a.tm.map (·.1)))) n=(a.tm.any (·.1==n)||Z.contains n):=by
   rw[afK];change((lW Z)|||(lW (a.tm.map (·.1)))).testBit n=_;rw[azb,OJ,OJ,Bool.or_comm];congr 1;rw[ayS,ayj,ayh];simp only[aya,beq_iff_eq]
  rw[this]
def WE(a:dA)(Z:List Nat)(s:S):S:=
 let r:List SV×S:=S.bE {s with av:=s.av+1,rs:=fH a s} a.ks
 {r.2 with tmps:=OK a (lW Z) (lW (a.tm.map (·.1))) r.1 0 s.tmps,boxes:=pP a (r.1.drop a.tm.length) 0 s.boxes}
def aqd(a:dA)(Z:List Nat)(s:S):WE a Z s=m6 a Z s:=by
 simp only[WE,m6,afM]
def WF(X:dA)(W:List Nat)(s:S)(k:XE->S->T):XE->S->T
 |.normal,Z=>if Kt (axZ (lW W) (lW (X.tm.map (·.1)))) 0 s.tmps Z.tmps&&oU X 0 s.boxes Z.boxes&&oV Z X.ks (gT X Z)&&uj (fH X s) Z.rs&&CE (fH X s) (CD X Z)&&decide (Z.pd=s.pd) then .back s.av (gT X Z) else .stuck (ab6 X s Z)
 |e,Z=>k e Z
def aqe(Z:dA)(X:List Nat)(s:S)(k:XE->S->T):WF Z X s k=Nb Z X s k:=by
 funext e W;cases e<;>simp only[WF,Nb,WD]
def jc(Z:bh):Nat->FuncId->Code->S->YH->(XE->S->T)->T
 |0,_,_,_,_,_=>.stuck ""
 |n+1,W,c,s,X,k=>
  match c with
  |.skip=>k .normal s
  |.label _=>k .normal s
  |.ret=>k .ret s
  |.exit id=>k (.exit id) s
  |.seq a b=>jc Z n W a s X (M7 (λR=>jc Z n W b R X k) k)
  |.block id a=>jc Z n W a s X (Ua id k)
  |.scope a=>jc Z n W a s X k
  |.cond c a b=>match s.ev Z.gl c with
   |.bool (.c true)=>jc Z n W a s X k
   |.bool (.c false)=>jc Z n W b s X k
   |.bool x=>match c with
    |.tmp t=>.node x (jc Z n W a {s with tmps:=s.tmps.set t (.bool (.c true))} X k) (jc Z n W b {s with tmps:=s.tmps.set t (.bool (.c false))} X k)
    |_=>.stuck ""
   |_=>.stuck ""
  |.region id V Q=>match Ng Z W id s with
   |some (e,L,ey,aq)=>Fs e ey (Uk (λR=>jc Z n W (.region id V Q) R X k) aq) (λR=>jc Z n W (.region id V Q) R X k) L
   |none=>s.Wy λs=>if Q then
    match OH Z (!Z.TZ W id) V s with
    |some c=>Jp Z (gU Z (λf c s k=>jc Z n f c s X k) X) V (WC k) c
    |none=>match Wv V s.boxes.length with
    |some O=>if !ajY Z V.toList then .stuck "" else AM Z (uo Z (Ao Z V λf c s k=>jc Z n f c s fT k) X) V (k .normal) (λv=>k (.aW v)) O (s.we V O) []
    |none=>match OH Z false V s with
     |some c=>Jp Z (gU Z (λf c s k=>jc Z n f c s X k) X) V (WC k) c
     |none=>.stuck ""
   else
   AM Z (gU Z (λf c s k=>jc Z n f c s X k) X) V (k .normal) (λv=>k (.aW v)) (ez (λ_=>false) true false 0 s.boxes.length V.toList) (s.room (jU V.toList)) []
  |.loop a=>match(Code.first a).map (Z.loop W) with
   |some (.inv U)=>
    if !s.bd|| !oV s (U.at s).ks (gT (U.at s) s)|| !Kt (axZ (lW (Code.kW a)) (lW ((U.at s).tm.map (·.1)))) 0 s.tmps s.tmps|| !oU (U.at s) 0 s.boxes s.boxes|| !uj (fH (U.at s) s) s.rs|| !CE (fH (U.at s) s) (CD (U.at s) s) then .stuck (ab7 (U.at s) (Code.kW a) s) else
    .loop s.av (U.at s).ks (gT (U.at s) s) (jc Z n W a (WE (U.at s) (Code.kW a) s) X (WF (U.at s) (Code.kW a) s k))
   |_=>jc Z n W a s X (M7 (λR=>jc Z n W (.loop a) R X k) k)
  |.rangeFunc f N assign body=>match s.ev Z.gl f with
   |.fn g P=>match Z.inl g with
    |some (c,J,[])=>
     if !s.da P||s.sD s.pd.length||SV.m7 s.pd.length P||gF assign||gF body then .stuck "" else
     jc Z n g c (Fq s J P)
      (Jm s.pd.length N.size λI M H G=>
       jc Z n W assign (yr M s N.toList I) fT (Jl s.pd.length λF=>
        jc Z n W body (F.CO s.pd.length .busy) fT (Nc s.pd.length M H G))) (CN s k)
    |_=>.stuck ""
   |_=>.stuck ""
  |_=>.stuck ""
def WG(Z:bh):∀n,jc Z n=dJ Z n
 |0=>by funext X c s W k;rfl
 |n+1=>by
  have V:=WG Z n;funext X c s W k;unfold jc dJ;simp only[V,OI,ap4,ap6,ap7,WD,aqd,aqe,aqb];cases c<;>rfl
def WH(Z:bh)(n:Nat)(W:FuncId)(c:Code)(V:Nat)(U:List ResultVar)(X:List SV)(s:S):T:=
 jc Z n W c {s with tmps:=X++axW (V-X.length) (.bm [])} fT (Nh Z s.boxes.length U)
def aqf(Z:bh)(n:Nat)(X:FuncId)(c:Code)(W:Nat)(V:List ResultVar)(U:List SV)(s:S):WH Z n X c W V U s=Jr Z n X c W V U s:=by
 unfold WH Jr;rw[WG]
def WI(Z:bh)(n:Nat)(U:FuncId)(c:Code)(R:Nat)(Q:List ResultVar)(W:TypeId)(V:List SV)(s:S):T:=match qR c with
 |some d=>AM Z (gU Z (λf c s k=>jc Z n f c s fT k) fT) d.oX (λX=>match X.tmps[d.te]? with
  |some (.loc i 0)=>if !oO W&&aD X.boxes i&&decide (d.tf<X.tmps.length) then jc Z n U d.rest (X.put (some d.tf) (.fn d.g [.loc i 0])) fT (Um Z s.boxes.length W i Q) else .stuck ""
  |_=>.stuck "") (λ_ _=>.stuck "") (ez (λ_=>false) true false 0 s.boxes.length d.oX.toList) (({s with tmps:=V++axW (R-V.length) (SV.bm [])}:S).room (jU d.oX.toList)) []
 |none=>.stuck ""
def aqg(Z:bh)(n:Nat)(X:FuncId)(c:Code)(W:Nat)(V:List ResultVar)(U:TypeId)(R:List SV)(s:S):WI Z n X c W V U R s=Js Z n X c W V U R s:=by
 unfold WI Js;cases qR c with
 |none=>rfl
 |some d=>
  simp only[WG,OI];rfl
def WJ(Z:bh)(R:Option TypeId)(n:Nat)(X:FuncId)(c:Code)(W:Nat)(V:List ResultVar)(U:List SV)(s:S):T:=match R with
 |none=>WH Z n X c W V U s
 |some Q=>WI Z n X c W V Q U s
section
section
variable{aQ u:kn}
def kK(N:∀f M o,aQ f M=some o->u f M=some o):∀(n V:Nat)(t:T)(O:aa)(i:List Lp)(o:aT),n<=V->exec aQ n t O i=some o->exec u V t O i=some o
 |0,_,t,O,i,o,_,h=>by simp[exec] at h
 |n+1,0,t,O,i,o,L,h=>by omega
 |n+1,V+1,t,O,i,o,L,h=>by
  have Z:=kK N n V;cases t with
  |ret v J U=>simpa only[exec] using h
  |aW v=>simpa only[exec] using h
  |node b t f=>
   simp only[exec] at h⊢;split at h;rename_i X;rw[if_pos X];exact Z t O i o (by omega) h;rename_i X;rw[if_neg X];exact Z f O i o (by omega) h
  |az b t=>
   simp only[exec] at h⊢;split at h;rename_i X;rw[if_pos X];exact Z t O i o (by omega) h;cases h
  |call f I J U H eP t=>
   simp only[exec] at h⊢;cases Q:aQ f ((kJ I).map (SV.xv O)) with
   |none=>rw[Q] at h;cases h
   |some r=>
    rw[Q] at h;rw[N _ _ _ Q];cases r with
    |ret E=>
     simp only at h⊢;split at h;rename_i R;rw[if_pos R];exact Z t _ i o (by omega) h;cases h
    |aW v=>exact h
  |loop av H D t=>
   simp only[exec] at h⊢;exact Z t _ _ o (by omega) h
  |back av x=>
   simp only[exec] at h⊢;cases R:pj av i with
   |none=>rw[R] at h;cases h
   |some q=>
    obtain⟨G,C⟩:=q;rw[R] at h;exact Z G.t _ _ o (by omega) h
  |new e x U B t=>
   simp only[exec] at h⊢;exact Z t _ i o (by omega) h
  |rows k x U t=>
   simp only[exec] at h⊢;exact Z t _ i o (by omega) h
  |ey g F t f=>
   simp only[exec] at h⊢;split at h;rename_i P;rw[if_pos P];split at h;rename_i W;rw[if_pos W];exact Wm h (Z t O i o (by omega)) (Z f O i o (by omega));rename_i W;rw[if_neg W];exact Z t O i o (by omega) h;rename_i P;rw[if_neg P];split at h;rename_i W;rw[if_pos W];exact Z f O i o (by omega) h;cases h
  |pick m g F t f=>
   simp only[exec] at h⊢;refine Wn h λj _ q=> ?_
   cases j with
   |some j=>exact Z t _ i o (by omega) q
   |none=>exact Z f _ i o (by omega) q
  |dq f g e A z r U t=>
   simp only[exec] at h⊢;split at h;rename_i rows y;exact Z t _ i o (by omega) h;cases h
  |out e s=>simp[exec] at h
  |stuck m=>simp[exec] at h
end
def iV(n:Int):RV:=.mk (.int .i64 n) []
def bV(b:Bool):RV:=.mk (.bool b) []
def sV(l:List Int):RV:=.mk (.slice none l.length l.length) (l.map λn=>[iV n])
def uL(b:Nat)(Z:List (List RV)):RV:=.mk (.slice (some ⟨b,0,none⟩) Z.length Z.length) Z
def lX:List RV:=[
 uL 0 ([(false,false,false,0,0,0),(true,true,false,1,0,16),(false,true,false,1,0,16),(true,true,false,0,3,0),(true,true,false,0,3,0),(false,true,false,0,3,0),(false,false,false,0,0,7),(false,false,true,0,0,0),(false,false,true,0,0,0),(true,false,false,0,3,0)].map λ(a,b,c,d,e,f)=>[bV a,bV b,bV c,iV d,iV e,iV f]),
 uL 1 ([([],[]),([0],[]),([],[0,1]),([0],[]),([2],[]),([],[4]),([],[]),([],[2,3]),([],[0,1]),([2],[])].map λ(a,b)=>[sV a,sV b]),
 uL 2 ([(0,29),(20,21),(29,0),(20,-21),(0,-29),(-20,-21),(-29,0),(-20,21)].map λ(a,b)=>[iV a,iV b])]
def fU(g:Bool):List RV:=if g then lX else[]
def uM(d:Bool):Option aT->Option aT
 |some (.ret Z)=>some (.ret Z)
 |some (.aW v)=>if d then none else some (.aW v)
 |none=>none
structure Fn where
 t:T
 g:Bool:=false
 d:Bool:=false
structure fW where
 tree:FuncId->Option Fn
 nf:kn
def fW.aQ(p:fW):Nat->kn
 |0=>p.nf
 |n+1=>λf X=>match p.nf f X with
  |some o=>some o
  |none=>match p.tree f with
   |some Z=>uM Z.d (exec (fW.aQ p n) n Z.t (de (fU Z.g) X) [])
   |none=>none
def jd{p:fW}:∀(n X:Nat)(f:FuncId)(Z:List XV)(o:aT),n<=X->p.aQ n f Z=some o->p.aQ X f Z=some o
 |0,0,f,Z,o,_,h=>h
 |0,X+1,f,Z,o,_,h=>by
  simp only[fW.aQ] at h⊢;rw[h]
 |n+1,0,f,Z,o,P,_=>by omega
 |n+1,X+1,f,Z,o,P,h=>by
  simp only[fW.aQ] at h⊢;cases U:p.nf f Z with
  |some R=>rw[U] at h;exact h
  |none=>
   rw[U] at h;simp only at h⊢;cases Q:p.tree f with
   |none=>rw[Q] at h;cases h
   |some W=>
    rw[Q] at h;simp only at h⊢;cases V:exec (p.aQ n) n W.t (de (fU W.g) Z) [] with
    |none=>rw[V] at h;cases h
    |some R=>
     rw[V] at h;rw[kK (λf Z o h=>jd n X f Z o (by omega) h) n X W.t _ _ R (by omega) V];exact h
def fW.Ev(p:fW)(f:FuncId)(Z:List XV)(o:aT):Prop:=∃n,p.aQ n f Z=some o
def fW.Go(p:fW)(t:T)(O:aa)(i:List Lp)(o:aT):Prop:=∃n,exec (p.aQ n) n t O i=some o
section
variable{p:fW}{O:aa}{i:List Lp}{o:aT}
def WK(h:p.nf F k=some o):p.Ev F k o:=⟨0,h⟩
def aqh{Z:Fn}(V:p.tree F=some Z)(U:p.nf F k=none)(X:Z.d=false\/∃W,o=.ret W)(h:p.Go Z.t (de (fU Z.g) k) [] o):p.Ev F k o:=by
 obtain⟨n,h⟩:=h;refine⟨n+1, ?_⟩;simp only[fW.aQ,U,V,h];rcases X with X|⟨W,rfl⟩;cases o<;>simp[uM,X];rfl
def go_of:p.Go n O i o<->∃Z,exec (p.aQ (Z+1)) (Z+1) n O i=some o:=
 ⟨λ⟨Z,h⟩=>⟨Z,kK (λf X o h=>jd Z (Z+1) f X o (by omega) h) Z (Z+1) n O i o (by omega) h⟩,λ⟨Z,h⟩=>⟨Z+1,h⟩⟩
def go_up{m:Nat}(h:exec (p.aQ X) m n O i=some o):p.Go n O i o:=
 ⟨max X m,kK (λf Z o h=>jd X _ f Z o (by omega) h) m _ n O i o (by omega) h⟩
@[simp] def go_ret {Z:aY}:p.Go (.ret b Z N) O i o<->o=.ret ((aaC b).map (SV.xv O)):=by
 rw[go_of];simp only[exec,axM];exact⟨λ⟨_,h⟩=>h.symm,λh=>⟨0,h.symm⟩⟩
@[simp] def go_pan:p.Go (.aW b) O i o<->(Db O b).map .aW=some o:=by
 rw[go_of];simp only[exec];exact⟨λ⟨_,h⟩=>h,λh=>⟨0,h⟩⟩
@[simp] def go_node {b:BE} {f:T}:p.Go (.node b n f) O i o<->if b.den O=true then p.Go n O i o else p.Go f O i o:=by
 rw[go_of];simp only[exec];split
 ·exact⟨λ⟨Z,h⟩=>go_up h,λ⟨Z,h⟩=>⟨Z,kK (λf X o h=>jd Z (Z+1) f X o (by omega) h) Z Z n O i o (by omega) h⟩⟩
 ·exact⟨λ⟨Z,h⟩=>go_up h,λ⟨Z,h⟩=>⟨Z,kK (λf X o h=>jd Z (Z+1) f X o (by omega) h) Z Z f O i o (by omega) h⟩⟩
@[simp] def go_need {b:BE}:p.Go (.az b n) O i o<->b.den O=true/\p.Go n O i o:=by
 rw[go_of];simp only[exec];by_cases X:b.den O=true
 ·simp only[X,if_true,true_and];exact⟨λ⟨Z,h⟩=>go_up h,λ⟨Z,h⟩=>⟨Z,kK (λf W o h=>jd Z (Z+1) f W o (by omega) h) Z Z n O i o (by omega) h⟩⟩
 simp[X]
@[simp] def go_loop:p.Go (.loop X r Q n) O i o<->p.Go n (O.ext (Q.map (SV.xv O))) (⟨X,n,O⟩::i) o:=by
 rw[go_of];simp only[exec];exact⟨λ⟨Z,h⟩=>go_up h,λ⟨Z,h⟩=>⟨Z,kK (λf W o h=>jd Z (Z+1) f W o (by omega) h) Z Z n _ _ o (by omega) h⟩⟩
@[simp] def go_new {x:LE} {X:List RK}:p.Go (.new v x N X n) O i o<->p.Go n (O.add (.r (eI x O))) i o:=by
 rw[go_of];simp only[exec];exact⟨λ⟨Z,h⟩=>go_up h,λ⟨Z,h⟩=>⟨Z,kK (λf W o h=>jd Z (Z+1) f W o (by omega) h) Z Z n _ _ o (by omega) h⟩⟩
@[simp] def go_rows {k:RK} {x:LE}:p.Go (.rows k x N n) O i o<->p.Go n (O.add (.r (eI x O))) i o:=by
 rw[go_of];simp only[exec];exact⟨λ⟨Z,h⟩=>go_up h,λ⟨Z,h⟩=>⟨Z,kK (λf X o h=>jd Z (Z+1) f X o (by omega) h) Z Z n _ _ o (by omega) h⟩⟩
def go_turn{g:FuncId}{X:aI}{W:Bool}{r:RE}(h:dB X W (r.rv O).rows=some l):p.Go (.dq F g v X W r N n) O i o<->p.Go n (O.add (.r (.mk (r.rv O).val l))) i o:=by
 rw[go_of];simp only[exec,h];exact⟨λ⟨Z,h⟩=>go_up h,λ⟨Z,h⟩=>⟨Z,kK (λF V o h=>jd Z (Z+1) F V o (by omega) h) Z Z n _ _ o (by omega) h⟩⟩
def go_back{W:List Lp}{Z:Lp}(h:pj X i=some (Z,W)):p.Go (.back X Q) O i o<->p.Go Z.t (Z.O.ext (Q.map (SV.xv O))) (Z::W) o:=by
 rw[go_of];simp only[exec,h];exact⟨λ⟨n,h⟩=>go_up h,λ⟨n,h⟩=>⟨n,kK (λf V o h=>jd n (n+1) f V o (by omega) h) n n Z.t _ _ o (by omega) h⟩⟩
def go_call{W:aY}(h:p.Ev F ((kJ Q).map (SV.xv O)) (.ret k))(V:dh r k=true)(X:p.Go n (O.ext k) i o):p.Go (.call F Q W N r b n) O i o:=by
 obtain⟨Z,h⟩:=h;obtain⟨m,X⟩:=X;refine⟨max Z m+1, ?_⟩;simp only[exec];rw[jd Z _ _ _ _ (by omega) h];simp only[V,if_true];exact kK (λF U o h=>jd m _ F U o (by omega) h) m _ n _ _ o (by omega) X
def go_callp{X:aY}{v:Value}(h:p.Ev F ((kJ Q).map (SV.xv O)) (.aW v)):p.Go (.call F Q X N r b n) O i (.aW v):=by
 obtain⟨Z,h⟩:=h;refine⟨Z+1, ?_⟩;simp only[exec];rw[jd Z _ _ _ _ (by omega) h]
end
end
section
structure PC where
 av:Nat
 I:List XV->Prop
 μ:List XV->Nat
 m:Nat
def Dk(av:Nat):List PC->Option PC
 |[]=>none
 |x::Z=>if x.av=av then some x else Dk av Z
def Ku(R:aT->Prop):Prop:=∀o Z,R o->R Z->o=Z/\sL o o=true
def T.jI(Z:FuncId->List XV->aT->Prop):T->(aT->Prop)->aa->List PC->Prop
 |.ret v _ _,R,O,_=>R (.ret ((aaC v).map (SV.xv O)))
 |.aW v,R,O,_=>∃x,Db O v=some x/\R (.aW x)
 |.node b t f,R,O,L=>(b.den O=true->t.jI Z R O L)/\(b.den O=false->f.jI Z R O L)
 |.az b t,R,O,L=>b.den O=true/\t.jI Z R O L
 |.call f N _ _ M _ t,R,O,L=>∃o,Z f ((kJ N).map (SV.xv O)) o/\(match o with
  |.ret U=>dh M U=true/\t.jI Z R (O.ext U) L
  |.aW v=>R (.aW v))
 |.loop av _ J t,R,O,L=>∃X W,((X=R/\W=L)\/((∀o,X o->R o)/\W=[]))/\∃I Q,I (J.map (SV.xv O))/\∀V,I V->t.jI Z X (O.ext V) (⟨av,I,Q,Q V⟩::W)
 |.back av x,R,O,L=>match Dk av L with
  |some c=>c.I (x.map (SV.xv O))/\c.μ (x.map (SV.xv O))<c.m
  |none=>False
 |.new _ x _ _ t,R,O,L=>t.jI Z R (O.add (.r (eI x O))) L
 |.rows _ x _ t,R,O,L=>t.jI Z R (O.add (.r (eI x O))) L
 |.ey g h t f,R,O,L=>(g.den O=true\/h.den O=true)/\(g.den O=true->t.jI Z R O L)/\(h.den O=true->f.jI Z R O L)/\(g.den O=true->h.den O=true->Ku R)
 |.pick n g h t f,R,O,L=>Ku R/\n9 n g h O≠[]/\(∀j:Int,0<=j->j<n.den O->g.den (O.add (.i j))=true->t.jI Z R (O.add (.i j)) L)/\(h.den O=true->f.jI Z R O L)
 |.dq _ _ _ H G r _ t,R,O,L=>∃P,dB H G (r.rv O).rows=some P/\t.jI Z R (O.add (.r (.mk (r.rv O).val P))) L
 |.stuck _,_,_,_=>False
 |.out _ _,_,_,_=>False
def T.wp(Z:FuncId->List XV->aT->Prop)(R:aT->Prop)(t:T)(O:aa)(L:List PC):Prop:=t.jI Z R O L
section
variable{a:fW}{R:aT->Prop}
inductive wF(a:fW)(R:aT->Prop):List PC->List Lp->Prop where
 |nil (st:List Lp):wF a R [] st
 |cons (c:PC) (fr:Lp) (L:List PC) (st:List Lp) (h1:c.av=fr.av) (h2:∀xs,c.I xs->c.μ xs<c.m->∃o,a.Go fr.t (fr.O.ext xs) (fr::st) o/\R o) (h3:wF a R L st):wF a R (c::L) (fr::st)
def wF.find{L:List PC}{V:List Lp}(h:wF a R L V){c:PC}(W:Dk X L=some c):
  ∃Z P,pj X V=some (Z,P)/\∀U,c.I U->c.μ U<c.m->∃o,a.Go Z.t (Z.O.ext U) (Z::P) o/\R o:=by
 induction h with
 |nil _=>cases W
 |cons H Z L V N M G J=>
  simp only[Dk] at W;simp only[pj,<-N];split at W;rename_i Q;cases W;rw[if_pos Q];exact⟨Z,V,rfl,M⟩;rename_i Q;rw[if_neg Q];exact J W
def go_mono{Z:List Lp}{m:Nat}(h:exec (a.aQ X) X n U Z=some g)(W:X<=m):exec (a.aQ m) m n U Z=some g:=
 kK (λf V g h=>jd X m f V g W h) X m n U Z g W h
def afN{Z:Type}{f:Z->Option aT}{o:aT}(X:sL o o=true):∀{l:List Z},l≠[]->(∀x∈l,f x=some o)->aam (l.map f)=some o
 |[],h,_=>absurd rfl h
 |[x],_,h=>by simpa[aam] using h x (by simp)
 |x::y::r,_,h=>by
  have:=afN X (l:=y::r) (by simp) (λz W=>h z (by simp at W⊢;exact .inr W));simp only[axV,aam] at this⊢;rw[this,h x (by simp),wD,if_pos X]
def afO{W:Type}{p:W->Nat->Prop}(X:∀x n m,p x n->n<=m->p x m):∀{l:List W},(∀x∈l,∃n,p x n)->∃n,∀x∈l,p x n
 |[],_=>⟨0,λx V=>by cases V⟩
 |x::r,h=>by
  obtain⟨n,U⟩:=h x (by simp);obtain⟨m,Q⟩:=afO X (l:=r) (λz Z=>h z (by simp[Z]));refine⟨max n m,λz Z=> ?_⟩;rcases axT.1 Z with rfl|Z;exact X _ _ _ U (by omega);exact X _ _ _ (Q z Z) (by omega)
def go_wp:∀(t:T)(R:aT->Prop)(O:aa)(L:List PC)(Z:List Lp),t.jI a.Ev R O L->wF a R L Z->∃o,a.Go t O Z o/\R o
 |.ret v bx E,R,O,L,Z,h,_=>⟨_,go_ret.2 rfl,h⟩
 |.aW v,R,O,L,Z,h,_=>by
  obtain⟨x,V,W⟩:=h;exact⟨.aW x,go_pan.2 (by rw[V];rfl),W⟩
 |.node b t f,R,O,L,Z,h,X=>by
  simp only[go_node];cases w:b.den O with
  |true=>simpa using go_wp t R O L Z (h.1 w) X
  |false=>simpa using go_wp f R O L Z (h.2 w) X
 |.az b t,R,O,L,Z,h,X=>by
  obtain⟨o,V,W⟩:=go_wp t R O L Z h.2 X;exact⟨o,go_need.2 ⟨h.1,V⟩,W⟩
 |.call f a2 bx E ks eP t,R,O,L,Z,h,X=>by
  obtain⟨o,V,W⟩:=h;cases o with
  |ret ys=>
   obtain⟨o,N,M⟩:=go_wp t R (O.ext ys) L Z W.2 X;exact⟨o,go_call V W.1 N,M⟩
  |aW v=>exact⟨.aW v,go_callp V,W⟩
 |.loop av ks x0 t,R,O,L,Z,h,X=>by
  obtain⟨D,L',ac,I,μ,V,W⟩:=h;have u:wF a D L' Z/\∀o,D o->R o:=by
   rcases ac with⟨rfl,rfl⟩|⟨N,rfl⟩;exact⟨X,λo h=>h⟩;exact⟨wF.nil Z,N⟩
  have af:∀n U,μ U<n->I U->∃o,a.Go t (O.ext U) (⟨av,t,O⟩::Z) o/\D o:=by
   intro n;induction n with
   |zero=>intro U A;omega
   |succ n ih=>
    intro U A hI;exact go_wp t D (O.ext U) _ _ (W U hI) (wF.cons _ _ _ _ rfl (λag al hm=>ih ag (by simp only at hm;omega) al) u.1)
  obtain⟨o,N,M⟩:=af _ _ (Nat.lt_succ_self _) V;exact⟨o,go_loop.2 N,u.2 o M⟩
 |.back av x,R,O,L,Z,h,X=>by
  simp only[T.jI] at h;split at h
  ·rename_i c hf;obtain⟨fr,a3,V,W⟩:=X.find hf;obtain⟨o,N,M⟩:=W _ h.1 h.2;exact⟨o,(go_back V).2 N,M⟩
  exact h.elim
 |.new e x E a4 t,R,O,L,Z,h,X=>by
  obtain⟨o,V,W⟩:=go_wp t R _ L Z h X;exact⟨o,go_new.2 V,W⟩
 |.rows e x E t,R,O,L,Z,h,X=>by
  obtain⟨o,V,W⟩:=go_wp t R _ L Z h X;exact⟨o,go_rows.2 V,W⟩
 |.ey g F t f,R,O,L,Z,h,X=>by
  obtain⟨C,V,W,N⟩:=h;cases G:g.den O with
  |true=>
   obtain⟨o,Q,J⟩:=go_wp t R O L Z (V G) X;cases H:F.den O with
   |true=>
    obtain⟨z,y,k2⟩:=go_wp f R O L Z (W H) X;obtain⟨rfl,e⟩:=N G H o z J k2;obtain⟨n,Q⟩:=Q;obtain⟨m,y⟩:=y;refine⟨o,⟨max n m+1, ?_⟩,J⟩;simp only[exec,G,H,if_true];rw[kK (λf U o h=>jd n _ f U o (by omega) h) n (max n m) t O Z o (by omega) Q,kK (λf U o h=>jd m _ f U o (by omega) h) m (max n m) f O Z o (by omega) y,wD,if_pos e]
   |false=>
    obtain⟨n,Q⟩:=Q;refine⟨o,⟨n+1, ?_⟩,J⟩;simp only[exec,G,H,if_true];exact kK (λf U o h=>jd n _ f U o (by omega) h) n n t O Z o (by omega) Q
  |false=>
   have H:F.den O=true:=C.resolve_left (by simp[G]);obtain⟨o,Q,J⟩:=go_wp f R O L Z (W H) X;obtain⟨n,Q⟩:=Q;refine⟨o,⟨n+1, ?_⟩,J⟩;simp only[exec,G,H,if_true];exact kK (λf U o h=>jd n _ f U o (by omega) h) n n f O Z o (by omega) Q
 |.pick m g F t f,R,O,L,Z,h,X=>by
  obtain⟨q,C,V,W⟩:=h;have d:∀j∈n9 m g F O,∃o,R o/\(match j with
   |some j=>a.Go t (O.add (.i j)) Z o
   |none=>a.Go f O Z o):=by
   intro j P;cases j with
   |some j=>
    simp only[n9,axS,aya,ayr,ayR] at P;rcases P with⟨j',⟨⟨k,hk,rfl⟩,G⟩,e⟩|P
    ·cases e;obtain⟨o,Q,J⟩:=go_wp t R (O.add (.i (k:Int))) L Z (V _ (by omega) (by omega) G) X;exact⟨o,J,Q⟩
    split at P<;>simp at P
   |none=>
    simp only[n9,axS,aya,ayr,ayR] at P;rcases P with⟨j',_,e⟩|P;cases e;split at P
    ·rename_i H;obtain⟨o,Q,J⟩:=go_wp f R O L Z (W H) X;exact⟨o,J,Q⟩
    simp at P
  obtain⟨j0,an⟩:=List.exists_mem_of_ne_nil _ C;obtain⟨o,B,_⟩:=d j0 an;have a0:sL o o=true:=(q o o B B).2;obtain⟨n,A⟩:=afO (p:=λj n=>(match j with
   |some j=>exec (a.aQ n) n t (O.add (.i j)) Z
   |none=>exec (a.aQ n) n f O Z)=some o) (λx n m hx a1=>by cases x<;>exact go_mono hx a1) (l:=n9 m g F O) (λj P=>by
    obtain⟨z,N,M⟩:=d j P;obtain⟨rfl,_⟩:=q o z B N;cases j<;>exact M)
  refine⟨o,⟨n+1, ?_⟩,B⟩;simp only[exec];refine afN a0 C λj P=> ?_
  have:=A j P;cases j with
  |some j=>exact kK (λf U o h=>jd n _ f U o (by omega) h) n n t _ Z o (by omega) this
  |none=>exact kK (λf U o h=>jd n _ f U o (by omega) h) n n f O Z o (by omega) this
 |.dq f g e sp sb r E t,R,O,L,Z,h,X=>by
  obtain⟨a5,V,W⟩:=h;obtain⟨o,N,M⟩:=go_wp t R _ L Z W X;exact⟨o,(go_turn V).2 N,M⟩
 |.stuck m,R,O,L,Z,h,_=>h.elim
 |.out e s,R,O,L,Z,h,_=>h.elim
def Gr(a:fW)(f:FuncId)(Z:Fn):Prop:=a.tree f=some Z/\∀X,a.nf f X=none
def afP{Z:Fn}(X:Gr a F Z)(V:Z.d=false\/∀v,¬R (.aW v))(h:Z.t.wp a.Ev R (de (fU Z.g) k) []):∃o,a.Ev F k o/\R o:=by
 obtain⟨o,U,W⟩:=go_wp Z.t R _ [] [] h (wF.nil []);refine⟨o,aqh X.1 (X.2 _) (V.imp id λQ=> ?_) U,W⟩;cases o with
 |ret P=>exact⟨P,rfl⟩
 |aW v=>exact(Q v W).elim
def Dl{Z:Fn}(X:Gr a F Z)(W:Z.d=false\/∀v,g≠ .aW v)(h:Z.t.wp a.Ev (· =g) (de (fU Z.g) k) []):a.Ev F k g:=by
 obtain⟨O,V,U⟩:=afP (R:=(· =g)) X (W.imp id λQ v P=>Q v P.symm) h;exact U▸V
def WL{X:aT}(h:a.Ev F k g)(Z:a.Ev F k X):g=X:=by
 obtain⟨n,h⟩:=h;obtain⟨m,Z⟩:=Z;have V:=jd n (max n m) F k g (by omega) h;have W:=jd m (max n m) F k X (by omega) Z;rw[V] at W;cases W;rfl
end
end
def OL(n j:Nat)(a b c:Int)(Z:List (List RV)):Int:=match jA n [a,b,c] Z with
 |some X=>bg (X.getD j default).val
 |none=>0
def ON(n j:Nat)(a b c:Int)(Z:List (List RV)):Bool:=match jA n [a,b,c] Z with
 |some X=>gV (X.getD j default).val
 |none=>false
def IE.dn(e:IE):aa->Int:=IE.rec (motive_1:=λ_=>aa->Int) (motive_2:=λ_=>aa->Bool) (motive_3:=λ_=>aa->RV) (λn _=>n) (λk O=>O.i.getD k 0) (λZ k _ _ a b O=>aR Z k (a O) (b O)) (λk _ a O=>k.wrap (a O)) (λ_ r O=>lenOf (r O).val) (λX _ _ a b O=>cond X (max (a O) (b O)) (min (a O) (b O))) (λ_ _ _ b x y O=>cond (b O) (x O) (y O)) (λ_ _ j r i O=>bg (cellAt (r O).rows (i O) j).val) (λ_ _ r i O=>Ar (r O).val (i O)) (λ_ n _ _ _ j r a b c O=>OL n j (a O) (b O) (c O) (r O).rows) (λb _=>b) (λk O=>O.b.getD k false) (λZ _ _ a b O=>eG Z (a O) (b O)) (λ_ a O=> !(a O)) (λ_ _ a b O=>a O&&b O) (λ_ _ a b O=>a O==b O) (λ_ _ _ b x y O=>cond (b O) (x O) (y O)) (λ_ _ j r i O=>gV (cellAt (r O).rows (i O) j).val) (λ_ _ a b O=>nV (a O).val (b O).val) (λ_ n _ _ _ j r a b c O=>ON n j (a O) (b O) (c O) (r O).rows) (λ_ n _ _ _ r a b c O=>(jA n [a O,b O,c O] (r O).rows).isSome) (λk O=>O.rv k) (λ_ _ j k r i O=>cd k (cellAt (r O).rows (i O) j)) (λv _=>.mk v []) e
def BE.dn(e:BE):aa->Bool:=BE.rec (motive_1:=λ_=>aa->Int) (motive_2:=λ_=>aa->Bool) (motive_3:=λ_=>aa->RV) (λn _=>n) (λk O=>O.i.getD k 0) (λZ k _ _ a b O=>aR Z k (a O) (b O)) (λk _ a O=>k.wrap (a O)) (λ_ r O=>lenOf (r O).val) (λX _ _ a b O=>cond X (max (a O) (b O)) (min (a O) (b O))) (λ_ _ _ b x y O=>cond (b O) (x O) (y O)) (λ_ _ j r i O=>bg (cellAt (r O).rows (i O) j).val) (λ_ _ r i O=>Ar (r O).val (i O)) (λ_ n _ _ _ j r a b c O=>OL n j (a O) (b O) (c O) (r O).rows) (λb _=>b) (λk O=>O.b.getD k false) (λZ _ _ a b O=>eG Z (a O) (b O)) (λ_ a O=> !(a O)) (λ_ _ a b O=>a O&&b O) (λ_ _ a b O=>a O==b O) (λ_ _ _ b x y O=>cond (b O) (x O) (y O)) (λ_ _ j r i O=>gV (cellAt (r O).rows (i O) j).val) (λ_ _ a b O=>nV (a O).val (b O).val) (λ_ n _ _ _ j r a b c O=>ON n j (a O) (b O) (c O) (r O).rows) (λ_ n _ _ _ r a b c O=>(jA n [a O,b O,c O] (r O).rows).isSome) (λk O=>O.rv k) (λ_ _ j k r i O=>cd k (cellAt (r O).rows (i O) j)) (λv _=>.mk v []) e
def RE.dn(e:RE):aa->RV:=RE.rec (motive_1:=λ_=>aa->Int) (motive_2:=λ_=>aa->Bool) (motive_3:=λ_=>aa->RV) (λn _=>n) (λk O=>O.i.getD k 0) (λZ k _ _ a b O=>aR Z k (a O) (b O)) (λk _ a O=>k.wrap (a O)) (λ_ r O=>lenOf (r O).val) (λX _ _ a b O=>cond X (max (a O) (b O)) (min (a O) (b O))) (λ_ _ _ b x y O=>cond (b O) (x O) (y O)) (λ_ _ j r i O=>bg (cellAt (r O).rows (i O) j).val) (λ_ _ r i O=>Ar (r O).val (i O)) (λ_ n _ _ _ j r a b c O=>OL n j (a O) (b O) (c O) (r O).rows) (λb _=>b) (λk O=>O.b.getD k false) (λZ _ _ a b O=>eG Z (a O) (b O)) (λ_ a O=> !(a O)) (λ_ _ a b O=>a O&&b O) (λ_ _ a b O=>a O==b O) (λ_ _ _ b x y O=>cond (b O) (x O) (y O)) (λ_ _ j r i O=>gV (cellAt (r O).rows (i O) j).val) (λ_ _ a b O=>nV (a O).val (b O).val) (λ_ n _ _ _ j r a b c O=>ON n j (a O) (b O) (c O) (r O).rows) (λ_ n _ _ _ r a b c O=>(jA n [a O,b O,c O] (r O).rows).isSome) (λk O=>O.rv k) (λ_ _ j k r i O=>cd k (cellAt (r O).rows (i O) j)) (λv _=>.mk v []) e
def OO{Z:Type}(b:Bool)(x y:Z):cond b x y=if b then x else y:=by cases b<;>rfl
mutual
def IE.dH:∀(e:IE)(O:aa),e.dn O=e.den O
 |.c _,_=>rfl
 |.v _,_=>rfl
 |.bin o k a b,O=>by show aR o k (a.dn O) (b.dn O)=_;rw[IE.dH a,IE.dH b];rfl
 |.conv k a,O=>by show k.wrap (a.dn O)=_;rw[IE.dH a];rfl
 |.len r,O=>by show lenOf (r.dn O).val=_;rw[RE.dH r];rfl
 |.mm m a b,O=>by show cond m (max (a.dn O) (b.dn O)) (min (a.dn O) (b.dn O))=_;rw[IE.dH a,IE.dH b,OO];rfl
 |.bT b x y,O=>by show cond (b.dn O) (x.dn O) (y.dn O)=_;rw[BE.dH b,IE.dH x,IE.dH y,OO];rfl
 |.cell r i j,O=>by show bg (cellAt (r.dn O).rows (i.dn O) j).val=_;rw[RE.dH r,IE.dH i];rfl
 |.jS r i,O=>by show Ar (r.dn O).val (i.dn O)=_;rw[RE.dH r,IE.dH i];rfl
 |.look r n a b c j,O=>by show OL n j (a.dn O) (b.dn O) (c.dn O) (r.dn O).rows=_;rw[RE.dH r,IE.dH a,IE.dH b,IE.dH c];rfl
def BE.dH:∀(e:BE)(O:aa),e.dn O=e.den O
 |.c _,_=>rfl
 |.v _,_=>rfl
 |.cmp o a b,O=>by show eG o (a.dn O) (b.dn O)=_;rw[IE.dH a,IE.dH b];rfl
 |.not a,O=>by show(!(a.dn O))=_;rw[BE.dH a];rfl
 |.and a b,O=>by show(a.dn O&&b.dn O)=_;rw[BE.dH a,BE.dH b];rfl
 |.beq a b,O=>by show(a.dn O==b.dn O)=_;rw[BE.dH a,BE.dH b];rfl
 |.bT b x y,O=>by show cond (b.dn O) (x.dn O) (y.dn O)=_;rw[BE.dH b,BE.dH x,BE.dH y,OO];rfl
 |.cell r i j,O=>by show gV (cellAt (r.dn O).rows (i.dn O) j).val=_;rw[RE.dH r,IE.dH i];rfl
 |.seq a b,O=>by show nV (a.dn O).val (b.dn O).val=_;rw[RE.dH a,RE.dH b];rfl
 |.look r n a b c j,O=>by show ON n j (a.dn O) (b.dn O) (c.dn O) (r.dn O).rows=_;rw[RE.dH r,IE.dH a,IE.dH b,IE.dH c];rfl
 |.has r n a b c,O=>by show(jA n [a.dn O,b.dn O,c.dn O] (r.dn O).rows).isSome=_;rw[RE.dH r,IE.dH a,IE.dH b,IE.dH c];rfl
def RE.dH:∀(e:RE)(O:aa),e.dn O=e.rv O
 |.v _,_=>rfl
 |.cell r i j k,O=>by show cd k (cellAt (r.dn O).rows (i.dn O) j)=_;rw[RE.dH r,IE.dH i];rfl
 |.k _,_=>rfl
end
def fN{Z:Type}(n:Nat)(k:Nat->Z):Z:=aAf (motive:=λ_=>Z) (k 0) (λm _=>k (Nat.succ m)) n
def fI{Z:Type}(n:Int)(k:Int->Z):Z:=Int.rec (motive:=λ_=>Z) (λn=>fN n λn=>k (aBl n)) (λn=>fN n λn=>k (aAV n)) n
def fB{Z:Type}(b:Bool)(k:Bool->Z):Z:=aAd (motive:=λ_=>Z) (k false) (k true) b
def fV{Z:Type}(v:Value)(k:Value->Z):Z:=match v with
 |.int q n=>fI n λn=>k (.int q n)
 |.bool b=>fB b λb=>k (.bool b)
 |.slice none n c=>fN n λn=>fN c λc=>k (.slice none n c)
 |v=>k v
def fR{Z:Type}(v:RV):(RV->Z)->Z:=RV.rec (motive_1:=λ_=>(RV->Z)->Z) (motive_2:=λ_=>(List (List RV)->Z)->Z) (motive_3:=λ_=>(List RV->Z)->Z) (λv _ h k=>fV v λv=>h λl=>k (.mk v l)) (λk=>k []) (λ_ _ h X k=>h λx=>X λW=>k (x::W)) (λk=>k []) (λ_ _ h X k=>h λx=>X λW=>k (x::W)) v
def WM{Z:Type}(v:List (List RV)):(List (List RV)->Z)->Z:=RV.rec_1 (motive_1:=λ_=>(RV->Z)->Z) (motive_2:=λ_=>(List (List RV)->Z)->Z) (motive_3:=λ_=>(List RV->Z)->Z) (λv _ h k=>fV v λv=>h λl=>k (.mk v l)) (λk=>k []) (λ_ _ h X k=>h λx=>X λW=>k (x::W)) (λk=>k []) (λ_ _ h X k=>h λx=>X λW=>k (x::W)) v
def WN{Z:Type}(v:List RV):(List RV->Z)->Z:=RV.rec_2 (motive_1:=λ_=>(RV->Z)->Z) (motive_2:=λ_=>(List (List RV)->Z)->Z) (motive_3:=λ_=>(List RV->Z)->Z) (λv _ h k=>fV v λv=>h λl=>k (.mk v l)) (λk=>k []) (λ_ _ h X k=>h λx=>X λW=>k (x::W)) (λk=>k []) (λ_ _ h X k=>h λx=>X λW=>k (x::W)) v
def fX{Z:Type}(x:XV)(k:XV->Z):Z:=match x with
 |.i n=>fI n λn=>k (.i n)
 |.b b=>fB b λb=>k (.b b)
 |.r v=>fR v λv=>k (.r v)
def fL{Z:Type}(l:List XV):(List XV->Z)->Z:=azw (motive:=λ_=>(List XV->Z)->Z) (λk=>k []) (λx _ X k=>fX x λx=>X λW=>k (x::W)) l
def OP{Z:Type}:∀(n:Nat)(k:Nat->Z),fN n k=k n
 |0,_=>rfl
 |_+1,_=>rfl
def WO{Z:Type}:∀(n:Int)(k:Int->Z),fI n k=k n
 |.ofNat n,k=>OP n λn=>k (aBl n)
 |.negSucc n,k=>OP n λn=>k (aAV n)
def afQ{Z:Type}:∀(n:Bool)(k:Bool->Z),fB n k=k n
 |false,_=>rfl
 |true,_=>rfl
def aqi{Z:Type}(v:Value)(k:Value->Z):fV v k=k v:=by
 unfold fV;split;exact WO _ _;exact afQ _ _;rw[OP,OP];rfl
mutual
def WP{Z:Type}:∀(v:RV)(k:RV->Z),fR v k=k v
 |.mk v l,k=>by
  show(fV v λv=>WM l λl=>k (.mk v l))=_;rw[aqi,afR l]
def afR{X:Type}:∀(l:List (List RV))(k:List (List RV)->X),WM l k=k l
 |[],_=>rfl
 |x::Z,k=>by
  show(WN x λx=>WM Z λZ=>k (x::Z))=_;rw[afS x,afR Z]
def afS{X:Type}:∀(l:List RV)(k:List RV->X),WN l k=k l
 |[],_=>rfl
 |x::Z,k=>by
  show(fR x λx=>WN Z λZ=>k (x::Z))=_;rw[WP x,afS Z]
end
def aqj{Z:Type}(x:XV)(k:XV->Z):fX x k=k x:=by
 cases x<;>simp only[fX,WO,afQ,WP]
def afT{X:Type}:∀(l:List XV)(k:List XV->X),fL l k=k l
 |[],_=>rfl
 |x::Z,k=>by
  show(fX x λx=>fL Z λZ=>k (x::Z))=_;rw[aqj,afT Z]
def fS{Z V:Type}(l:List V):(List V->Z)->Z:=azw (motive:=λ_=>(List V->Z)->Z) (λk=>k []) (λx _ X k=>X λW=>k (x::W)) l
def fE{Z:Type}(O:aa)(k:aa->Z):Z:=aa.rec (motive:=λ_=>Z) (λi b r y=>fS i λi=>fS b λb=>fS r λr=>k ⟨i,b,r,y⟩) O
def OQ{X V:Type}:∀(l:List V)(k:List V->X),fS l k=k l
 |[],_=>rfl
 |x::Z,k=>OQ Z λZ=>k (x::Z)
def afU{Z:Type}(O:aa)(k:aa->Z):fE O k=k O:=by
 obtain⟨i,b,r,y⟩:=O;show(fS i λi=>fS b λb=>fS r λr=>k ⟨i,b,r,y⟩)=_;rw[OQ,OQ,OQ]
def SV.xn(O:aa):SV->XV
 |.int _ e=>.i (e.dn O)
 |.bool b=>.b (b.dn O)
 |.ref r=>.r (r.dn O)
 |_=>.i 0
def aqk(O:aa):SV.xn O=SV.xv O:=by
 funext v;cases v<;>simp only[SV.xn,SV.xv,IE.dH,BE.dH,RE.dH]
def T.step(Z:T->aa->List Lp->Option aT)(aQ:kn)(t:T)(O:aa)(X:List Lp):Option aT:=match t with
 |.ret v _ _=>fL ((aaC v).map (SV.xn O)) λl=>some (.ret l)
 |.aW v=>(Db O v).map .aW
 |.node b t f=>cond (b.dn O) (Z t O X) (Z f O X)
 |.az b t=>cond (b.dn O) (Z t O X) none
 |.call f R _ _ Q _ t=>fL ((kJ R).map (SV.xn O)) λW=>match aQ f W with
  |some (.ret U)=>cond (dh Q U) (fE (O.ext U) λO=>Z t O X) none
  |some (.aW v)=>some (.aW v)
  |none=>none
 |.loop av _ P t=>fL (P.map (SV.xn O)) λW=>fE (O.ext W) λN=>Z t N (⟨av,t,O⟩::X)
 |.back av x=>match pj av X with
  |some (V,M)=>fL (x.map (SV.xn O)) λW=>fE (V.O.ext W) λO=>Z V.t O (V::M)
  |none=>none
 |.new _ x _ _ t=>fR (eI x O) λv=>fE (O.add (.r v)) λO=>Z t O X
 |.rows _ x _ t=>fR (eI x O) λv=>fE (O.add (.r v)) λO=>Z t O X
 |.ey g h t f=>cond (g.dn O) (cond (h.dn O) (wD (Z t O X) (Z f O X)) (Z t O X)) (cond (h.dn O) (Z f O X) none)
 |.pick m g h t f=>aam ((n9 m g h O).map λj=>match j with
  |some j=>fI j λj=>fE (O.add (.i j)) λO=>Z t O X
  |none=>Z f O X)
 |.dq _ _ _ L J r _ t=>match dB L J (r.dn O).rows with
  |some l=>fR (.mk (r.dn O).val l) λv=>fE (O.add (.r v)) λO=>Z t O X
  |none=>none
 |_=>none
def OS(aQ:kn)(n:Nat):T->aa->List Lp->Option aT:=aAf (motive:=λ_=>T->aa->List Lp->Option aT) (λ_ _ _=>none) (λ_ Z=>T.step Z aQ) n
def afV(aQ:kn):∀n,OS aQ n=exec aQ n
 |0=>by funext t O Z;simp only[exec];rfl
 |n+1=>by
  funext t O Z;show T.step (OS aQ n) aQ t O Z=_;rw[afV aQ n];cases t<;>simp only[T.step,exec,OO,BE.dH,RE.dH,aqk,afT,WP,WO,afU]
  try case call f X _ _ U _ t=>
   cases aQ f ((kJ X).map (SV.xv O)) with
   |none=>rfl
   |some o=>cases o<;>rfl
  try case back av x=>cases pj av Z<;>rfl
  try case pick m g h t f=>
   refine congrArg aam (ax7 λj _=> ?_);cases j<;>rfl
  try case dq f g e W V r R t=>cases dB W V (r.rv O).rows<;>rfl
def OT(Z:fW)(n:Nat):kn:=aAf (motive:=λ_=>kn) Z.nf (λn V f W=>match Z.nf f W with
  |some o=>some o
  |none=>match Z.tree f with
   |some X=>uM X.d (fE (de (fU X.g) W) λO=>OS V n X.t O [])
   |none=>none) n
def afW(Z:fW):∀n,OT Z n=Z.aQ n
 |0=>rfl
 |n+1=>by
  funext f X;simp only[fW.aQ];show(match Z.nf f X with
   |some o=>some o
   |none=>match Z.tree f with
    |some W=>uM W.d (fE (de (fU W.g) X) λO=>OS (OT Z n) n W.t O [])
    |none=>none)=_
  rw[afW Z n];simp only[afV,afU]
  all_goals cases Z.nf f X with
  |some o=>rfl
  |none=>cases Z.tree f<;>rfl
def aql{Z:fW}{f:Nat}(h:OT Z X f k=some g):Z.Ev f k g:=⟨X,by rw[<-afW];exact h⟩
end
end Go.Proofs.YtieaiocljdpebaaGreatDoor.Y
