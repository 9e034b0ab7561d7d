/- Part 4 of the proof; the last part says what is shown. -/
import Derived.Test.YtieaiocljdpebaaGreatDoorQ3
import Derived.WalkKit
import Derived.Below
import Derived.DefersIn
import Derived.RangeFuncLeaves
set_option linter.all false
open Bool renaming and_eq_true->ayz,not_eq_true'->ayS,false_eq_true->ayV,or_eq_true->ay2,or_eq_false_iff->azi,eq_iff_iff->azJ,and_self->azV,not_eq_false->az4,and_true->aAn,rec->aA2,not_true->aBo,not_eq_true->aBD,true_eq_false->aCb
open List renaming getElem?_eq_some_iff->ayA,getElem?_eq_getElem->ayB,getD_eq_getElem?_getD->ayC,getElem?_append_left->ayD,getElem?_map->ayF,getElem?_append_right->ayG,replicate->ayJ,mem_cons->ayK,mem_append->ayL,all_eq_true->ayM,length_append->ayN,map_cons->ayO,cons_append->ayP,range->ayQ,nil_append->ayU,mem_of_getElem?->ayW,getElem?_eq_none->ayX,pairwise_cons->ayY,map_congr_left->ayZ,mem_map->ay1,ext_getElem?->ay3,length_eq_one_iff->ay5,pairwise_append->ay6,getElem?_take->ay7,any_eq_true->ay8,contains_iff_mem->aza,getElem?_cons_succ->azb,length_map->azg,getElem?_of_mem->azh,mem_filter->azk,getElem?_cons_zero->azl,getElem?_eq_none_iff->azm,length_cons->azn,map_map->azo,mem_append_left->azp,getElem?_set->azr,append_assoc->azt,length_eq_zero_iff->azw,mem_range->azz,nodup_append->azA,getElem?_replicate->azE,mem_cons_of_mem->azG,mem_filterMap->azQ,getD_cons_zero->azS,map_nil->azT,mem_of_find?_eq_some->azZ,foldl_cons->az0,mem_append_right->az8,mem_cons_self->az9,append_nil->aAc,rec->aAl,range_eq_range'->aAo,pairwise_iff_getElem->aAp,all_cons->aAv,find?_some->aAx,mem_singleton->aAz,length_nil->aAC,sublist_cons_self->aAD,all_map->aAH,filterMap_cons->aAO,find?_cons->aAP,map_append->aAS,drop_left'->aAU,getElem?_toArray->aA7,mem_iff_getElem?->aA8,pairwise_map->aBt,any_map->aBB,filter_map->aBI,drop_zero->aBS,sizeOf_lt_of_mem->aBW,Sublist->aCa,append_of_mem->aCc,filterMap_map->aCd
open Option.some renaming injEq->ayE
open Nat renaming le_refl->ayH,lor->ayR,zero_add->ay9,shiftLeft->aze,beq->azq,le_trans->azF,testBit_or->az3,strongRecOn->aAi,rec->aA5,div_add_mod->aBa,one_shiftLeft->aBs,eq_of_beq_eq_true->aBQ,shiftRight->aBX,testBit_two_pow->aB4,lt_or_gt_of_ne->aB8
open Option renaming map_some->ayI,isSome_iff_exists->ayT,getD_some->azf,map_eq_some_iff->azC,bind_some->aAJ,isNone_iff_eq_none->aBx
open Array renaming getElem?_eq_some_iff->ay0,ext'->azv,getElem?_eq_getElem->aAQ,getD_eq_getD_getElem?->aBm,foldl_toList->aB7
open Int renaming negSucc->aBP,ofNat->aCe
open Prod.mk renaming injEq->aAe
open List.Sublist renaming append->aAN,refl->aAZ
namespace Go.Proofs.YtieaiocljdpebaaGreatDoor.Y
open Go.RowKit
noncomputable section
variable{y:S}{Z g:List Nat}{U:Nat}{Q:List SV}{e:SV}{k:Ty}{v:TypeId}{F:FuncId}{B:FuncId→Code→S→(XE→S→T)→T}{f:SV→S→T}{X:aa}{t:List LC}
section
def afh(s:S)(Z:List Nat)(i:Nat):(s.bq Z).tmps[i]?=(s.tmps[i]?).map λx=>if Z.contains i then .any else x:=by
 simp only[S.bq];rw[qJ,ay9]
def apF(h:U∉Z):(y.bq Z).tmps[U]?=y.tmps[U]?:=by
 rw[afh];cases y.tmps[U]?<;>simp[h]
def V5{Z X W:Nat}{V:Nat->Bool}(U:List Nat):∀(l:List SV)(n:Nat),SV.ck Z X W V l=true->SV.ck Z X W V (oh U n l)=true
 |[],n,_=>rfl
 |x::R,n,h=>by
  simp only[SV.eU,ayz] at h;simp only[oh,SV.eU,ayz];refine⟨?_,V5 U R (n+1) h.2⟩;split;simp[SV.aL];exact h.1
def FX{ds:List Nat}(h:y.cV Q=true):(y.bq ds).cV Q=true:=by
 simp only[S.cV,S.bd,ayz,S.bq] at h⊢;exact⟨⟨V5 ds _ 0 h.1.1,h.1.2⟩,h.2⟩
def yA{d:Option Nat}(h:∀x,d=some x->x∉Z):(y.put d e).bq Z=(y.bq Z).put d e:=by
 cases d with
 |none=>rfl
 |some x=>
  have W:=h x rfl;simp only[S.put,qu,S.bq];congr 1;apply ay3;intro i;rw[qJ,ay9,azr,azr,qJ,ay9,FV];by_cases X:x=i;subst X;by_cases V:x<y.tmps.length<;>simp[V,W];simp[X]
def apG{s:S}{ds es:List Nat}(h:∀x∈es,x∈ds):(s.bq es).bq ds=s.bq ds:=by
 simp only[S.bq];congr 1;apply ay3;intro i;rw[qJ,qJ,qJ,ay9];cases s.tmps[i]? with
 |none=>rfl
 |some x=>
  simp only[ayI];by_cases Z:i∈ds;simp[Z];have:i∉es:=λX=>Z (h i X)
  simp[Z,this]
def apH(v:SV):IK false v=0:=by
 cases v<;>rfl
section
variable{p:Sp}{cf:aY}{ops:Array Oper}
def ap.bq{D:bz}{s:S}{O:aa}{V:List Nat}{a:Act}{W:World}(R:ap p.S0 p.w0 D cf.ty V O s a W)(U:List Nat):ap p.S0 p.w0 D cf.ty V O (s.bq U) a W:=by
 refine⟨R.mem,R.dS,R.ei,R.eb,R.er,R.bY,by simp only[S.bq,FV];exact R.size,λt Q Z=> ?_,R.dK⟩;rw[afh] at Z;cases X:s.tmps[t]? with
 |none=>rw[X] at Z;cases Z
 |some x=>
  rw[X] at Z;simp only[ayI,ayE] at Z;split at Z;exact .inl Z.symm;subst Z;exact R.tmps t x X
def afi{m:OM}{O:aa}{b:BE}(U:jJ m.o.op=true)(R:m.aZ=false)(h:vR cf y m.o=some (b,e))(Q:b.den O=true):(dN cf m y).gives O (y.put m.o.dst e):=by
 unfold vR at h;split at h;cases h;rename_i Z;simp only[ay2,not_or,aBD] at Z;obtain⟨Z,X⟩:=Z;have W:(od y m.o.dst 0 (bv cf.ty cf.gl y m.o.op)).gives O (y.put m.o.dst e):=by
  split at h;rename_i w V;cases h;rw[V];simp only[od,OR.gives,CS];rename_i N w V;split at h;rename_i bU;cases h;rw[V];simp only[od,bU,if_true,OR.gives,CS,and_true];exact Q;cases h;cases h
 unfold dN;rw[if_neg (by rw[Z];simp)];cases P:m.o.op<;>rw[P] at U W X<;>simp only[jJ,ayV,Ue] at U X<;>first|exact W|(simp only[R,apH];exact W)|cases X
def N3{o:Oper}{s:S}{O:aa}(h:∀t∈ge ops o,t∉Z):im cf ops o s O (s.bq Z) O:=im.um (λt X=>apF (h t X)) rfl rfl rfl
def afj{o:Oper}{ds:List Nat}{r:BE×SV}(h:∀t∈ge ops o,t∉ds)(Z:vR cf y o=some r):vR cf (y.bq ds) o=some r:=by
 have W:=N3 (cf:=cf) (s:=y) (O:=⟨[],[],[],[]⟩) h;have U:=W.ev cf.gl;unfold vR at Z⊢;split at Z;cases Z;rename_i P;have N:¬((o.op.operands.toList.any λx=>((y.bq ds).ev cf.gl x).cM)||Ue o.op)=true:=by
  intro X;apply P;simp only[ay2] at X⊢;rcases X with X|X;left;obtain⟨x,Q,M⟩:=ay8.1 X;exact ay8.2 ⟨x,Q,by rw[<-U x Q];exact M⟩;exact .inr X
 rw[if_neg N];cases V:bv cf.ty cf.gl y o.op with
 |ok w=>rw[NM (ty:=cf.ty) U W.kd W.kl (λi _=>rfl) V (λw R=>by cases R)];rw[V] at Z;exact Z
 |aF b w=>rw[NM (ty:=cf.ty) U W.kd W.kl (λi _=>rfl) V (λw R=>by cases R)];rw[V] at Z;exact Z
 |no w=>rw[V] at Z;cases Z
def apI{m:OM}{Q:S}(P:IX m.o.op=true)(h:∀t∈ge ops m.o,t∉Z)(R:∀x,m.o.dst=some x->x∉Z)(W:dN cf m y=.ok Q):dN cf m (y.bq Z)=.ok (Q.bq Z):=by
 have L:=N3 (cf:=cf) (s:=y) (O:=⟨[],[],[],[]⟩) h;have U:=L.ev cf.gl;unfold dN at W⊢;split at W;cases W;rename_i J;have I:¬(m.o.op.operands.toList.any λx=>((y.bq Z).ev cf.gl x).cM)=true:=by
  intro H;apply J;obtain⟨x,N,G⟩:=ay8.1 H;exact ay8.2 ⟨x,N,by rw[<-U x N];exact G⟩
 rw[if_neg I];have A:∀(n:Nat)(t:TypeId)(M:List SV),(y.bq Z).bM n t M=(y.bM n t M).bq Z:=λ_ _ _=>rfl
 cases F:m.o.op<;>rw[F] at P W U<;>simp only[IX,ayV] at P
 
 simp only at W⊢;split at W;split at W;rename_i V;simp only[ayz] at V;rw[if_pos (by simp only[ayz];exact⟨FX V.1,V.2⟩)];cases W;rw[yA R];rfl;cases W;cases W
 
 rename_i t x;simp only at W⊢;rw[U x (by simp[Op.operands])];split at W;split at W;rename_i V;simp only[ayz] at V;rw[if_pos (by simp only[ayz];exact⟨⟨⟨V.1.1.1,FX V.1.1.2⟩,V.1.2⟩,V.2⟩)];cases W;rw[yA R];rfl;cases W;cases W;rename_i t z parts;simp only at W⊢;have E:(parts.toList.map λq=>(q.1,(y.bq Z).ev cf.gl q.2))=parts.toList.map λq=>(q.1,y.ev cf.gl q.2):=by
  refine ayZ λq D=> ?_
  rw[U q.2 (by simp only[Op.operands,ay1];exact⟨q,D,rfl⟩)]
 rw[E];split at W;split at W;split at W;split at W;rename_i V;simp only[ayz] at V;rw[if_pos (by simp only[ayz];exact⟨⟨FX V.1.1,V.1.2⟩,V.2⟩)];cases W;congr 1;rw[yA R];rfl;cases W;cases W;cases W;cases W
 
 rename_i t x X;simp only at W⊢;rw[U x (by simp[Op.operands]),U X (by simp[Op.operands])];split at W;split at W;rename_i C;have B:iQ (y.bq Z).boxes _=_:=C;rw[B];simp only;split at W;rename_i V;rw[show(y.bq Z).lk=y.lk from rfl,if_pos V];cases W;rw[yA R];rfl;cases W;cases W;cases W
def apJ{o:Oper}{s:S}(h:∀t∈ge ops o,t∉Z):∀x∈o.op.operands.toList,s.ev cf.gl x=(s.bq Z).ev cf.gl x:=
 λx X=>((N3 (cf:=cf) (s:=s) (O:=⟨[],[],[],[]⟩) h).ev cf.gl x X).symm
def V6(r:RE):r.kind k (y.bq Z)=r.kind k y:=yo (s:=y.bq Z) (s':=y) rfl r
def V7{Z:Ty}{s:S}{X:List Nat}:∀(ae:List CT)(l:List SV),jg Z (s.bq X) ae l=jg Z s ae l
 |[],[]=>rfl
 |[],_::_=>rfl
 |_::_,[]=>rfl
 |c::W,v::V=>by
  simp only[jg,V7 W V];congr 1;unfold oc;split<;>try rfl
  rename_i z k r;cases k<;>simp only[RE.fits,V6]
def N4{Z:Ty}{s:S}{X:List Nat}(ae:List CT):∀l:List (List SV),jI Z (s.bq X) ae l=jI Z s ae l
 |[]=>rfl
 |r::W=>by simp only[jI,V7,N4 ae W]
def JN{ds:List Nat}{d:Option Nat}{aF:BE}{k:RK}{x:LE}{b:BI}(W:∀x,d=some x->x∉ds)(h:gu y d aF v k x Z g=some b):gu (y.bq ds) d aF v k x Z g=some {b with s:=b.s.bq ds}:=by
 unfold gu at h⊢;split at h;rename_i X;cases h;have V:(y.bq ds).bd=true:=by
  have U:y.cV []=true:=by
   simp only[ayz] at X;simp only[S.cV,SV.eU,aAn];exact X.1.1.1
  have:=FX (ds:=ds) U;simpa only[S.cV,SV.eU,aAn] using this
 simp only[ayz] at X;rw[if_pos (by simp only[ayz];exact⟨⟨⟨V,X.1.1.2⟩,X.1.2⟩,X.2⟩),yA W];rfl;cases h
def apK{aZ:Bool}(X:SV):rZ (y.bq Z) v aZ X=rZ y v aZ X:=rfl
def apL{W:TI}(X:SV):nc k (y.bq Z) v W X=nc k y v W X:=by
 unfold nc;split<;>simp only[V6,N4]<;>rfl
def afk{Z:List Nat}{k n:Nat}:∀(l:List SV)(i:Nat),oh Z i (SV.lc k n l)=SV.lc k n (oh Z i l)
 |[],_=>rfl
 |x::X,i=>by
  simp only[SV.lc,oh,afk X (i+1)];split<;>rfl
def afl{n:Nat}:(y.bq Z).eC U n=(y.eC U n).bq Z:=by
 simp only[S.bq,S.eC,afk]
def apM{d:Option Nat}{u:vJ}(X:∀x,d=some x->x∉Z)(h:Co cf F Q y d=some u):Co cf F Q (y.bq Z) d=some {u with s:=u.s.bq Z}:=by
 unfold Co at h⊢;split at h;split at h;have W:(y.bq Z).boxes=y.boxes:=rfl;have V:(y.bq Z).rs=y.rs:=rfl;have U:(y.bq Z).ni=y.ni:=rfl;have R:(y.bq Z).nb=y.nb:=rfl;simp only[W,V,U,R];split at h;split at h;rename_i P;cases h;rw[if_pos P];congr 2;rw[yA X,<-afl];rfl;cases h;cases h;cases h;cases h
def apN(h:y.bd=true):(y.bq Z).bd=true:=by
 simp only[S.bd,ayz,S.bq] at h⊢;exact⟨V5 Z _ 0 h.1,h.2⟩
def apO{o:Oper}{u:vJ}(X:cB cf (y.bq Z) o=cB cf y o)(W:∀x,o.dst=some x->x∉Z)(h:Cp cf o y=some u):Cp cf o (y.bq Z)=some {u with s:=u.s.bq Z}:=by
 unfold Cp at h⊢;rw[X];split at h;cases h;rename_i V;have U:(y.bq Z).bd=true:=apN (by simpa using V);rw[if_neg (by simp[U])];generalize cB cf y o=c at h;cases c with
 |call g R=>
  cases g with
  |fn f=>exact apM W h
  |yl n=>cases h
 |aR v=>cases h
 |no=>cases h
 |op=>cases h
def apP{o:Oper}{aZ:Bool}{b:BI}(R:E0 o.op=true)(h:∀t∈ge ops o,t∉Z)(P:∀x,o.dst=some x->x∉Z)(W:cK cf o aZ false y=some b):cK cf o aZ false (y.bq Z)=some {b with s:=b.s.bq Z}:=by
 have V:=apJ (cf:=cf) (s:=y) h;unfold cK at W⊢;cases Q:o.op with
 |call c=>
  rw[Q] at R W V;simp only[E0] at R;split at R
  ·rename_i C;simp only[C] at W⊢;have B:c.args.toList.map ((y.bq Z).ev cf.gl)=c.args.toList.map (y.ev cf.gl):=ayZ λx U=>(V x (by simp[Op.operands,Call.operands];exact .inr (by simpa using U))).symm
   rw[B];simp only[apK,apL]
   repeat' split at W
   all_goals first
    |cases W;done
    |(have q:=JN (ds:=Z) P W;(repeat' split)<;>first|exact q|contradiction|(exfalso;simp_all;done))
  cases R
 |makeSlice t n m=>
  rw[Q] at W V;simp only at W⊢;rw[<-V n (by simp[Op.operands]),<-V m (by simp[Op.operands])];simp only[N4]
  repeat' split at W
  all_goals first
   |cases W;done
   |(have q:=JN (ds:=Z) P W;(repeat' split)<;>first|exact q|contradiction|(exfalso;simp_all;done))
 |buildSlice t l parts=>
  rw[Q] at W V;have A:(parts.toList.map λq=>(q.1,(y.bq Z).ev cf.gl q.2))=parts.toList.map λq=>(q.1,y.ev cf.gl q.2):=by
   refine ayZ λq N=> ?_
   rw[V q.2 (by simp only[Op.operands,ay1];exact⟨q,N,rfl⟩)]
  have w:(parts.toList.any λq=>((y.bq Z).ev cf.gl q.2).cM)=parts.toList.any λq=>(y.ev cf.gl q.2).cM:=by
   rw[azJ,ay8,ay8];constructor;rintro⟨x,U,M⟩;exact⟨x,U,by rw[V x.2 (by simp only[Op.operands,ay1];exact⟨x,U,rfl⟩)];exact M⟩;rintro⟨x,U,M⟩;exact⟨x,U,by rw[<-V x.2 (by simp only[Op.operands,ay1];exact⟨x,U,rfl⟩)];exact M⟩
  simp only at W⊢;rw[A,w];simp only[N4]
  repeat' split at W
  all_goals first
   |cases W;done
   |(have q:=JN (ds:=Z) P W;(repeat' split)<;>first|exact q|contradiction|(exfalso;simp_all;done))
 |slice t x G F E=>
  rw[Q] at W V;have L:∀X:Option Operand,(∀z,X=some z->z∈(Op.slice t x G F E).operands.toList)->X.map ((y.bq Z).ev cf.gl)=X.map (y.ev cf.gl):=by
   intro X v;cases X with
   |none=>rfl
   |some z=>simp only[ayI];rw[<-V z (v z rfl)]
  simp only at W⊢;rw[<-V x (by simp[Op.operands]),L G (λz O=>by subst O;simp[Op.operands]),L F (λz O=>by subst O;simp[Op.operands]),L E (λz O=>by subst O;simp[Op.operands])];simp only[V6]
  repeat' split at W
  all_goals first
   |cases W;done
   |(have q:=JN (ds:=Z) P W;(repeat' split)<;>first|exact q|contradiction|(exfalso;simp_all;done))
 |store t a x=>
  rw[Q] at W V;simp only at W⊢;rw[<-V a (by simp[Op.operands]),<-V x (by simp[Op.operands])];have u:(y.bq Z).rs=y.rs:=rfl;simp only[V7];rw[u];have D:∀{aF:BE}{e:TypeId}{J:RK}{X:LE}{I H:List Nat}{k:Nat}{b:BI},(gu y none aF e J X I H).map (λb=>{b with s:=(b.s.eC k y.rs.length).put o.dst (.bh [])})=some b->
    (gu (y.bq Z) none aF e J X I H).map (λb=>{b with s:=(b.s.eC k y.rs.length).put o.dst (.bh [])})=some {b with s:=b.s.bq Z}:=by
   intro aF e J X I H k b N;obtain⟨j,r,rfl⟩:=azC.1 N;rw[JN (ds:=Z) (by simp) r];simp only[ayI];rw[afl,<-yA P]
  repeat' split at W
  all_goals first
   |cases W;done
   |(have q:=D W;clear D;(repeat' split)<;>first|exact q|contradiction|(exfalso;simp_all;done))
 |_=>rw[Q] at R;simp[E0] at R
end
section
variable{ops:Array Oper}
def qd(l:List OM):List Nat:=l.filterMap (·.o.dst)
structure pJ(ops:Array Oper)(listed:Array Bool)(rem:List OM):Prop where
 mem:∀m∈rem,ops[m.j]?=some m.o
 un:∀i,i<ops.size->(listed.getD i true=false<->∃m∈rem,m.j=i)
 sz:listed.size=ops.size
 dn:∀(j:Nat)(o:Oper),ops[j]?=some o->listed.getD j false=true->∀e∈iF o,listed.getD e false=true
 nd:rem.Pairwise λx y=>x.j≠y.j
def pJ.listed{listed:Array Bool}{P:List OM}(W:FR ops Z)(O:pJ ops listed P):∀(j:Nat)(o:Oper),ops[j]?=some o->(∀e∈iF o,listed.getD e false=true)->∀i,i<ops.size->(Z.getD j 0).testBit i=true->listed.getD i false=true:=by
 intro j;induction j using aAi with
 |_ j N=>
  intro o X V i U M;rcases W.cl j o X i U M with h|⟨e,R,h⟩;exact V i h;have L:=W.lt j o X e R;have J:j<ops.size:=(ay0.1 X).1;have Q:ops[e]?=some ops[e]:=aAQ (by omega);exact N e L ops[e] Q (O.dn e _ Q (V e R)) i U h
def pJ.lt{listed:Array Bool}{Z:List OM}(X:pJ ops listed Z){m:OM}(W:m∈Z):m.j<ops.size:=(ay0.1 (X.mem m W)).1
def pJ.not{listed:Array Bool}{W:List OM}(Z:pJ ops listed W){m:OM}(X:m∈W):listed.getD m.j false≠true:=by
 have h:=(Z.un m.j (Z.lt X)).2 ⟨m,X,rfl⟩;have V:m.j<listed.size:=by rw[Z.sz];exact Z.lt X
 simp[V] at h⊢;exact h
def pJ.next{listed:Array Bool}{W V:List OM}{m:OM}(X:pJ ops listed (W++m::V))(I:∀e∈iF m.o,listed.getD e false=true):pJ ops (listed.setIfInBounds m.j true) (W++V):=by
 have M:=X.mem m (by simp);have H:m.j<ops.size:=(ay0.1 M).1;have R:m.j<listed.size:=by rw[X.sz];exact H
 have Q:aCa (W++V) (W++m::V):=aAN (aAZ _) (aAD _ _);have G:∀x∈W++V,x.j≠m.j:=by
  intro x Z;have P:=X.nd;rw[ay6] at P;rcases ayL.1 Z with h|h;exact P.2.2 x h m (by simp);exact Ne.symm ((ayY.1 P.2.1).1 x h)
 refine⟨λx Z=>X.mem x (Q.subset Z),λi F=> ?_,by simp[X.sz],λj o O U e L=> ?_,X.nd.sublist Q⟩;rw[CV _ _ _ _ R];by_cases N:i=m.j;subst N;simp only[if_true,aCb,false_iff];rintro⟨x,Z,U⟩;exact G x Z U;rw[if_neg N,X.un i F];constructor;rintro⟨x,Z,rfl⟩;refine⟨x, ?_,rfl⟩;simp only[ayL,ayK] at Z⊢;rcases Z with h|h|h;exact .inl h;subst h;exact absurd rfl N;exact .inr h;rintro⟨x,Z,rfl⟩;exact⟨x,Q.subset Z,rfl⟩;rw[CV _ _ _ _ R];rw[CV _ _ _ _ R] at U;split;rfl;by_cases J:j=m.j;subst J;rw[M] at O;cases O;exact I e L;rw[if_neg J] at U;exact X.dn j o O U e L
def pJ.some{listed:Array Bool}{W:List OM}(P:FR ops Z)(X:pJ ops listed W):∀(j:Nat),(∃m∈W,m.j=j)->∃m∈W,∀e∈iF m.o,listed.getD e false=true:=by
 intro j;induction j using aAi with
 |_ j O=>
  rintro⟨m,V,rfl⟩;by_cases h:∀e∈iF m.o,listed.getD e false=true;exact⟨m,V,h⟩;simp only[Classical.not_forall] at h;obtain⟨e,N,U⟩:=h;have R:=P.lt m.j m.o (X.mem m V) e N;have Q:e<ops.size:=Nat.lt_trans R (X.lt V);have:listed.getD e true=false:=by
   have M:e<listed.size:=by rw[X.sz];exact Q
   simp[M] at U⊢;exact U
  exact O e R ((X.un e Q).1 this)
end
def apQ(Z:List LK)(s:S)(X:List Nat):((s.bq X).bB Z).1=(s.bB Z).1/\((s.bq X).bB Z).2=(s.bB Z).2.bq X:=by
 induction Z generalizing s with
 |nil=>exact⟨rfl,rfl⟩
 |cons k Z W=>
  simp only[S.bB];have V:((s.bq X).fresh k).1=(s.fresh k).1:=by cases k<;>rfl
  have U:((s.bq X).fresh k).2=(s.fresh k).2.bq X:=by cases k<;>rfl
  rw[V,U];obtain⟨R,Q⟩:=W (s.fresh k).2;exact⟨by rw[R],Q⟩
section
variable{p:Sp}{cf:aY}
open Classical in
noncomputable def yB(s:S)(X:List Nat)(k:SV->S->T):SV->S->T:=λv Z=>if Z.tmps=(s.bq X).tmps then k v {Z with tmps:=s.tmps} else .stuck ""
def apR{P:YH}{V:SV->S->T}
  (h:(gL cf B P (.fn F) Q y f V).aH p X t):(gL cf B P (.fn F) Q (y.bq Z) (yB y Z f) (yB y Z V)).aH p X t:=by
 unfold gL at h⊢;simp only at h⊢;split at h;rename_i c E N D;split at h;rename_i M;rw[if_pos (FX M)];have:EW cf (y.bq Z) N (yB y Z f) (yB y Z V)=EW cf y N f V:=by
  funext e C;cases e<;>simp only[EW,yB,if_true]
 rw[this];exact h;exact h.elim;unfold tZ at h⊢;split at h;split at h;rename_i W A;obtain⟨J,I⟩:=apQ W (y.cut Q W) Z;have H:(y.bq Z).cut Q W=(y.cut Q W).bq Z:=rfl;rw[H,J,I];split at h;rename_i l x;split at h;rename_i U;simp only[ayz] at U;rw[if_pos (by simp only[ayz];exact⟨FX U.1,U.2⟩)];have R:((y.cut Q W).bB W).2.tmps=y.tmps:=(ss W (y.cut Q W)).2.1;have G:yB y Z f (one l) (((y.cut Q W).bB W).2.bq Z)=f (one l) ((y.cut Q W).bB W).2:=by
  simp only[yB];rw[if_pos (by simp only[S.bq,R])];congr 1;simp only[S.bq];generalize((y.cut Q W).bB W).2=z at R;rw[<-R]
 rw[G];exact h;exact h.elim;exact h.elim;exact h.elim;exact h.elim
end
section
variable{p:Sp}{cf:aY}{ops:Array Oper}
def afm{W:Type}:∀{l:List W}{x:W},x∈l->∃Z X,l=Z++x::X/\(x,Z++X)∈EY l
 |[],x,h=>by cases h
 |y::r,x,h=>by
  rcases ayK.1 h with rfl|h;exact⟨[],r,rfl,by simp[EY]⟩;obtain⟨Z,X,V,U⟩:=afm h;subst V;exact⟨y::Z,X,rfl,by simp only[EY,ayK,ay1];exact .inr ⟨_,U,rfl⟩⟩
def V9{p:Sp}{O:aa}{L:List LC}:∀{l:List T},(xR l).aH p O L->∀t∈l,t.aH p O L
 |[],h,_,_=>h.elim
 |[t],h,x,Z=>by simp only[aAz] at Z;subst Z;exact h
 |t::u::r,h,x,Z=>by
  simp only[xR,T.aH,BE.den,true_implies] at h;rcases ayK.1 Z with rfl|Z;exact h.1;exact V9 (l:=u::r) h.2 x Z
def JO:∀{l m:aX},jA l m=true->l=m
 |[],[],_=>rfl
 |[],_::_,h=>by simp[jA] at h
 |none::_,[],h=>by simp[jA] at h
 |some _::_,[],h=>by simp[jA] at h
 |none::Z,none::X,h=>by simp only[jA] at h;rw[JO h]
 |none::_,some _::_,h=>by simp[jA] at h
 |some _::_,none::_,h=>by simp[jA] at h
 |some (t,W)::Z,some (V,U)::X,h=>by
  simp only[jA,ayz,beq_iff_eq] at h;rw[h.1.1,SV.oq _ _ h.1.2,JO h.2]
def afn:∀{l m:List (List SV)},EZ l m=true->l=m
 |[],[],_=>rfl
 |[],_::_,h=>by simp[EZ] at h
 |_::_,[],h=>by simp[EZ] at h
 |x::Z,y::X,h=>by
  simp only[EZ,ayz] at h;rw[SV.oq _ _ h.1,afn h.2]
def LE.bi:∀(a b:LE),LE.same a b=true->a=b
 |.ref r,b,h=>by cases b<;>simp[LE.same] at h;rw[RE.bi _ _ h]
 |.lit l,b,h=>by cases b<;>simp[LE.same] at h;rw[afn h]
 |.jH x y,b,h=>by cases b<;>simp[LE.same] at h;rw[LE.bi _ _ h.1,LE.bi _ _ h.2]
 |.pl n X,b,h=>by cases b<;>simp[LE.same] at h;rw[IE.bi _ _ h.1,SV.oq _ _ h.2]
 |.set x i W Z,b,h=>by cases b<;>simp[LE.same] at h;rw[LE.bi _ _ h.1.1.1,IE.bi _ _ h.1.1.2,h.1.2,SV.oq _ _ h.2]
 |.sub x V U,b,h=>by cases b<;>simp[LE.same] at h;rw[LE.bi _ _ h.1.1,IE.bi _ _ h.1.2,IE.bi _ _ h.2]
 |.ins x n Z,b,h=>by cases b<;>simp[LE.same] at h;rw[LE.bi _ _ h.1.1,h.1.2,SV.oq _ _ h.2]
def S.bi{s s':S}(h:S.same s s'=true):s=s':=by
 obtain⟨O,N,M,L,J,I,H,G⟩:=s;obtain⟨F,E,D,C,B,A,z,y⟩:=s';simp only[S.same,ayz,beq_iff_eq,decide_eq_true_eq] at h;obtain⟨⟨⟨⟨⟨⟨⟨Z,X⟩,W⟩,V⟩,U⟩,R⟩,Q⟩,P⟩:=h;rw[SV.oq _ _ Z,JO X,W,V,U,R,Q,P]
def T.bi:∀(a b:T),T.same a b=true->a=b
 |.out e s,b,h=>by
  cases e with
  |normal=>
   cases b with
   |out X s'=>
    cases X with
    |normal=>rw[S.bi (s:=s) (s':=s') h]
    |_=>simp[T.same] at h
   |_=>simp[T.same] at h
  |_=>simp[T.same] at h
 |.stuck _,b,h=>by simp[T.same] at h
 |.cA _ _ _ _ _ _ _ _,b,h=>by simp[T.same] at h
 |.ret v W Z,b,h=>by cases b<;>simp[T.same] at h;rw[SV.bi _ _ h.1.1,JO h.1.2,h.2]
 |.aR v,b,h=>by cases b<;>simp[T.same] at h;rw[SV.bi _ _ h]
 |.node c t f,b,h=>by cases b<;>simp[T.same] at h;rw[BE.bi _ _ h.1.1,T.bi _ _ h.1.2,T.bi _ _ h.2]
 |.aF c t,b,h=>by cases b<;>simp[T.same] at h;rw[BE.bi _ _ h.1,T.bi _ _ h.2]
 |.call f L W Z V fe t,b,h=>by
  cases b<;>simp[T.same] at h;obtain⟨⟨⟨⟨⟨⟨U,R⟩,Q⟩,P⟩,O⟩,N⟩,M⟩:=h;rw[U,SV.oq _ _ R,JO Q,P,O,SV.bi _ _ N,T.bi _ _ M]
 |.loop ao V J t,b,h=>by cases b<;>simp[T.same] at h;rw[h.1.1.1,h.1.1.2,SV.oq _ _ h.1.2,T.bi _ _ h.2]
 |.back ao x,b,h=>by cases b<;>simp[T.same] at h;rw[h.1,SV.oq _ _ h.2]
 |.new e x Z I t,b,h=>by cases b<;>simp[T.same] at h;rw[h.1.1.1.1,LE.bi _ _ h.1.1.1.2,h.1.1.2,h.1.2,T.bi _ _ h.2]
 |.rows k x Z t,b,h=>by cases b<;>simp[T.same] at h;rw[h.1.1.1,LE.bi _ _ h.1.1.2,h.1.2,T.bi _ _ h.2]
 |.dW g k t f,b,h=>by cases b<;>simp[T.same] at h;rw[BE.bi _ _ h.1.1.1,BE.bi _ _ h.1.1.2,T.bi _ _ h.1.2,T.bi _ _ h.2]
 |.pick n g k t f,b,h=>by
  cases b<;>simp[T.same] at h;rw[IE.bi _ _ h.1.1.1.1,BE.bi _ _ h.1.1.1.2,BE.bi _ _ h.1.1.2,T.bi _ _ h.1.2,T.bi _ _ h.2]
def FY:∀{l:List T}{t:T},t∈l->t∈Cx l
 |[],t,h=>by cases h
 |u::V,t,h=>by
  simp only[Cx];rcases ayK.1 h with rfl|h;split;rename_i Z;obtain⟨w,X,W⟩:=ay8.1 Z;rw[T.bi _ _ W];exact FY X;exact az9;split;exact FY h;exact azG _ (FY h)
def afo{p:Sp}{O:aa}{L:List LC}:∀{l:List BE}{t:T},(MQ l t).aH p O L->(∀b∈l,b.den O=true)/\t.aH p O L
 |[],t,h=>⟨λ_ Z=>(by cases Z),h⟩
 |b::r,t,h=>by
  simp only[MQ,T.aH] at h;obtain⟨X,W⟩:=afo h.2;exact⟨λx V=>(ayK.1 V).elim (λe=>e▸h.1) (X x),W⟩
def apS{R:lM}{jh:List BE}{W:List OM}{k:S->T}{V:List OM}(h:(lg cf R Z jh W g k f U V y).aH p X t):Ug cf jh y W=true:=by
 cases V with
 |nil=>
  cases U<;>simp only[lg] at h<;>split at h;assumption;exact h.elim;assumption;exact h.elim
 |cons m P=>
  cases U with
  |zero=>exact h.elim
  |succ U=>
   simp only[lg] at h;split at h;exact h.elim;rename_i Q;simpa using Q
def apT(s:S):s.bq []=s:=by
 obtain⟨Z,b,c,d,e,f,g,i⟩:=s;simp only[S.bq,S.mk.injEq,and_self,and_true];apply ay3;intro i;rw[qJ];cases Z[i]?<;>simp
def Wa:∀{l:List T}{t:T},t∈Cx l->t∈l
 |[],t,h=>by cases h
 |u::Z,t,h=>by
  simp only[Cx] at h;split at h;exact azG _ (Wa h);rcases ayK.1 h with rfl|h;exact az9;exact azG _ (Wa h)
def afp{O:aa}{L:List LC}:∀{l:List T},l≠[]->(∀t∈l,t.aH p O L)->(xR l).aH p O L
 |[],h,_=>absurd rfl h
 |[t],_,h=>h t az9
 |t::u::r,_,h=>by
  simp only[xR,T.aH];exact⟨λ_=>h t az9,λ_=>afp (l:=u::r) (by simp) λx Z=>h x (azG _ Z)⟩
def afq{k:S->T}{Z:SV->S->T}:∀{l:List T},(xR l).j9 k Z=xR (l.map (T.j9 k Z))
 |[]=>rfl
 |[t]=>rfl
 |t::u::r=>by
  simp only[xR,T.j9,ayO];rw[afq (l:=u::r)];rfl
def apU{k:S->T}{R P:SV->S->T}(E:∀v N X t,((R v N).j9 k f).aH p X t->(P v N).aH p X t)(h:((tZ cf F Q y R).j9 k f).aH p X t):(tZ cf F Q y P).aH p X t:=by
 unfold tZ at h⊢;cases M:cf.sig F with
 |none=>rw[M] at h;exact h.elim
 |some J=>
  simp only[M] at h⊢;cases I:eV cf.ty J with
  |none=>rw[I] at h;exact h.elim
  |some H=>
   simp only[I] at h⊢;cases G:vG cf.ty J ((y.cut Q H).bB H).1 with
   |none=>rw[G] at h;exact h.elim
   |some l=>
    simp only[G] at h⊢;split at h;rename_i D;rw[if_pos D];simp only[T.j9,T.aH] at h⊢;intro Z V W C;refine(h Z V W C).mono λe r U=> ?_
    cases e with
    |returned v=>
     obtain⟨B,A,z,x,w,u⟩:=U;exact⟨B,A,z,x,w,E _ _ _ _ u⟩
    |panicked q=>exact U
    |outgrown=>exact U
    exact h.elim
def apV{k:S->T}{G:SV->S->T}{F:YH}{m:OM}{P N:S->T}(W:∀V X t,((P V).j9 k f).aH p X t->(N V).aH p X t)(h:((zX cf (MS cf) Z G m P y).j9 k f).aH p X t):(zX cf (gL cf B F) Z f m N y).aH p X t:=by
 unfold zX at h⊢;cases bZ:Cp cf m.o y with
 |some u=>
  simp only[bZ,T.j9,T.aH] at h⊢;obtain⟨E,D,C⟩:=h;exact⟨E,D,W _ _ _ C⟩
 |none=>
 simp only[bZ] at h⊢;cases U:cB cf y m.o with
 |call c q=>
  cases c with
  |fn g=>
   simp only[U,MS] at h⊢;split at h;rename_i Q;have Q:cf.inl g=none:=by simpa using Q
   simp only[gL,Q];exact apU (λv V X t A=>W _ X t A) h;exact h.elim
  |yl n=>simp only[U] at h;exact h.elim
 |aR v=>simp only[U] at h;exact h.elim
 |no=>simp only[U] at h;exact h.elim
 |op=>
  simp only[U] at h⊢;cases M:(if E0 m.o.op then cK cf m.o m.aZ false y else none) with
  |some b=>
   simp only[M,T.j9,T.aH] at h⊢;exact⟨h.1,λz r=>W _ _ _ (h.2 z r)⟩
  |none=>
   simp only[M] at h⊢;by_cases J:jJ m.o.op=true;rw[if_pos J] at h⊢;cases I:vR cf y m.o with
   |none=>rw[I] at h;exact h.elim
   |some x=>
    obtain⟨b,v⟩:=x;simp only[I,T.j9,T.aH] at h⊢;exact⟨h.1,W _ _ _ h.2⟩
   rw[if_neg J] at h⊢;by_cases H:IX m.o.op=true;rw[if_pos H] at h⊢;cases R:dN cf m y with
   |ok V=>simp only[R] at h⊢;exact W _ _ _ h
   |aF b V=>simp only[R] at h;exact h.elim
   |split b l j=>simp only[R] at h;exact h.elim
   |no w=>simp only[R] at h;exact h.elim
   rw[if_neg H] at h;exact h.elim
def apW{k:S->T}{M:SV->S->T}{V:YH}{jh:List BE}:∀(n:Nat)(X:List OM)(W:List OM)(s:S)(O:aa)(L:List LC),
  ((lg cf (MS cf) Z jh W g (.out .normal) M n X s).j9 k f).aH p O L->(lg cf (gL cf B V) Z jh W g k f n X s).aH p O L:=by
 intro n;induction n with
 |zero=>
  intro X W s O L h;cases X with
  |nil=>
   simp only[lg] at h⊢;split at h;rename_i U;rw[if_pos U];exact h;exact h.elim
  |cons m r=>exact h.elim
 |succ n J=>
  intro X W s O L h;cases X with
  |nil=>
   simp only[lg] at h⊢;split at h;rename_i U;rw[if_pos U];exact h;exact h.elim
  |cons m r=>
   simp only[lg] at h⊢;split at h;exact h.elim;rename_i U;rw[if_neg U];rw[afq] at h;have Q:=V9 h;cases P:(EY (m::r)).filter (Uh Z) with
   |nil=>rw[P] at h;exact h.elim
   |cons x I=>
    rw[P] at Q;refine afp (λN=> ?_) λt H=> ?_
    have:=FY (az9 (a:=zX cf (gL cf B V) g f x.1 (λR=>lg cf (gL cf B V) Z jh (E1 Z x.1 W) g k f n x.2 R) s) (l:=I.map λx=>zX cf (gL cf B V) g f x.1 (λR=>lg cf (gL cf B V) Z jh (E1 Z x.1 W) g k f n x.2 R) s));simp only[ayO] at N;rw[N] at this;cases this;obtain⟨y,G,rfl⟩:=ay1.1 (Wa H);exact apV (λR O L F=>J _ _ _ _ _ F) (Q _ (ay1.2 ⟨_,FY (ay1.2 ⟨y,G,rfl⟩),rfl⟩))
structure afr(cf:aY)(ops:Array Oper)(bs:List Nat)(qs ch:List OM):Prop where
 afs:FR ops bs
 uk:∀m∈qs++ch,∀x∈qs++ch,∀d,x.o.dst=some d->d∈ge ops m.o->(bs.getD m.j 0).testBit x.j=true
 dst:∀x∈qs++ch,∀y∈qs++ch,x.j≠y.j->∀d,x.o.dst=some d->y.o.dst≠some d
 gd:∀m∈qs++ch,m.o.guard=none/\m.aZ=false
 qt:∀q∈qs,jJ q.o.op=true
def apX{F:Fence}(hF:mJ F)(ok:iW p cf){nn:Nat}(ih:ur p cf nn){D:bz}{B:iU}{yh:YH}(hY:Am p cf D.cC B yh){Q:Exit->Act->World->Prop}(HP:∀ch a' G pd N,cG p.w0 D pd N a'.defers G->p.R (.panicked ch) G->Q (.panic ch) a' G)
   {jh:List BE}{qs ch:List OM}{ds:List Nat}(hX:afr cf ops Z qs ch)(b6:∀x∈qs++ch,∀d,x.o.dst=some d->d∈ds){k:S->T}(hB:B.nx y X g t)(bx:∀b∈jh,b.bd X.i.length X.b.length X.r.length=true/\b.den X=true)
  (hk:∀z O' V' a' G L',ba y X g z O' V'->bW y.ao t L'->ap p.S0 p.w0 D cf.ty V' O' z a' G->(k z).aH p O' L'->Q .normal a' G)
  (b7:∀v z O' V' a' G L',ba y X g z O' V'->bW y.ao t L'->ap p.S0 p.w0 D cf.ty V' O' z a' G->(f v z).aH p O' L'->Q (.panic [{v:=v.den O' V',recovered:=false}]) a' G):
  ∀(an:Nat)(listed:Array Bool)(E ab qv:List OM)(s:S)(O:aa)(V:List Nat)(a:Act)(W:World)(L:List LC),(E++ab).length=an->pJ ops listed (E++ab)->(∀q∈E,q∈qv)->(∀q∈qv,q∈qs)->(∀m∈ab,m∈ch)->
   ba y X g s O V->bW y.ao t L->ap p.S0 p.w0 D cf.ty V O (s.bq (qd E)) a W->dg cf.gl O->(lg cf (gL cf (λM c s k=>dF cf nn M c s yh k) yh) Z jh qv ds k f ab.length ab s).aH p O L->
   wpAnyIn F U p.P .any ops Q an listed a W:=by
 intro an;induction an with
 |zero=>
  intro listed E ab qv s O V a W L bb hW a3 a5 hr hl hL R hg h;have hp:∀q∈E,q∈qs:=λq hq=>a5 q (a3 q hq)
  have a6:E++ab=[]:=azw.1 bb;obtain⟨rfl,rfl⟩:=List.append_eq_nil_iff.1 a6;simp only[aAC,lg] at h;split at h;refine⟨?_,hk s O V a W L hl hL (by have:=R;simp only[qd,List.filterMap_nil,apT] at this;exact this) h⟩;cases af:Region.ready .any ops listed with
  |nil=>rfl
  |cons i r=>
   obtain⟨h1,o,ho,-⟩:=mem_ready.1 (show i∈Region.ready .any ops listed by rw[af];simp);obtain⟨m,hm,-⟩:=(hW.un i (ay0.1 ho).1).1 h1;cases hm
  exact h.elim
 |succ an b0=>
  intro listed E ab qv s O V a W L bb hW a3 a5 hr hl hL R hg h;have hp:∀q∈E,q∈qs:=λq hq=>a5 q (a3 q hq)
  have a4:∀m∈E++ab,m∈qs++ch:=λm hm=>by
   rcases ayL.1 hm with h1|h1;exact azp _ (hp m h1);exact az8 _ (hr m h1)
  refine⟨λaf=> ?_,λi hi=> ?_⟩;exfalso;obtain⟨m0,b8⟩:=List.exists_mem_of_length_pos (l:=E++ab) (by omega);obtain⟨m,hm,a6⟩:=pJ.some hX.afs hW m0.j ⟨m0,b8,rfl⟩;have:m.j∈Region.ready .any ops listed:=
   mem_ready.2 ⟨(hW.un m.j (hW.lt hm)).2 ⟨m,hm,rfl⟩,m.o,hW.mem m hm,λe he hb=>a6 e.on (ae2 he hb)⟩
  rw[af] at this;cases this;obtain⟨h1,o,ho,a6⟩:=mem_ready.1 hi;obtain⟨m,hm,rfl⟩:=(hW.un i (ay0.1 ho).1).1 h1;have bf:=hW.mem m hm;rw[bf] at ho;cases ho;have hd:∀e∈iF m.o,listed.getD e false=true:=λe he=>by
   obtain⟨ed,h2,h3,rfl⟩:=ae3 he;exact a6 ed h2 h3
  have bg:∀x∈E++ab,¬(Z.getD m.j 0).testBit x.j=true:=λx A hb=>hW.not A (hW.listed hX.afs m.j m.o bf hd x.j (hW.lt A) hb)
  have af:∀J∈ge ops m.o,J∉qd E:=λJ ht hq=>by
   obtain⟨x,A,a7⟩:=azQ.1 hq;exact bg x (azp _ A) (hX.uk m (a4 m hm) x (a4 x (azp _ A)) J a7 ht)
  obtain⟨ca,b1⟩:=hX.gd m (a4 m hm);have b2:=apS h;have cc:Region.wanted m.o (yielded ops a.tmps)=true:=VO R (by simp[et,ca]);unfold wpOpIn;rw[bf];simp only[cc,if_true];rcases ayL.1 hm with cl|cp
  
  obtain⟨xs,ys,rfl⟩:=aCc cl;have hq:=ayM.1 b2 m (a3 m (by simp));split at hq;rename_i d b v bk hv;split at hq;rename_i w hw;simp only[ayz,ay2] at hq;have cs:=SV.bi _ _ hq.1;subst cs;have eW:b.den O=true:=by
   rcases hq.2 with C|C;cases b<;>simp only[BE.Uf,ayV] at C;simp only[BE.den];exact C;obtain⟨x,A,h6⟩:=ay8.1 C;rw[<-BE.bi _ _ h6,BE.cn hl.ext.agree x (bx x A).1];exact(bx x A).2
  have ag:=afi (O:=O) (hX.qt m (hp m (by simp))) b1 (afj (ops:=ops) (ds:=qd (xs++m::ys)) af hv) eW;obtain⟨v',G,V',a0,R',H⟩:=Jl R ok.jo hg m ag;have al:=hW.nd;rw[azt,ayP] at hW al;have a2:d∉qd (xs++ys):=λhh=>by
   obtain⟨x,A,a7⟩:=azQ.1 hh;have bl:x.j≠m.j:=by
    rw[ay6] at al;rcases ayL.1 A with C|C;exact al.2.2 x C m (by simp);exact Ne.symm ((ayY.1 al.2.1).1 x (by simp[C]))
   exact hX.dst x (azp _ (hp x (by rcases ayL.1 A with C|C<;>simp[C]))) m (azp _ (hp m (by simp))) bl d a7 bk
  have hs:((s.bq (qd (xs++m::ys))).put m.o.dst v)=s.bq (qd (xs++ys)):=by
   rw[bk];simp only[S.put,qu,S.bq];congr 1;apply ay3;intro i;rw[azr,qJ,qJ,ay9,FV];have ct:=(ayA.1 hw).1;by_cases hi:d=i;subst hi;rw[if_pos rfl,if_pos ct,hw];simp[a2];rw[if_neg hi];have cv:(qd (xs++m::ys)).contains i=(qd (xs++ys)).contains i:=by
    rw[azJ,aza,aza];simp only[qd,List.filterMap_append,aAO,bk,ayL,ayK];constructor;rintro(C|C|C);exact .inl C;exact absurd C.symm hi;exact .inr C;rintro(C|C);exact .inl C;exact .inr (.inr C)
   rw[cv]
  rw[hs] at R' H;refine yi hF a0 (Ju ag) ?_;refine b0 _ (xs++ys) ab qv s O V' _ G L (by simp at bb⊢;omega) ?_ (λq hq=>a3 q (by rcases ayL.1 hq with C|C<;>simp[C])) a5 hr (hl.trans ⟨H.ext,H.mono,H.len,H.ao⟩) hL R' hg h;rw[azt];exact hW.next hd;cases hq;cases hq
  
  obtain⟨xs,ys,rfl,b3⟩:=afm cp;have cx:(xs++m::ys).length=(xs++ys).length+1:=by simp;omega
  have cy:Uh Z (m,xs++ys)=true:=by
   refine ayM.2 λx A=> ?_
   have:=bg x (az8 _ (by simp only[ayL,ayK] at A⊢;exact A.imp id .inr));simpa using this
  have h:(zX cf (gL cf (λM c s k=>dF cf nn M c s yh k) yh) ds f m (λz=>lg cf (gL cf (λM c s k=>dF cf nn M c s yh k) yh) Z jh (E1 Z m qv) ds k f (xs++ys).length (xs++ys) z) s).aH p O L:=by
   rw[cx] at h;generalize cI:xs++m::ys=c0 at h b3;cases c0 with
   |nil=>simp at cI
   |cons m0 r0=>
    simp only[lg,b2,aBo,ayV,if_false] at h;exact V9 h _ (FY (ay1.2 ⟨_,azk.2 ⟨b3,cy⟩,rfl⟩))
  have c1:pJ ops (listed.setIfInBounds m.j true) (E++(xs++ys)):=by
   have C:E++(xs++m::ys)=(E++xs)++m::ys:=by simp
   rw[C] at hW;have:=hW.next hd;simpa using this
  have a2:∀d,m.o.dst=some d->d∉qd E:=λd c2 hh=>by
   obtain⟨x,A,a7⟩:=azQ.1 hh;have bl:x.j≠m.j:=(ay6.1 hW.nd).2.2 x A m (by simp);exact hX.dst x (a4 x (azp _ A)) m (a4 m hm) bl d a7 c2
  have a8:∀(s1:S)(O1:aa)(V1:List Nat)(a1:Act)(W1:World)(L1:List LC),ba s O V s1 O1 V1->bW s.ao L L1->ap p.S0 p.w0 D cf.ty V1 O1 (s1.bq (qd E)) a1 W1->(lg cf (gL cf (λM c s k=>dF cf nn M c s yh k) yh) Z jh (E1 Z m qv) ds k f (xs++ys).length (xs++ys) s1).aH p O1 L1->wpAnyIn F U p.P .any ops Q an (listed.setIfInBounds m.j true) a1 W1:=
   λs1 O1 V1 a1 W1 L1 lT c3 R1 c4=>b0 _ E (xs++ys) (E1 Z m qv) s1 O1 V1 a1 W1 L1 (by simp at bb⊢;omega) c1 (λq hq=>azk.2 ⟨a3 q hq,by have:=bg q (azp _ hq);simpa using this⟩) (λq hq=>a5 q (azk.1 hq).1) (λx A=>hr x (by simp only[ayL,ayK] at A⊢;exact A.imp id .inr)) (hl.trans lT) (hL.trans c3 hl.ao) R1 (hg.ext lT.ext) c4
  have b4:=(N3 (cf:=cf) (s:=s) (O:=O) af).ev cf.gl;unfold zX at h;split at h;rename_i u hu;have c5:=apO (CU b4) a2 hu;simp only[T.aH] at h;obtain⟨ar,hr,h⟩:=h;obtain⟨bo,tv,c6,al,br⟩:=aow ok.vF R hg c5 hr;refine⟨λM _=>hF.fn M, ?_⟩;rw[Oper.semAt_eq _ _ _ al,c6,Oper.uponIn_enter];refine⟨λhd=>by rw[hF.uk] at hd;simp at hd,CallsIn.mono (hF.calls br) (λe G he=> ?_)⟩;obtain⟨rfl,R',H⟩:=he;exact a8 u.s _ V _ G L ⟨H.ext,H.mono,H.len,H.ao⟩ (bW.refl _ _) R' h;split at h;rename_i I bo b5;have c7:cB cf (s.bq (qd E)) m.o=.call (.fn I) bo:=by rw[CU b4];exact b5
  have c8:B.nx (s.bq (qd E)) O V L:=by
   have:=hB.go hl hL;exact⟨⟨this.later.ext,this.later.mono,this.later.len,this.later.ao⟩,this.Ny⟩
  have hC:=NX ok ih hY L (.fn I) bo (s.bq (qd E)) _ _ O V a W (λe G=>match e with
    |.returned v=>wpAnyIn F U p.P .any ops Q an (listed.setIfInBounds m.j true) (a.put m.o.dst v) G
    |.panicked ch=>Q (.panic ch) a G
    |.outgrown=>LetsOut Q) c8 (apR h) R hg
   (λv z O' V' G L' H bt R' hs=>by
    simp only[yB] at hs;split at hs;rename_i a9;refine a8 (({z with tmps:=s.tmps}:S).put m.o.dst v) O' V' _ G L' (ba.put (s':={z with tmps:=s.tmps}) (show ba s O V _ O' V' from⟨H.ext,H.mono,H.len,H.ao⟩) _ _) bt ?_ hs;rw[yA a2];have:({z with tmps:=s.tmps}:S).bq (qd E)=z:=by
     simp only[S.bq] at a9⊢;rw[<-a9]
    rw[this];exact R'.put _ _;exact hs.elim)
   (λv z O' V' G L' H bt R' hs=>by
    simp only[yB] at hs;split at hs;rename_i a9;refine b7 v (({z with tmps:=s.tmps}:S).bq ds) O' V' a G L' (hl.trans ⟨H.ext,H.mono,H.len,H.ao⟩) (hL.trans bt hl.ao) ?_ hs;have:({z with tmps:=s.tmps}:S).bq ds=z.bq ds:=by
     have h6:=apG (s:=s) (ds:=ds) (es:=qd E) (λx A=>by
      obtain⟨N,hy,c9⟩:=azQ.1 A;exact b6 N (a4 N (azp _ hy)) x c9)
     have h7:=congrArg S.tmps h6;simp only[S.bq] at h7 a9⊢;rw[a9,h7]
    rw[this];exact R'.bq ds;exact hs.elim)
   (λch G pd N hA hR=>HP ch a G pd N hA hR)
  obtain⟨dc,br⟩:=hC;refine⟨λM _=>hF.fn M, ?_⟩;have al:∀c,m.o.op≠ .defer c:=λc dd=>by simp[cB,dd] at b5
  rw[Oper.semAt_eq _ _ _ al,NA R hg c7 dc,Oper.uponIn_enter];refine⟨λhd=>by rw[hF.uk] at hd;simp at hd,CallsIn.mono (hF.calls br) (λe G he=> ?_)⟩;cases e<;>exact he;split at h;rename_i b hb;split at hb;rename_i df;simp only[T.aH] at h;have dk:=apP (cf:=cf) (ops:=ops) df af a2 hb;obtain⟨v',G,rv,a0,dn,R',H⟩:=U0 R ok.jo hg dk h.1;exact yi hF a0 (Vl hb) (a8 b.s _ V _ G L ⟨H.ext,H.mono,H.len,H.ao⟩ (bW.refl _ _) R' (h.2 rv (by rw[ok.pt];exact dn)));cases hb;split at h;rename_i dr;split at h;rename_i b v hv;simp only[T.aH] at h;have ag:=afi (O:=O) dr b1 (afj (ops:=ops) (ds:=qd E) af hv) h.1;obtain⟨v',G,V',a0,R',H⟩:=Jl R ok.jo hg m ag;rw[<-yA a2] at R' H;exact yi hF a0 (Ju ag) (a8 (s.put m.o.dst v) O V' _ G L ⟨H.ext,H.mono,H.len,H.ao⟩ (bW.refl _ _) R' h.2);exact h.elim;split at h;rename_i dx;split at h;rename_i z dy;have dz:=apI (ops:=ops) dx af a2 dy;have ag:(dN cf m (s.bq (qd E))).gives O (z.bq (qd E)):=by rw[dz];rfl
  obtain⟨v',G,V',a0,R',H⟩:=Jl R ok.jo hg m ag;exact yi hF a0 (Ju ag) (a8 z O V' _ G L ⟨H.ext,H.mono,H.len,H.ao⟩ (bW.refl _ _) R' h);exact h.elim;exact h.elim;exact h.elim
def afu:∀{R:List OM}{s:S}{x:S×List BE},zW cf R s=some x->x.1={s with tmps:=x.1.tmps}/\x.1.tmps.length=s.tmps.length/\(∀t,t∉qd R->x.1.tmps[t]?=s.tmps[t]?)/\∀b∈x.2,b.bd s.ni s.nb s.rs.length=true
 |[],s,x,h=>by simp only[zW,ayE] at h;subst h;exact⟨rfl,rfl,λ_ _=>rfl,λ_ V=>(by cases V)⟩
 |q::r,s,x,h=>by
  simp only[zW] at h;split at h;rename_i b v Z;cases U:zW cf r (s.put q.o.dst v) with
  |none=>rw[U] at h;cases h
  |some y=>
   rw[U] at h;simp only[ayI,ayE] at h;subst h;obtain⟨N,M,L,Q⟩:=afu U;refine⟨?_, ?_,λt P=> ?_,λx X=> ?_⟩;show y.1=_;rw[N];cases q.o.dst<;>rfl;show y.1.tmps.length=_;rw[M];cases q.o.dst<;>simp[S.put,qu];have J:t∉qd r:=λO=>P (by
    simp only[qd,aAO];cases q.o.dst with
    |none=>exact O
    |some d=>exact azG _ O)
   show y.1.tmps[t]?=_;rw[L t J,iX (λe=>P (by simp[qd,e]))];have W:(s.put q.o.dst v).ni=s.ni/\(s.put q.o.dst v).nb=s.nb/\(s.put q.o.dst v).rs=s.rs:=by cases q.o.dst<;>exact⟨rfl,rfl,rfl⟩
   have V:b.bd s.ni s.nb s.rs.length=true:=by
    unfold vR at Z;split at Z;cases Z;split at Z;cases Z;exact BE.aL.1 _;split at Z;rename_i bU;cases Z;exact bU;cases Z;cases Z
   simp only at X;split at X;have:=Q x X;rwa [W.1,W.2.1,W.2.2] at this;rcases ayK.1 X with rfl|X;exact V;have:=Q x X;rwa [W.1,W.2.1,W.2.2] at this
  cases h
def afv{F:Fence}(hF:mJ F)(ok:iW p cf){nn:Nat}(ih:ur p cf nn){D:bz}{B:iU}{yh:YH}(hY:Am p cf D.cC B yh){Q:Exit->Act->World->Prop}(HP:∀H u C pd N,cG p.w0 D pd N u.defers C->p.R (.panicked H) C->Q (.panic H) u C)
  {id:Nat}{so:Bool}{c:IY}{a:Act}{W:World}{k:XE->S->T}(hB:B.nx y X Z t)(G:E3 cf so ops y=some c)
  (h:(I3 cf (gL cf (λf c y k=>dF cf nn f c y yh k) yh) ops k c).aH p X t)(R:ap p.S0 p.w0 D cf.ty Z X y a W)(hg:dg cf.gl X)
  (hk:∀l r V' u C L',ba y X Z l r V'->bW y.ao t L'->ap p.S0 p.w0 D cf.ty V' r l u C->(k .normal l).aH p r L'->Q .normal u C)
  (bb:∀v l r V' u C L',ba y X Z l r V'->bW y.ao t L'->ap p.S0 p.w0 D cf.ty V' r l u C->(k (.aR v) l).aH p r L'->Q (.panic [{v:=v.den r V',recovered:=false}]) u C):
  (Code.region id ops true).wpIn F U p.P Q a W:=by
 unfold E3 at G;split at G;rename_i af;obtain⟨ag,al⟩:∃ag,ag=eo (λ_=>false) false true 0 y.boxes.length ops.toList:=⟨_,rfl⟩;obtain⟨I,a2⟩:∃I,I=xS so ops y.boxes.length:=⟨_,rfl⟩;obtain⟨H,a3⟩:∃H,H=xT so ops y.boxes.length:=⟨_,rfl⟩;have bd:I=ag.filter λm=>(MT so ops).contains m.j:=by rw[a2,al];rfl
 have bf:H=ag.filter λm=> !(MT so ops).contains m.j:=by rw[a3,al];rfl
 have af:=(ayz _ _▸af).2;unfold E2 at af;rw[<-a2,<-a3,<-al] at af;rw[<-a2,<-a3] at G;cases hq:zW cf I (y.room (jy ops.toList)) with
 |none=>rw[hq] at G;cases G
 |some x1=>
  obtain⟨g,jh⟩:=x1;rw[hq] at G;simp only[aAJ,Uk] at G;split at G;cases G;cases G;obtain⟨a5,h⟩:=afo h;simp only at h a5;have h:(lg cf (gL cf (λf c y k=>dF cf nn f c y yh k) yh) (lf ops.toList) jh I (zT ops.toList) (k .normal) (λv=>k (.aR v)) H.length H g).aH p X t:=by
   split at h;exact h;exact apW _ _ _ _ _ _ h
  simp only[Uj,ayz,beq_iff_eq] at af;obtain⟨⟨⟨⟨⟨⟨⟨⟨c1,c2⟩,c4⟩,c5⟩,c6⟩,c7⟩,c8⟩,c9⟩,br⟩:=af;have ab:∀m∈I++H,m∈ag:=λm J=>by
   rcases ayL.1 J with h1|h1;rw[bd] at h1;exact(azk.1 h1).1;rw[bf] at h1;exact(azk.1 h1).1
  have a6:∀m∈ag,ops[m.j]?=some m.o:=λm J=>by
   obtain⟨i,A⟩:=aA8.1 J;rw[al] at A;have h1:=JK _ _ _ _ _ _ _ _ A;have h2:=VV _ _ _ _ _ _ _ _ A;rw[h2,ay9];simpa using h1
  have a7:=NV c4;have hX:afr cf ops (lf ops.toList) I H:=by
   refine⟨afe c1,λm J x z d hd E=> ?_,λx z N hy bg d a8 a9=> ?_,λm J=> ?_,λq hq=> ?_⟩;have:=ayM.1 (ayM.1 c5 m (ab m J)) x (ab x z);rw[hd] at this;simp only[ay2,ayS] at this;rcases this with h5|h5;rw[aza.2 E] at h5;cases h5;exact h5;obtain⟨i,A⟩:=aA8.1 (ab x z);obtain⟨j,hj⟩:=aA8.1 (ab N hy);have bk:i≠j:=λe=>by subst e;rw[A] at hj;cases hj;exact bg rfl
   have an:=(ayA.1 A);have a0:=(ayA.1 hj);rcases aB8 bk with a4|a4;exact(aAp.1 a7 i j an.1 a0.1 a4) d (by rw[an.2];exact a8) (by rw[a0.2];exact a9);exact(aAp.1 a7 j i a0.1 an.1 a4) d (by rw[a0.2];exact a9) (by rw[an.2];exact a8);have:=ayM.1 c2 m (ab m J);simp only[ayz,ayS,aBx] at this;exact this;have:=ayM.1 c6 q hq;simp only[ayz] at this;exact this.1
  obtain⟨Rr,a1⟩:=R.room (jy ops.toList);have w:=Rr.drew;obtain⟨e1,e2,e3,e4⟩:=afu hq;simp only at e1 e2 e3 e4;have Rb:ap p.S0 p.w0 D cf.ty (Z++ayJ (jy ops.toList) 0) X (g.bq (qd I)) a {W with drawn:=W.drawn+1}:=by
   have hh:g.bq (qd I)={y.room (jy ops.toList) with tmps:=oh (qd I) 0 g.tmps}:=by
    rw[e1];rfl
   rw[hh];refine⟨w.mem,w.dS,w.ei,w.eb,w.er,w.bY,by simp only[FV,e2];exact w.size,λM sv E=> ?_,w.dK⟩;simp only at E;rw[qJ,ay9] at E;cases z:g.tmps[M]? with
   |none=>rw[z] at E;cases E
   |some x=>
    rw[z] at E;simp only[ayI,ayE] at E;split at E;exact .inl E.symm;rename_i bl;subst E;exact w.tmps M x (by rw[<-e3 M (λJ=>bl (aza.2 J))];exact z)
  have lT:ba y X Z g X (Z++ayJ (jy ops.toList) 0):=by
   rw[e1];exact⟨a1.ext,a1.mono,a1.len,a1.ao⟩
  refine wpIn_region_any ok.Vt ?_;refine apX (ds:=zT ops.toList) hF ok ih hY HP hX (λx z d hd=> ?_) hB (λb hb=>⟨by have:=e4 b hb;rw[R.ei,R.eb,R.er];exact this,a5 b hb⟩) hk bb ops.size _ I H I g X _ a _ t c8 ?_ (λ_ h=>h) (λ_ h=>h) (λ_ h=>h) lT (bW.refl _ _) Rb hg h;have h2:ops.toList[x.j]?=some x.o:=by have:=a6 x (ab x z);simpa using this
  exact azQ.2 ⟨x.o,ayW h2,hd⟩;refine⟨λm J=>a6 m (ab m J),λi A=> ?_,by simp,λj o ho hj=> ?_, ?_⟩;constructor;intro _;have:=ayM.1 c7 i (by simpa using A);obtain⟨m,J,hj⟩:=ay8.1 this;exact⟨m,J,by simpa using hj⟩;intro _;simp[A];exfalso;have bo:j<ops.size:=(ay0.1 ho).1;simp[bo] at hj;have:=VY c9;rw[aBt] at this;exact this
 cases G
end
end
section
section
variable{p:Sp}{j:aY}
def iU.here(s:S)(O:aa)(V:List Nat)(L:List LC):(iU.mk s O V L).nx s O V L:=⟨ba.refl _ _ _,bW.refl _ _⟩
def apY(X:Array Nat)(W:List Value)(A:Array Value):(X.zip W.toArray).foldl (λ(Z:Array Value)(x:Nat×Value)=>match x with|(t,a)=>Z.setIfInBounds t a) A=(X.toList.zip W).foldl (λ(Z:Array Value)(x:Nat×Value)=>Z.setIfInBounds x.1 x.2) A:=by
 rw[<-aB7];simp[Array.toList_zip]
def apZ(ok:iW p j)(ih:ur p j U){al:Func}(an:p.P.funcs[F]?=some al){ps:Array Tmp}{assign body:Code}{s:S}{L:List LC}{O:aa}{V:List Nat}{a:Act}{sE:S}{l:Nat}{rec:Loop}{OB:List (Nat×Loop)}
  (hE:sE.boxes=s.boxes)(eW:SV.ck O.i.length O.b.length O.r.length (aE s.boxes) s.tmps=true)(bg:a.tmps.size=s.tmps.length)(bk:∀(t:Nat)(I:SV),s.tmps[t]?=some I->I=.any\/a.tmps[t]?=some (I.den O V))
  (bl:gf assign=false)(bo:gf body=false){n0:Nat}(C:rec={state:=.ready,pending:=none,fn:=F,tmps:=a.tmps,params:=ps,assign,body,defers:=rec.defers})(B:OB[n0]?=some (l,rec)):
  Am p j OB ⟨sE,O,V,L⟩ (I0 n0 ps.size λN W k1 a5=>
   dF j U F assign (xV W s ps.toList N) fD (IZ n0 λz=>dF j U F body (z.CA n0 .busy) fD (MV n0 W k1 a5))):=by
 intro D hD L1 m N W k1 a5 M H a1 W1 R' hB h R hg hk br hp Z hF mm;unfold I0 at h;split at h;rename_i hc;simp only[ayz,beq_iff_eq,decide_eq_true_eq] at hc;obtain⟨⟨⟨⟨c1,c2⟩,c3⟩,c4⟩,c5⟩:=hc;subst c1;simp only[S.cV,ayz] at c5;rw[<-hD] at B;have a6:nf rec .ready=rec:=by rw[C];rfl
 obtain⟨y1,y2,y3⟩:=R.bY.cC m l rec .ready B c3;rw[a6] at y2;have bs:M.y.getD m 0=l:=by simp[ayC,y1]
 rw[bs];have a7:rec.params=ps:=by rw[C]
 have bt:=run_yield (P:=p.P) (args:=(SV.au M H N).toArray) y2 (by rw[a7];simpa using c4);refine⟨_,_,_,_,bt, ?_⟩;have e1:rec.fn=F:=by rw[C]
 have e2:rec.assign=assign:=by rw[C]
 have e3:rec.body=body:=by rw[C]
 have e4:rec.tmps=a.tmps:=by rw[C]
 rw[e1,e2,e3,e4,a7];refine apn hF an ?_;obtain⟨ms,m1,m0,m2,m3⟩:=R.bY.jL;have hA:=R.bY.enter m2 m3 true;have bx:∀(t:Nat)(I:SV),s.tmps[t]?=some I->I=.any\/a.tmps[t]?=some (I.den M H):=by
  intro t I ht;rcases bk t I ht with h1|h1;exact .inl h1;right;have hX:=hB.later.ext;simp only[hE] at hX;rw[hX.den (qG eW ht)];exact h1
 obtain⟨q1,q2⟩:=ae7 (O:=M) (V:=H) ps.toList N s.tmps a.tmps bg bx;rw[<-apY] at q1 q2;have RS:ap p.S0 p.w0 ⟨ms++D.out,D.cC,true,[]⟩ j.ty H M (xV W s ps.toList N) {tmps:=(ps.zip (SV.au M H N).toArray).foldl (λ(b0:Array Value)(x:Nat×Value)=>match x with|(t,a)=>b0.setIfInBounds t a) a.tmps,defers:=[]} W1:=
  ⟨R.mem,R.dS,R.ei,R.eb,R.er,hA,q1,q2,R.dK⟩
 have ab:∀(A:Act) G E y,cG p.w0 ⟨ms++D.out,D.cC,true,[]⟩ E y A.defers G->A.defers=[]/\cG p.w0 D E y a1.defers G:=by
  intro A G E y w;obtain⟨b1,u,p0,f,p3⟩:=w.jL;have:b1=[]:=p0 rfl;subst this;have a8:A.defers=[]:=by simpa using u
  rw[a8] at w;refine⟨a8, ?_⟩;rw[m1];exact w.FT m0
 refine ih ⟨ms++D.out,D.cC,true,[]⟩ ⟨xV W s ps.toList N,M,H,L1⟩ fD (some l) F assign (xV W s ps.toList N) _ L1 M H _ W1 _ (CX _ _) (iU.here _ _ _ _) rfl (λ_=>bl) ⟨al,an⟩ h RS hg ?_ ?_;intro ch A G E y w hR;obtain⟨u,f⟩:=ab A G E y w;exact .inr ⟨ch,rfl,u,hp ch G E y f hR⟩;intro e z O2 V2 a2 W2 L2 a0 b2 R2 q;cases e with
 |normal=>
  simp only[IZ] at q;split at q;rename_i a9;simp only[decide_eq_true_eq] at a9;left;obtain⟨z1,z2,z3⟩:=R2.bY.cC m l rec .ready B a9;rw[a6] at z2;have b3:({rec with state:=.busy}:Loop)=nf rec .busy:=by rw[C];rfl
  have bb:=run_beginRound (P:=p.P) z2 (by rw[C]);rw[b3] at bb;refine⟨rfl,_,bb, ?_⟩;have R3:ap p.S0 p.w0 ⟨ms++D.out,D.cC,true,[]⟩ j.ty V2 O2 (z.CA m .busy) a2 (W2.putObj l (.loop (nf rec .busy))):=
   R2.obj z2 rfl z3 _ rfl (R2.bY.VT B .busy)
  refine ih ⟨ms++D.out,D.cC,true,[]⟩ ⟨z.CA m .busy,O2,V2,L2⟩ fD (some l) F body (z.CA m .busy) _ L2 O2 V2 a2 _ _ (CX _ _) (iU.here _ _ _ _) rfl (λ_=>bo) ⟨al,an⟩ q R3 (hg.ext a0.ext) ?_ ?_;intro ch A G E y w hR;obtain⟨u,f⟩:=ab A G E y w;exact⟨u,hp ch G E y f hR⟩
  ·intro e Q d V3 a3 W4 L3 af b4 o ag;have b5:m<Q.pd.length:=by
    rw[<-o.bY.len];exact(ayA.1 B).1
   obtain⟨u1,u2,u3⟩:=o.bY.cC m l rec Q.pd[m] B (ayB b5);have X:ba (xV W s ps.toList N) M H Q d V3:=a0.trans (s':=z) ⟨af.ext,af.mono,af.len,af.ao⟩;have bd:bW W.ao L1 L3:=bW.trans (m:=z.ao) b2 b4 a0.ao;have a4:∀(J:kw)(k:Option Code),(∀g,({nf rec g with state:=if k.isNone then .ready else .done,pending:=k}:Loop)=nf rec J)->
     (k1 (.bool (.c k.isNone)) {Q with tmps:=W.tmps,pd:=Q.pd.set m J}).aH p d L3->∃v w',(Instr.endRound l k).run p.P W4=.ok v w'/\R' (.returned v) w':=by
    intro J k b6 b7;have bf:=run_endRound (P:=p.P) k u2;rw[b6] at bf;refine⟨_,_,bf, ?_⟩;have R5:=o.obj u2 rfl u3 (.loop (nf rec J)) rfl (o.bY.VT B J);have b8:cG p.w0 D (Q.pd.set m J) d.y a1.defers (W4.putObj l (.loop (nf rec J))):=(ab a3 _ _ _ (o.bY.VT B J)).2;have ca:ba (xV W s ps.toList N) M H {Q with pd:=Q.pd.set m J} d V3:=⟨X.ext,X.mono,X.len,X.ao⟩;have RB:=R.back c5.1 ca rfl R5 (D2:=D) (a2:=a1) rfl b8;have:=hk (.bool (.c k.isNone)) {Q with tmps:=W.tmps,pd:=Q.pd.set m J} d V3 _ L3 ⟨X.ext,X.mono,X.len,X.ao⟩ bd RB b7;simpa[SV.den,BE.den] using this
   cases e with
   |normal=>exact a4 .ready none (λg=>by cases g<;>rfl) ag
   |ret=>exact a4 (.done .ret) (some .ret) (λg=>by cases g<;>rfl) ag
   |exit id=>exact a4 (.done (.exit id)) (some (.exit id)) (λg=>by cases g<;>rfl) ag
   |aR v=>
    obtain⟨u,f⟩:=ab a3 _ _ _ o.bY;have RB:=R.back c5.1 X rfl o (D2:=D) (a2:=a1) rfl f;exact⟨u,br v {Q with tmps:=W.tmps} d V3 _ L3 ⟨X.ext,X.mono,X.len,X.ao⟩ bd RB ag⟩
  exact q.elim
 |ret=>exact q.elim
 |exit id=>exact q.elim
 |aR v=>exact q.elim
 exact h.elim
def ap0(ok:iW p j)(ih:ur p j U){D:bz}{b3:Func}(b4:p.P.funcs[F]?=some b3){f:Operand}{ps:Array Tmp}{assign body:Code}{k:XE->S->T}{a:Act}{W:World}{N:Exit->Act->World->Prop}
  (a8:D.rd=false){g:FuncId}{c:Code}{nt:Nat}(a9:y.ev j.gl f=.fn g Q)(bb:j.inl g=some (c,nt,[]))
  (bU:y.cV Q=true)(a2:y.sf y.pd.length=false)(b5:SV.mE y.pd.length Q=false)(b6:gf assign=false)(b7:gf body=false)
  (h:(dF j U g c (E4 y nt Q) (I0 y.pd.length ps.size λb8 s1 k1 ca=>dF j U F assign (xV s1 y ps.toList b8) fD (IZ y.pd.length λs2=>dF j U F body (s2.CA y.pd.length .busy) fD (MV y.pd.length s1 k1 ca))) (Cz y k)).aH p X t)
  (R:ap p.S0 p.w0 D j.ty Z X y a W)(hg:dg j.gl X)
  (HP:∀ch E B pd M,cG p.w0 D pd M E.defers B->p.R (.panicked ch) B->N (.panic ch) E B)
  (hk:∀e I H A E B o,ba y X Z I H A->bW y.ao t o->ap p.S0 p.w0 D j.ty A H I E B->(k e I).aH p H o->N (e.to H A) E B):
  gP none F p.P (.rangeFunc f ps assign body) N a W:=by
 obtain⟨ms,m1,m0,m2,m3⟩:=R.bY.jL;simp only[S.cV,ayz] at bU;simp only[S.sf,azi] at a2;obtain⟨rec,a3⟩:∃rec:Loop,rec={state:=.ready,pending:=none,fn:=F,tmps:=a.tmps,params:=ps,assign,body,defers:=W.heap.size}:=⟨_,rfl⟩;obtain⟨x,an⟩:∃x,(W.alloc (.deferred (some []))).alloc (.loop rec)=x:=⟨_,rfl⟩;have lT:x.heap[W.heap.size+1]?=some (.loop rec):=by
  rw[<-an];have:=World.alloc_heap_new (W.alloc (.deferred (some []))) (.loop rec);rwa [World.size_alloc] at this
 have cc:x.heap[W.heap.size]?=some (.deferred (some [])):=by
  rw[<-an];exact(Below.heap_alloc _ _ _ (by simp)).trans (World.alloc_heap_new W _)
 have bd:Below W.heap.size W x:=by
  rw[<-an];exact⟨rfl,rfl,rfl,by simp;omega,λk hk=>(Below.heap_alloc _ _ _ (by simp;omega)).trans (Below.heap_alloc _ _ _ hk)⟩
 have R1:=R.below bd;have cl:nf rec .ready=rec:=by rw[a3];rfl
 have cp:p.w0.heap.size<=W.heap.size:=R.mem.base.size;have bf:∀(U w:Nat)(r':Loop),D.cC[U]?=some (w,r')->w<W.heap.size:=by
  intro U w r' hn;have a4:U<y.pd.length:=by rw[<-R.bY.len];exact(ayA.1 hn).1
  exact vT (R.bY.cC U w r' y.pd[U] hn (ayB a4)).2.1
 have bg:cG p.w0 ⟨W.heap.size::(ms++D.out),D.cC++[(W.heap.size+1,rec)],false,[]⟩ (y.pd++[.ready]) (X.y++[W.heap.size+1]) [] x:=
  R1.bY.push m2 (λd u=>⟨(bd.block d (vT (m3 d u).1)).trans (m3 d u).1,(m3 d u).2⟩) cc (λhm=>by have:=vT (m3 _ hm).1;omega) cp (by rw[cl];exact lT) (λU w r' hn e=>by have:=bf U w r' hn;omega) (by omega)
 have bk:X.y.length=y.pd.length:=R.bY.oo;have a0:∀m,m≠y.pd.length->(X.y++[W.heap.size+1]).getD m 0=X.y.getD m 0:=by
  intro m hm;simp only[ayC];by_cases a4:m<X.y.length;rw[ayD a4];rw[ayG (by omega),ayX (l:=X.y) (by omega),ayX (by simp;omega)]
 have bl:∀(J:Nat)(sv:SV),y.tmps[J]?=some sv->sv=.any\/a.tmps[J]?=some (sv.den (X.at (X.y++[W.heap.size+1])) Z):=by
  intro J sv ht;rcases R.tmps J sv ht with C|C;exact .inl C;right;rw[SV.JI a0 Z sv (ae6 a2.1 sv (ayW ht))];exact C
 have cs:ap p.S0 p.w0 ⟨W.heap.size::(ms++D.out),D.cC++[(W.heap.size+1,rec)],false,[]⟩ j.ty Z (X.at (X.y++[W.heap.size+1])) {y with pd:=y.pd++[.ready]} {a with defers:=[]} x:=
  ⟨R1.mem.at a0 a2.2,R1.dS,R1.ei,R1.eb,R1.er,bg,R1.size,bl,λk e rv b C h2 h3=>let J:=R1.dK k e rv b C h2 h3;⟨J.own,J.mem,J.box,J.alone,J.inner⟩⟩
 have RE:=cs.enter (.yl y.pd.length::Q) nt bg;have ct:SV.au (X.at (X.y++[W.heap.size+1])) Z (.yl y.pd.length::Q)=.func (.yield (W.heap.size+1)) #[] #[]::SV.au X Z Q:=by
  simp only[SV.au,SV.den];rw[SV.FU a0 Z Q b5];congr 3;simp only[aa.at];rw[<-bk];simp
 have cv:a.eval f=.func (.func g) #[] (SV.au X Z Q).toArray:=by
  have:=bQ R hg f (by rw[a9];rfl);rw[a9,SV.den] at this;exact this
 have eg:=ok.ym g (.inr (by rw[bb];rfl));obtain⟨al,hf,cx,cy,bA⟩:=ok.inl g c nt [] bb;refine apl ⟨W.heap.size+1,[iT W.heap.size],x,{target:=.fn (.func g) (SV.au X Z Q).toArray,args:= #[.func (.yield (W.heap.size+1)) #[] #[]]},x,g,
  #[.func (.yield (W.heap.size+1)) #[] #[]]++(SV.au X Z Q).toArray,x, ?_, ?_, ?_, ?_⟩
 rw[<-an,a3];exact run_enterLoop_outer _ _ _ _ _
 ·simp only[resolve,cv];simp[go_sem]
 ·simp[invoke,go_sem,eg]
 have cI:(#[.func (.yield (W.heap.size+1)) #[] #[]]++(SV.au X Z Q).toArray:Array Value)=(SV.au (X.at (X.y++[W.heap.size+1])) Z (.yl y.pd.length::Q)).toArray:=by
  rw[ct];simp
 rw[cI];refine JG hf cx ?_;rw[cy];have bo:([iT W.heap.size]++a.defers:List Deferred)=(W.heap.size::ms).map iT++D.base:=by rw[m1];rfl
 have br:(D.cC++[(W.heap.size+1,rec)])[y.pd.length]?=some (W.heap.size+1,rec):=by rw[<-R.bY.len];simp
 refine ih ⟨W.heap.size::(ms++D.out),D.cC++[(W.heap.size+1,rec)],false,[]⟩ ⟨E4 y nt Q,X.at (X.y++[W.heap.size+1]),Z,t⟩ _ none g c (E4 y nt Q) (Cz y k) t _ Z _ x _
  (apZ ok ih b4 (a:=a) (s:=y) (sE:=E4 y nt Q) (L:=t) (ps:=ps) (O:=X.at (X.y++[W.heap.size+1])) (V:=Z) rfl (R.ue bU.1).1 R.size bl b6 b7 (by rw[a3]) br) (iU.here _ _ _ _) rfl (λhh=>by cases hh) ⟨al,hf⟩ (oB p _ X t _ h) RE hg ?_ ?_
 intro ch E B pd M hA hR;obtain⟨c0,q1,q0,q2,q3⟩:=hA.jL;rw[q1] at hA;have ag:=(hA.ny).pop a8;show LeavesInM Fence.wide 0 p.P al E.tmps _ E.defers (.panicking ch) B;rw[q1];refine pI (by simp) (azA.1 q2).1 (λd u=>(q3 d (by simp[u])).1) ?_;exact HP ch _ _ _ _ (by rw[<-bo] at ag;exact ag) (JJ (ok.NK ch) (λd u=>(q3 d (by simp[u])).2) hR);intro e I H A E B o q hL RR G;obtain⟨c0,q1,q0,q2,q3⟩:=RR.bY.jL;have z:=RR.ny q1;have ag:=z.bY.pop a8;have bs:H.y=X.y++[W.heap.size+1]:=q.ext.agree.y;have c1:H.y.take D.cC.length=X.y:=by rw[bs,R.bY.len,<-bk];simp
 rw[c1,<-bo,R.bY.len] at ag;have bt:∀m,m≠y.pd.length->X.y.getD m 0=H.y.getD m 0:=λm hm=>by rw[bs];exact(a0 m hm).symm
 have a5:ba y X Z (y.xU I) (H.at X.y) A:=⟨⟨⟨q.ext.agree.i,q.ext.agree.b,q.ext.agree.r,rfl⟩,q.ext.li,q.ext.lb,q.ext.lr,q.ext.ad⟩,q.mono,q.len,q.ao⟩;have bx:∀(W3:World),gN p.S0 p.w0 A H I.boxes j.ty I.rs W3->(∀(k:Nat)(e:TypeId)(rv:RV)(b:Nat),I.rs[k]?=some (.own e)->H.r[k]?=some rv->rv.hU=some b->uc p.S0 p.w0 A H I.boxes j.ty I.rs W3 k e rv b)->si y.pd.length I.boxes=false->
   cG p.w0 D (I.pd.take y.pd.length) X.y ([iT W.heap.size]++a.defers) W3->ap p.S0 p.w0 D j.ty A (H.at X.y) (y.xU I) {a with defers:=[iT W.heap.size]++a.defers} W3:=by
  intro W3 hm ht hb c2;refine⟨hm.at bt hb,z.dS,z.ei,z.eb,z.er,c2,R.size,λJ sv h=> ?_,λk e rv b C h2 h3=>let J:=ht k e rv b C h2 h3;⟨J.own,J.mem,J.box,J.alone,J.inner⟩⟩;rcases R.tmps J sv h with C|C;exact .inl C;right;rw[a5.ext.den (qG (R.ue bU.1).1 h)];exact C
 have b0:y.pd.length<I.pd.length:=by
  have:=z.bY.len;simp only[ayN,azn,aAC] at this;rw[R.bY.len] at this;omega
 obtain⟨u1,u2,u3⟩:=z.bY.cC y.pd.length (W.heap.size+1) rec I.pd[y.pd.length] br (ayB b0);have a6:∀(st:kw)(e:XE)(a1:Option Code),I.pd[y.pd.length]?=some st->(nf rec st).state≠ .busy->(nf rec st).pending=a1->si y.pd.length I.boxes=false->(k e (y.xU I)).aH p H o->
   (∀W4,N (e.to (H.at X.y) A) {a with defers:=[iT W.heap.size]++a.defers} W4->(match a1 with|none=>N .normal {a with defers:=[iT W.heap.size]++a.defers} W4|some c=>gP none F p.P c N {a with defers:=[iT W.heap.size]++a.defers} W4))->
   LeavesInM Fence.wide 0 p.P al E.tmps (VQ none F p.P (W.heap.size+1) N {a with defers:=[iT W.heap.size]++a.defers}) E.defers .returning B:=by
  intro st e a1 ab c3 hj af c4 hq;rw[q1];refine pI (by simp) (azA.1 q2).1 (λd u=>(q3 d (by simp[u])).1) ⟨_,Jv z ok.jo (l:=[]) (by rw[bA];rfl), ?_⟩;have c5:I.pd[y.pd.length]=st:=by
   rw[ayB b0] at ab;simpa using ab
  rw[c5] at u2;have b1:=run_endLoop (P:=p.P) u2 c3;rw[hj] at b1;refine⟨a1,_,b1,hq _ ?_⟩;have c6:∀(U w:Nat)(r':Loop),D.cC[U]?=some (w,r')->w≠W.heap.size+1:=λU w r' hn e=>by have:=bf U w r' hn;omega
  refine hk e (y.xU I) (H.at X.y) A _ _ o a5 hL (bx _ (z.mem.obj u2 rfl u3 _) (λk e rv b C h2 h3=>(z.dK k e rv b C h2 h3).obj u2 rfl _) af (ag.put u2 c6 _)) (oB p _ H o _ c4)
 have b2:(Cz y k .ret I).aH p H o->LeavesInM Fence.wide 0 p.P al E.tmps (VQ none F p.P (W.heap.size+1) N {a with defers:=[iT W.heap.size]++a.defers}) E.defers .returning B:=by
  intro G;simp only[Cz] at G;split at G;exact G.elim;rename_i af;have a7:si y.pd.length I.boxes=false:=by simpa using af
  split at G;rename_i ab;exact a6 .ready .normal none ab (by simp[nf]) rfl a7 G (λ_ h=>h)
  ·rename_i ab;exact a6 (.done .ret) .ret (some .ret) ab (by simp[nf]) rfl a7 G (λ_ h=>yz (n:=0) (wpIn_ret h))
  ·rename_i id ab;exact a6 (.done (.exit id)) (.exit id) (some (.exit id)) ab (by simp[nf]) rfl a7 G (λ_ h=>yz (n:=0) (wpIn_exit h))
  exact G.elim
 cases e with
 |normal=>exact b2 G
 |ret=>exact b2 G
 |exit id=>exact G.elim
 |aR v=>
  simp only[Cz] at G;split at G;exact G.elim;rename_i af;simp only[ay2,not_or,aBD] at af;show LeavesInM Fence.wide 0 p.P al E.tmps _ E.defers (.panicking _) B;rw[q1];refine pI (by simp) (azA.1 q2).1 (λd u=>(q3 d (by simp[u])).1) ?_;have:=hk (.aR v) (y.xU I) (H.at X.y) A _ _ o a5 hL (bx _ z.mem z.dK af.2 ag) (oB p _ H o _ G);simp only[XE.to] at this;rw[SV.JI bt A v af.1] at this;exact this
end
end
section
section
variable{d:aY}{p:Sp}{L:List LC}{V:List Nat}{W:World}
def Up(O Z:aa):Prop:=∃l,Z={O with r:=O.r++l}
def Up.refl(O:aa):Up O O:=⟨[],by simp⟩
def Up.trans{Z U:aa}(h:Up X Z)(k:Up Z U):Up X U:=by
 obtain⟨l,rfl⟩:=h;obtain⟨m,rfl⟩:=k;exact⟨l++m,by simp⟩
def Up.agree{Z:aa}(h:Up X Z):fj X Z X.i.length X.b.length X.r.length:=by
 obtain⟨l,rfl⟩:=h;have:∀(l:List RV)(X:aa),X.ext (l.map XV.r)={X with r:=X.r++l}:=by
  intro l;induction l with
  |nil=>intro X;simp[aa.ext]
  |cons x R U=>intro X;simp only[ayO,aa.ext,U,aa.add];simp
 rw[<-this l X];exact zZ _ _
def sR(O:aa)(Z:List RK)(X:List kw):S:=⟨[],[],O.i.length,O.b.length,Z,0,0,X⟩
def JP(Z:List RK):Prop:=∀(k:Nat)(e:TypeId),Z[k]?≠some (RK.own e)
def afw(p:Sp)(d:aY)(D:bz)(a:Act)(W:World)(L:List LC)(V:List Nat)(M:aX)(Q:List kw)(Z:aa)(v:SV)(f:List RK->(SV->List RK->T)->T):Prop:=
 ∀(U:List RK)(O:aa)(k:SV->List RK->T),ap p.S0 p.w0 D d.ty [] O (sR O U Q) a W->Up Z O->JP U->v.bd Z.i.length Z.b.length Z.r.length (aE M)=true->(f U k).aH p O L->
  ∃P R X,ap p.S0 p.w0 D d.ty [] X (sR X R Q) a W/\Up O X/\JP R/\(∀N,Up X N->P.den N []=v.den Z V)/\(k P R).aH p X L
def N5{D:bz}{a:Act}{H:aX}{P:List kw}{X:aa}{f:SV->List RK->(SV->List RK->T)->T}(G:∀v,afw p d D a W L V H P X v (f v)):∀(l:List SV)(Z:List RK)(O:aa)(k:List SV->List RK->T),ap p.S0 p.w0 D d.ty [] O (sR O Z P) a W->Up X O->JP Z->SV.ck X.i.length X.b.length X.r.length (aE H) l=true->(E6 f l Z k).aH p O L->
  ∃F N U,ap p.S0 p.w0 D d.ty [] U (sR U N P) a W/\Up O U/\JP N/\(∀Q,Up U Q->SV.au Q [] F=SV.au X V l)/\(k F N).aH p U L
 |[],Z,O,k,R,M,J,_,h=>⟨[],Z,O,R,Up.refl O,J,λ_ _=>rfl,h⟩
 |x::A,Z,O,k,R,M,J,I,h=>by
  rw[SV.eU.2,ayz] at I;simp only[E6] at h;obtain⟨z,y,w,u,E,t,s,q⟩:=G x Z O _ R M J I.1 h;obtain⟨o,n,m,j,C,g,e,c⟩:=N5 G A y w _ u (M.trans E) t I.2 q;exact⟨z::o,n,m,j,E.trans C,g,λQ B=>by simp only[SV.au,s Q (C.trans B),e Q B],c⟩
def Wb(ag:p.ty=d.ty){D:bz}{a:Act}{bx:aX}{pd:List kw}{O0:aa}(ha:a.tmps= #[])(al:∀i e M,iQ bx i=some (e,M)->W.heap[ad V i]?=some (.cells (SV.au O0 V M).toArray e (0,0))/\(p.w0.heap.size<=ad V i\/ad V i∈p.S0)/\SV.ck O0.i.length O0.b.length O0.r.length (aE bx) M=true):
  ∀(n:Nat)(v:SV),afw p d D a W L V bx pd O0 v (E7 d bx n v)
 |0,v=>λF O k R E C Q h=>h.elim
 |n+1,v=>by
  intro F O k R E C Q h;cases v with
  |int q e=>
   refine⟨_,F,O,R,Up.refl O,C,λy P=> ?_,h⟩;rw[SV.aL.1] at Q;simp only[SV.den,IE.cn (E.trans P).agree e Q]
  |bool e=>
   refine⟨_,F,O,R,Up.refl O,C,λy P=> ?_,h⟩;rw[SV.aL.2.1] at Q;simp only[SV.den,BE.cn (E.trans P).agree e Q]
  |ref r=>
   refine⟨_,F,O,R,Up.refl O,C,λy P=> ?_,h⟩;rw[SV.aL.2.2.1] at Q;simp only[SV.den,RE.cn (E.trans P).agree r Q]
  |agg l=>
   rw[SV.aL.2.2.2.2.2.2.1] at Q;simp only[E7] at h;obtain⟨l',a4,O',R',u',n',d',h'⟩:=N5 (Wb ag ha al n) l F O _ R E C Q h;exact⟨.agg l',a4,O',R',u',n',λy P=>by simp only[SV.den,d' y P],h'⟩
  |fo i bd x w=>
   simp only[E7] at h;split at h;rename_i e M a5;obtain⟨g1,g2,g3⟩:=al i e M a5;split at h;rename_i o a6;obtain⟨m,X,N,I,u1,n1,d1,h1⟩:=N5 (Wb ag ha al n) M F O _ R E C g3 h;split at h1;rename_i hc;simp only[ayz,beq_iff_eq,decide_eq_true_eq,bne_iff_ne,ne_eq] at hc;obtain⟨⟨⟨⟨c1,c2⟩,c3⟩,c4⟩,c5⟩:=hc;subst c3;have hw:aV d.ty (.sl e)=o.ae:=by simp[aV,a6]
   have an:jI d.ty (sR N X pd) (aV d.ty (.sl e)) (fJ o.ae.length x m)=true:=by
    rw[hw,<-c1];exact Ak (s:=sR N X pd) (s':=S.ep X) rfl
   have a1:=UV I an;obtain⟨U,H⟩:∃U,U=(fJ o.ae.length x m).map λab=>ab.map (SV.bu N):=⟨_,rfl⟩
   rw[<-H] at a1;have hN:U.length=x:=by rw[H];simp[Nn]
   have a7:SV.au N [] m=SV.au O0 V M:=d1 N (Up.refl _);have hH:aW W d.ty (.sl e) (.mk (.slice (some ⟨ad V i,0,none⟩) U.length w) U):=by
    refine UN a1 ⟨_,_,_,g1⟩ (λq u hq=> ?_) (by rw[hN];exact c4);rw[H] at hq;have a2:=UW (V:=[]) (by rw[hw]) an (λi ab B=>by rw[<-H] at B;rw[a1.len i ab B,hw]) hq;rw[a7] at a2;simp[World.cell?,g1,a2]
   have a8:CE p.ty p.S0 p.w0 e (.lit (fJ o.ae.length x m)) X N (.mk (.slice (some ⟨ad V i,0,none⟩) U.length w) U):=by
    refine⟨⟨some ⟨ad V i,0,none⟩,U.length,w,by rw[H];rfl,by rw[H];rfl⟩,λb hl=> ?_,λ_ _ _ _ h=>by cases h⟩;rw[ag] at hl⊢;generalize a3:RV.mk (.slice (some ⟨ad V i,0,none⟩) U.length w) U=rv at hl;cases hl with
    |here e a0 bf bg a9=>
     injection a3 with p1 p2;injection p1 with p3 p4 p5;cases p3;exact g2.imp id .inl
    |deep e v a9 i j ab c z k b A q2 q3 q4=>
     injection a3 with p1 p2;subst p2;rw[H,ayF] at A;cases B:(fJ o.ae.length x m)[i]? with
     |none=>rw[B] at A;cases A
     |some bb=>
      rw[B] at A;simp only[ayI,ayE] at A;subst A;obtain⟨r,Z,J,k3,k4⟩:=UQ (Ac an i bb B) q2 q3 q4;exact .inr (.inr (Fu I k3 J k4).1)
   have hs:=h1 _ a8;refine⟨.ref (.v X.length),X++[.sl e],N.add (.r (.mk (.slice (some ⟨ad V i,0,none⟩) U.length w) U)), ?_,u1.trans ⟨[_],rfl⟩, ?_, ?_,hs⟩;have af:N.r.length=X.length:=I.er;refine⟨⟨I.mem.base,λi G=>by simp[sR,aE,bS] at G,λi j G=>by simp[sR,aE,bS] at G,λi t M G=>by simp[sR,bS] at G,λk e' rv Z J=> ?_⟩,rfl,rfl,rfl,by simp[sR,aa.add,af],I.bY,by rw[ha];rfl,λt sv ht=>by simp[sR] at ht,λk e' rv b Z=> ?_⟩;refine⟨?_,λb Q i G=>by simp[sR,aE,bS] at G⟩;simp only[sR,aa.add] at Z J;by_cases g:k<X.length;rw[ayD g] at Z;rw[ayD (by omega)] at J;exact(I.mem.ref k e' rv Z J).1;have f:k=X.length:=by
    have:=(ayA.1 Z).1;simp at this;omega
   subst f;simp at Z;rw[<-af] at J;simp at J;subst Z J;exact hH;exfalso;simp only[sR] at Z;by_cases g:k<X.length;rw[ayD g] at Z;exact n1 _ _ Z;have:=(ayA.1 Z).1;have f:k=X.length:=by simp at this;omega
   subst f;simp at Z;intro k e' Z;by_cases g:k<X.length;rw[ayD g] at Z;exact n1 _ _ Z;have:=(ayA.1 Z).1;have f:k=X.length:=by simp at this;omega
   subst f;simp at Z;intro y P;obtain⟨l,rfl⟩:=P;have af:N.r.length=X.length:=I.er;simp only[SV.den,RE.den,RE.rv,aa.rv,aa.add,ayC,azt];rw[<-af,ayG (ayH _)];simp[hN];exact h1.elim;exact h.elim;exact h.elim
  |loc _ _=>exact h.elim
  |el _ _ _ _=>exact h.elim
  |bh _=>exact h.elim
  |fn _ _=>exact h.elim
  |dD _ _=>exact h.elim
  |yl _=>exact h.elim
  |any=>exact h.elim
  |mp _=>exact h.elim
  |dE _ _ _=>exact h.elim
end
end
variable{n:T}
section
section
variable{cf:aY}
section
variable{o:List Nat}{q:World}{D:bz}{V:List Nat}{O:aa}{s:S}{a:Act}{W:World}
def Wc{k:Int}:∀{X:List Int}{U:List SV}{v:SV},CB k X U=some v->v.eD O V=.mk (gM k X (SV.au O V U)) []
 |[],_,v,h=>by simp[CB] at h
 |J::X,[],v,h=>by simp[CB] at h
 |J::X,u::U,v,h=>by
  unfold CB at h;split at h;rename_i R Q;injection R with P N;injection Q with M L;subst P N M L;simp only[SV.au,gM];split at h;rename_i Z;cases h;rw[if_pos Z];rfl;rename_i Z;rw[if_neg Z];exact Wc h;rename_i R Q;injection R with P N;injection Q with M L;subst P N M L;simp only[SV.au,gM];split at h;rename_i Z;cases h;rw[if_pos Z];rfl;rename_i Z;rw[if_neg Z];exact Wc h;cases h
def afx{x:Int}:∀{Z:List Int}{X:List Value},¬x∈Z->gM x Z X=.nilFunc
 |[],_,_=>rfl
 |k::Z,[],_=>rfl
 |k::Z,v::X,h=>by
  simp only[ayK,not_or] at h;simp only[gM,if_neg h.1];exact afx h.2
def We{e:IE}{k:Int}(Z:e.den O=k):∀(n:Nat)(b:BE),(I1 e k n b).den O=b.den O
 |0,b=>rfl
 |n+1,b=>by
  unfold I1;split;rfl;rename_i R Q P x y X;cases X;split;rename_i U;have:=IE.bi _ _ U;subst this;simp only[BE.den,IE.den,ey,Z,beq_iff_eq];split;exact We Z n x;exact We Z n y;rfl;rfl
def Wf{e:IE}{k:Int}(Z:e.den O=k):∀(n:Nat)(b:IE),(I2 e k n b).den O=b.den O
 |0,b=>rfl
 |n+1,b=>by
  unfold I2;split;rfl;rename_i R Q P x y X;cases X;split;rename_i U;have:=IE.bi _ _ U;subst this;simp only[BE.den,IE.den,ey,Z,beq_iff_eq];split;exact Wf Z n x;exact Wf Z n y;rfl;rfl
def ap1{e:IE}{k:Int}(Z:e.den O=k)(v:SV):(Ul e k v).eD O V=v.eD O V:=by
 cases v<;>simp only[Ul];simp only[SV.eD,SV.den,Wf Z];simp only[SV.eD,SV.den,We Z];rename_i R Q P;split;rename_i X;have:=IE.bi _ _ X;subst this;split;rename_i v U;rw[Wc U];simp only[SV.eD,SV.den,Z];rfl;rfl
def ap2{e:IE}{X:List Int}(U:¬e.den O∈X)(v:SV):(MX e X v).eD O V=v.eD O V:=by
 cases v<;>simp only[MX];rename_i N R M;split;rename_i Z;rw[ayz] at Z;have:=IE.bi _ _ Z.1;subst this;have Q:¬e.den O∈R:=λP=>U (by
  have:=ayM.1 Z.2 _ P;exact aza.1 this)
 simp only[SV.eD,SV.den,afx Q];rfl;rfl
def Wg{f:SV->SV}{l:aX}:bD (CC f l) U=some (v,Q)<->∃Z,bD l U=some (v,Z)/\Q=Z.map f:=by
 rw[gg];simp only[CC,ayF];constructor;intro h;cases X:l[U]? with
 |none=>rw[X] at h;cases h
 |some x=>
  rw[X] at h;cases x with
  |none=>cases h
  |some y=>
   simp only[ayI,ayE,aAe] at h;obtain⟨rfl,rfl⟩:=h;exact⟨y.2,gg.2 X,rfl⟩
 rintro⟨Z,h,rfl⟩;rw[gg] at h;rw[h];rfl
def afy{f:SV->SV}{l:aX}:aE (CC f l) U=aE l U:=by
 rw[azJ];simp only[aE,ayT];constructor;rintro⟨⟨t,Z⟩,h⟩;obtain⟨X,h,-⟩:=Wg.1 h;exact⟨_,h⟩;rintro⟨⟨t,Z⟩,h⟩;exact⟨_,Wg.2 ⟨Z,h,rfl⟩⟩
def ap.fix(R:ap o q D cf.ty V O s a W){f:SV->SV}(L:∀v,(f v).eD O V=v.eD O V):ap o q D cf.ty V O (s.fix f) a W:=by
 have X:∀j,aE (s.fix f).boxes j=aE s.boxes j:=λj=>afy
 refine⟨⟨R.mem.base,λj Z=>R.mem.own j (by rw[<-X];exact Z),λj k Z J=>R.mem.inj j k (by rw[<-X];exact Z) (by rw[<-X];exact J),λj t B N=> ?_,λk e U Q P=>⟨(R.mem.ref k e U Q P).1,λb N j Z=>(R.mem.ref k e U Q P).2 b N j (by rw[<-X];exact Z)⟩⟩,by rw[R.dS];simp[S.fix,CC],R.ei,R.eb,R.er,R.bY,R.size,R.tmps,λk e U b I H G=> ?_⟩;obtain⟨M,h,rfl⟩:=Wg.1 N;have:SV.bX O V (M.map f)=SV.bX O V M:=by
  simp only[SV.bX,azo];exact ayZ λv _=>L v
 rw[this];exact R.mem.box j t M h;obtain⟨Q,P,F,E,C⟩:=R.dK k e U b I H G;exact⟨Q,P,λj Z=>F j (by rw[<-X];exact Z),E,C⟩
def afz(f:SV->SV):ba s O V (s.fix f) O V:=⟨jO.refl _ _ _,λi h=>by rw[show aE (s.fix f).boxes i=aE s.boxes i from afy];exact h,by simp[S.fix,CC],ayH _⟩
def ap.ap3(R:ap o q D cf.ty V O s a W){k:IntKind}{e:IE}{v:Int}(X:s.tmps.getD U .any=.int k e)(P:e.den O=v):ap o q D cf.ty V O {s with tmps:=s.tmps.set U (.int k (.c v))} a W:=by
 refine⟨R.mem,R.dS,R.ei,R.eb,R.er,R.bY,by simpa using R.size,λi N h=> ?_,R.dK⟩;simp only[azr] at h;split at h;rename_i M;subst M;split at h;rename_i Q;cases h;have L:s.tmps[U]?=some (.int k e):=by
  rw[ayC,ayB Q] at X;rw[ayB Q];simpa using X
 rcases R.tmps U _ L with Z|Z;cases Z;right;rw[Z];simp only[SV.den,IE.den,P];cases h;exact R.tmps i N h
def Wh{p:Sp}{L:List LC}{e:IE}{dW:Int->S}{ax:T}{g:S->T}:∀{Z:List Int},(E5 e dW ax g Z).aH p O L->(∃k∈Z,e.den O=k/\(g (dW k)).aH p O L)\/(¬e.den O∈Z/\ax.aH p O L)
 |[],h=>.inr ⟨by simp,h⟩
 |k::Z,h=>by
  simp only[E5,T.aH] at h;by_cases X:e.den O=k;exact .inl ⟨k,by simp,X,h.1 (by simp[BE.den,IE.den,ey,X])⟩;rcases Wh (h.2 (by simp[BE.den,IE.den,ey,X])) with⟨Q,U,R⟩|⟨U,R⟩;exact .inl ⟨Q,by simp[U],R⟩;exact .inr ⟨by simp[X,U],R⟩
def ap4{p:Sp}(R:ap o q D cf.ty V O s a W){id:Nat}{e:IE}{M:List Int}{dW:Int->S}{ax:Option S}(Z:MY cf U id s=some (e,M,dW,ax)){g:S->T}(h:(E5 e dW (Um g ax) g M).aH p O t):
  ∃Q,ba s O V Q O V/\Q.ao=s.ao/\ap o q D cf.ty V O Q a W/\(g Q).aH p O t:=by
 unfold MY at Z;split at Z;split at Z;cases Z;rcases Wh h with⟨k,P,X,N⟩|⟨P,X⟩;exact⟨_,afz _,rfl,R.fix (ap1 X),N⟩;split at X;exact⟨_,afz _,rfl,R.fix (ap2 P),X⟩;exact X.elim;cases Z;split at Z;cases Z;rename_i k I H J;cases Z;rw[rV] at J;rcases Wh h with⟨k,P,X,N⟩|⟨P,X⟩;refine⟨_, ?_, ?_,R.ap3 J X,N⟩;exact⟨jO.refl _ _ _,λ_ h=>h,ayH _,ayH _⟩;rfl;exact X.elim;cases Z;cases Z
end
def N6:∀(n:Nat)(p:Sp)(_:iW p cf),ur p cf n/\NW p cf n
 |0,p,ok=>⟨λD B yh w ag c s k L O V a W Q _ _ _ _ _ h=>h.elim,λD B yh w ag c s k L O V a W Q _ _ _ _ _ _ h=>h.elim⟩
 |n+1,p,ok=>by
  have b2:=(N6 n p ok).2;have ih:=(N6 n p ok).1;have b3:∀p':Sp,p'.P=p.P->iW p' cf->ur p' cf n:=λp' _ b4=>(N6 n p' b4).1
  have br:=apw ih b2;refine⟨?_,br⟩;intro D B yh w ag c s k L O V a W Q hY d al a4 a0 h R r HP E;have a5:∀e M,bW s.ao L M->(k e s).aH p O M->Q (e.to O V) a W:=λe M H J=>E e s O V a W M (ba.refl _ _ _) H R J
  have h0:=h;unfold dF at h;split at h;exact yz (n:=0) (wpIn_skip (a5 .normal L (bW.refl _ _) h));exact yz (n:=0) (wpIn_label (a5 .normal L (bW.refl _ _) h));exact yz (n:=0) (wpIn_ret (a5 .ret L (bW.refl _ _) h));rename_i id;exact yz (n:=0) (wpIn_exit (a5 (.exit id) L (bW.refl _ _) h))
  
  rename_i x y;have a6:w.isSome=true->gf x=false:=λhr=>by have:=a4 hr;simp only[gf,azi] at this;exact this.1
  have a7:w.isSome=true->gf y=false:=λhr=>by have:=a4 hr;simp only[gf,azi] at this;exact this.2
  refine VP (ih D B yh w ag x s _ L O V a W _ hY d al a6 a0 h R r (λch Z X pd y hd hR=>HP ch Z X pd y hd hR) ?_);intro e G C A Z X M U H F J;cases e with
  |normal=>exact ih D B yh w ag y G k M C A Z X Q hY (d.go U H) al a7 a0 J F (r.ext U.ext) HP (λe2 s2 O2 V2 a2 W2 L2 af a3 R2 ab=>E e2 s2 O2 V2 a2 W2 L2 (U.trans af) (H.trans a3 U.ao) R2 ab)
  |ret=>exact E .ret G C A Z X M U H F J
  |exit id=>exact E (.exit id) G C A Z X M U H F J
  |aR v=>exact E (.aR v) G C A Z X M U H F J
  
  rename_i id x;refine api (ih D B yh w ag x s _ L O V a W _ hY d al (λhr=>by have:=a4 hr;simpa only[gf] using this) a0 h R r (λch Z X pd y hd hR=>HP ch Z X pd y hd hR) ?_);intro e G C A Z X M U H F J;cases e with
  |normal=>exact E .normal G C A Z X M U H F J
  |ret=>exact E .ret G C A Z X M U H F J
  |exit j=>
   simp only[Ub] at J;split at J;rename_i hj;have a9:j=id:=by simpa using hj
   subst a9;simp only[XE.to,Exit.inBlock,if_true];exact E .normal G C A Z X M U H F J;rename_i hj;have a9:¬j=id:=by simpa using hj
   simp only[XE.to,Exit.inBlock,a9,if_false];exact E (.exit j) G C A Z X M U H F J
  |aR v=>exact E (.aR v) G C A Z X M U H F J
  
  rename_i x;refine apj (ih D B yh w ag x s _ L O V a W _ hY d al (λhr=>by have:=a4 hr;simpa only[gf] using this) a0 h R r (λch Z X pd y hd hR=>⟨λl h=>by(cases h),HP ch Z X pd y hd hR⟩) ?_);intro e G C A Z X M U H F J;exact⟨λl h=>(by cases e<;>cases h),E e G C A Z X M U H F J⟩
  
  rename_i x y z;have a7:w.isSome=true->gf y=false:=λhr=>by have:=a4 hr;simp only[gf,azi] at this;exact this.1
  have bs:w.isSome=true->gf z=false:=λhr=>by have:=a4 hr;simp only[gf,azi] at this;exact this.2
  split at h;rename_i hc;have he:=bQ R r x (by rw[hc];rfl);rw[hc] at he;exact NT (t:=true) (by simpa[SV.den,BE.den] using he) (ih D B yh w ag y s k L O V a W Q hY d al a7 a0 h R r HP E);rename_i hc;have he:=bQ R r x (by rw[hc];rfl);rw[hc] at he;exact NT (t:=false) (by simpa[SV.den,BE.den] using he) (ih D B yh w ag z s k L O V a W Q hY d al bs a0 h R r HP E);rename_i b d1 d2 hc;have he:=bQ R r x (by rw[hc];rfl);rw[hc] at he;split at h;rename_i t;simp only[S.ev,rV] at hc;simp only[T.aH] at h;have bt:∀v,B.nx {s with tmps:=s.tmps.set t v} O V L:=λv=>⟨⟨d.later.ext,d.later.mono,d.later.len,d.later.ao⟩,d.Ny⟩
  cases hv:b.den O;refine NT (t:=false) (by simpa[SV.den,hv] using he) (ih D B yh w ag z _ k L O V a W Q hY (bt _) al bs a0 (h.2 hv) (R.aet hc hv) r HP ?_);exact λe2 s2 O2 V2 a2 W2 L2 af a3 R2 ab=>E e2 s2 O2 V2 a2 W2 L2 ⟨af.ext,af.mono,af.len,af.ao⟩ a3 R2 ab
  refine NT (t:=true) (by simpa[SV.den,hv] using he) (ih D B yh w ag y _ k L O V a W Q hY (bt _) al a7 a0 (h.1 hv) (R.aet hc hv) r HP ?_);exact λe2 s2 O2 V2 a2 W2 L2 af a3 R2 ab=>E e2 s2 O2 V2 a2 W2 L2 ⟨af.ext,af.mono,af.len,af.ao⟩ a3 R2 ab
  exact h.elim;exact h.elim
  
  rename_i id bb b5;split at h;rename_i e ks dW ax hf;obtain⟨G,U,bd,F,h'⟩:=ap4 R hf h;exact ih D B yh w ag _ G k L O V a W Q hY (d.go U (bW.refl _ _)) al a4 a0 h' F r HP (λe2 s2 O2 V2 a2 W2 L2 af a3 R2 ab=>E e2 s2 O2 V2 a2 W2 L2 (U.trans af) (bd▸a3) R2 ab);refine yz (n:=0) ?_;split at h;rename_i hd;subst hd;split at h;rename_i c bf;exact afv (yw w) ok ih hY HP d bf h R r (λG C A Z X M U H F J=>E .normal G C A Z X M U H F J) (λv G C A Z X M U H F J=>E (.aR v) G C A Z X M U H F J);split at h;rename_i om b6;split at h;exact h.elim;rename_i b7;exact apv (yw w) ok (apE b3 ok) hY HP d b6 (by simpa using b7) (apD _ _ _) h R r (λG C A Z X M U H F J=>E .normal G C A Z X M U H F J) (λv G C A Z X M U H F J=>E (.aR v) G C A Z X M U H F J);split at h;rename_i c bf;exact afv (yw w) ok ih hY HP d bf h R r (λG C A Z X M U H F J=>E .normal G C A Z X M U H F J) (λv G C A Z X M U H F J=>E (.aR v) G C A Z X M U H F J);exact h.elim;rename_i hd;have b8:b5=false:=by simpa using hd
  subst b8;obtain⟨Rr,bg⟩:=R.room (jy bb.toList);refine wpIn_region ?_;have:=yj (ops:=bb) ok.pt ok.vF (yw w) ok.jo (apx _ ok (NX ok ih hY)) HP (n:=0) (eo (λ_=>false) true false 0 s.boxes.length bb.toList) 0 _ [] L O _ a W (λi m' hi=>by have:=JK _ _ _ _ _ _ _ _ hi;simpa using this) (d.go bg (bW.refl _ _)) h (λx hx=>by cases hx) Rr r
   (λG C A Z X M U H F J=>E .normal G C A Z X M (bg.trans U) H F J)
   (λv G C A Z X M U H F J=>E (.aR v) G C A Z X M (bg.trans U) H F J)
  rw[VU] at this;simpa[aAo] using this
  
  rename_i x;have a6:w.isSome=true->gf x=false:=λhr=>by have:=a4 hr;simpa only[gf] using this
  split at h;rename_i ca d3;obtain⟨u,cc⟩:∃u,u=ca.at s:=⟨_,rfl⟩;rw[<-cc] at h;split at h;exact h.elim;rename_i hc;simp only[ay2,ayS,not_or,az4] at hc;obtain⟨⟨⟨⟨⟨bU,cl⟩,cp⟩,cs⟩,ct⟩,cv⟩:=hc;simp only[T.aH] at h;obtain⟨I,μ,cx,cy⟩:=h;refine apk (λN a1 W1=>∃s1 O1 V1,ba s O V s1 O1 V1/\ap p.S0 p.w0 D cf.ty V1 O1 s1 a1 W1/\tY u (Code.ky x) 0 s.tmps s1.tmps=true/\oe u 0 s.boxes s1.boxes=true/\og s1 u.ks (gK u s1)=true/\tX (fy u s) s1.rs=true/\Cr (fy u s) (Cq u s1)=true/\s1.pd=s.pd/\I ((gK u s1).map (SV.xv O1))/\μ ((gK u s1).map (SV.xv O1))=N)
   (μ ((gK u s).map (SV.xv O))) ⟨s,O,V,ba.refl _ _ _,R,cp,cs,cl,ct,cv,rfl,cx,rfl⟩ ?_
  rintro N a1 W1 ⟨s1,O1,V1,lT,R1,hT,cI,bx,c0,c7,c8,hI,rfl⟩;have RH:=ap.head (ty:=cf.ty) bU R.ei R.eb R.er lT R1 hT cI bx c0 c7 c8;have c9:=cy _ (Vq (O1:=O1) bx) hI;have bd:(mD u (Code.ky x) s).ao=s.ao+1:=(ss u.ks {s with ao:=s.ao+1,rs:=fy u s}).2.2.1;have bk:ba s O V (mD u (Code.ky x) s) (O.ext ((gK u s1).map (SV.xv O1))) (V1.take s.boxes.length):=by
   obtain⟨e1,e2,e3,e4⟩:=ss u.ks {s with ao:=s.ao+1,rs:=fy u s};have hE:=yb s.boxes O ((gK u s1).map (SV.xv O1)) V;refine⟨⟨hE.agree,hE.li,hE.lb,hE.lr,λk b0=> ?_⟩,λi hi=> ?_,by simp[mD,NH], ?_⟩;have bl:k<s.boxes.length:=by
    obtain⟨b,hb⟩:=ayT.1 b0;exact(ayA.1 (gg.1 hb)).1
   rw[yk bl];exact lT.ext.ad k b0;unfold aE at hi⊢;simp only[mD];rw[Jx];simpa using hi;simp only[mD];rw[e3];exact Nat.le_succ _
  have dc:∀m,bW s.ao L (⟨s.ao,I,μ,m⟩::L):=λm l bl=>by
   simp only[ke];rw[if_neg (by omega)]
  refine ih D B yh w ag x _ _ _ _ _ a1 W1 _ hY (d.go bk (dc _)) al a6 a0 c9 RH (r.ext bk.ext) (λch Z X pd y hd hR=>HP ch Z X pd y hd hR) ?_;intro e s2 O2 V2 a2 W2 L2 af a3 R2 ab;have a8:=bk.trans af;rw[bd] at a3;have bo:bW s.ao L L2:=λl bl=>by
   rw[a3 l (by omega)];simp only[ke];rw[if_neg (by omega)]
  cases e with
  |normal=>
   simp only[MU] at ab;split at ab;rename_i b1;simp only[ayz,decide_eq_true_eq] at b1;obtain⟨⟨⟨⟨⟨c1,c2⟩,c3⟩,c4⟩,c5⟩,c6⟩:=b1;have dd:ke s.ao L2=some ⟨s.ao,I,μ,μ ((gK u s1).map (SV.xv O1))⟩:=by
    rw[a3 s.ao (by omega)];simp[ke]
   simp only[T.aH,dd] at ab;exact⟨_,ab.2,s2,O2,V2,a8,R2,c1,c2,c3,c4,c5,c6,ab.1,rfl⟩;exact ab.elim
  |ret=>exact E .ret s2 O2 V2 a2 W2 L2 a8 bo R2 ab
  |exit id=>exact E (.exit id) s2 O2 V2 a2 W2 L2 a8 bo R2 ab
  |aR v=>exact E (.aR v) s2 O2 V2 a2 W2 L2 a8 bo R2 ab
  rename_i df;exact ae4 (n+1) (br D B yh w ag x s k L O V a W Q hY d al a6 a0 (λu=>df u) h0 R r HP E)
  
  rename_i f ps assign body;have dk:w=none:=by
   cases w with
   |none=>rfl
   |some l=>have:=a4 rfl;simp[gf] at this
  subst dk;split at h;rename_i g d4 dn;split at h;rename_i c nt dr;split at h;exact h.elim;rename_i hc;simp only[ay2,ayS,not_or,az4,aBD] at hc;obtain⟨⟨⟨⟨ds,dx⟩,dy⟩,dz⟩,dT⟩:=hc;obtain⟨d5,d0⟩:=a0;exact ap0 ok ih d0 al dn dr ds dx dy dz dT h R r HP E;exact h.elim;exact h.elim;exact h.elim
variable{p:Sp}
def ap5{U:aa}:∀{l R:List SV},SV.au X Z l=SV.au U g R->(one l).den X Z=(one R).den U g
 |[],[],_=>rfl
 |[x],[y],h=>by
  have h:SV.den X Z x=SV.den U g y:=by simpa[SV.au] using h
  exact h
 |[],_::_,h=>by simp[SV.au] at h
 |_::_,[],h=>by simp[SV.au] at h
 |[_],_::_::_,h=>by simp[SV.au] at h
 |_::_::_,[_],h=>by simp[SV.au] at h
 |a::b::c,Q::P::N,h=>by
  show Value.tuple (SV.au X Z (a::b::c)).toArray=Value.tuple (SV.au U g (Q::P::N)).toArray;rw[h]
def afA(Z:List RK):JP (Z.map RK.rd):=by
 intro k e h;rw[ayF] at h;cases X:Z[k]? with
 |none=>rw[X] at h;cases h
 |some x=>rw[X] at h;cases x<;>simp[RK.rd] at h
def ap6{D:bz}{a:Act}{W:World}(J:p.ty=cf.ty)(R:ap p.S0 p.w0 D cf.ty Z X y a W)(M:(I4 cf U Q y).aH p X t):p.R (.returned ((one Q).den X Z)) W:=by
 unfold I4 at M;split at M;rename_i E;simp only[ayz] at E;obtain⟨⟨⟨ab,af⟩,A⟩,z⟩:=E;have I:∀i,aE ([]:aX) i=true->False:=λi N=>by simp[aE,bS] at N
 have x:=R.mem.jP (N2 y.rs);have w:ap p.S0 p.w0 D cf.ty [] X (sR X (y.rs.map RK.rd) y.pd) ⟨#[],a.defers⟩ W:=
  ⟨⟨R.mem.base,λi N=>(I i N).elim,λi j N=>(I i N).elim,λi P C N=>by simp[sR,bS] at N,λk e B H v=>⟨(x.ref k e B H v).1,λb _ i N=>(I i N).elim⟩⟩,rfl,rfl,rfl,by simp[sR,R.er],R.bY,rfl,λP sv r=>by simp[sR] at r,λk e B b H=>absurd H (afA _ k e)⟩
 have bU:=R.ue A;obtain⟨n,ag,G,m,u,_,d,h⟩:=N5 (a:=⟨#[],a.defers⟩) (Wb (bx:=y.boxes) (O0:=X) (V:=Z) J rfl (λi e C g=>by
  obtain⟨F,f⟩:=ud g;have:=R.mem.box i e C F;rw[ou f] at this;exact⟨this,R.mem.own i (by simp[aE,F]),ot bU.2 F⟩) 9) Q (y.rs.map RK.rd) X _ w (Up.refl _) (afA _) (by rw[R.ei,R.eb,R.er];exact z) M
 have c:=h G.y [] W (by rw[J];exact m.mem);have h5:(one n).den G []=(one Q).den X Z:=ap5 (d G (Up.refl _));rw[<-h5];exact c;exact M X.y Z _ (by rw[J];exact(R.mem.take _).jP (N2 _))
def N7(Z:iW p cf)(n:Nat):ur p cf n/\NW p cf n:=N6 n p Z
def afB(C:iW p cf){L:Func}{c:Code}(x:p.P.funcs[F]?=some L)(j:L.body=some c)
  (i:I5 cf U F c L.ntmps L.results.toList Q y=n)(M:n.aH p X [])(h:dg cf.gl X)(R:ap p.S0 p.w0 bz.none cf.ty Z X {y with tmps:=[]} ⟨#[],[]⟩ p.w0):
  Calls p.P F (SV.au X Z Q).toArray p.w0 p.R:=by
 subst i;refine JG x j ?_;have RE:=R.enter Q L.ntmps R.bY;refine(N7 C U).1 bz.none ⟨{y with tmps:=Q++ayJ (L.ntmps-Q.length) (.bh [])},X,Z,[]⟩ fD none F c _ _ [] X Z _ p.w0 _ (CX _ _) (iU.here _ _ _ _) rfl (λg=>by cases g) ⟨L,x⟩ M RE h ?_ ?_;intro w J B pd N b hR;obtain⟨ab,H,q0,A,G⟩:=b.jL;show LeavesInM Fence.wide 0 p.P L J.tmps p.R J.defers (.panicking w) B;rw[H];exact pI (by simp) (azA.1 A).1 (λd I=>(G d (by simp[I])).1) (JJ (C.NK w) (λd I=>(G d (by simp[I])).2) hR);intro e u r V' J B L' hl hL m M;obtain⟨ab,H,q0,A,G⟩:=m.bY.jL;have z:=m.ny H;have k:∀l,pu cf u L.results.toList=some l->(I4 cf y.boxes.length l u).aH p r L'->LeavesInM Fence.wide 0 p.P L J.tmps p.R J.defers .returning B:=by
  intro l E M;rw[H];exact pI (by simp) (azA.1 A).1 (λd I=>(G d (by simp[I])).1) ⟨_,Jv z C.jo E,ap6 C.pt z M⟩
 cases e with
 |normal=>
  simp only[MZ] at M;split at M;rename_i l E;exact k l E M;exact M.elim
 |ret=>
  simp only[MZ] at M;split at M;rename_i l E;exact k l E M;exact M.elim
 |aR v=>
  show LeavesInM Fence.wide 0 p.P L J.tmps p.R J.defers (.panicking _) B;rw[H];exact pI (by simp) (azA.1 A).1 (λd I=>(G d (by simp[I])).1) (M r.y V' _ z.mem.base)
 |exit id=>exact M.elim
end
end
def zEq:Value->CT->Bool
 |.int k n,.int Z=>decide (k=Z)&&n==0
 |.bool b,.bool=> !b
 |v,.ax z _=>Cf v z
 |_,_=>false
def FZ:List Value->List CT->Bool
 |[],[]=>true
 |v::Z,c::X=>zEq v c&&FZ Z X
 |_,_=>false
def afD:∀(X:List Value)(W:List CT),FZ X W=true->X=W.map mH
 |[],[],_=>rfl
 |[],_::_,h=>by simp[FZ] at h
 |_::_,[],h=>by simp[FZ] at h
 |v::X,c::W,h=>by
  simp only[FZ,ayz] at h;rw[ayO,<-afD X W h.2];congr 1;have Z:=h.1;unfold zEq at Z;split at Z;simp only[ayz,decide_eq_true_eq,beq_iff_eq] at Z;obtain⟨rfl,rfl⟩:=Z;rfl;rename_i b;cases b;rfl;cases Z;exact acG _ _ Z;cases Z
def F0:List Field->List (Nat×TypeId)->Bool
 |[],[]=>true
 |f::Z,x::X=>f.offset==x.1&&f.type==x.2&&F0 Z X
 |_,_=>false
def afE:∀(Z:List Field)(X:List (Nat×TypeId)),F0 Z X=true->Z.map (λf=>(f.offset,f.type))=X
 |[],[],_=>rfl
 |[],_::_,h=>by simp[F0] at h
 |_::_,[],h=>by simp[F0] at h
 |f::Z,x::X,h=>by
  simp only[F0,ayz,beq_iff_eq] at h;rw[ayO,afE Z X h.2,h.1.1,h.1.2]
def Wi(ae:List CT):TD->Option TypeDesc->Bool
 |.struct W,some (.struct F)=>F0 F.toList W
 |.arr n e,some (.array V Z)=>n==V&&e==Z
 |.slice e,some (.slice Z)=>e==Z
 |.str,some .string=>true
 |.dD,some (.interface _)=>true
 |.map k e _ _,some (.map X Z)=>k==X&&e==Z
 |.one,some (.int k)=>match ae with
  |[.int X]=>decide (k=X)
  |_=>false
 |.one,some .bool=>match ae with
  |[.bool]=>true
  |_=>false
 |.one,some (.pointer _)|.one,some (.map _ _)|.one,some (.chan _ _)=>match ae with
  |[.ax .nilFunc _]=>false
  |[.ax _ _]=>true
  |_=>false
 |.one,some (.func _ _ _)=>match ae with
  |[.ax _ _]=>true
  |_=>false
 |_,_=>false
def ap7{P:Program}{ae:List CT}{d:TD}(h:Wi ae d (P.underlying v)=true):d.Ok P v ae:=by
 unfold Wi at h;split at h;rename_i Q F X;exact⟨F,X,afE _ _ h⟩;rename_i n e O V X;simp only[ayz,beq_iff_eq] at h;obtain⟨rfl,rfl⟩:=h;exact X;rename_i e V X;simp at h;subst h;exact X;rename_i X;exact X;rename_i m X;exact⟨m,X⟩;rename_i k e n N R V X;simp only[ayz,beq_iff_eq] at h;obtain⟨rfl,rfl⟩:=h;exact X;rename_i k X;split at h;rename_i R;simp at h;subst h;exact⟨_,X,⟨trivial,λk Z=>(by cases Z)⟩,λk Z=>(by cases Z;rfl),λZ=>(by cases Z)⟩;cases h;rename_i X;split at h;exact⟨_,X,⟨trivial,λk Z=>(by cases Z)⟩,λk Z=>(by cases Z),λZ=>rfl⟩;cases h;rename_i x X;split at h;cases h;rename_i z U W;exact⟨_,X,⟨trivial,λk Z=>(W (by cases Z;rfl)).elim⟩,λk Z=>(by cases Z),λZ=>(by cases Z)⟩;cases h;rename_i x y X;split at h;cases h;rename_i z U W;exact⟨_,X,⟨trivial,λk Z=>(W (by cases Z;rfl)).elim⟩,λk Z=>(by cases Z),λZ=>(by cases Z)⟩;cases h;rename_i x y X;split at h;cases h;rename_i z U W;exact⟨_,X,⟨trivial,λk Z=>(W (by cases Z;rfl)).elim⟩,λk Z=>(by cases Z),λZ=>(by cases Z)⟩;cases h;rename_i x y z X;split at h;exact⟨_,X,⟨trivial,λk Z=>⟨_,_,_,rfl⟩⟩,λk Z=>(by cases Z),λZ=>(by cases Z)⟩;cases h;cases h
def Wj(P:Program)(t:TypeId)(Z:TI):Bool:=
 match P.info? t with
 |some i=>match i.zero with
  |some z=>decide (i.bytes<=131072)&&i.size==Z.ae.length&&FZ z.cells.toList Z.ae&&Wi Z.ae Z.d (P.underlying t)&&(M3 z==Z.d.isAgg)
  |none=>false
 |none=>false
def ap8{P:Program}{Z:TI}(h:Wj P v Z=true)(N:Z.eq=true->∀(X W:List Value)(r:Bool)(x y:Operand)(w:World),ij Z.ae X->ij Z.ae W->gh X W=some r->
  (do eqGuard .eql v x y (.agg X.toArray) (.agg W.toArray);binOp .eql v (.agg X.toArray) (.agg W.toArray)).run P w=.ok (.bool r) w/\
  (do eqGuard .neq v x y (.agg X.toArray) (.agg W.toArray);binOp .neq v (.agg X.toArray) (.agg W.toArray)).run P w=.ok (.bool !r) w)(M:∀k e n R,Z.d=.map k e n R->pD P k n R):cS P v Z:=by
 unfold Wj at h;split at h;rename_i i U;split at h;rename_i z Q;simp only[ayz,beq_iff_eq,decide_eq_true_eq] at h;obtain⟨h,L⟩:=h;exact⟨⟨i,U,h.1.1.2,z,Q,afD _ _ h.1.2⟩,ap7 h.2,λj V=>(by rw[U] at V;cases V;exact h.1.1.1),N,M,λj J V O=>(by rw[U] at V;cases V;rw[Q] at O;cases O;exact L)⟩;cases h;cases h
def afF{Z:Type}(l:List (Option Z))(i:Nat):Option Z:=aAl (motive:=λ_=>Nat->Option Z) (λ_=>none) (λx _ X t=>aA5 (motive:=λ_=>Option Z) x (λm _=>X m) t) l i
def Wk{Z:Type}(l:List (List Z))(i:Nat):List Z:=aAl (motive:=λ_=>Nat->List Z) (λ_=>[]) (λx _ X t=>aA5 (motive:=λ_=>List Z) x (λm _=>X m) t) l i
def look{Z:Type}(l:List (List (Option Z)))(t:Nat):Option Z:=afF (Wk l (t/16)) (t%16)
def afG{Z:Type}{x:Z}:∀{l:List (Option Z)}{i:Nat},afF l i=some x->l[i]?=some (some x)
 |[],_,h=>by cases h
 |y::_,0,h=>by simp only[azl];exact congrArg some h
 |_::l,i+1,h=>by rw[azb];exact afG (l:=l) h
def afH{Z:Type}:∀(l:List (List Z))(i:Nat),l[i]?=some (Wk l i)\/Wk l i=[]
 |[],_=>.inr rfl
 |_::_,0=>.inl rfl
 |_::l,i+1=>by rw[azb];exact afH l i
def CY{X:Type}(Z:Nat->X->Bool):Nat->List (Option X)->Bool
 |_,[]=>true
 |n,none::r=>CY Z (n+1) r
 |n,some x::r=>Z n x&&CY Z (n+1) r
def An{Z:Type}(X:Nat->Z->Bool):Nat->List (List (Option Z))->Bool
 |_,[]=>true
 |n,r::W=>CY X n r&&An X (n+16) W
def Wl{X:Type}{W:Nat->X->Bool}:∀{r:List (Option X)}{n i:Nat}{x:X},CY W n r=true->r[i]?=some (some x)->W (n+i) x=true
 |[],n,i,x,_,h=>by simp at h
 |none::r,n,0,x,_,h=>by simp at h
 |none::r,n,i+1,x,Z,h=>by
  simp only[CY] at Z;have:=Wl Z (by simpa using h)
  rwa [show n+1+i=n+(i+1) by omega] at this
 |some y::r,n,0,x,Z,h=>by simp[CY] at Z;simp at h;subst h;exact Z.1
 |some y::r,n,i+1,x,Z,h=>by
  simp only[CY,ayz] at Z;have:=Wl Z.2 (by simpa using h)
  rwa [show n+1+i=n+(i+1) by omega] at this
def afI{X:Type}{V:Nat->X->Bool}:∀{l:List (List (Option X))}{n q i:Nat}{r:List (Option X)}{x:X},An V n l=true->l[q]?=some r->r[i]?=some (some x)->V (n+16*q+i) x=true
 |[],n,q,i,r,x,_,h,_=>by simp at h
 |y::l,n,0,i,r,x,Z,h,W=>by simp only[An,ayz] at Z;simp at h;subst h;simpa using Wl Z.1 W
 |y::l,n,q+1,i,r,x,Z,h,W=>by
  simp only[An,ayz] at Z;have:=afI Z.2 (by simpa using h) W
  rwa [show n+16+16*q+i=n+16*(q+1)+i by omega] at this
def afJ{Z:Type}{V:Nat->Z->Bool}{l:List (List (Option Z))}(h:An V 0 l=true){x:Z}(R:look l U=some x):V U x=true:=by
 have X:=afG R;rcases afH l (U/16) with W|W;have:=afI h W X
 rwa [ay9,aBa] at this
 rw[W] at X;simp at X
def Wm(P:Program)(l:List Nat)(g:FuncId):Option (Code×Nat×List ResultVar):=if l.contains g then(match P.funcs[g]? with
 |some Z=>match Z.body with
  |some c=>some (c,Z.ntmps,Z.results.toList)
  |none=>none
 |none=>none) else none
def qK(P:Program)(g:Nat):Bool:=match P.funcs[g]? with
 |some Z=>Z.body.isSome&& !(Z.name== "runtime.NumGoroutine")
 |none=>false
def sw{P:Program}(h:qK P U=true):∀Z W,(callFunc U Z).run P W=.ok (.enter U Z) W:=by
 unfold qK at h;split at h;rename_i X V;simp only[ayz,ayS] at h;intro Z W;have R:X.name≠ "runtime.NumGoroutine":=by simpa using h.2
 obtain⟨c,Q⟩:=ayT.1 h.1;simp[callFunc,V,R,Q];cases h
def ap9(Z:List (Nat×Nat))(f i:Nat):Option FK:=match Z.find? (λx=>x.1==f&&(x.2%1000==i&&decide (1000<=x.2))) with
 |some x=>if x.2/1000==1 then some .box else some (.slot (x.2/1000-2) [0,1,2,3])
 |none=>none
def lY(P:Program)(jo:List (List (Option TI)))(X:List (List (Option (List TypeId))))(W:List (Nat×Nat×Nat))(V:List Nat)(loops:List (Nat×Nat×dq))(U:List (FuncId×FuncId×TypeId×aU×Bool))(kX:Bool:=false)(Z:List (Nat×Nat):=[]):aY:=
 {ty:=look jo,gl:=W,inl:=Wm P V,sig:=look X,loop:=λf i=>match loops.find? (λx=>x.1==f&&x.2.1==i) with
  |some x=>.inv x.2.2
  |none=>.am6,vF:=λf g=>(U.find? λx=>x.1==f&&x.2.1==g).map (·.2.2),kX:=kX,II:=λf i=>Z.contains (f,i),frk:=λf i=>ap9 Z f i}
def N8{P:Program}{jo:List (List (Option TI))}{L:List (List (Option (List TypeId)))}{H:List (Nat×Nat×Nat)}{loops:List (Nat×Nat×dq)}{O:List (FuncId×FuncId×TypeId×aU×Bool)}{kX:Bool}{G:List (Nat×Nat)}{J:World}{D:bz}{R:Ending->World->Prop}{Q:Exit->Act->World->Prop}
  (F:fz P (look jo))(E:An (λX _=>qK P X) 0 L=true)(C:Z.all (qK P)=true)(B:P.follows .mixedOrders=true)(A:∀I W b o,J.heap.size<=b->R (.panicked I) W->R (.panicked I) (W.putObj b o))(z:∀x∈O,jm P (look jo) x.1 x.2.1 x.2.2.1 x.2.2.2.1 x.2.2.2.2):iW ⟨P,look jo,g,J,D,R,Q⟩ (lY P jo L H Z loops O kX G):=by
 refine⟨rfl,B,F,λf X e t s h=> ?_,λX U=> ?_,A,λX c r q h=> ?_⟩;simp only[lY] at h;cases V:O.find? (λx=>x.1==f&&x.2.1==X) with
 |none=>rw[V] at h;cases h
 |some x=>
  rw[V] at h;simp only[ayI,ayE] at h;have N:=aAx V;simp only[ayz,beq_iff_eq] at N;have:=z x (azZ V);rw[N.1,N.2,h] at this;exact this
 rcases U with U|U;obtain⟨p,y⟩:=ayT.1 U;exact sw (afJ E y);obtain⟨x,M⟩:=ayT.1 U;simp only[lY,Wm] at M;split at M;rename_i w;exact sw (ayM.1 C X (aza.1 w));cases M;simp only[lY,Wm] at h;split at h;split at h;rename_i v V;split at h;rename_i n u;cases h;exact⟨v,V,u,rfl,rfl⟩;cases h;cases h;cases h
variable{w b:List (List RV)}
section
inductive bj:RV->RV->Prop where
 |sl (A A':Option Addr) (len cap cap':Nat) (rows ar:List (List RV)) (h1:rows.length=ar.length) (h2:∀(i:Nat)(row row':List RV),rows[i]?=some row->ar[i]?=some row'->row.length=row'.length)
   (h3:∀(i j:Nat)(row row':List RV)(c c':RV),rows[i]?=some row->ar[i]?=some row'->row[j]?=some c->row'[j]?=some c'->bj c c'):bj (.mk (.slice A len cap) rows) (.mk (.slice A' len cap') ar)
 |val (v:Value) (rows:List (List RV)) (h:∀a l c,v≠ .slice a l c):bj (.mk v rows) (.mk v rows)
def CZ:XV->XV->Prop
 |.i n,.i m=>n=m
 |.b x,.b y=>x=y
 |.r v,.r w=>bj v w
 |_,_=>False
def jD:List XV->List XV->Prop
 |[],[]=>True
 |x::Z,y::X=>CZ x y/\jD Z X
 |_,_=>False
structure fK(O O':aa):Prop where
 i:O.i=O'.i
 b:O.b=O'.b
 len:O.r.length=O'.r.length
 r:∀(k:Nat)(v v':RV),O.r[k]?=some v->O'.r[k]?=some v'->bj v v'
def bj.refl:∀(v:RV),bj v v
 |.mk v W=>by
  by_cases h:∃a l c,v=.slice a l c;obtain⟨a,l,c,rfl⟩:=h;refine bj.sl a a l c c W W rfl (λi R Q X Z=>by rw[X] at Z;cases Z;rfl) (λi j R Q x O X Z V U=> ?_);rw[X] at Z;cases Z;rw[V] at U;cases U;exact bj.refl x;exact bj.val v W (λa l c P=>h ⟨a,l,c,P⟩)
termination_by v=>SizeOf.sizeOf v
decreasing_by
 have N:=aBW (ayW X);have M:=aBW (ayW V);simp only[RV.mk.sizeOf_spec];omega
def bj.default:bj default default:=bj.refl _
def fK.rv{O Z:aa}(h:fK O Z)(k:Nat):bj (O.rv k) (Z.rv k):=by
 unfold aa.rv;simp only[ayC];cases X:O.r[k]? with
 |none=>
  have:Z.r[k]?=none:=by rw[azm] at X⊢;have:=h.len;omega
  rw[this];exact bj.default
 |some v=>
  cases W:Z.r[k]? with
  |none=>rw[azm] at W;have:=(ayA.1 X).1;have:=h.len;omega
  |some V=>exact h.r k v V X W
def bj.cellAt{v P:RV}(h:bj v P)(i:Int)(j:Nat):bj (Y.cellAt v.rows i j) (Y.cellAt P.rows i j):=by
 cases h with
 |sl A L J I H V ar G N M=>
  simp only[Y.cellAt,RV.jk,ayC];cases X:V[i.toNat]? with
  |none=>
   have:ar[i.toNat]?=none:=by rw[azm] at X⊢;omega
   rw[this];exact bj.default
  |some W=>
   obtain⟨Z,U⟩:∃Z,ar[i.toNat]?=some Z:=by
    have:i.toNat<V.length:=(ayA.1 X).1;exact⟨ar[i.toNat],ayB (by omega)⟩
   rw[U];simp only[azf];have F:=N _ W Z X U;cases R:W[j]? with
   |none=>
    have:Z[j]?=none:=by rw[azm] at R⊢;omega
    rw[this];exact bj.default
   |some c=>
    obtain⟨Q,O⟩:∃Q,Z[j]?=some Q:=by
     have:j<W.length:=(ayA.1 R).1;exact⟨Z[j],ayB (by omega)⟩
    rw[O];exact M _ j W Z c Q X U R O
 |val v V E=>exact bj.refl _
def bj.bc{v Z:RV}(h:bj v Z):Y.bc v.val=Y.bc Z.val/\Y.gv v.val=Y.gv Z.val/\lenOf v.val=lenOf Z.val/\(∀i,zY v.val i=zY Z.val i)/\(∀w,qD v.val w=qD Z.val w)/\∀w,qD w v.val=qD w Z.val:=by
 cases h with
 |sl A W V U R X ar=>exact⟨rfl,rfl,rfl,λ_=>rfl,λ_=>rfl,λw=>by cases w<;>rfl⟩
 |val v X Q=>exact⟨rfl,rfl,rfl,λ_=>rfl,λ_=>rfl,λ_=>rfl⟩
def bj.cN{v O:RV}(h:bj v O)(k:RK):bj (Y.cN k v) (Y.cN k O):=by
 cases h with
 |sl A Z X W V U ar R Q P=>
  cases k with
  |sl e=>exact bj.sl A Z X W V U ar R Q P
  |str=>exact bj.refl _
  |ax=>exact bj.sl A Z X W V [] [] rfl (λi N M q=>by simp at q) (λi j N M c L q=>by simp at q)
  |own e=>exact bj.sl A Z X W V U ar R Q P
  |dead=>exact bj.sl A Z X W V U ar R Q P
  |mr J=>exact bj.sl A Z X W V U ar R Q P
 |val v U I=>exact bj.refl _
structure du(rows ar:List (List RV)):Prop where
 len:rows.length=ar.length
 row:∀(i:Nat)(row row':List RV),rows[i]?=some row->ar[i]?=some row'->row.length=row'.length
 cell:∀(i j:Nat)(row row':List RV)(c c':RV),rows[i]?=some row->ar[i]?=some row'->row[j]?=some c->row'[j]?=some c'->bj c c'
def bj.F1{v V:RV}(h:bj v V):du v.rows V.rows:=by
 cases h with
 |sl A O N M L R ar X Z W=>exact⟨X,Z,W⟩
 |val v R J=>exact⟨rfl,λi Q P X Z=>by rw[X] at Z;cases Z;rfl,λi j Q P c I X Z W U=>by rw[X] at Z;cases Z;rw[W] at U;cases U;exact bj.refl _⟩
def kg(Z X:List RV):Prop:=Z.length=X.length/\∀(j:Nat)(c W:RV),Z[j]?=some c->X[j]?=some W->bj c W
def du.cons{r Z:List RV}(h:du (r::w) (Z::b)):kg r Z/\du w b:=
 ⟨⟨h.row 0 r Z rfl rfl,λj c X=>h.cell 0 j r Z c X rfl rfl⟩,by simpa using h.len,λi W V U R=>h.row (i+1) W V (by simpa using U) (by simpa using R),λi j W V c X U R=>h.cell (i+1) j W V c X (by simpa using U) (by simpa using R)⟩
def du.Ao{r U:List RV}(h:kg r U)(k:du w b):du (r::w) (U::b):=by
 refine⟨by simp[k.len],λi W V Z X=> ?_,λi j W V c R Z X=> ?_⟩;cases i with
 |zero=>simp at Z X;subst Z X;exact h.1
 |succ i=>exact k.row i W V (by simpa using Z) (by simpa using X)
 cases i with
 |zero=>simp at Z X;subst Z X;exact h.2 j c R
 |succ i=>exact k.cell i j W V c R (by simpa using Z) (by simpa using X)
def kg.getD{X Z:List RV}(h:kg X Z)(j:Nat):bj (X.getD j Inhabited.default) (Z.getD j Inhabited.default):=by
 simp only[ayC];cases W:X[j]? with
 |none=>
  have:Z[j]?=none:=by rw[azm] at W⊢;have:=h.1;omega
  rw[this];exact bj.refl _
 |some c=>
  obtain⟨V,U⟩:∃V,Z[j]?=some V:=by
   have:j<X.length:=(ayA.1 W).1;exact⟨Z[j]'(by have:=h.1;omega),ayB _⟩
  rw[U];exact h.2 j c V W U
def kg.ints{X Z:List RV}(h:kg X Z)(n:Nat):(X.take n).map (λc=>Y.bc c.val)=(Z.take n).map λc=>Y.bc c.val:=by
 apply ay3;intro j;simp only[ayF,ay7];split;cases W:X[j]? with
 |none=>
  have:Z[j]?=none:=by rw[azm] at W⊢;have:=h.1;omega
  rw[this]
 |some c=>
  obtain⟨V,U⟩:∃V,Z[j]?=some V:=by
   have:j<X.length:=(ayA.1 W).1;exact⟨Z[j]'(by have:=h.1;omega),ayB _⟩
  rw[U];simp only[ayI,(h.2 j c V W U).bc.1]
 rfl
def kg.jl{Z X:List RV}(h:kg Z X)(n:Nat)(W:List Int):Y.jl n W Z=Y.jl n W X:=by
 simp only[Y.jl,h.ints n]
def N9{n:Nat}{ks:List Int}:∀{Z ar:List (List RV)},du Z ar->(fY n ks Z=none/\fY n ks ar=none)\/∃X W,fY n ks Z=some X/\fY n ks ar=some W/\kg X W
 |[],[],_=>.inl ⟨rfl,rfl⟩
 |[],_::_,h=>by have:=h.len;simp at this
 |_::_,[],h=>by have:=h.len;simp at this
 |r::Q,U::P,h=>by
  obtain⟨V,R⟩:=h.cons;simp only[fY,aAP,<-V.jl n ks];cases Y.jl n ks r with
  |true=>exact .inr ⟨r,U,rfl,rfl,V⟩
  |false=>exact N9 R
def afK{n:Nat}{Z X:List RV}(h:kg Z X):∀{W ar:List (List RV)},du W ar->du (fg n Z W) (fg n X ar)
 |[],[],k=>du.Ao h k
 |[],_::_,k=>by have:=k.len;simp at this
 |_::_,[],k=>by have:=k.len;simp at this
 |r::R,Q::P,k=>by
  obtain⟨V,U⟩:=k.cons;simp only[fg,h.ints n,<-V.jl n];split;exact du.Ao h U;exact du.Ao V (afK h U)
mutual
def IE.bK{O Z:aa}(h:fK O Z):∀e:IE,e.den O=e.den Z
 |.c n=>rfl
 |.v k=>by simp only[IE.den,h.i]
 |.bin o k a b=>by simp only[IE.den,IE.bK h a,IE.bK h b]
 |.conv k a=>by simp only[IE.den,IE.bK h a]
 |.len r=>by simp only[IE.den];exact(RE.bK h r).bc.2.2.1
 |.mm m a b=>by simp only[IE.den,IE.bK h a,IE.bK h b]
 |.b9 b x y=>by simp only[IE.den,BE.bK h b,IE.bK h x,IE.bK h y]
 |.cell r i j=>by simp only[IE.den,IE.bK h i];exact((RE.bK h r).cellAt _ j).bc.1
 |.j6 r i=>by simp only[IE.den,IE.bK h i];exact(RE.bK h r).bc.2.2.2.1 _
 |.look r n a b c j=>by
  simp only[IE.den,IE.bK h a,IE.bK h b,IE.bK h c];rcases N9 (n:=n) (ks:=[a.den Z,b.den Z,c.den Z]) (RE.bK h r).F1 with⟨X,W⟩|⟨U,R,X,W,V⟩;rw[X,W];rw[X,W];exact(V.getD j).bc.1
def BE.bK{O Z:aa}(h:fK O Z):∀e:BE,e.den O=e.den Z
 |.c n=>rfl
 |.v k=>by simp only[BE.den,h.b]
 |.cmp o a b=>by simp only[BE.den,IE.bK h a,IE.bK h b]
 |.not a=>by simp only[BE.den,BE.bK h a]
 |.and a b=>by simp only[BE.den,BE.bK h a,BE.bK h b]
 |.beq a b=>by simp only[BE.den,BE.bK h a,BE.bK h b]
 |.b9 b x y=>by simp only[BE.den,BE.bK h b,BE.bK h x,BE.bK h y]
 |.cell r i j=>by simp only[BE.den,IE.bK h i];exact((RE.bK h r).cellAt _ j).bc.2.1
 |.seq a b=>by simp only[BE.den];rw[(RE.bK h a).bc.2.2.2.2.1,(RE.bK h b).bc.2.2.2.2.2]
 |.look r n a b c j=>by
  simp only[BE.den,IE.bK h a,IE.bK h b,IE.bK h c];rcases N9 (n:=n) (ks:=[a.den Z,b.den Z,c.den Z]) (RE.bK h r).F1 with⟨X,W⟩|⟨U,R,X,W,V⟩;rw[X,W];rw[X,W];exact(V.getD j).bc.2.1
 |.has r n a b c=>by
  simp only[BE.den,IE.bK h a,IE.bK h b,IE.bK h c];rcases N9 (n:=n) (ks:=[a.den Z,b.den Z,c.den Z]) (RE.bK h r).F1 with⟨X,W⟩|⟨U,R,X,W,V⟩;rw[X,W];rw[X,W];rfl
def RE.bK{O Z:aa}(h:fK O Z):∀r:RE,bj (r.rv O) (r.rv Z)
 |.v k=>by simp only[RE.rv];exact h.rv k
 |.cell r i j k=>by simp only[RE.rv,IE.bK h i];exact((RE.bK h r).cellAt _ j).cN k
 |.k v=>by simp only[RE.rv];exact bj.refl _
end
def SV.aqa{Z:aa}(h:fK X Z)(v:SV):CZ (v.xv X) (v.xv Z):=by
 cases v<;>simp only[SV.xv,CZ];exact IE.bK h _;exact BE.bK h _;exact RE.bK h _
def SV.aqb{Z:aa}(h:fK X Z)(v:SV):bj (v.bu X) (v.bu Z):=by
 cases v<;>simp only[SV.bu];rw[IE.bK h];exact bj.refl _;rw[BE.bK h];exact bj.refl _;exact RE.bK h _
 all_goals exact bj.refl _
def du.of(R:w.length=b.length)(h:∀(i:Nat)(Z X:List RV),w[i]?=some Z->b[i]?=some X->Z.length=X.length/\∀(j:Nat)(c W:RV),Z[j]?=some c->X[j]?=some W->bj c W):du w b:=
 ⟨R,λi Z X V U=>(h i Z X V U).1,λi j Z X c W V U=>(h i Z X V U).2 j c W⟩
def Oa{V:aa}(h:fK X V)(l:List SV):(l.map (SV.bu X)).length=(l.map (SV.bu V)).length/\∀(j:Nat)(c U:RV),(l.map (SV.bu X))[j]?=some c->(l.map (SV.bu V))[j]?=some U->bj c U:=by
 refine⟨by simp,λj c U Z W=> ?_⟩;rw[ayF] at Z W;cases R:l[j]? with
 |none=>rw[R] at Z;cases Z
 |some v=>
  rw[R] at Z W;simp only[ayI,ayE] at Z W;rw[<-Z,<-W];exact SV.aqb h v
def afL:∀{Q P V U:List RV}{R:Nat},Q.length=P.length->(∀(j:Nat)(c Z:RV),Q[j]?=some c->P[j]?=some Z->bj c Z)->V.length=U.length->(∀(j:Nat)(c Z:RV),V[j]?=some c->U[j]?=some Z->bj c Z)->
  (dJ V R Q).length=(dJ U R P).length/\∀(j:Nat)(c Z:RV),(dJ V R Q)[j]?=some c->(dJ U R P)[j]?=some Z->bj c Z
 |[],[],V,U,R,_,_,O,N=>⟨O,N⟩
 |[],_::_,_,_,_,h,_,_,_=>by simp at h
 |_::_,[],_,_,_,h,_,_,_=>by simp at h
 |v::Q,I::P,V,U,R,J,L,O,N=>by
  simp only[dJ];refine afL (by simpa using J) (λj c Z W X=>L (j+1) c Z (by simpa using W) (by simpa using X)) (by simp[O]) (λj c Z W X=> ?_);rw[azr] at W X;split at W;rename_i M;rw[if_pos M] at X;split at W;split at X;cases W;cases X;exact L 0 _ _ rfl rfl;cases X;cases W;rename_i M;rw[if_neg M] at X;exact N j c Z W X
def LE.bK{O I:aa}(h:fK O I):∀x:LE,du (x.rows O) (x.rows I)
 |.ref r=>(RE.bK h r).F1
 |.lit l=>by
  simp only[LE.rows];refine du.of (by simp) (λi V U Z X=> ?_);rw[ayF] at Z X;cases H:l[i]? with
  |none=>rw[H] at Z;cases Z
  |some v=>
   rw[H] at Z X;simp only[ayI,ayE] at Z X;rw[<-Z,<-X];exact Oa h v
 |.jH a b=>by
  simp only[LE.rows];have W:=LE.bK h a;have M:=LE.bK h b;refine du.of (by simp[W.len,M.len]) (λi V U Z X=> ?_);by_cases N:i<(a.rows O).length;rw[ayD N] at Z;rw[ayD (by rw[<-W.len];exact N)] at X;exact⟨W.row i V U Z X,λj c R=>W.cell i j V U c R Z X⟩;rw[ayG (by omega)] at Z;rw[ayG (by rw[<-W.len];omega),<-W.len] at X;exact⟨M.row _ V U Z X,λj c R=>M.cell _ j V U c R Z X⟩
 |.pl n V=>by
  simp only[LE.rows,IE.bK h n];refine du.of (by simp) (λi r C Z X=> ?_);rw[azE] at Z X;split at Z;rename_i N;rw[if_pos N] at X;cases Z;cases X;exact Oa h V;cases Z
 |.set a i B L=>by
  simp only[LE.rows,IE.bK h i];have W:=LE.bK h a;have G:=Oa h L;refine du.of (by simp[W.len]) (λA V U Z X=> ?_);rcases FA Z with⟨rfl,F,Q,rfl⟩|⟨J,Q⟩;rcases FA X with⟨_,E,P,rfl⟩|⟨J,_⟩;exact afL G.1 G.2 (W.row _ F E Q P) (λj c R=>W.cell _ j F E c R Q P);exact absurd rfl J;rcases FA X with⟨rfl,_⟩|⟨_,P⟩;exact absurd rfl J;exact⟨W.row _ V U Q P,λj c R=>W.cell _ j V U c R Q P⟩
 |.sub a D N=>by
  simp only[LE.rows,IE.bK h D,IE.bK h N];have W:=LE.bK h a;refine du.of (by simp[W.len]) (λi V U Z X=> ?_);have Q:=(Jn Z).1;have P:=(Jn X).1;exact⟨W.row _ V U Q P,λj c R=>W.cell _ j V U c R Q P⟩
 |.ins a n L=>by
  simp only[LE.rows];exact afK (Oa h L) (LE.bK h a)
def Ob{W:aa}(h:fK X W)(x:LE){A:Option Addr}:bj (eK x X) (.mk (.slice A (x.rows W).length U) (x.rows W)):=by
 have Z:=LE.bK h x;unfold eK;rw[Z.len];exact bj.sl _ _ _ _ _ _ _ Z.len Z.row Z.cell
def fK.add{O V:aa}(h:fK O V){x y:XV}(W:CZ x y):fK (O.add x) (V.add y):=by
 cases x<;>cases y<;>simp only[CZ] at W;subst W;exact⟨by simp[aa.add,h.i],h.b,h.len,h.r⟩;subst W;exact⟨h.i,by simp[aa.add,h.b],h.len,h.r⟩;refine⟨h.i,h.b,by simp[aa.add,h.len],λk v R Z X=> ?_⟩;simp only[aa.add] at Z X;by_cases U:k<O.r.length;rw[ayD U] at Z;rw[ayD (by rw[<-h.len];exact U)] at X;exact h.r k v R Z X;have Q:k=O.r.length:=by
  have:=(ayA.1 Z).1;simp at this;omega
 subst Q;simp at Z;rw[h.len] at X;simp at X;subst Z X;exact W
def fK.ext:∀{X W:List XV}{O V:aa},fK O V->jD X W->fK (O.ext X) (V.ext W)
 |[],[],_,_,h,_=>h
 |[],_::_,_,_,_,Z=>Z.elim
 |_::_,[],_,_,_,Z=>Z.elim
 |x::X,y::W,_,_,h,Z=>(h.add Z.1).ext Z.2
inductive aQ where
 |ret (xs:List XV)
 |aR (v:Value)
abbrev jQ:=FuncId->List XV->Option aQ
def F2:LK->XV->Bool
 |.int _,.i _=>true
 |.bool,.b _=>true
 |.ref _,.r _=>true
 |_,_=>false
def dj:List LK->List XV->Bool
 |[],[]=>true
 |k::Z,x::X=>F2 k x&&dj Z X
 |_,_=>false
def Ap(Z:Ty)(X:List RK):LK->SV->Bool
 |.int k,.int W _=>decide (k=W)
 |.bool,.bool _=>true
 |.ref e,.ref r=>match e with
  |.mr V=>r.my Z ⟨[],[],0,0,X,0,0,[]⟩ V
  |e=>r.fits Z ⟨[],[],0,0,X,0,0,[]⟩ e.rd
 |_,_=>false
def gQ(Z:Ty)(X:List RK):List LK->List SV->Bool
 |[],[]=>true
 |k::W,v::V=>Ap Z X k v&&gQ Z X W V
 |_,_=>false
def gw(X:Ty):List TypeId->List SV->Option (List SV)
 |[],[]=>some []
 |t::W,v::V=>match X t,gw X W V with
  |some Z,some r=>if Z.d.isAgg then(match v with
    |.agg l=>if l.length==Z.ae.length then some (l++r) else none
    |_=>none) else(if Z.ae.length==1 then some (v::r) else none)
  |_,_=>none
 |_,_=>none
def ut(n:Nat):SV->List SV
 |.bh l=>if n==1 then[.bh l] else l
 |v=>[v]
def C0(O:aa):SV->Option Value
 |.dD t (.int k e)=>some (.iface t (.int k (e.den O)))
 |_=>none
structure Fr where
 ao:Nat
 ks:List LK
 t:T
 O:aa
 rs:List RK
def C1(ao:Nat):List Fr->Option (Fr×List Fr)
 |[]=>none
 |x::Z=>if x.ao=ao then some (x,Z) else C1 ao Z
def f8:List LK->List RK
 |[]=>[]
 |.ref e::Z=>e::f8 Z
 |_::Z=>f8 Z
def oC:Nat->Nat->Nat->List LK->List SV->Bool
 |_,_,_,[],[]=>true
 |a,b,c,.int k::Z,.int X (.v n)::l=>decide (k=X)&&n==a&&oC (a+1) b c Z l
 |a,b,c,.bool::Z,.bool (.v n)::l=>n==b&&oC a (b+1) c Z l
 |a,b,c,.ref _::Z,.ref (.v n)::l=>n==c&&oC a b (c+1) Z l
 |_,_,_,_,_=>false
def Oc:RK->RK->Bool
 |_,.dead=>true
 |.own t,.sl Z=>decide (t=Z)
 |.sl t,.sl Z=>decide (t=Z)
 |.str,.str=>true
 |.ax,.ax=>true
 |.mr a,.mr b=>decide (a=b)
 |_,_=>false
def yC:List RK->List RK->Bool
 |[],[]=>true
 |x::Z,y::X=>Oc x y&&yC Z X
 |_,_=>false
def afM:RK->RK->Bool
 |.own t,.own Z=>decide (t=Z)
 |x,y=>Oc x y
def yD:List RK->List RK->Bool
 |[],[]=>true
 |x::Z,y::X=>afM x y&&yD Z X
 |_,_=>false
def Wn(Z:Ty)(X:List TypeId)(v:SV)(V:List RK)(O:aa):Option aQ:=match gw Z X (ut X.length v),eV Z X with
 |some l,some W=>if gQ Z V W l&&lO W then some (.ret (l.map (SV.xv O))) else none
 |_,_=>none
def Wo(Z:Ty)(R Q:FuncId->Option (List TypeId))(f:FuncId)(P:List SV)(N:List RK)(W:List LK)(fe:SV)(O:aa):Option (List XV):=match R f,Q f with
 |some V,some X=>match gw Z V P,eV Z V,eV Z X,gw Z X (ut X.length fe) with
  |some l,some U,some M,some r=>if gQ Z N U l&&lO U&&decide (M=W)&&oC O.i.length O.b.length O.r.length W r then some (l.map (SV.xv O)) else none
  |_,_,_,_=>none
 |_,_=>none
def Wp(Z:List RK)(r:RE)(e:TypeId):Bool:=match r with
 |.v k=>decide (Z[k]?=some (.own e))
 |.k (.slice none 0 0)=>true
 |_=>false
def Wq:RK->Bool
 |.mr _=>true
 |_=>false
def kg.key{x y:List RV}(h:kg x y)(c:Nat):aD c x=aD c y:=(h.getD c).bc.1
def afN{d:Bool}{x X y W:List RV}(V:kg x X)(U:kg y W):∀Z:List Nat,fZ d Z x y=fZ d Z X W
 |[]=>rfl
 |c::Z=>by simp only[fZ,V.key,U.key,afN V U Z]
def Wr{Z:aU}{x X y W:List RV}(V:kg x X)(U:kg y W):Z.lt x y=Z.lt X W:=by
 cases Z with
 |lex R d=>exact afN V U R
 |ratio n d=>simp only[aU.lt,V.key,U.key]
 |bN k o Q=>rfl
def aqc{Z:aU}{x X:List RV}(W:kg x X):Z.ok x=Z.ok X:=by
 cases Z with
 |lex V d=>rfl
 |ratio n d=>simp only[aU.ok,W.key]
 |bN k o U=>rfl
def du.Od(h:du [] w):w=[]:=by cases w with
 |nil=>rfl
 |cons x Z=>have:=h.len;simp at this
def afO{W:aU}{x V:List RV}(Z:kg x V):∀{l X:List (List RV)},du l X->du (cQ W.lt x l) (cQ W.lt V X)
 |[],X,h=>by have R:=h.Od;subst R;exact du.Ao Z h
 |y::l,[],h=>by have:=h.len;simp at this
 |y::l,P::X,h=>by
  obtain⟨U,Q⟩:=h.cons;simp only[cQ,Wr Z U];split;exact du.Ao Z h;exact du.Ao U (afO Z Q)
def afP{V:aU}:∀{l X:List (List RV)}{acc Z:List (List RV)},du l X->du acc Z->du (l.foldl (λacc x=>cQ V.lt x acc) acc) (X.foldl (λacc x=>cQ V.lt x acc) Z)
 |[],X,acc,Z,h,W=>by rw[h.Od];exact W
 |y::l,[],acc,Z,h,W=>by have:=h.len;simp at this
 |y::l,Q::X,acc,Z,h,W=>by
  obtain⟨U,R⟩:=h.cons;simp only[az0];exact afP R (afO U W)
def Ws{f g:List RV->Bool}:∀{l Z:List (List RV)},(∀x X,kg x X->f x=g X)->du l Z->l.all f=Z.all g
 |[],Z,_,h=>by rw[h.Od];rfl
 |y::l,[],_,h=>by have:=h.len;simp at this
 |y::l,R::Z,W,h=>by
  obtain⟨V,U⟩:=h.cons;simp only[aAv,W _ _ V,Ws W U]
def afQ{Z:aU}:∀{l X:List (List RV)},du l X->sj Z.lt l=sj Z.lt X
 |[],X,h=>by rw[h.Od]
 |y::l,[],h=>by have:=h.len;simp at this
 |y::l,W::X,h=>by
  obtain⟨V,U⟩:=h.cons;have Q:(l.all λz=>Z.lt y z||Z.lt z y)=X.all λz=>Z.lt W z||Z.lt z W:=Ws (λx P R=>by rw[Wr V R,Wr R V]) U
  simp only[sj,afQ U,Q]
def afR{sp:aU}{W:Bool}{r:List (List RV)}(h:du w b)(Z:fh sp W w=some r):∃V,fh sp W b=some V/\du r V:=by
 cases sp with
 |bN k o O=>simp[fh] at Z
 |_=>
  simp only[fh] at Z⊢;rw[Ws (λx N U=>aqc U) h,afQ h,h.len] at Z;split at Z;rename_i R;cases Z;rw[if_pos R];exact⟨_,rfl,afP h ⟨rfl,λi Q P X=>by simp at X,λi j Q P c M X=>by simp at X⟩⟩;cases Z
def du.getD(h:du w b)(i:Nat):kg (w.getD i []) (b.getD i []):=by
 simp only[ayC];cases X:w[i]? with
 |none=>
  have:b[i]?=none:=by rw[azm] at X⊢;have:=h.len;omega
  rw[this];exact⟨rfl,λj c Z W=>by simp at W⟩
 |some c=>
  obtain⟨Z,V⟩:∃Z,b[i]?=some Z:=by
   have:i<w.length:=(ayA.1 X).1;exact⟨b[i]'(by have:=h.len;omega),ayB _⟩
  rw[V];exact⟨h.row i c Z X V,λj x U W R=>h.cell i j c Z x U X V W R⟩
def du.set{x Z:List RV}(X:kg x Z):∀{l W:List (List RV)}(_:du l W)(i:Nat),du (l.set i x) (W.set i Z)
 |[],[],h,_=>h
 |[],_::_,h,_=>by have:=h.len;simp at this
 |_::_,[],h,_=>by have:=h.len;simp at this
 |r::V,U::R,h,0=>du.Ao X h.cons.2
 |r::V,U::R,h,i+1=>du.Ao h.cons.1 (du.set X h.cons.2 i)
def Wt{l Z:List (List RV)}(h:du l Z):∀(n:Nat)(i:Int),du (mF n i l) (mF n i Z)
 |0,_=>h
 |n+1,i=>by
  simp only[mF,<-(h.getD i.toNat).key 0];split;exact h;exact du.set ((Wt h n _).getD _) (Wt h n _) _
def aqd(h:du w b):iR w=iR b:=by
 have e:(λk=>decide (0<=aD 0 (w.getD k []))&&decide (aD 0 (w.getD k [])<=k))=λk:Nat=>decide (0<=aD 0 (b.getD k []))&&decide (aD 0 (b.getD k [])<=k):=by
  funext k;rw[(h.getD k).key 0]
 unfold iR;rw[e,h.len]
def aqe{U:aa}(R:fK X U)(W:aU)(V:Bool)(l:List (List RV)):jM X W V l=jM U W V l:=by
 cases W with
 |lex Q d=>rfl
 |ratio n d=>rfl
 |bN k o Z=>
  cases V with
  |false=>rfl
  |true=>
   cases Z with
   |nil=>rfl
   |cons i Z=>
    cases Z with
    |nil=>simp only[jM,IE.bK R i]
    |cons j Z=>rfl
def afS{R:aa}(P:fK X R){V:aU}{U:Bool}{r:List (List RV)}(h:du w b)(Z:jM X V U w=some r):∃Q,jM R V U b=some Q/\du r Q:=by
 cases V with
 |lex N d=>exact afR (sp:=.lex N d) h Z
 |ratio n d=>exact afR (sp:=.ratio n d) h Z
 |bN k o W=>
  cases U with
  |false=>simp[jM] at Z
  |true=>
   cases W with
   |nil=>simp[jM] at Z
   |cons i W=>
    cases W with
    |nil=>
     simp only[jM,qE] at Z⊢;rw[h.len,aqd h,IE.bK P i] at Z;split at Z;rename_i M;cases Z;rw[if_pos M];exact⟨_,rfl,Wt h _ _⟩;cases Z
    |cons j W=>simp[jM] at Z
def bj.cA{a Z:RV}(h:bj a Z){P:aa}(N:fK X P){V:aU}{U:Bool}(W:jM X V U a.rows=some w)(R:jM P V U Z.rows=some b):bj (.mk a.val w) (.mk Z.val b):=by
 obtain⟨F,M,Q⟩:=afS N h.F1 W;rw[R] at M;cases M;cases h with
 |sl A L J I H G ar E D C=>exact bj.sl A L J I H w b Q.len Q.row Q.cell
 |val v G B=>
  rw[RV.jk] at W R;rw[aqe N V U,R] at W;cases W;exact bj.refl _
def aqf{W:RV}(V:cm k (.own v) (.mk W.val w) U)(R:∀x∈w,x∈W.rows):cm k (.own v) W U:=by
 obtain⟨Z,Q⟩:=W;simp only[RV.ji,RV.jk] at V R;cases V with
 |own v W U V=>
  refine cm.own v _ U ?_;generalize P:RV.mk Z w=W at V;cases V with
  |here v a O N ar=>cases P;exact cm.here v a O N Q
  |deep v E ar i j M c z X U L J I H=>
   cases P;obtain⟨G,F⟩:=azh (R _ (ayW L));exact cm.deep v Z Q G j M c z X U F J I H
mutual
def Oe:RV->RV->Bool
 |.mk v Z,.mk X ar=>(match v,X with
  |.int k a,.int W b=>decide (k=W)&&a==b
  |.bool a,.bool b=>a==b
  |.string a,.string b=>decide (a=b)
  |.slice none a b,.slice none c d=>a==c&&b==d
  |_,_=>false)&&F3 Z ar
def F3:List (List RV)->List (List RV)->Bool
 |[],[]=>true
 |r::Z,X::W=>F4 r X&&F3 Z W
 |_,_=>false
def F4:List RV->List RV->Bool
 |[],[]=>true
 |c::Z,X::W=>Oe c X&&F4 Z W
 |_,_=>false
end
def JQ:XV->XV->Bool
 |.i a,.i b=>a==b
 |.b a,.b b=>a==b
 |.r a,.r b=>Oe a b
 |_,_=>false
def JR:List XV->List XV->Bool
 |[],[]=>true
 |x::Z,y::X=>JQ x y&&JR Z X
 |_,_=>false
def afT:Value->Value->Bool
 |.iface t (.int k a),.iface Z (.int X b)=>t==Z&&decide (k=X)&&a==b
 |_,_=>false
def Of:aQ->aQ->Bool
 |.ret a,.ret b=>JR a b
 |.aR a,.aR b=>afT a b
 |_,_=>false
mutual
def afU:∀(a b:RV),Oe a b=true->a=b
 |.mk v Z,.mk V ar,h=>by
  simp only[Oe,ayz] at h;have X:=afV Z ar h.2;subst X;congr 1;have W:=h.1;split at W<;>simp_all
def afV:∀(a b:List (List RV)),F3 a b=true->a=b
 |[],[],_=>rfl
 |[],_::_,h=>by simp[F3] at h
 |_::_,[],h=>by simp[F3] at h
 |r::Z,X::W,h=>by
  simp only[F3,ayz] at h;rw[afW r X h.1,afV Z W h.2]
def afW:∀(a b:List RV),F4 a b=true->a=b
 |[],[],_=>rfl
 |[],_::_,h=>by simp[F4] at h
 |_::_,[],h=>by simp[F4] at h
 |r::Z,X::W,h=>by
  simp only[F4,ayz] at h;rw[afU r X h.1,afW Z W h.2]
end
def aqg:∀(a b:XV),JQ a b=true->a=b
 |.i a,b,h=>by cases b<;>simp[JQ] at h;rw[h]
 |.b a,b,h=>by cases b<;>simp[JQ] at h;rw[h]
 |.r a,b,h=>by cases b<;>simp[JQ] at h;rw[afU _ _ h]
def afX:∀(a b:List XV),JR a b=true->a=b
 |[],b,h=>by cases b<;>simp[JR] at h;rfl
 |x::Z,b,h=>by cases b<;>simp[JR] at h;rw[aqg _ _ h.1,afX _ _ h.2]
def aqh:∀(a b:aQ),Of a b=true->a=b
 |.ret a,b,h=>by cases b<;>simp[Of] at h;rw[afX _ _ h]
 |.aR a,b,h=>by
  cases b<;>simp[Of] at h;rename_i v;unfold afT at h;split at h;simp only[ayz,beq_iff_eq,decide_eq_true_eq] at h;obtain⟨⟨rfl,rfl⟩,rfl⟩:=h;rfl;cases h
open Classical in
def uu(a b:aQ):Bool:=Of a b||decide (a=b)
def Og(o:aQ):uu o o=true:=by simp[uu]
def aqi(a b:aQ)(h:uu a b=true):a=b:=by
 simp only[uu,ay2,decide_eq_true_eq] at h;exact h.elim (aqh a b) id
def wb:Option aQ->Option aQ->Option aQ
 |some a,some b=>if uu a b then some a else none
 |_,_=>none
def oD:List (Option aQ)->Option aQ
 |[]=>none
 |[o]=>o
 |o::Z=>wb o (oD Z)
def F5{a b:Option aQ}{o:aQ}(h:wb a b=some o):a=some o/\b=some o:=by
 unfold wb at h;split at h;split at h;rename_i x y Z;cases h;rw[aqi _ _ Z];exact⟨rfl,rfl⟩;cases h;cases h
def F6:∀{l:List (Option aQ)}{o:aQ},oD l=some o->∀x∈l,x=some o
 |[],o,h=>by simp[oD] at h
 |[x],o,h=>by simp only[oD] at h;intro y X;simp at X;rw[X];exact h
 |x::y::r,o,h=>by
  simp only[oD] at h;obtain⟨W,V⟩:=F5 h;intro z Z;rcases ayK.1 Z with rfl|Z;exact W;exact F6 (l:=y::r) V z Z
def afY{a b Z X:Option aQ}{o:aQ}(h:wb a b=some o)(U:a=some o->Z=some o)(R:b=some o->X=some o):wb Z X=some o:=by
 obtain⟨W,V⟩:=F5 h;rw[W,V] at h;rw[U W,R V];exact h
def afZ{Z:Type}{l:List Z}{f g:Z->Option aQ}{o:aQ}(h:oD (l.map f)=some o)(W:∀x∈l,f x=some o->g x=some o):oD (l.map g)=some o:=by
 rw[<-h];congr 1;refine ayZ λx X=> ?_
 have:=F6 h (f x) (ay1.2 ⟨x,X,rfl⟩);rw[this,W x X this]
def nz(m:IE)(g h:BE)(O:aa):List (Option Int):=(((ayQ (m.den O).toNat).map λ(j:Nat)=>(j:Int)).filter λj=>g.den (O.add (.i j))).map some++(if h.den O then[none] else[])
def aqj{m:IE}{g h:BE}{j:Int}(W:0<=j)(V:j<m.den X)(Z:g.den (X.add (.i j))=true):some j∈nz m g h X:=by
 simp only[nz,ayL,ay1,azk,azz];exact .inl ⟨j,⟨⟨j.toNat,by omega,by omega⟩,Z⟩,rfl⟩
def aqk{m:IE}{g h:BE}(Z:h.den X=true):none∈nz m g h X:=by
 simp[nz,Z]
def run(W:Ty)(V U:FuncId->Option (List TypeId))(aO:jQ)(R:List TypeId):Nat->T->aa->List RK->List Fr->Option aQ
 |0,_,_,_,_=>none
 |n+1,.ret v _ Q,O,Z,_=>if yC Z Q then Wn W R v Q O else none
 |n+1,.aR v,O,_,_=>(C0 O v).map .aR
 |n+1,.node b t f,O,Z,X=>if b.den O then run W V U aO R n t O Z X else run W V U aO R n f O Z X
 |n+1,.aF b t,O,Z,X=>if b.den O then run W V U aO R n t O Z X else none
 |n+1,.call f J _ Q P fe t,O,Z,X=>if yC Z Q then(match Wo W V U f J Q P fe O with
   |some I=>match aO f I with
    |some (.ret M)=>if dj P M then run W V U aO R n t (O.ext M) (Z++f8 P) X else none
    |some (.aR v)=>some (.aR v)
    |none=>none
   |none=>none) else none
 |n+1,.loop ao P L t,O,Z,X=>if gQ W Z P L then run W V U aO R n t (O.ext (L.map (SV.xv O))) (Z++f8 P) (⟨ao,P,t,O,Z++f8 P⟩::X) else none
 |n+1,.back ao x,O,Z,X=>match C1 ao X with
  |some (N,H)=>if gQ W Z N.ks x then run W V U aO R n N.t (N.O.ext (x.map (SV.xv O))) N.rs (N::H) else none
  |none=>none
 |n+1,.rows k x _ t,O,Z,X=>if Wq k then run W V U aO R n t (O.add (.r (eK x O))) (Z++[k]) X else none
 |n+1,.dW g h t f,O,Z,X=>if g.den O then(if h.den O then wb (run W V U aO R n t O Z X) (run W V U aO R n f O Z X) else run W V U aO R n t O Z X) else(if h.den O then run W V U aO R n f O Z X else none)
 |n+1,.pick m g h t f,O,Z,X=>oD ((nz m g h O).map λj=>match j with
  |some j=>run W V U aO R n t (O.add (.i j)) Z X
  |none=>run W V U aO R n f O Z X)
 |n+1,.cA _ _ e G F r Q t,O,Z,X=>if yD Z Q&&Wp Z r e then(match jM O G F (r.rv O).rows with
  |some E=>run W V U aO R n t (O.add (.r (.mk (r.rv O).val E))) (Z++[.own e]) X
  |none=>none) else none
 |n+1,.new e x Q _ t,O,Z,X=>if yD Z Q then run W V U aO R n t (O.add (.r (eK x O))) (Z++[.own e]) X else none
 |_,_,_,_,_=>none
end
variable{N:List RK}{r:List LK}{l:List XV}
section
def JS{w w':World}(h:dI [] w w'):Below w.heap.size w w':=⟨h.os,h.tape,h.output,h.size,λk Z=>h.block k Z (by simp)⟩
def aql{a b c:World}(h:Below a.heap.size a b)(k:Below b.heap.size b c):Below a.heap.size a c:=h.trans (k.mono h.size)
def lq:List LK->List XV->List Value
 |k::Z,x::X=>x.at k::lq Z X
 |_,_=>[]
def qL(u:Ty):List TypeId->List Value->List Value
 |[],_=>[]
 |t::X,l=>match u t with
  |some Z=>(if Z.d.isAgg then .agg (l.take Z.ae.length).toArray else l.getD 0 undef)::qL u X (l.drop Z.ae.length)
  |none=>[]
def C2:List Value->Value
 |[v]=>v
 |l=>.tuple l.toArray
def af0{u:Ty}:∀{Z:List TypeId}{X l:List SV},gw u Z X=some l->Z.length=X.length
 |[],[],l,_=>rfl
 |[],_::_,l,h=>by simp[gw] at h
 |_::_,[],l,h=>by simp[gw] at h
 |t::Z,v::X,l,h=>by
  simp only[gw] at h;split at h;rename_i V r U W;simp[af0 W];cases h
def Oi{u:Ty}{O:aa}{V:List Nat}:∀{X:List TypeId}{W l:List SV},gw u X W=some l->SV.au O V W=qL u X (SV.au O V l)
 |[],[],l,_=>rfl
 |[],_::_,l,h=>by simp[gw] at h
 |_::_,[],l,h=>by simp[gw] at h
 |t::X,v::W,l,h=>by
  simp only[gw] at h;split at h;rename_i M r Q N;have R:=Oi (O:=O) (V:=V) N;simp only[qL,Q];split at h;rename_i U;rw[if_pos U];split at h;rename_i L;split at h;rename_i Z;simp only[beq_iff_eq] at Z;cases h;rw[M0,<-Z,List.take_left' (by simp),aAU (by simp),<-R];simp only[SV.au,SV.den];cases h;cases h;rename_i U;rw[if_neg U];split at h;rename_i Z;simp only[beq_iff_eq] at Z;cases h;rw[Z];simp only[SV.au,azS,List.drop_succ_cons,aBS,<-R];cases h;cases h
def af3{W:List TypeId}(h:gw k W (ut W.length e)=some Q):e.den X Z=C2 (qL k W (SV.au X Z Q)):=by
 have U:=af0 h;rw[<-Oi h];cases e
 case bh M=>
  simp only[ut] at U⊢;by_cases R:W.length==1;simp[R,SV.au,C2];simp only[R,if_false,ayV] at U⊢;have N:M.length≠1:=by rw[<-U];simpa using R
  match M,N with
  |[],_=>simp[SV.au,C2,SV.den]
  |[x],N=>simp at N
  |x::y::z,_=>simp[SV.au,C2,SV.den]
 all_goals simp[ut,SV.au,C2]
def aqm{O:aa}{V:List Nat}{Z:LK}(h:Ap k N Z e=true):e.den O V=(e.xv O).at Z/\ng Z (e.xv O):=by
 unfold Ap at h;split at h;rename_i Z W X;simp at h;subst h;exact⟨rfl,trivial⟩;exact⟨rfl,trivial⟩;exact⟨rfl,trivial⟩;cases h
def F7{u:Ty}{X:List RK}{O:aa}{V:List Nat}:∀{Z:List LK}{l:List SV},gQ u X Z l=true->SV.au O V l=lq Z (l.map (SV.xv O))/\cR Z (l.map (SV.xv O))
 |[],[],_=>⟨rfl,trivial⟩
 |[],_::_,h=>by simp[gQ] at h
 |_::_,[],h=>by simp[gQ] at h
 |k::Z,v::l,h=>by
  simp only[gQ,ayz] at h;obtain⟨W,U⟩:=aqm (O:=O) (V:=V) h.1;obtain⟨R,Q⟩:=F7 (O:=O) (V:=V) h.2;exact⟨by simp only[SV.au,ayO,lq,W,R],U,Q⟩
def aqn(h:dj r l=true):cR r l:=by
 induction r generalizing l with
 |nil=>cases l with
  |nil=>trivial
  |cons=>simp[dj] at h
 |cons k r Z=>cases l with
  |nil=>simp[dj] at h
  |cons x l=>
   simp only[dj,ayz] at h;refine⟨?_,Z h.2⟩;cases k<;>cases x<;>first|trivial|simp[F2] at h
def Wu:∀{Z:List LK}{X W:List XV},cR Z W->jD X W->cR Z X
 |[],[],[],_,_=>trivial
 |[],_::_,[],_,h=>h.elim
 |[],_,_::_,h,_=>h.elim
 |_::_,_,[],h,_=>h.elim
 |_::_,[],_::_,_,h=>h.elim
 |k::Z,x::X,y::W,h,V=>by
  refine⟨?_,Wu h.2 V.2⟩;have U:=h.1;have R:=V.1;cases k<;>cases x<;>cases y<;>simp_all[ng,CZ]
def yE{O Z:aa}(h:fK O Z):∀l:List SV,jD (l.map (SV.xv O)) (l.map (SV.xv Z))
 |[]=>trivial
 |v::l=>⟨SV.aqa h v,yE h l⟩
def JT{V:List Nat}:∀{W:List LK}{l:List SV}{Z:List XV}{O:aa}{a b c:Nat},oC a b c W l=true->cR W Z->O.i.length=a->O.b.length=b->O.r.length=c->SV.au (O.ext Z) V l=lq W Z
 |[],[],[],O,a,b,c,_,_,_,_,_=>rfl
 |[],[],_::_,O,a,b,c,_,h,_,_,_=>h.elim
 |[],_::_,Z,O,a,b,c,h,_,_,_,_=>by simp[oC] at h
 |k::W,[],Z,O,a,b,c,h,_,_,_,_=>by cases k<;>simp[oC] at h
 |_::_,_::_,[],O,a,b,c,_,h,_,_,_=>h.elim
 |k::W,v::l,x::Z,O,a,b,c,h,I,U,R,Q=>by
  have M:=zZ Z (O.add x);obtain⟨L,J⟩:=I;simp only[SV.au,aa.ext,lq];unfold oC at h;split at h;rename_i X;cases X;rename_i X N;cases X;cases N;cases x<;>simp[ng] at L;simp only[ayz,decide_eq_true_eq,beq_iff_eq] at h;obtain⟨⟨rfl,rfl⟩,h⟩:=h;rw[JT h J (by simp[aa.add,U]) (by simp[aa.add,R]) (by simp[aa.add,Q])];simp only[SV.den,IE.den,XV.at];rw[M.i _ (by simp[aa.add,U])];simp[aa.add,<-U];rename_i X N;cases X;cases N;cases x<;>simp[ng] at L;simp only[ayz,beq_iff_eq] at h;obtain⟨rfl,h⟩:=h;rw[JT h J (by simp[aa.add,U]) (by simp[aa.add,R]) (by simp[aa.add,Q])];simp only[SV.den,BE.den,XV.at];rw[M.b _ (by simp[aa.add,R])];simp[aa.add,<-R];rename_i X N;cases X;cases N;cases x<;>simp[ng] at L;simp only[ayz,beq_iff_eq] at h;obtain⟨rfl,h⟩:=h;rw[JT h J (by simp[aa.add,U]) (by simp[aa.add,R]) (by simp[aa.add,Q])];simp only[SV.den,RE.den,RE.rv,XV.at];rw[M.r _ (by simp[aa.add,Q])];simp[aa.add,aa.rv,<-Q];cases h
def aqo{s:S}{r:RE}{e:RK}(N:e≠ .ax)(h:r.kind k s=e)(W:cm k e (r.rv X) U):X.lR k s.rs U:=by
 obtain⟨V,R,L,Q,Z⟩:=Nh N h W;rcases Z with⟨rfl,Z⟩|⟨t,Z,M⟩;exact⟨V,R,Q,Ng (by rw[Z];exact W)⟩;exact⟨V,R,Q,Ft Z M⟩
def af4{e:RK}{X:RV}(h:cm k e X U):cm k e.rd X U:=by
 cases h with
 |own e X U h=>exact h
 |here e a V R W=>exact cm.here e a V R W
 |deep e v W i j Q c z Z U O N M L=>exact cm.deep e v W i j Q c z Z U O N M L
def uv(u:Ty)(X:List LK)(W:List XV)(b:Nat):Prop:=∃(q:Nat)(e:RK)(Z:RV),X[q]?=some (.ref e)/\W[q]?=some (.r Z)/\cm u e Z b
def af5{u:Ty}{V:List RK}:∀{X:List LK}{l:List SV},gQ u V X l=true->∀(q:Nat)(k:LK)(v:SV),X[q]?=some k->l[q]?=some v->Ap u V k v=true
 |[],_,_,q,k,v,Z,_=>by simp at Z
 |_::_,[],h,q,k,v,_,_=>by simp[gQ] at h
 |U::X,R::l,h,0,k,v,Z,W=>by simp only[gQ,ayz] at h;simp at Z W;subst Z W;exact h.1
 |U::X,R::l,h,q+1,k,v,Z,W=>by simp only[gQ,ayz] at h;exact af5 h.2 q k v (by simpa using Z) (by simpa using W)
def af6(h:gQ k N r Q=true){e:RK}{M:RV}(J:r[U]?=some (.ref e))(W:(Q.map (SV.xv X))[U]?=some (.r M)):
  ∃Z:RE,((∃L,e=.mr L/\Z.my k ⟨[],[],0,0,N,0,0,[]⟩ L=true)\/Z.fits k ⟨[],[],0,0,N,0,0,[]⟩ e.rd=true)/\M=Z.rv X:=by
 rw[ayF] at W;cases R:Q[U]? with
 |none=>rw[R] at W;cases W
 |some v=>
  rw[R] at W;have:=af5 h U _ v J R;unfold Ap at this;split at this;rename_i V;cases V;rename_i V;cases V;rename_i V;cases V;simp only[ayI,ayE,SV.xv,XV.r.injEq] at W;refine⟨_, ?_,W.symm⟩;split at this;exact .inl ⟨_,rfl,this⟩;exact .inr this;cases this
def JU(h:gQ k N r Q=true)(M:uv k r (Q.map (SV.xv X)) U):X.lR k N U:=by
 obtain⟨q,e,F,L,J,V⟩:=M;obtain⟨Z,W,rfl⟩:=af6 h L J;rcases W with⟨E,rfl,-⟩|W;cases V;have R:=af4 V;obtain⟨I,H⟩:=UO (O:=X) W R;exact aqo (s:=⟨[],[],0,0,N,0,0,[]⟩) H I R
def uw(u:Ty)(W:World)(X:List LK)(V:List XV):Prop:=∀(q:Nat)(e:RK)(Z:RV),X[q]?=some (.ref e)->V[q]?=some (.r Z)->aW W u e Z
def af7{u:Ty}{W:World}{B:Nat}{old:Nat->Prop}:∀{X:List LK}{Z:List XV},uw u W X Z->(∀b,uv u X Z b->B<=b\/old b)->E9 u W B old X Z
 |[],Z,_,_=>by cases Z<;>trivial
 |_::_,[],_,_=>trivial
 |k::X,x::Z,h,Q=>by
  refine⟨?_,af7 (λq e V U R=>h (q+1) e V (by simpa using U) (by simpa using R)) (λb ⟨q,e,V,U,R,O⟩=>Q b ⟨q+1,e,V,by simpa using U,by simpa using R,O⟩)⟩;cases k<;>cases x<;>try trivial
  exact⟨h 0 _ _ rfl rfl,λb N=>Q b ⟨0,_,_,rfl,rfl,N⟩⟩
def Oj(C W:World):cG C bz.none [] [] [] W:=⟨rfl,rfl,λn l r Z h=>by simp[bz.none] at h,λn X l r V h=>by simp[bz.none] at h,[],rfl,λ_=>rfl,by simp[bz.none],λd h=>by simp[bz.none] at h⟩
def gN.Ol{C:World}{L:aX}{W:World}(R:gN Z C g X L k N W)(J:X.r.length=N.length)(I:∀(U:Nat)(t:TypeId),N[U]?≠some (.own t)):ap Z C bz.none k [] (X.at []) ⟨[],[],X.i.length,X.b.length,N,0,0,[]⟩ ⟨#[],[]⟩ W:=
 ⟨⟨R.base,λi h=>by simp[aE,bS] at h,λi j h=>by simp[aE,bS] at h,λi t E h=>by simp[bS] at h,λU e M Q H=>⟨(R.ref U e M Q H).1,λb D i F=>by simp[aE,bS] at F⟩⟩,rfl,rfl,rfl,J,Oj _ _,rfl,λt B h=>by simp at h,λU e M b Q=>absurd Q (I U e)⟩
def Om:∀{l X:List RK},yC l X=true->lS l X/\∀(k:Nat)(t:TypeId),X[k]?≠some (.own t)
 |[],[],_=>⟨lS.refl _,λk t h=>by simp at h⟩
 |[],_::_,h=>by simp[yC] at h
 |_::_,[],h=>by simp[yC] at h
 |x::Q,y::O,h=>by
  simp only[yC,ayz] at h;obtain⟨W,U⟩:=Om h.2;have V:mI x y/\∀t,y≠ .own t:=by
   have N:=h.1;cases x<;>cases y<;>simp_all[Oc,mI]
  refine⟨⟨by simp[W.len],λk R Z=> ?_⟩,λk t Z=> ?_⟩;cases k with
  |zero=>simp at Z;subst Z;exact⟨x,rfl,V.1⟩
  |succ k=>exact W.get k R (by simpa using Z)
  cases k with
  |zero=>simp at Z;exact V.2 t Z
  |succ k=>exact U k t (by simpa using Z)
def aqp{e:RK}(h:Cu (.ref e)=true):e.rd=e:=by cases e<;>simp[Cu] at h<;>rfl
def Wv{W:List RK}(h:lS N W)(V:X.lR k W U):X.lR k N U:=by
 obtain⟨Z,e,R,Q⟩:=V;obtain⟨M,L,J⟩:=h.get Z e R;exact⟨Z,M,L,Q.jP J⟩
def af8:∀{l X:List RK},yD l X=true->lS l X
 |[],[],_=>lS.refl _
 |[],_::_,h=>by simp[yD] at h
 |_::_,[],h=>by simp[yD] at h
 |x::R,y::Q,h=>by
  simp only[yD,ayz] at h;have W:=af8 h.2;have V:mI x y:=by
   have O:=h.1;cases x<;>cases y<;>simp_all[Oc,afM,mI]
  refine⟨by simp[W.len],λk U Z=> ?_⟩;cases k with
  |zero=>simp at Z;subst Z;exact⟨x,rfl,V⟩
  |succ k=>exact W.get k U (by simpa using Z)
def af9{C:World}{E:aX}{W:World}(R:gN Z C g X E k N W)(J:X.r.length=N.length)(I:∀(U:Nat)(t:TypeId),N[U]?≠some (.own t))(h:gQ k N r Q=true)(D:lO r=true):uw k W r (Q.map (SV.xv X)):=by
 intro q e A H B;obtain⟨M,L,rfl⟩:=af6 h H B;rcases L with⟨F,rfl,L⟩|L;simp only[RE.my,ay2,decide_eq_true_eq] at L;rcases L with L|L;have:=nj (R.Ol J I) (e:=.mr F) (r:=M) (by simp) (by
  rw[yo (s:=⟨[],[],X.i.length,X.b.length,N,0,0,[]⟩) (s':=⟨[],[],0,0,N,0,0,[]⟩) rfl M];exact L)
 rwa [RE.jp] at this
 unfold RE.nil at L;split at L;exact aW.mr F [] (by simp) (by simp) (by simp) (by simp);cases L;have:=adl (R.Ol J I) (k:=e.rd) (r:=M) (by
  unfold RE.fits at L⊢;rw[yo (s:=⟨[],[],X.i.length,X.b.length,N,0,0,[]⟩) (s':=⟨[],[],0,0,N,0,0,[]⟩) rfl M];exact L)
 rwa [aqp (NE D H),RE.jp] at this
def C3(u:Ty)(B:Nat)(old:Nat->Prop)(O:aa)(Z:List RK):Prop:=∀b,O.lR u Z b->B<=b\/old b
def On:∀(Z:List LK)(s:S),(s.bB Z).2.rs=s.rs++f8 Z
 |[],s=>by simp[S.bB,f8]
 |k::Z,s=>by
  simp only[S.bB];rw[On Z];cases k<;>simp[S.fresh,f8]
def JV(Z:cR r l)(W:X.r.length=N.length):(X.ext l).r.length=(N++f8 r).length:=by
 have:=(ul r l ⟨[],[],X.i.length,X.b.length,N,0,0,[]⟩ X Z rfl rfl W).2.2
 rwa [On] at this
def C3.ext{u:Ty}{B:Nat}{old:Nat->Prop}{O:aa}{W:List RK}(h:C3 u B old O W){V:List LK}{Z:List XV}(N:cR V Z)(M:O.r.length=W.length)(J:∀b,uv u V Z b->B<=b\/old b):C3 u B old (O.ext Z) (W++f8 V):=by
 intro b ⟨k,e,L,I⟩;have H:k<(O.ext Z).r.length:=by rw[JV N M];exact(ayA.1 L).1
 have F:(O.ext Z).r[k]?=some ((O.ext Z).rv k):=by simp[aa.rv,H]
 have:=CP (PP:=λe X=>∀b,cm u e X b->B<=b\/old b) V Z ⟨[],[],O.i.length,O.b.length,W,0,0,[]⟩ O N M
  (λq e X R U b Q=>J b ⟨q,e,X,R,U,Q⟩) (λk e X R U b Q=>h b ⟨k,e,R,by
   have E:k<O.r.length:=(ayA.1 U).1;have:O.rv k=X:=by simp[aa.rv,U]
   rw[this];exact Q⟩)
 rw[On] at this;exact this k e _ L F b I
def JW(u:Ty)(D:List TypeId)(I:List LK)(C:World)(J:List LK)(M:List XV)(out:aQ):Ending->World->Prop
 |.returned v,X=>∃W Z,out=.ret W/\jD W Z/\cR I Z/\v=C2 (qL u D (lq I Z))/\Below C.heap.size C X/\uw u X I Z/\∀b,uv u I Z b->C.heap.size<=b\/uv u J M b
 |.panicked V,X=>Below C.heap.size C X/\∃v,out=.aR v/\V=[{v:=v,recovered:=false}]
 |.outgrown,_=>False
def C4(P:Program)(u:Ty)(E H:FuncId->Option (List TypeId))(G:World->Prop)(f:FuncId)(F:List XV->Option aQ):Prop:=
 ∀X D J I,E f=some X->H f=some D->eV u X=some J->eV u D=some I->∀(V Z:List XV)(out:aQ),F V=some out->jD V Z->cR J Z->∀W,G W->uw u W J Z->
  Calls P f (qL u X (lq J Z)).toArray W (JW u D I W J Z out)
section
variable{P:Program}{u:Ty}{E H:FuncId->Option (List TypeId)}{aO:jQ}{G:World->Prop}{C:World}{D:List TypeId}{I J:List LK}{M:List XV}{out:aQ}{old:Nat->Prop}
def JX(P:Program)(u:Ty)(C:World)(D:List TypeId)(I J:List LK)(M:List XV)(out:aQ):Sp:=⟨P,u,[],C,bz.none,JW u D I C J M out,λ_ _ _=>False⟩
def JY(u:Ty)(E H:FuncId->Option (List TypeId))(aO:jQ)(D:List TypeId)(out:aQ)(Z:Fr)(W:List Fr)(V:List XV)(n:Nat):Prop:=∃X,jD X V/\run u E H aO D n Z.t (Z.O.ext X) Z.rs (Z::W)=some out
def Ww(u:Ty)(E H:FuncId->Option (List TypeId))(aO:jQ)(C:World)(D:List TypeId)(old:Nat->Prop)(out:aQ)(Z:Fr)(W:List Fr)(N:Nat)(X:List XV):Prop:=
 (∀b,uv u Z.ks X b->C.heap.size<=b\/old b)/\∃n,n<=N/\JY u E H aO D out Z W X n
def aga(W:World)(Z:List PanicEntry)(X:World)(b:Nat)(o:Obj)(U:W.heap.size<=b)(h:JW u D I W J M out (.panicked Z) X):JW u D I W J M out (.panicked Z) (X.putObj b o):=
 ⟨⟨h.1.os,h.1.tape,h.1.output,by have:=h.1.size;simpa[World.putObj] using this,λk V=>(World.putObj_heap_other (by omega)).trans (h.1.block k V)⟩,h.2⟩
def aqq{p:Nat->Prop}:∀{n:Nat},p n->∃m,p m/\m<=n/\∀k,p k->m<=k:=by
 intro n;induction n using aAi with
 |ind n W=>
  intro h;by_cases X:∃k,k<n/\p k;obtain⟨k,Z,V⟩:=X;obtain⟨m,U,O,R⟩:=W k Z V;exact⟨m,U,by omega,R⟩;exact⟨n,h,ayH _,λk Z=>by by_cases Q:k<n;exact absurd ⟨k,Q,Z⟩ X;omega⟩
open Classical in
noncomputable def F8(p:Nat->Prop):Nat:=if h:∃m,p m/\∀k,p k->m<=k then Classical.choose h else 0
def agb{p:Nat->Prop}(h:p U):p (F8 p)/\F8 p<=U:=by
 obtain⟨m,X,V,W⟩:=aqq h;have Z:∃m,p m/\∀k,p k->m<=k:=⟨m,X,W⟩;unfold F8;rw[dif_pos Z];exact⟨(Classical.choose_spec Z).1,(Classical.choose_spec Z).2 U h⟩
inductive qM(u:Ty)(E H:FuncId->Option (List TypeId))(aO:jQ)(C:World)(D:List TypeId)(old:Nat->Prop)(out:aQ):Nat->List Fr->List LC->Prop where
 |nil (n:Nat):qM u E H aO C D old out n [] []
 |cons (n N m:Nat) (fr:Fr) (st:List Fr) (L:List LC):n<=m->m<=N->qM u E H aO C D old out n st L->
   qM u E H aO C D old out n (fr::st) (⟨fr.ao,Ww u E H aO C D old out fr st N,λxs=>F8 (JY u E H aO D out fr st xs),m⟩::L)
def qM.mono{X:Nat}{Z:List Fr}(h:qM u E H aO C D old out U Z t)(R:X<=U):qM u E H aO C D old out X Z t:=by
 induction h with
 |nil=>exact qM.nil _
 |cons N m Q Z t O W M V=>exact qM.cons _ _ _ _ _ _ (by omega) W V
def qM.find{ao:Nat}{W V:List Fr}{X:Fr}(h:qM u E H aO C D old out U W t)(Z:C1 ao W=some (X,V)):
  ∃N m,U<=m/\m<=N/\ke ao t=some ⟨X.ao,Ww u E H aO C D old out X V N,λQ=>F8 (JY u E H aO D out X V Q),m⟩:=by
 induction h with
 |nil=>simp[C1] at Z
 |cons N m y W t O M x J=>
  simp only[C1] at Z;split at Z;rename_i R;cases Z;exact⟨N,m,O,M,by simp[ke,R]⟩;rename_i R;obtain⟨I,F,B,A,z⟩:=J Z;exact⟨I,F,B,A,by simp only[ke,R,if_false];exact z⟩
def aqr(bd:∀f,C4 P u E H G f (aO f))(hG:∀W W',Below W.heap.size W W'->G W->G W')(bf:G C)(bg:eV u D=some I)(bk:∀ys b,uv u I ys b->old b->uv u J M b):
  ∀(n:Nat)(t:T)(F O:aa)(X:List RK)(w:List Fr)(L:List LC),run u E H aO D n t F X w=some out->fK F O->O.r.length=X.length->C3 u C.heap.size old O X->qM u E H aO C D old out n w L->
   t.aH (JX P u C D I J M out) O L:=by
 intro n;induction n using aAi with
 |ind n d=>
  intro t F O X w L h Z U R p;cases n with
  |zero=>simp[run] at h
  |succ n=>
   cases t with
   |out e s=>simp[run] at h
   |stuck m=>simp[run] at h
   |ret v bx al=>
    simp only[run] at h;split at h;rename_i a;obtain⟨hw,a3⟩:=Om a;unfold Wn at h;split at h;rename_i l ks q B;rw[bg] at B;cases B;split at h;rename_i ab;cases h;simp only[ayz] at ab;obtain⟨ab,bl⟩:=ab;intro y V W hR;have Z:fK F (O.at y):=⟨Z.i,Z.b,Z.len,Z.r⟩;have U:(O.at y).r.length=X.length:=U;have R:C3 u C.heap.size old (O.at y) X:=R;generalize O.at y=O at Z U R hR⊢;obtain⟨h1,h2⟩:=F7 (O:=O) (V:=V) ab;refine⟨_,l.map (SV.xv O),rfl,yE Z l,h2,by rw[af3 q,h1],JS hR.base,af9 hR (U.trans hw.len.symm) a3 ab bl,λb Q=>(R b (Wv hw (JU ab Q))).imp id (bk _ b Q)⟩;cases h;cases h;cases h
   |aR v=>
    simp only[run,azC] at h;obtain⟨pv,hv,rfl⟩:=h;intro y V W hO;have Z:fK F (O.at y):=⟨Z.i,Z.b,Z.len,Z.r⟩;refine⟨JS hO,pv,rfl, ?_⟩;unfold C0 at hv;split at hv;cases hv;simp only[SV.den,IE.bK Z];cases hv
   |node b t f=>
    simp only[run] at h;rw[BE.bK Z] at h;refine⟨λQ=> ?_,λQ=> ?_⟩;rw[if_pos Q] at h;exact d n (by omega) t F O X w L h Z U R (p.mono (by omega));rw[if_neg (by simp[Q])] at h;exact d n (by omega) f F O X w L h Z U R (p.mono (by omega))
   |aF b t=>
    simp only[run] at h;rw[BE.bK Z] at h;split at h;rename_i Q;exact⟨Q,d n (by omega) t F O X w L h Z U R (p.mono (by omega))⟩;cases h
   |call f cf bx al ks fe t=>
    simp only[run] at h;split at h;rename_i a;obtain⟨hw,a3⟩:=Om a;split at h;rename_i cl hx;unfold Wo at hx;split at hx;rename_i ps bo br bs;split at hx;rename_i l bt b0 r q b1 b2 b3;split at hx;rename_i hc;simp only[ayz,decide_eq_true_eq] at hc;obtain⟨⟨⟨c1,cp⟩,rfl⟩,c3⟩:=hc;cases hx;intro y V W hR;have an:fK F (O.at y):=⟨Z.i,Z.b,Z.len,Z.r⟩;have cs:C3 u C.heap.size old (O.at y) X:=R;obtain⟨a1,a2⟩:=F7 (O:=O.at y) (V:=V) c1;have hB:=JS hR.base;have b4:=af9 hR (U.trans hw.len.symm) a3 c1 cp;rw[Oi q,a1];cases ho:aO f (l.map (SV.xv F)) with
    |none=>rw[ho] at h;cases h
    |some o=>
     rw[ho] at h;refine(bd f ps bo bt b0 br bs b1 b2 _ _ o ho (yE an l) a2 W (hG _ _ hB bf) b4).mono ?_;intro e W' hE;cases e with
     |outgrown=>exact hE.elim
     |panicked ch=>
      obtain⟨e1,pv,rfl,rfl⟩:=hE;simp only[ayE] at h;subst h;exact⟨e1,aql hB e1,pv,rfl,rfl⟩
     |returned v=>
      obtain⟨yh,ys,rfl,e2,e3,rfl,e5,e6,e7⟩:=hE;rw[show SV.xv (O.at y)=SV.xv O from funext (SV.VR O y)] at e7;simp only at h;split at h;rename_i ct;refine⟨ys,e3, ?_,e5,af7 e6 (λb Q=>(e7 b Q).imp id (λb5=>JU c1 b5)), ?_⟩;rw[<-JH,af3 b3,JT c3 e3 (by rw[an.i]) (by rw[an.b]) (by rw[an.len])];refine d n (by omega) t _ _ _ w L h (Z.ext e2) (JV e3 U) (R.ext e3 U (λb Q=> ?_)) (p.mono (by omega));rcases e7 b Q with h1|h1;exact .inl (azF hB.size h1);exact R b (Wv hw (JU c1 h1));cases h
    cases hx;cases hx;cases hx;cases h;cases h
   |loop ao ks x0 t=>
    simp only[run] at h;split at h;rename_i ab;have cv:=(F7 (O:=O) (V:=[]) ab).2;refine⟨Ww u E H aO C D old out ⟨ao,ks,t,F,X++f8 ks⟩ w n,λxs=>F8 (JY u E H aO D out ⟨ao,ks,t,F,X++f8 ks⟩ w xs),⟨λb Q=>R b (JU ab Q),n,ayH _,x0.map (SV.xv F),yE Z x0,h⟩, ?_⟩;intro xs hf ⟨i1,n1,i2,i3⟩;obtain⟨⟨xh,j1,j2⟩,j3⟩:=agb i3;refine d _ (by omega) t _ _ _ _ _ j2 (Z.ext j1) (JV hf U) (R.ext hf U i1) ?_;exact qM.cons _ _ _ _ _ _ (ayH _) (azF j3 i2) (p.mono (by omega));cases h
   |back ao x=>
    simp only[run] at h;split at h;rename_i fr b6 b7;split at h;rename_i ab;obtain⟨N,m,g1,g2,g3⟩:=p.find b7;simp only[T.aH,g3];have a5:JY u E H aO D out fr b6 (x.map (SV.xv O)) n:=⟨x.map (SV.xv F),yE Z x,h⟩;refine⟨⟨λb Q=>R b (JU ab Q),n,by omega,a5⟩, ?_⟩;have:=(agb a5).2;omega;cases h;cases h
   |new e x al cx t=>
    simp only[run] at h;split at h;rename_i a;have hw:=af8 a;intro rv a6;obtain⟨A,m,c,rfl,hm⟩:=a6.val;subst hm;refine d n (by omega) t _ _ _ w L h (Z.add (Ob Z x)) (by simp[aa.add,U]) ?_ (p.mono (by omega));intro b ⟨k,e',B,q⟩;by_cases af:k<X.length;rw[ayD af] at B;refine R b ⟨k,e',B, ?_⟩;have:(O.add (.r (.mk (.slice A (x.rows O).length c) (x.rows O)))).rv k=O.rv k:=by simp[aa.rv,aa.add,ayD,U,af]
    rw[<-this];exact q;have ag:k=X.length:=by
     have:=(ayA.1 B).1;simp at this;omega
    subst ag;simp at B;subst B;have e1:(O.add (.r (.mk (.slice A (x.rows O).length c) (x.rows O)))).rv X.length=.mk (.slice A (x.rows O).length c) (x.rows O):=by rw[<-U];simp[aa.rv,aa.add]
    rw[e1] at q;have b8:=af4 q;rcases a6.lR b b8 with g|g|g;exact .inl g;cases g;exact R b (Wv hw g);cases h
   |rows k x al t=>
    simp only[run] at h;split at h;rename_i a;refine d n (by omega) t _ _ _ w L h (Z.add (Ob Z x)) (by simp[aa.add,U]) ?_ (p.mono (by omega));intro b ⟨k',e',B,q⟩;by_cases af:k'<X.length;rw[ayD af] at B;refine R b ⟨k',e',B, ?_⟩;have:(O.add (.r (eK x O))).rv k'=O.rv k':=by simp[aa.rv,aa.add,ayD,U,af]
    rw[<-this];exact q;have ag:k'=X.length:=by
     have:=(ayA.1 B).1;simp at this;omega
    subst ag;simp at B;subst B;cases k<;>simp[Wq] at a;cases q;cases h
   |dW g h' t f=>
    simp only[run] at h;rw[BE.bK Z,BE.bK Z] at h;refine⟨λQ=> ?_,λQ=> ?_⟩;rw[if_pos Q] at h;split at h;exact d n (by omega) t F O X w L (F5 h).1 Z U R (p.mono (by omega));exact d n (by omega) t F O X w L h Z U R (p.mono (by omega));simp only[Q,if_true] at h;split at h;exact d n (by omega) f F O X w L (F5 h).2 Z U R (p.mono (by omega));exact d n (by omega) f F O X w L h Z U R (p.mono (by omega))
   |pick m g h' t f=>
    simp only[run] at h;refine⟨λj h1 h2 h3=> ?_,λQ=> ?_⟩;have a7:fK (F.add (.i j)) (O.add (.i j)):=Z.add (x:=.i j) (y:=.i j) rfl;have hj:=F6 h _ (ay1.2 ⟨some j,aqj (g:=g) (h:=h') h1 (by rw[IE.bK Z];exact h2) (by rw[BE.bK a7];exact h3),rfl⟩);exact d n (by omega) t _ _ X w L hj a7 U R (p.mono (by omega));have hj:=F6 h _ (ay1.2 ⟨none,aqk (m:=m) (g:=g) (h:=h') (by rw[BE.bK Z];exact Q),rfl⟩);exact d n (by omega) f _ _ X w L hj Z U R (p.mono (by omega))
   |cA f g e sp sb r al t=>
    simp only[run] at h;split at h;rename_i a;simp only[ayz] at a;obtain⟨a,a0⟩:=a;have a8:=RE.bK Z r;split at h;rename_i ca a9;obtain⟨rows,a4,cy⟩:=afS Z a8.F1 a9;refine⟨rows,acF a4, ?_⟩;have bb:=Vg (acF a4);have cc:bj (.mk (r.rv F).val ca) (.mk (r.rv O).val rows):=a8.cA Z a9 a4;refine d n (by omega) t _ _ _ w L h (Z.add cc) (by simp[aa.add,U]) ?_ (p.mono (by omega));intro b ⟨k,e',B,q⟩;by_cases af:k<X.length;rw[ayD af] at B;refine R b ⟨k,e',B, ?_⟩;have:(O.add (.r (.mk (r.rv O).val rows))).rv k=O.rv k:=by simp[aa.rv,aa.add,ayD,U,af]
    rw[<-this];exact q;have ag:k=X.length:=by
     have:=(ayA.1 B).1;simp at this;omega
    subst ag;simp at B;subst B;have e1:(O.add (.r (.mk (r.rv O).val rows))).rv X.length=.mk (r.rv O).val rows:=by rw[<-U];simp[aa.rv,aa.add]
    rw[e1] at q;unfold Wp at a0;split at a0;rename_i k;exact R b ⟨k,_,of_decide_eq_true a0,aqf q bb⟩;cases q with
    |own e rv b q=>
     have h0:rows=[]:=by
      cases rows with
      |nil=>rfl
      |cons x xs=>have:=bb x (by simp);simp[RE.rv] at this
     subst h0;simp only[RE.rv] at q;cases q with
     |deep e v rows i j cI c z k b h1 h2 h3 h4=>simp at h1
    cases a0;cases h;cases h
def qN:List LK->Bool
 |[]=>true
 |.ref (.sl _)::_=>false
 |.ref (.own _)::_=>false
 |_::Z=>qN Z
def agc:∀{ks:List LK}{xs:List XV}{b:Nat},qN ks=true->¬uv u ks xs b
 |[],xs,b,_,⟨q,e,X,Z,_,_⟩=>by simp at Z
 |k::ks,xs,b,h,⟨0,e,X,Z,W,V⟩=>by
  simp at Z;subst Z;cases V<;>simp[qN] at h
 |k::ks,[],b,h,⟨q+1,e,X,Z,W,V⟩=>by simp at W
 |k::ks,x::xs,b,h,⟨q+1,e,X,Z,W,V⟩=>agc (ks:=ks) (xs:=xs) (b:=b) (by
   cases k with
   |ref r=>cases r<;>simp[qN] at h⊢<;>exact h
   |int _=>simpa[qN] using h
   |bool=>simpa[qN] using h) ⟨q,e,X,by simpa using Z,by simpa using W,V⟩
def dB(Z:List RV)(X:List XV):aa:=(⟨[],[],Z,[]⟩:aa).ext X
end
end
variable{h:aQ}
section
def JZ:SV->List SV
 |.agg l=>l
 |v=>[v]
def lu:List SV->List SV
 |[]=>[]
 |v::Z=>JZ v++lu Z
def qO:SV->List SV
 |.bh l=>lu l
 |v=>JZ v
def aqs:SV->Bool
 |.dD _ (.int _ _)=>true
 |_=>false
def nI:List LK->Nat
 |[]=>0
 |.int _::Z=>nI Z+1
 |_::Z=>nI Z
def nB:List LK->Nat
 |[]=>0
 |.bool::Z=>nB Z+1
 |_::Z=>nB Z
def agd(c:Ty)(d:List TypeId)(v:SV)(X:List RK):Bool:=match gw c d (ut d.length v),eV c d with
 |some l,some Z=>gQ c X Z l&&lO Z
 |_,_=>false
def age(c:Ty)(p s:FuncId->Option (List TypeId))(f:FuncId)(R:List SV)(Q P:Nat)(X:List RK)(W:List LK)(fe:SV):Bool:=match p f,s f with
 |some V,some Z=>match gw c V R,eV c V,eV c Z,gw c Z (ut Z.length fe) with
  |some l,some U,some O,some r=>gQ c X U l&&lO U&&decide (O=W)&&oC Q P X.length W r
  |_,_,_,_=>false
 |_,_=>false
def J0(ao:Nat):List (Nat×List LK)->Option (List LK)
 |[]=>none
 |x::Z=>if x.1=ao then some x.2 else J0 ao Z
def T.dY(c:Ty)(p s:FuncId->Option (List TypeId))(d:List TypeId):T->Nat->Nat->List RK->List (Nat×List LK)->Bool
 |.ret v _ R,_,_,Z,_=>yC Z R&&agd c d v R
 |.aR v,_,_,_,_=>aqs v
 |.node _ t f,W,V,Z,X=>t.dY c p s d W V Z X&&f.dY c p s d W V Z X
 |.aF _ t,W,V,Z,X=>t.dY c p s d W V Z X
 |.call f Q _ R U fe t,W,V,Z,X=>yC Z R&&age c p s f Q W V R U fe&&t.dY c p s d (W+nI U) (V+nB U) (Z++f8 U) X
 |.loop ao U P t,W,V,Z,X=>gQ c Z U P&&t.dY c p s d (W+nI U) (V+nB U) (Z++f8 U) ((ao,U)::X)
 |.back ao x,_,_,Z,X=>match J0 ao X with
  |some U=>gQ c Z U x
  |none=>false
 |.new e _ R _ t,W,V,Z,X=>yD Z R&&t.dY c p s d W V (Z++[.own e]) X
 |.rows k _ _ t,W,V,Z,X=>Wq k&&t.dY c p s d W V (Z++[k]) X
 |.dW _ _ t f,W,V,Z,X=>t.dY c p s d W V Z X&&f.dY c p s d W V Z X
 |.pick _ _ _ t f,W,V,Z,X=>t.dY c p s d (W+1) V Z X&&f.dY c p s d W V Z X
 |.cA _ _ e _ _ r R t,W,V,Z,X=>yD Z R&&Wp Z r e&&t.dY c p s d W V (Z++[.own e]) X
 |.stuck _,_,_,_,_=>true
 |.out _ _,_,_,_,_=>false
structure Lp where
 ao:Nat
 t:T
 O:aa
def nA(ao:Nat):List Lp->Option (Lp×List Lp)
 |[]=>none
 |x::Z=>if x.ao=ao then some (x,Z) else nA ao Z
def exec(aO:jQ):Nat->T->aa->List Lp->Option aQ
 |0,_,_,_=>none
 |_+1,.ret v _ _,O,_=>some (.ret ((qO v).map (SV.xv O)))
 |_+1,.aR v,O,_=>(C0 O v).map .aR
 |n+1,.node b t f,O,Z=>if b.den O then exec aO n t O Z else exec aO n f O Z
 |n+1,.aF b t,O,Z=>if b.den O then exec aO n t O Z else none
 |n+1,.call f V _ _ U _ t,O,Z=>match aO f ((lu V).map (SV.xv O)) with
  |some (.ret W)=>if dj U W then exec aO n t (O.ext W) Z else none
  |some (.aR v)=>some (.aR v)
  |none=>none
 |n+1,.loop ao _ R t,O,Z=>exec aO n t (O.ext (R.map (SV.xv O))) (⟨ao,t,O⟩::Z)
 |n+1,.back ao x,O,Z=>match nA ao Z with
  |some (X,Q)=>exec aO n X.t (X.O.ext (x.map (SV.xv O))) (X::Q)
  |none=>none
 |n+1,.new _ x _ _ t,O,Z=>exec aO n t (O.add (.r (eK x O))) Z
 |n+1,.rows _ x _ t,O,Z=>exec aO n t (O.add (.r (eK x O))) Z
 |n+1,.dW g h t f,O,Z=>if g.den O then(if h.den O then wb (exec aO n t O Z) (exec aO n f O Z) else exec aO n t O Z) else(if h.den O then exec aO n f O Z else none)
 |n+1,.pick m g h t f,O,Z=>oD ((nz m g h O).map λj=>match j with
  |some j=>exec aO n t (O.add (.i j)) Z
  |none=>exec aO n f O Z)
 |n+1,.cA _ _ _ P N r _ t,O,Z=>match jM O P N (r.rv O).rows with
  |some M=>exec aO n t (O.add (.r (.mk (r.rv O).val M))) Z
  |none=>none
 |_,_,_,_=>none
def aqt{Z:LK}(h:Ap k N Z e=true):JZ e=[e]:=by
 unfold Ap at h;split at h<;>first|rfl|cases h
def J1{c:Ty}{R:List RK}:∀{d:List TypeId}{O l:List SV}{Z:List LK},gw c d O=some l->eV c d=some Z->gQ c R Z l=true->lu O=l
 |[],[],l,Z,h,_,_=>by simp[gw] at h;simp[lu,h]
 |[],_::_,l,Z,h,_,_=>by simp[gw] at h
 |_::_,[],l,Z,h,_,_=>by simp[gw] at h
 |t::d,v::O,l,Z,h,Q,N=>by
  simp only[gw] at h;split at h;rename_i D r H M;simp only[eV,H] at Q;split at Q;rename_i C L G J;cases G;cases Q;have I:∀(a:List LK)(b:List SV),a.length=b.length->gQ c R (a++L) (b++r)=true->gQ c R a b=true/\gQ c R L r=true:=by
   intro a;induction a with
   |nil=>intro b P V;cases b with
    |nil=>exact⟨rfl,V⟩
    |cons=>simp at P
   |cons k a F=>intro b P V;cases b with
    |nil=>simp at P
    |cons x b=>
     simp only[ayP,gQ,ayz] at V⊢;obtain⟨X,U⟩:=F b (by simpa using P) V.2;exact⟨⟨V.1,X⟩,U⟩
  split at h;split at h;rename_i B;split at h;rename_i W;simp only[beq_iff_eq] at W;cases h;obtain⟨X,U⟩:=I _ _ (by simp[W]) N;simp only[lu,JZ,J1 M J U];cases h;cases h;split at h;rename_i W;simp only[beq_iff_eq] at W;cases h;obtain⟨X,U⟩:=I _ [v] (by simp[W]) N;obtain⟨A,E⟩:=ay5.1 W;rw[E] at X;simp only[ayO,azT,gQ,aAn] at X;simp only[lu,aqt X,J1 M J U,ayP,ayU];cases h;cases Q;cases h
def aqu{d:List TypeId}(h:gw k d (ut d.length e)=some Q)(W:eV k d=some r)(X:gQ k N r Q=true):qO e=Q:=by
 rw[<-J1 h W X];cases e
 case bh J=>
  simp only[ut,qO];split;rename_i V;simp only[beq_iff_eq] at V;exfalso;have R:=J1 h W X;simp only[ut,V,beq_self_eq_true,if_true] at h R;obtain⟨t,P⟩:=ay5.1 V;subst P;simp only[gw,eV] at h W;split at h;rename_i I Z V O;cases O;split at h;cases h;split at h;rename_i U;cases h;rw[V] at W;simp only[ayE] at W;subst W;simp only[beq_iff_eq] at U;obtain⟨H,M⟩:=ay5.1 U;rw[M] at X;simp only[ayO,azT,aAc,gQ,aAn] at X;unfold Ap at X;split at X<;>first|(rename_i L;cases L)|cases X
  cases h;cases h;rfl
 all_goals simp[ut,qO,lu]
section
variable{c:Ty}{p s:FuncId->Option (List TypeId)}{aO:jQ}{d:List TypeId}
def Aq:∀{Z:List LK}{X:List XV}{O:aa},cR Z X->(O.ext X).i.length=O.i.length+nI Z/\(O.ext X).b.length=O.b.length+nB Z/\(O.ext X).r.length=O.r.length+(f8 Z).length
 |[],[],O,_=>⟨rfl,rfl,rfl⟩
 |[],_::_,O,h=>h.elim
 |_::_,[],O,h=>h.elim
 |k::Z,x::X,O,h=>by
  obtain⟨W,V⟩:=h;obtain⟨U,R,Q⟩:=Aq (O:=O.add x) V;simp only[aa.ext,U,R,Q];cases k<;>cases x<;>simp only[ng] at W<;>simp[aa.add,nI,nB,f8]<;>omega
inductive wc(c:Ty)(p s:FuncId->Option (List TypeId))(d:List TypeId):List (Nat×List LK)->List Lp->List Fr->Prop where
 |nil:wc c p s d [] [] []
 |cons (ao:Nat) (ks:List LK) (t:T) (O:aa) (rs:List RK) (lv:List (Nat×List LK)) (sl:List Lp) (st:List Fr):O.r.length=rs.length->t.dY c p s d (O.i.length+nI ks) (O.b.length+nB ks) (rs++f8 ks) ((ao,ks)::lv)=true->wc c p s d lv sl st->
   wc c p s d ((ao,ks)::lv) (⟨ao,t,O⟩::sl) (⟨ao,ks,t,O,rs++f8 ks⟩::st)
def wc.find{R:List (Nat×List LK)}{P N:List Lp}{Q:List Fr}{Z:Lp}(h:wc c p s d R P Q)(X:J0 U R=some r)(W:nA U P=some (Z,N)):
  ∃V M L,C1 U Q=some (⟨Z.ao,r,Z.t,Z.O,V++f8 r⟩,L)/\Z.O.r.length=V.length/\Z.t.dY c p s d (Z.O.i.length+nI r) (Z.O.b.length+nB r) (V++f8 r) ((Z.ao,r)::M)=true/\wc c p s d M N L:=by
 induction h with
 |nil=>simp[J0] at X
 |cons I D t O V R P Q H G F E=>
  simp only[J0,nA,C1] at X W⊢;by_cases J:I=U;rw[if_pos J] at X W⊢;cases X;cases W;exact⟨V,R,Q,rfl,H,G,F⟩;rw[if_neg J] at X W⊢;exact E X W
def pK:∀(n:Nat)(t:T)(O:aa)(R:List RK)(X:List (Nat×List LK))(W:List Lp)(U:List Fr)(o:aQ),exec aO n t O W=some o->t.dY c p s d O.i.length O.b.length R X=true->O.r.length=R.length->wc c p s d X W U->
  run c p s aO d n t O R U=some o
 |0,t,O,R,X,W,U,o,h,_,_,_=>by simp[exec] at h
 |n+1,.out _ _,O,R,X,W,U,o,h,_,_,_=>by simp[exec] at h
 |n+1,.stuck _,O,R,X,W,U,o,h,_,_,_=>by simp[exec] at h
 |n+1,.ret v bx M,O,R,X,W,U,o,h,Z,Q,P=>by
  simp only[exec,ayE] at h;simp only[T.dY,ayz] at Z;obtain⟨E,Z⟩:=Z;simp only[run,E,if_true,Wn];unfold agd at Z;split at Z
  ·rename_i l L D C
   try rw[D,C]
   simp only[Z,if_true];simp only[ayz] at Z;rw[<-aqu D C Z.1,h]
  cases Z
 |n+1,.aR v,O,R,X,W,U,o,h,Z,Q,P=>by simpa only[exec,run] using h
 |n+1,.node b t f,O,R,X,W,U,o,h,Z,Q,P=>by
  simp only[exec] at h;simp only[T.dY,ayz] at Z;simp only[run];split at h;rename_i J;rw[if_pos J];exact pK n t O R X W U o h Z.1 Q P;rename_i J;rw[if_neg J];exact pK n f O R X W U o h Z.2 Q P
 |n+1,.aF b t,O,R,X,W,U,o,h,Z,Q,P=>by
  simp only[exec] at h;simp only[T.dY] at Z;simp only[run];split at h;rename_i J;rw[if_pos J];exact pK n t O R X W U o h Z Q P;cases h
 |n+1,.call f a0 bx M L fe t,O,R,X,W,U,o,h,Z,Q,P=>by
  simp only[exec] at h;simp only[T.dY,ayz] at Z;obtain⟨⟨E,N⟩,ab⟩:=Z;have af:=(Om E).1.len;simp only[run,E,if_true,Wo];unfold age at N;split at N
  ·rename_i ps qs D C
   try rw[D,C]
   try simp only
   split at N
   ·rename_i l pk qk r y w g3 g4
    try rw[y,w,g3,g4]
    try simp only
    rw[af,<-Q] at N;rw[if_pos N];simp only[ayz] at N;rw[J1 y w N.1.1.1] at h
    try simp only
    split at h
    ·rename_i ys A
     try rw[A]
     try simp only
     split at h;rename_i u;rw[if_pos u];obtain⟨I,H,G⟩:=Aq (O:=O) (aqn u);exact pK n t _ _ X W U o h (by rw[I,H];exact ab) (by rw[G,ayN,Q]) P;cases h
    ·rename_i v A;(try rw[A]);exact h
    cases h
   cases N
  cases N
 |n+1,.loop ao L x0 t,O,R,X,W,U,o,h,Z,Q,P=>by
  simp only[exec] at h;simp only[T.dY,ayz] at Z;simp only[run,Z.1,if_true];obtain⟨I,H,G⟩:=Aq (O:=O) (F7 (O:=O) (V:=[]) Z.1).2;exact pK n t _ _ ((ao,L)::X) _ _ o h (by rw[I,H];exact Z.2) (by rw[G,ayN,Q]) (wc.cons _ _ _ _ _ _ _ _ Q Z.2 P)
 |n+1,.back ao x,O,R,X,W,U,o,h,Z,Q,P=>by
  simp only[exec] at h;simp only[T.dY] at Z;split at h;rename_i B ag hf;split at Z;rename_i L hk;obtain⟨M,al,a1,q1,a,q3,q4⟩:=P.find hk hf;simp only[run,q1,Z,if_true];obtain⟨I,H,G⟩:=Aq (O:=B.O) (F7 (O:=O) (V:=[]) Z).2;exact pK n B.t _ _ ((B.ao,L)::al) (B::ag) _ o h (by rw[I,H];exact q3) (by rw[G,ayN,a]) (wc.cons _ _ _ _ _ _ _ _ a q3 q4);cases Z;cases h
 |n+1,.new e x M a2 t,O,R,X,W,U,o,h,Z,Q,P=>by
  simp only[exec] at h;simp only[T.dY,ayz] at Z;simp only[run,Z.1,if_true];exact pK n t _ _ X W U o h (by simpa[aa.add] using Z.2) (by simp[aa.add,Q]) P
 |n+1,.rows k x M t,O,R,X,W,U,o,h,Z,Q,P=>by
  simp only[exec] at h;simp only[T.dY,ayz] at Z;simp only[run,Z.1,if_true];exact pK n t _ _ X W U o h (by simpa[aa.add] using Z.2) (by simp[aa.add,Q]) P
 |n+1,.dW g h' t f,O,R,X,W,U,o,h,Z,Q,P=>by
  simp only[exec] at h;simp only[T.dY,ayz] at Z;simp only[run];have i1:=λq=>pK n t O R X W U o q Z.1 Q P
  have i2:=λq=>pK n f O R X W U o q Z.2 Q P
  split at h;rename_i z;rw[if_pos z];split at h;rename_i F;rw[if_pos F];exact afY h i1 i2;rename_i F;rw[if_neg F];exact i1 h;rename_i z;rw[if_neg z];split at h;rename_i F;rw[if_pos F];exact i2 h;cases h
 |n+1,.pick m g h' t f,O,R,X,W,U,o,h,Z,Q,P=>by
  simp only[exec] at h;simp only[T.dY,ayz] at Z;simp only[run];refine afZ h λj _ q=> ?_
  cases j with
  |some j=>exact pK n t (O.add (.i j)) R X W U o q (by simpa[aa.add] using Z.1) (by simpa[aa.add] using Q) P
  |none=>exact pK n f O R X W U o q Z.2 Q P
 |n+1,.cA f g e sp sb r M t,O,R,X,W,U,o,h,Z,Q,P=>by
  simp only[exec] at h;simp only[T.dY,ayz] at Z;simp only[run,Z.1.1,Z.1.2,azV,if_true];split at h
  ·rename_i a3 an
   try rw[an]
   exact pK n t _ _ X W U o h (by simpa[aa.add] using Z.2) (by simp[aa.add,Q]) P
  cases h
def qP(aO:jQ)(t:T)(O:aa)(Z:List Lp)(o:aQ):Prop:=∃n,exec aO n t O Z=some o
def F9{aO:jQ}{t:T}{O:aa}{Z:List Lp}{o:aQ}:qP aO t O Z o<->∃n,exec aO (n+1) t O Z=some o:=
 ⟨λ⟨n,h⟩=>by
  cases n with
  |zero=>simp[exec] at h
  |succ n=>exact⟨n,h⟩,λ⟨n,h⟩=>⟨n+1,h⟩⟩
@[simp] def axF {v:SV} {Z:aX} {X:List RK} {O:aa} {W:List Lp} {o:aQ}:qP aO (.ret v Z X) O W o<->o=.ret ((qO v).map (SV.xv O)):=by
 rw[F9];simp only[exec,ayE];exact⟨λ⟨_,h⟩=>h.symm,λh=>⟨0,h.symm⟩⟩
@[simp] def axG {v:SV} {O:aa} {Z:List Lp} {o:aQ}:qP aO (.aR v) O Z o<->(C0 O v).map .aR=some o:=by
 rw[F9];simp only[exec];exact⟨λ⟨_,h⟩=>h,λh=>⟨0,h⟩⟩
@[simp] def axH {b:BE} {f:T} {Z:List Lp}:qP aO (.node b n f) X Z h<->if b.den X=true then qP aO n X Z h else qP aO f X Z h:=by
 rw[F9];simp only[exec];split<;>rfl
@[simp] def axI {b:BE} {Z:List Lp}:qP aO (.aF b n) X Z h<->b.den X=true/\qP aO n X Z h:=by
 rw[F9];simp only[exec];by_cases W:b.den X=true;simp only[W,if_true,true_and];rfl;simp[W]
@[simp] def axJ {Z:List Lp}:qP aO (.loop U r Q n) X Z h<->qP aO n (X.ext (Q.map (SV.xv X))) (⟨U,n,X⟩::Z) h:=by
 rw[F9];simp only[exec];rfl
@[simp] def axK {x:LE} {W:List RK} {Z:List Lp}:qP aO (.new v x N W n) X Z h<->qP aO n (X.add (.r (eK x X))) Z h:=by
 rw[F9];simp only[exec];rfl
end
end
section
structure nC(P:Program)(g:FuncId)(eT:TypeId):Prop where
 ym:∀args W,(callFunc g args).run P W=.ok (.enter g args) W
 ret:∀(W:World)(b:Nat),CallsDIn Fence.wide 0 P g #[.pointer (some ⟨b,0,none⟩)] .returning W λen u W'=>(∃v,en=.returned v)/\u=.returning/\W'=W
 aR:∀(W:World)(b:Nat)(k0 k:Int),W.heap[b]?=some (.cells #[.int .i64 k0] eT (0,0))->CallsDIn Fence.wide 0 P g #[.pointer (some ⟨b,0,none⟩)] (.panicking [{v:=.iface eT (.int .i64 k),recovered:=false}]) W λen u W'=>
  (∃v,en=.returned v)/\u=.panicking [{v:=.iface eT (.int .i64 k),recovered:=true}]/\W'=W.putObj b (.cells #[.int .i64 k] eT (0,0))
def aqv{c:Code}{d:DI}(h:qC c=some d):∃R Q V Z X first U W,c=.seq (.region R d.oj false) (.seq (.region Q V false) d.rest)/\V= #[Z,X]/\Z.op=.makeFunc (.func d.g) first U/\first= #[]/\U= #[.tmp d.te]/\Z.dst=some d.tf/\Z.guard=none/\X.op=.defer W/\W.callee=.value (.tmp d.tf)/\W.args= #[]/\X.guard=none/\X.dst=none:=by
 unfold qC at h;split at h;rename_i R oj Q V C;unfold acD at h;split at h;rename_i Z X O;split at h;rename_i g first U B W N M L J I H
 split at h;rename_i A z G F E D;split at h;rename_i P;simp only[beq_iff_eq] at P;subst P;cases h;exact⟨R,Q,V,Z,X,first,U,W,rfl,by apply azv;simp[O],N,by apply azv;simp[G],by apply azv;simp[F],M,L,J,E,by apply azv;simp[D],I,H⟩;cases h;cases h;cases h;cases h;cases h
section
variable{p:Sp}{cf:aY}
def aqw(w:iW p cf)(a0:∀ch W,¬p.R (.panicked ch) W){I:Func}{c:Code}(hf:p.P.funcs[F]?=some I)(hb:I.body=some c){d:DI}(j:qC c=some d)(bZ:nC p.P d.g v)
  (ht:I6 cf U F c I.ntmps I.results.toList v Q y=n)(H:n.aH p X [])(hg:dg cf.gl X)(R:ap p.S0 p.w0 bz.none cf.ty Z X {y with tmps:=[]} ⟨#[],[]⟩ p.w0):
  Calls p.P F (SV.au X Z Q).toArray p.w0 p.R:=by
 subst ht;unfold I6 at H;rw[j] at H;simp only at H;obtain⟨i0,i1,cv,r,q,first,cx,dc,hc,ho,g1,g2,g3,g4,g5,g6,g7,g8,g9,bo⟩:=aqv j;subst ho g2 g3;refine JG hf hb ?_;rw[hc];obtain⟨D1,al⟩:∃D1:bz,D1=⟨[],[],true,[]⟩:=⟨_,rfl⟩;have br:cG p.w0 D1 y.pd X.y [] p.w0:=by
  subst al;have h:=R.bY;exact⟨h.len,h.oo,h.cC,h.inj,[],rfl,λ_=>rfl,by simp,λd j=>by simp at j⟩
 have RE:=R.enter Q I.ntmps br;obtain⟨Rr,a2⟩:=RE.room (jy d.oj.toList);refine VP (yz (n:=0) (wpIn_region ?_));have hY:=CX (p:=p) (cf:=cf) D1.cC ⟨{y with tmps:=Q++ayJ (I.ntmps-Q.length) (.bh [])},X,Z,[]⟩;have a3:=yj (ops:=d.oj) w.pt w.vF (yw none) w.jo (NX w (N7 w U).1 hY) (D:=D1) (k:=Uq cf U F d v y.boxes.length I.results.toList) (kp:=λ_ _=>.stuck "") (Q:=Exit.then (λC B=>gP none F p.P (.seq (.region i1 #[r,q] false) d.rest) (bodyPostM Fence.wide 0 p.P I p.R) C B) (bodyPostM Fence.wide 0 p.P I p.R)) (λch C B pd N hA hR=>(a0 ch B hR).elim) (n:=0) (eo (λ_=>false) true false 0 y.boxes.length d.oj.toList) 0 _ [] [] X _ _ p.w0
  (λi m' hi=>by have:=JK _ _ _ _ _ _ _ _ hi;simpa using this) ((iU.here _ _ _ _).go a2 (bW.refl _ _)) H (λx hx=>by cases hx) Rr hg ?_ (λM s' o V' C B L' hl hL R' bs=>bs.elim)
 rw[VU] at a3;simpa[aAo] using a3;intro b a J E A L1 lT cy R1 ab;show gP none F p.P (.seq (.region i1 #[r,q] false) d.rest) (bodyPostM Fence.wide 0 p.P I p.R) E A;unfold Uq at ab;split at ab;rename_i L bx;split at ab;rename_i a4;simp only[ayz,ayS,decide_eq_true_eq] at a4;obtain⟨⟨a5,b0⟩,b1⟩:=a4;have b2:E.tmps[d.te]?=some (.pointer (some ⟨ad J L,0,none⟩)):=by
  rcases R1.tmps _ _ bx with h|h;cases h;exact h
 have b3:E.defers=[]:=by
  have h:=R1.bY;rw[al] at h;obtain⟨ms,q1,q0,-,-⟩:=h.jL;have:=q0 rfl;subst this;simpa using q1
 have b4:(SV.fn d.g [.loc L 0]).den a J=.func (.func d.g) #[] #[.pointer (some ⟨ad J L,0,none⟩)]:=by simp[SV.den,SV.au]
 have z:=R1.put (some d.tf) (.fn d.g [.loc L 0]);rw[b4] at z;obtain⟨G,ag⟩:∃G:Deferred,G={target:=.fn (.func d.g) #[.pointer (some ⟨ad J L,0,none⟩)],args:= #[]}:=⟨_,rfl⟩;have b5:cG p.w0 ⟨[],[],false,[G]⟩ b.pd a.y [G] A:=by
  have h:=R1.bY;rw[al] at h;exact⟨h.len,h.oo,h.cC,h.inj,[],rfl,λ_=>rfl,by simp,λd j=>by simp at j⟩
 have cI:(b.put (some d.tf) (.fn d.g [.loc L 0])).pd=b.pd:=rfl;have R2:ap p.S0 p.w0 ⟨[],[],false,[G]⟩ cf.ty J a (b.put (some d.tf) (.fn d.g [.loc L 0])) {E.put (some d.tf) (.func (.func d.g) #[] #[.pointer (some ⟨ad J L,0,none⟩)]) with defers:=[G]} A:=
  ⟨z.mem,z.dS,z.ei,z.eb,z.er,b5,z.size,z.tmps,z.dK⟩
 refine VP (yz (n:=0) (wpIn_region ?_));have b6:ayQ (#[r,q]:Array Oper).size=[0,1]:=rfl;rw[b6];have e1:(execOp E.eval r).run p.P A=.ok (.value (.func (.func d.g) #[] #[.pointer (some ⟨ad J L,0,none⟩)])) A:=by
  have:E.eval (.tmp d.te)=.pointer (some ⟨ad J L,0,none⟩):=by simp[Act.eval,aBm,b2]
  simp[execOp,g1,this,Instr.makeFunc]
 have e2:(execOp (E.put (some d.tf) (.func (.func d.g) #[] #[.pointer (some ⟨ad J L,0,none⟩)])).eval q).run p.P A=.ok (.defer G) A:=by
  have b7:d.tf<E.tmps.size:=by rw[R1.size];exact b1
  have:(E.put (some d.tf) (.func (.func d.g) #[] #[.pointer (some ⟨ad J L,0,none⟩)])).eval (.tmp d.tf)=.func (.func d.g) #[] #[.pointer (some ⟨ad J L,0,none⟩)]:=by
   simp[Act.eval,Act.put,aBm,b7]
  simp[execOp,g6,resolve,g7,g8,this,Deferred.ofValue,ag]
 have b8:Region.wanted r (yielded #[r,q] E.tmps)=true:=by simp[Region.wanted,g5]
 have ca:∀N,Region.wanted q N=true:=λN=>by simp[Region.wanted,g9]
 have cc:∀c',r.op≠ .defer c':=λc' a6=>by rw[g1] at a6;cases a6
 have hF:=yw none;show wpOpsIn _ 0 p.P #[r,q] _ [0,1] E A;simp only[wpOpsIn,aA7,azl,azb,b8,ca,if_true];refine⟨λF _=>hF.fn F, ?_⟩;rw[Oper.semAt_eq _ _ _ cc,e1,Oper.uponIn_value,g4];refine⟨λF _=>hF.fn F, ?_⟩;rw[show(NS none).round=none from rfl,Oper.semAt_none,e2,Oper.uponIn_defer];have cl:({(E.put (some d.tf) (.func (.func d.g) #[] #[.pointer (some ⟨ad J L,0,none⟩)])) with defers:=G::(E.put (some d.tf) (.func (.func d.g) #[] #[.pointer (some ⟨ad J L,0,none⟩)])).defers}:Act).put q.dst undef={E.put (some d.tf) (.func (.func d.g) #[] #[.pointer (some ⟨ad J L,0,none⟩)]) with defers:=[G]}:=by
  rw[bo];have:(E.put (some d.tf) (.func (.func d.g) #[] #[.pointer (some ⟨ad J L,0,none⟩)])).defers=[]:=b3;rw[this];rfl
 rw[cl];show gP none F p.P d.rest (bodyPostM Fence.wide 0 p.P I p.R) _ A;have cp:(iU.mk (b.put (some d.tf) (.fn d.g [.loc L 0])) a J L1).nx (b.put (some d.tf) (.fn d.g [.loc L 0])) a J L1:=iU.here _ _ _ _;refine(N7 w U).1 ⟨[],[],false,[G]⟩ _ fD none F d.rest _ _ L1 a J _ A _ (CX _ _) cp rfl (λhh=>by cases hh) ⟨I,hf⟩ ab R2 ((hg.ext a2.ext).ext lT.ext) (λch C B pd N hA hR=>(a0 ch B hR).elim) ?_;intro e s' o V' C B L' hl hL RR H;obtain⟨a7,q1,q0,q2,q3⟩:=RR.bY.jL;have R3:=RR.ny q1;have c0:({C with defers:=[G]}:Act)={C with defers:=[G]}:=rfl;have a8:∀d0∈a7,B.heap[d0]?=some (.deferred (some [])):=λd0 cs=>(q3 d0 (by simp[cs])).1
 have a9:a7.Nodup:=(azA.1 q2).1;have bb:ad V' L=ad J L:=hl.ext.ad L b0;have bd:∀m,(invoke G.target G.args).run p.P m=.ok (.enter d.g #[.pointer (some ⟨ad J L,0,none⟩)]) m:=λm=>by
  rw[ag];simp[invoke,bZ.ym]
 have bf:∀s2:S,∀m,ap p.S0 p.w0 ⟨[],[],false,[G]⟩ cf.ty V' o s2 {C with defers:=[G]} m->(E8 cf y.boxes.length I.results.toList s2).aH p o L'->LeavesInM Fence.wide 0 p.P I C.tmps p.R [] .returning m:=by
  intro s2 m R4 af;unfold E8 at af;split at af;rename_i l ct;refine⟨_,Jv R4 w.jo ct, ?_⟩;exact af o.y V' _ (by rw[w.pt];exact(R4.mem.take _).jP (N2 _));exact af.elim
 have bg:(E8 cf y.boxes.length I.results.toList s').aH p o L'->LeavesInM Fence.wide 0 p.P I C.tmps p.R C.defers .returning B:=by
  intro af;rw[q1];refine pI (by simp) a9 a8 ⟨by simp,.inr ⟨by simp[Fence.wide],_,_,_,_,by rw[ag],bd _,λg hg=>trivial, ?_⟩⟩;refine(bZ.ret _ _).mono ?_;rintro en u W4 ⟨⟨M,rfl⟩,rfl,rfl⟩;exact bf s' _ R3 af
 cases e with
 |normal=>exact bg H
 |ret=>exact bg H
 |exit id=>exact H.elim
 |aR M=>
  simp only[Uo] at H;split at H;rename_i tt x;split at H;rename_i bt N bk;split at H;rename_i bl;simp only[ayz,beq_iff_eq] at bl;obtain⟨rfl,rfl⟩:=bl;have an:=R3.mem.box L bt _ bk;rw[ou a5] at an;rw[bb] at an;show LeavesInM Fence.wide 0 p.P I C.tmps p.R C.defers (.panicking _) B;rw[q1];refine pI (by simp) a9 a8 ⟨by simp,.inr ⟨by simp[Fence.wide],_,_,_,_,by rw[ag],bd _,λg hg=>trivial, ?_⟩⟩;refine(bZ.aR _ (ad J L) (N.den o) (x.den o) an).mono ?_;rintro en u W4 ⟨⟨M,rfl⟩,rfl,rfl⟩;have R4:=R3.adw (cs':=[.int .i64 x]) bk;rw[ou a5,bb] at R4;exact bf _ _ R4 H;exact H.elim;exact H.elim;exact H.elim
 exact ab.elim;exact ab.elim
end
end
section
section
variable{P:Program}{a:Ty}{u x:FuncId->Option (List TypeId)}{aO:jQ}{G:World->Prop}{s A:List TypeId}{z m:List LK}
structure J2(a:Ty)(gl:List (Nat×Nat×Nat))(glk:List RK)(glv:List RV)(W:World)(glw:List RV):Prop where
 len:glv.length=glw.length
 eq:∀(k:Nat)(v v':RV),glv[k]?=some v->glw[k]?=some v'->bj v v'
 held:∀(k:Nat)(e:RK)(rv:RV),glk[k]?=some e->glw[k]?=some rv->aW W a e rv
 agf:∀xs,dg gl (dB glw xs)
def agh{D:aY}{J:List RK}{Q:List RV}{C l:List SV}{t:T}{n g:Nat}{U:List RK}
  (af:D.ty=a)(ag:∀f,C4 P a u x G f (aO f))(hG:∀W d,Below W.heap.size W d->G W->G d)(al:eV a s=some z)
  (c:gw a A C=some l)(an:oC 0 0 Q.length m l=true)(bA:U=J++f8 m)(a0:∀(k:Nat)(t:TypeId),U[k]?≠some (.own t))(a1:Q.length=J.length)(I:Q=[]\/qN z=true)
  (a2:∀X Z,cR m Z->(dB X Z).i.length=n)(a3:∀X Z,cR m Z->(dB X Z).b.length=g)
  {W:World}(a4:G W){X:List RV}(O:J2 a D.gl J Q W X){B Z:List XV}{o:aQ}{N:Nat}(hN:run a u x aO s N t (dB Q B) U []=some o)(hx:jD B Z)(M:cR m Z)(hH:uw a W m Z):
  t.aH (JX P a W s z m Z o) (dB X Z) []/\SV.au (dB X Z) [] C=qL a A (lq m Z)/\ap [] W bz.none D.ty [] (dB X Z) ⟨[],[],n,g,U,0,0,[]⟩ ⟨#[],[]⟩ W:=by
 have E:X.length=J.length:=by rw[<-O.len];exact a1
 have hv:SV.au (dB X Z) [] C=qL a A (lq m Z):=by
  rw[Oi c,dB,JT (by rw[<-O.len];exact an) M rfl rfl rfl]
 have ab:(dB X Z).r.length=U.length:=by rw[bA];exact JV M E
 have hS:fK (dB Q B) (dB X Z):=fK.ext ⟨rfl,rfl,O.len,λk v v' w p=>O.eq k v v' w p⟩ hx;have a5:t.aH (JX P a W s z m Z o) (dB X Z) []:=by
  refine aqr (old:=λb=>uv a m Z b\/X≠[]) ag hG a4 al (λys b L H=> ?_) N t _ _ U [] [] hN hS ab ?_ (qM.nil _);rcases H with H|H;exact H;rcases I with I|I;subst I;have:X=[]:=azw.1 (by rw[<-O.len];rfl);exact absurd this H;exact(agc I L).elim;rw[bA];refine C3.ext (λb L=> ?_) M E (λb L=>.inr (.inl L));obtain⟨k,e,hk,c⟩:=L;refine .inr (.inr (λhe=> ?_));subst he;have:=(ayA.1 hk).1;simp at E;omega
 have a6:∀(k:Nat)(e:RK)(V:RV),U[k]?=some e->(dB X Z).r[k]?=some V->aW W a e V:=by
  intro k e V w p;have:=CP (PP:=λe V=>aW W a e V) m Z ⟨[],[],0,0,J,0,0,[]⟩ ⟨[],[],X,[]⟩ M E (λq e V R F=>hH q e V R F) (λk e V R F=>O.held k e V R F);rw[On] at this;exact this k e V (by rw[<-bA];exact w) p
 exact⟨a5,hv,⟨⟨dI.refl _ _,λi h=>by simp[aE,bS] at h,λi j h=>by simp[aE,bS] at h,λi t cs h=>by simp[bS] at h,λk e V R F=>⟨by rw[af];exact a6 k e V R F,λb L i hi=>by simp[aE,bS] at hi⟩⟩,rfl,a2 _ Z M,a3 _ Z M,ab,by rw[show(dB X Z).y=[] from FE Z _];exact Oj _ _,rfl,λt sv h=>by simp at h,λk e V b R=>absurd R (a0 k e)⟩⟩
def aqx{cf:aY}{M:Func}{c:Code}{Z:List XV->Option aQ}{glk:List RK}{glv:List RV}{l:List SV}{L J:Nat}
  (h:∀w R,(∀I W b o,w.heap.size<=b->R (.panicked I) W->R (.panicked I) (W.putObj b o))->iW ⟨P,a,[],w,bz.none,R,λ_ _ _=>False⟩ cf)(g:cf.ty=a)(e:∀F,C4 P a u x G F (aO F))(d:∀W H,Below W.heap.size W H->G W->G H)
  (hf:P.funcs[F]?=some M)(hb:M.body=some c)(ab:u F=some A)(af:x F=some s)(ag:eV a A=some m)(E:eV a s=some z)
  (hl:gw a A Q=some l)(al:oC 0 0 glv.length m l=true)(bA:N=glk++f8 m)(an:∀(k:Nat)(n:TypeId),N[k]?≠some (.own n))(a0:glv.length=glk.length)(hq:glv=[]\/qN z=true)
  (a1:∀O V,cR m V->(dB O V).i.length=L)(a2:∀O V,cR m V->(dB O V).b.length=J)
  (a3:∀W,G W->∃O,J2 a cf.gl glk glv W O)
  (ht:I5 cf U F c M.ntmps M.results.toList Q ⟨[],[],L,J,N,0,0,[]⟩=n)
  (hF:∀V o,cR m V->Z V=some o->∃X,run a u x aO s X n (dB glv V) N []=some o):C4 P a u x G F Z:=by
 intro a5 a6 a7 a8 D C B y xh V o ho v r W q hH;rw[ab] at D;cases D;rw[af] at C;cases C;rw[ag] at B;cases B;rw[E] at y;cases y;obtain⟨X,hN⟩:=hF xh o (Wu r v) ho;obtain⟨O,j⟩:=a3 W q;obtain⟨a4,hv,hR⟩:=agh g e d E hl al bA an a0 hq a1 a2 q j hN v r hH;rw[<-hv];exact afB (p:=JX P a W s z m V o) (cf:=cf) (h W _ (aga W)) hf hb ht a4 (j.agf V) hR
def aqy{cf:aY}{L:Func}{c:Code}{Z:List XV->Option aQ}{glk:List RK}{glv:List RV}{l:List SV}{E D:Nat}{d:DI}
  (ag:∀w R,(∀J W b o,w.heap.size<=b->R (.panicked J) W->R (.panicked J) (W.putObj b o))->iW ⟨P,a,[],w,bz.none,R,λ_ _ _=>False⟩ cf)(al:cf.ty=a)(an:∀F,C4 P a u x G F (aO F))(hG:∀W I,Below W.heap.size W I->G W->G I)
  (hf:P.funcs[F]?=some L)(hb:L.body=some c)(hd:qC c=some d)(bZ:nC P d.g v)(a0:u F=some A)(a1:x F=some s)(a2:eV a A=some m)(C:eV a s=some z)
  (hl:gw a A Q=some l)(a3:oC 0 0 glv.length m l=true)(bA:N=glk++f8 m)(a4:∀(k:Nat)(n:TypeId),N[k]?≠some (.own n))(a5:glv.length=glk.length)(hq:glv=[]\/qN z=true)
  (a6:∀M O,cR m O->(dB M O).i.length=E)(a7:∀M O,cR m O->(dB M O).b.length=D)
  (a8:∀W,G W->∃M,J2 a cf.gl glk glv W M)
  (ht:I6 cf U F c L.ntmps L.results.toList v Q ⟨[],[],E,D,N,0,0,[]⟩=n)(a9:∀O X,Z O≠some (.aR X))
  (hF:∀O o,cR m O->Z O=some o->∃V,run a u x aO s V n (dB glv O) N []=some o):C4 P a u x G F Z:=by
 intro bd bf bg bk B y r q j O o h e ab W af hH;rw[a0] at B;cases B;rw[a1] at y;cases y;rw[a2] at r;cases r;rw[C] at q;cases q;obtain⟨V,hN⟩:=hF j o (Wu ab e) h;obtain⟨M,hL⟩:=a8 W af;obtain⟨bb,hv,H⟩:=agh al an hG C hl a3 bA a4 a5 hq a6 a7 af hL hN e ab hH;rw[<-hv];refine aqw (p:=JX P a W s z m O o) (cf:=cf) (ag W _ (aga W)) (λJ I H=> ?_) hf hb hd bZ ht bb (hL.agf O) H;obtain⟨-,X,h5,-⟩:=H;exact a9 j X (by rw[h,h5])
end
end
def agi:Op->Bool
 |.move _|.assign _|.fieldAddr _ _ _|.field _ _ _|.load _ _|.indexAddr _ _ _|.build _ _|.index _ _ _|.unOp _ _ _|.convert _ _ _|.makeInterface _ _|.makeFunc _ _ _|.extract _ _|.nilCheck _|.alloc _|.box _ _|.pick _ _ _=>true
 |.binOp Z _ _ _ _=>match Z with
  |.eql|.neq=>false
  |_=>true
 |_=>false
def Wy(Z:aY)(m:OM)(s:S):Bool:=(xM Z m s).isSome
def aqz{Z:aY}{m:OM}(h:Wy Z m y=false):xM Z m y=none:=by
 simpa[Wy] using h
def Oo(V:aY)(Q:lM)(m:OM)(s:S)(Z:S->Fx->T)(U:SV->S->T)(W:Fx):T:=
 if agi m.o.op then match dN V m s with
  |.ok X=>Z X W
  |.aF b X=>.aF b (Z X W)
  |.split b P O=>xL s W b (Z P) (Z O)
  |.no N=>.stuck N
 else if Wy V m s then vK V Q m s Z U W else match vI V m s with
 |some (e,M,L,R)=>zP e (λg J=>Q (.fn g) (R++J) s (λv X=>Z (X.put m.o.dst v) (ld s W)) U) M L
 |none=>
 match cB V s m.o with
 |.call (.fn g) R=>Q (.fn g) R s (λv X=>Z (X.put m.o.dst v) (ld s W)) U
 |.call (.yl n) R=>if m.so then Q (.yl n) R s (λv X=>Z (X.put m.o.dst v) (ld s W)) U else .stuck ""
 |.aR v=>U v s
 |.no=>.stuck ""
 |.op=>match vH V m s Z W with
  |some t=>t
  |none=>match cK V m.o m.aZ m.dr s with
  |some b=>.aF b.aF (.new b.e b.x s.rs b.s.rs (Z b.s (ld s W)))
  |none=>match dN V m s with
  |.ok X=>Z X W
  |.aF b X=>.aF b (Z X W)
  |.split b P O=>xL s W b (Z P) (Z O)
  |.no N=>.stuck N
def aqA(Z:aY)(V:lM)(m:OM)(s:S)(U:S->Fx->T)(R:SV->S->T)(Q:Fx):Oo Z V m s U R Q=vK Z V m s U R Q:=by
 unfold Oo;split;rename_i X;unfold vK;cases W:m.o.op<;>rw[W] at X<;>simp only[agi,ayV] at X<;>try(simp[vI,xM,cB,vH,cK,W]<;>rfl)
 rename_i P t x y z;cases P<;>simp only[ayV] at X<;>(simp[vI,xM,cB,vH,cK,W]<;>rfl);split;rfl;rename_i O;unfold vK;rw[aqz (by simpa using O)];cases vI Z m s<;>rfl
def OM.up(n:Nat)(m:OM):OM:={m with ix:=m.ix+n}
def Oq(aZ:Nat->Bool)(Z X:Bool)(k:Nat):∀(l:List Oper)(j n:Nat),eo aZ Z X j (n+k) l=(eo aZ Z X j n l).map (OM.up k)
 |[],_,_=>rfl
 |o::r,j,n=>by
  simp only[eo,ayO];congr 1;rw[<-Oq aZ Z X k r];congr 1;split<;>omega
def aqB(k:Nat)(l:List OM)(Z:List Nat):ET (l.map (OM.up k)) Z=(ET l Z).map (OM.up k):=by
 simp only[ET,List.map_filterMap,ayF]
def Wz(k:Nat)(Z:List Nat):∀l:List OM,vO Z (l.map (OM.up k))=vO Z l
 |[]=>rfl
 |x::r=>by simp only[ayO,vO,Wz k Z r,aAH];rfl
def agj(k:Nat)(Z:List Nat):∀(l X:List OM),pB Z (X.map (OM.up k)) (l.map (OM.up k))=(pB Z X l).map (OM.up k)
 |[],_=>rfl
 |m::r,X=>by
  simp only[ayO,pB];congr 1;have h:=Wz k Z (m::r);simp only[ayO] at h;rw[h,aAH];rfl;rw[<-agj k Z r (X++[m]),aAS];rfl
def agk(k:Nat)(Z:Array Oper):∀(l:List OM)(done:List Nat),zS Z done (l.map (OM.up k))=zS Z done l
 |[],_=>rfl
 |x::r,done=>by simp only[ayO,zS,agk k Z r];rfl
def aqC(k a b:Nat):(a+k !=b+k)=(a !=b):=by
 rw[azJ];simp
def aqD(k:Nat)(Z:Array Oper)(x y:OM):pA Z (OM.up k x) (OM.up k y)=pA Z x y:=by
 have h:((OM.up k x).ix !=(OM.up k y).ix)=(x.ix !=y.ix):=aqC k _ _;unfold pA ES IT;rw[h];rfl
def agl(k:Nat)(Z:Array Oper)(X:List Nat):∀l:List OM,zR Z X (l.map (OM.up k))=zR Z X l
 |[]=>rfl
 |x::r=>by
  simp only[ayO,zR,agl k Z X r,aAH];congr 2;funext y;simp only[Function.comp,aqD];rfl
def agm(k:Nat):∀l:List Nat,jz (l.map (· +k))=jz l
 |[]=>rfl
 |x::r=>by
  simp only[ayO,jz,agm k r];congr 2;rw[azJ];simp
def lw(Z:Array Oper)(n:Nat):List OM:=pB (lf Z.toList) [] (ET (eo (IW Z.toList (lf Z.toList)) false true 0 n Z.toList) (IU Z.toList Z.size []))
def aqE(Z:Array Oper)(n:Nat):lw Z n=(lw Z 0).map (OM.up n):=by
 unfold lw;rw[show eo (IW Z.toList (lf Z.toList)) false true 0 n Z.toList=(eo (IW Z.toList (lf Z.toList)) false true 0 0 Z.toList).map (OM.up n) by rw[<-Oq];simp,aqB,<-agj];rfl
def WA(Z:Array Oper)(n:Nat):Option (List OM):=match EU Z 0 with
 |some l=>some (l.map (OM.up n))
 |none=>none
def agn(Z:Array Oper)(n:Nat):EU Z n=if MO Z.toList (lf Z.toList)&&zS Z [] (lw Z n)&&zR Z (lf Z.toList) (lw Z n)&&jz ((lw Z n).filterMap (·.o.dst))&&jz ((lw Z n).map (·.j))&&jz (((lw Z n).filter λm=>dR m.o.op).map (·.ix))&&(lw Z n).length==Z.size&&(ayQ Z.size).all (λi=>(lw Z n).any λm=>m.j==i) then some (lw Z n) else none:=rfl
def aqF(Z:Array Oper)(n:Nat):WA Z n=EU Z n:=by
 unfold WA;rw[agn Z n,agn Z 0,aqE Z n,agk,agl];have W:((lw Z 0).map (OM.up n)).filterMap (·.o.dst)=(lw Z 0).filterMap (·.o.dst):=by rw[aCd];rfl
 have V:((lw Z 0).map (OM.up n)).map (·.j)=(lw Z 0).map (·.j):=by rw[azo];rfl
 have U:(((lw Z 0).map (OM.up n)).filter λm=>dR m.o.op).map (·.ix)=(((lw Z 0).filter λm=>dR m.o.op).map (·.ix)).map (· +n):=by rw[aBI,azo,azo];rfl
 have R:∀i,(((lw Z 0).map (OM.up n)).any λm=>m.j==i)=((lw Z 0).any λm=>m.j==i):=λi=>by rw[aBB];rfl
 rw[W,V,U,agm,azg];simp only[R];split;rename_i l h;split at h;rename_i X;cases h;rw[if_pos X];cases h;rename_i h;split at h;cases h;rename_i X;rw[if_neg X]
def ago(X:Bool)(Z:Array Oper)(n:Nat):xS X Z n=(xS X Z 0).map (OM.up n)/\xT X Z n=(xT X Z 0).map (OM.up n):=by
 unfold xS xT;rw[show eo (λ_=>false) false true 0 n Z.toList=(eo (λ_=>false) false true 0 0 Z.toList).map (OM.up n) by rw[<-Oq];simp,aBI,aBI];exact⟨rfl,rfl⟩
def aqG(X:Bool)(Z:Array Oper)(n:Nat):E2 X Z n=E2 X Z 0:=by
 unfold E2;obtain⟨W,V⟩:=ago X Z n;rw[W,V,show eo (λ_=>false) false true 0 n Z.toList=(eo (λ_=>false) false true 0 0 Z.toList).map (OM.up n) by rw[<-Oq];simp];unfold Uj;rw[<-aAS];have U:∀l:List OM,(l.map (OM.up n)).filterMap (·.o.dst)=l.filterMap (·.o.dst):=λl=>by rw[aCd];rfl
 have R:∀l:List OM,(l.map (OM.up n)).map (·.j)=l.map (·.j):=λl=>by rw[azo];rfl
 rw[U,R,azg];simp only[aAH,aBB,Function.comp_def];rfl
def Ot(W:aY)(X:Bool)(Z:Array Oper)(s:S):Option IY:=
 if(!X||(Ui W s Z.toList||(W.kX&&Z.toList.any λo=>acz o.op))&&vO (lf Z.toList) (xT X Z 0))&&E2 X Z 0 then(zW W ((xS X Z 0).map (OM.up s.boxes.length)) (s.room (jy Z.toList))).bind (Uk W ((xS X Z 0).map (OM.up s.boxes.length)) ((xT X Z 0).map (OM.up s.boxes.length))) else none
def aqH(W:aY)(Z:Bool)(X:Array Oper)(s:S):Ot W Z X s=E3 W Z X s:=by
 unfold Ot E3;obtain⟨U,V⟩:=ago Z X s.boxes.length;rw[<-U,<-V,aqG Z X s.boxes.length,V,Wz]
def C5{Z:Type}(l:List Z):(List Z->T)->T:=aAl (motive:=λ_=>(List Z->T)->T) (λk=>k []) (λx _ X k=>X λW=>k (x::W)) l
def WB{X:Type}:∀(l:List X)(k:List X->T),C5 l k=k l
 |[],_=>rfl
 |x::Z,k=>WB Z λZ=>k (x::Z)
def bw(n:Nat)(k:Nat->T):T:=aA5 (motive:=λ_=>T) (k 0) (λm _=>k (Nat.succ m)) n
def gR:∀(n:Nat)(k:Nat->T),bw n k=k n
 |0,_=>rfl
 |_+1,_=>rfl
def S.WC(s:S)(k:S->T):T:=S.rec (motive:=λ_=>T) (λZ b X W V ao U R=>C5 Z λZ=>C5 b λb=>bw X λX=>bw W λW=>C5 V λV=>bw ao λao=>bw U λU=>C5 R λR=>k ⟨Z,b,X,W,V,ao,U,R⟩) s
def aqI(s:S)(k:S->T):s.WC k=k s:=by
 cases s;simp only[S.WC,WB,gR]
def J3{Z:Type}(l:List Z)(k:List Z->T):T:=aAl (motive:=λ_=>T) (k []) (λx X _=>k (x::X)) l
def aqJ{Z:Type}(l:List Z)(k:List Z->T):J3 l k=k l:=by cases l<;>rfl
def S.WD(s:S)(k:S->T):T:=S.rec (motive:=λ_=>T) (λZ b X W V ao U R=>J3 Z λZ=>J3 b λb=>bw X λX=>bw W λW=>J3 V λV=>bw ao λao=>bw U λU=>J3 R λR=>k ⟨Z,b,X,W,V,ao,U,R⟩) s
def aqK(s:S)(k:S->T):s.WD k=k s:=by
 cases s;simp only[S.WD,aqJ,gR]
def Ar(Z:aY)(X:lM)(W:Array Oper)(k:S->T)(V:SV->S->T):List OM->S->Fx->T
 |[],s,_=>k s
 |m::U,s,R=>s.WD λs=>MJ W m s R (Oo Z X m s (Ar Z X W k V U) V) (Ar Z X W k V U (s.put m.o.dst (.bh [])))
def Ou(Z:aY)(X:lM)(V:Array Oper)(k:S->T)(W:SV->S->T):∀(l:List OM),Ar Z X V k W l=j7 Z X V k W l
 |[]=>by funext s R;rfl
 |m::U=>by
  funext s R;have:Oo Z X m s (Ar Z X V k W U) W=vK Z X m s (j7 Z X V k W U) W:=by
   funext R;rw[aqA,Ou Z X V k W U]
  simp only[Ar,j7,aqK];rw[this,Ou Z X V k W U]
def J4(n:Int)(k:Int->T):T:=Int.rec (motive:=λ_=>T) (λn=>bw n λn=>k (aCe n)) (λn=>bw n λn=>k (aBP n)) n
def aqL:∀(n:Int)(k:Int->T),J4 n k=k n
 |.ofNat n,k=>gR n λn=>k (aCe n)
 |.negSucc n,k=>gR n λn=>k (aBP n)
def IE.deep(e:IE):(IE->T)->T:=IE.rec (motive_1:=λ_=>(IE->T)->T) (motive_2:=λ_=>(BE->T)->T) (motive_3:=λ_=>(RE->T)->T) (λn k=>J4 n λn=>k (.c n)) (λn k=>bw n λn=>k (.v n)) (λo q a b Z X k=>Z λa=>X λb=>k (.bin o q a b)) (λq a Z k=>Z λa=>k (.conv q a)) (λr W k=>W λr=>k (.len r)) (λm a b Z X k=>Z λa=>X λb=>k (.mm m a b)) (λb x y X R Q k=>X λb=>R λx=>Q λy=>k (.b9 b x y)) (λr i j W V k=>W λr=>V λi=>bw j λj=>k (.cell r i j)) (λr i W V k=>W λr=>V λi=>k (.j6 r i)) (λr n a b c j W Z X U k=>W λr=>Z λa=>X λb=>U λc=>bw n λn=>bw j λj=>k (.look r n a b c j)) (λb k=>k (.c b)) (λn k=>bw n λn=>k (.v n)) (λo a b Z X k=>Z λa=>X λb=>k (.cmp o a b)) (λa Z k=>Z λa=>k (.not a)) (λa b Z X k=>Z λa=>X λb=>k (.and a b)) (λa b Z X k=>Z λa=>X λb=>k (.beq a b)) (λb x y X R Q k=>X λb=>R λx=>Q λy=>k (.b9 b x y)) (λr i j W V k=>W λr=>V λi=>bw j λj=>k (.cell r i j)) (λa b Z X k=>Z λa=>X λb=>k (.seq a b)) (λr n a b c j W Z X U k=>W λr=>Z λa=>X λb=>U λc=>bw n λn=>bw j λj=>k (.look r n a b c j)) (λr n a b c W Z X U k=>W λr=>Z λa=>X λb=>U λc=>bw n λn=>k (.has r n a b c)) (λn k=>bw n λn=>k (.v n)) (λr i j q W V k=>W λr=>V λi=>bw j λj=>k (.cell r i j q)) (λv k=>k (.k v)) e
def BE.deep(e:BE):(BE->T)->T:=BE.rec (motive_1:=λ_=>(IE->T)->T) (motive_2:=λ_=>(BE->T)->T) (motive_3:=λ_=>(RE->T)->T) (λn k=>J4 n λn=>k (.c n)) (λn k=>bw n λn=>k (.v n)) (λo q a b Z X k=>Z λa=>X λb=>k (.bin o q a b)) (λq a Z k=>Z λa=>k (.conv q a)) (λr W k=>W λr=>k (.len r)) (λm a b Z X k=>Z λa=>X λb=>k (.mm m a b)) (λb x y X R Q k=>X λb=>R λx=>Q λy=>k (.b9 b x y)) (λr i j W V k=>W λr=>V λi=>bw j λj=>k (.cell r i j)) (λr i W V k=>W λr=>V λi=>k (.j6 r i)) (λr n a b c j W Z X U k=>W λr=>Z λa=>X λb=>U λc=>bw n λn=>bw j λj=>k (.look r n a b c j)) (λb k=>k (.c b)) (λn k=>bw n λn=>k (.v n)) (λo a b Z X k=>Z λa=>X λb=>k (.cmp o a b)) (λa Z k=>Z λa=>k (.not a)) (λa b Z X k=>Z λa=>X λb=>k (.and a b)) (λa b Z X k=>Z λa=>X λb=>k (.beq a b)) (λb x y X R Q k=>X λb=>R λx=>Q λy=>k (.b9 b x y)) (λr i j W V k=>W λr=>V λi=>bw j λj=>k (.cell r i j)) (λa b Z X k=>Z λa=>X λb=>k (.seq a b)) (λr n a b c j W Z X U k=>W λr=>Z λa=>X λb=>U λc=>bw n λn=>bw j λj=>k (.look r n a b c j)) (λr n a b c W Z X U k=>W λr=>Z λa=>X λb=>U λc=>bw n λn=>k (.has r n a b c)) (λn k=>bw n λn=>k (.v n)) (λr i j q W V k=>W λr=>V λi=>bw j λj=>k (.cell r i j q)) (λv k=>k (.k v)) e
def RE.deep(e:RE):(RE->T)->T:=RE.rec (motive_1:=λ_=>(IE->T)->T) (motive_2:=λ_=>(BE->T)->T) (motive_3:=λ_=>(RE->T)->T) (λn k=>J4 n λn=>k (.c n)) (λn k=>bw n λn=>k (.v n)) (λo q a b Z X k=>Z λa=>X λb=>k (.bin o q a b)) (λq a Z k=>Z λa=>k (.conv q a)) (λr W k=>W λr=>k (.len r)) (λm a b Z X k=>Z λa=>X λb=>k (.mm m a b)) (λb x y X R Q k=>X λb=>R λx=>Q λy=>k (.b9 b x y)) (λr i j W V k=>W λr=>V λi=>bw j λj=>k (.cell r i j)) (λr i W V k=>W λr=>V λi=>k (.j6 r i)) (λr n a b c j W Z X U k=>W λr=>Z λa=>X λb=>U λc=>bw n λn=>bw j λj=>k (.look r n a b c j)) (λb k=>k (.c b)) (λn k=>bw n λn=>k (.v n)) (λo a b Z X k=>Z λa=>X λb=>k (.cmp o a b)) (λa Z k=>Z λa=>k (.not a)) (λa b Z X k=>Z λa=>X λb=>k (.and a b)) (λa b Z X k=>Z λa=>X λb=>k (.beq a b)) (λb x y X R Q k=>X λb=>R λx=>Q λy=>k (.b9 b x y)) (λr i j W V k=>W λr=>V λi=>bw j λj=>k (.cell r i j)) (λa b Z X k=>Z λa=>X λb=>k (.seq a b)) (λr n a b c j W Z X U k=>W λr=>Z λa=>X λb=>U λc=>bw n λn=>bw j λj=>k (.look r n a b c j)) (λr n a b c W Z X U k=>W λr=>Z λa=>X λb=>U λc=>bw n λn=>k (.has r n a b c)) (λn k=>bw n λn=>k (.v n)) (λr i j q W V k=>W λr=>V λi=>bw j λj=>k (.cell r i j q)) (λv k=>k (.k v)) e
mutual
def IE.cZ:∀(e:IE)(k:IE->T),e.deep k=k e
 |.c n,k=>by show(J4 n λn=>k (.c n))=_;rw[aqL]
 |.v n,k=>by show(bw n λn=>k (.v n))=_;rw[gR]
 |.bin o q a b,k=>by show(IE.deep a λa=>IE.deep b λb=>k (.bin o q a b))=_;rw[IE.cZ a,IE.cZ b]
 |.conv q a,k=>by show(IE.deep a λa=>k (.conv q a))=_;rw[IE.cZ a]
 |.len r,k=>by show(RE.deep r λr=>k (.len r))=_;rw[RE.cZ r]
 |.mm m a b,k=>by show(IE.deep a λa=>IE.deep b λb=>k (.mm m a b))=_;rw[IE.cZ a,IE.cZ b]
 |.b9 b x y,k=>by show(BE.deep b λb=>IE.deep x λx=>IE.deep y λy=>k (.b9 b x y))=_;rw[BE.cZ b,IE.cZ x,IE.cZ y]
 |.cell r i j,k=>by show(RE.deep r λr=>IE.deep i λi=>bw j λj=>k (.cell r i j))=_;rw[RE.cZ r,IE.cZ i,gR]
 |.j6 r i,k=>by show(RE.deep r λr=>IE.deep i λi=>k (.j6 r i))=_;rw[RE.cZ r,IE.cZ i]
 |.look r n a b c j,k=>by show(RE.deep r λr=>IE.deep a λa=>IE.deep b λb=>IE.deep c λc=>bw n λn=>bw j λj=>k (.look r n a b c j))=_;rw[RE.cZ r,IE.cZ a,IE.cZ b,IE.cZ c,gR,gR]
def BE.cZ:∀(e:BE)(k:BE->T),e.deep k=k e
 |.c b,k=>rfl
 |.v n,k=>by show(bw n λn=>k (.v n))=_;rw[gR]
 |.cmp o a b,k=>by show(IE.deep a λa=>IE.deep b λb=>k (.cmp o a b))=_;rw[IE.cZ a,IE.cZ b]
 |.not a,k=>by show(BE.deep a λa=>k (.not a))=_;rw[BE.cZ a]
 |.and a b,k=>by show(BE.deep a λa=>BE.deep b λb=>k (.and a b))=_;rw[BE.cZ a,BE.cZ b]
 |.beq a b,k=>by show(BE.deep a λa=>BE.deep b λb=>k (.beq a b))=_;rw[BE.cZ a,BE.cZ b]
 |.b9 b x y,k=>by show(BE.deep b λb=>BE.deep x λx=>BE.deep y λy=>k (.b9 b x y))=_;rw[BE.cZ b,BE.cZ x,BE.cZ y]
 |.cell r i j,k=>by show(RE.deep r λr=>IE.deep i λi=>bw j λj=>k (.cell r i j))=_;rw[RE.cZ r,IE.cZ i,gR]
 |.seq a b,k=>by show(RE.deep a λa=>RE.deep b λb=>k (.seq a b))=_;rw[RE.cZ a,RE.cZ b]
 |.look r n a b c j,k=>by show(RE.deep r λr=>IE.deep a λa=>IE.deep b λb=>IE.deep c λc=>bw n λn=>bw j λj=>k (.look r n a b c j))=_;rw[RE.cZ r,IE.cZ a,IE.cZ b,IE.cZ c,gR,gR]
 |.has r n a b c,k=>by show(RE.deep r λr=>IE.deep a λa=>IE.deep b λb=>IE.deep c λc=>bw n λn=>k (.has r n a b c))=_;rw[RE.cZ r,IE.cZ a,IE.cZ b,IE.cZ c,gR]
def RE.cZ:∀(e:RE)(k:RE->T),e.deep k=k e
 |.v n,k=>by show(bw n λn=>k (.v n))=_;rw[gR]
 |.cell r i j q,k=>by show(RE.deep r λr=>IE.deep i λi=>bw j λj=>k (.cell r i j q))=_;rw[RE.cZ r,IE.cZ i,gR]
 |.k v,k=>rfl
end
def SV.deep(v:SV):(SV->T)->T:=SV.rec (motive_1:=λ_=>(SV->T)->T) (motive_2:=λ_=>(List SV->T)->T) (λq e k=>e.deep λe=>k (.int q e)) (λb k=>b.deep λb=>k (.bool b)) (λr k=>r.deep λr=>k (.ref r)) (λi o k=>bw i λi=>bw o λo=>k (.loc i o)) (λr w i o k=>r.deep λr=>i.deep λi=>bw w λw=>bw o λo=>k (.el r w i o)) (λi o l c k=>bw i λi=>bw o λo=>bw l λl=>bw c λc=>k (.fo i o l c)) (λl Z k=>Z λl=>k (.agg l)) (λl Z k=>Z λl=>k (.bh l)) (λf l Z k=>Z λl=>bw f λf=>k (.fn f l)) (λt x X k=>X λx=>k (.dD t x)) (λn k=>bw n λn=>k (.yl n)) (λk=>k .any) (λi k=>bw i λi=>k (.mp i)) (λe V W U k=>e.deep λe=>U λW=>k (.dE e V W)) (λk=>k []) (λ_ _ X R k=>X λx=>R λQ=>k (x::Q)) v
def SV.yF(l:List SV):(List SV->T)->T:=SV.rec_1 (motive_1:=λ_=>(SV->T)->T) (motive_2:=λ_=>(List SV->T)->T) (λq e k=>e.deep λe=>k (.int q e)) (λb k=>b.deep λb=>k (.bool b)) (λr k=>r.deep λr=>k (.ref r)) (λi o k=>bw i λi=>bw o λo=>k (.loc i o)) (λr w i o k=>r.deep λr=>i.deep λi=>bw w λw=>bw o λo=>k (.el r w i o)) (λi o l c k=>bw i λi=>bw o λo=>bw l λl=>bw c λc=>k (.fo i o l c)) (λl Z k=>Z λl=>k (.agg l)) (λl Z k=>Z λl=>k (.bh l)) (λf l Z k=>Z λl=>bw f λf=>k (.fn f l)) (λt x X k=>X λx=>k (.dD t x)) (λn k=>bw n λn=>k (.yl n)) (λk=>k .any) (λi k=>bw i λi=>k (.mp i)) (λe V W U k=>e.deep λe=>U λW=>k (.dE e V W)) (λk=>k []) (λ_ _ X R k=>X λx=>R λQ=>k (x::Q)) l
mutual
def SV.cZ:∀(v:SV)(k:SV->T),v.deep k=k v
 |.int q e,k=>by show(IE.deep e λe=>k (.int q e))=_;rw[IE.cZ]
 |.bool b,k=>by show(BE.deep b λb=>k (.bool b))=_;rw[BE.cZ]
 |.ref r,k=>by show(RE.deep r λr=>k (.ref r))=_;rw[RE.cZ]
 |.loc i o,k=>by show(bw i λi=>bw o λo=>k (.loc i o))=_;rw[gR,gR]
 |.el r w i o,k=>by show(RE.deep r λr=>IE.deep i λi=>bw w λw=>bw o λo=>k (.el r w i o))=_;rw[RE.cZ,IE.cZ,gR,gR]
 |.fo i o l c,k=>by show(bw i λi=>bw o λo=>bw l λl=>bw c λc=>k (.fo i o l c))=_;rw[gR,gR,gR,gR]
 |.agg l,k=>by show(SV.yF l λl=>k (.agg l))=_;rw[SV.C6 l]
 |.bh l,k=>by show(SV.yF l λl=>k (.bh l))=_;rw[SV.C6 l]
 |.fn f l,k=>by show(SV.yF l λl=>bw f λf=>k (.fn f l))=_;rw[SV.C6 l,gR]
 |.dD t x,k=>by show(SV.deep x λx=>k (.dD t x))=_;rw[SV.cZ x]
 |.yl n,k=>by show(bw n λn=>k (.yl n))=_;rw[gR]
 |.any,k=>rfl
 |.mp i,k=>by show(bw i λi=>k (.mp i))=_;rw[gR]
 |.dE e X Z,k=>by show(IE.deep e λe=>SV.yF Z λZ=>k (.dE e X Z))=_;rw[IE.cZ,SV.C6 Z]
def SV.C6:∀(l:List SV)(k:List SV->T),SV.yF l k=k l
 |[],k=>rfl
 |x::Z,k=>by show(SV.deep x λx=>SV.yF Z λZ=>k (x::Z))=_;rw[SV.cZ x,SV.C6 Z]
end
def WE(l:aX):(aX->T)->T:=aAl (motive:=λ_=>(aX->T)->T) (λk=>k []) (λx _ W k=>Option.rec (motive:=λ_=>T) (W λZ=>k (none::Z)) (λb=>Prod.rec (motive:=λ_=>T) (λt X=>bw t λt=>SV.yF X λX=>W λZ=>k (some (t,X)::Z)) b) x) l
def WF:∀(l:aX)(k:aX->T),WE l k=k l
 |[],_=>rfl
 |none::Z,k=>WF Z _
 |some (t,X)::Z,k=>by
  show(bw t λt=>SV.yF X λX=>WE Z λZ=>k (some (t,X)::Z))=_;rw[gR,SV.C6,WF]
def S.deep(s:S)(k:S->T):T:=S.rec (motive:=λ_=>T) (λZ b X W V ao U R=>SV.yF Z λZ=>WE b λb=>bw X λX=>bw W λW=>C5 V λV=>bw ao λao=>bw U λU=>C5 R λR=>k ⟨Z,b,X,W,V,ao,U,R⟩) s
def cZ(s:S)(k:S->T):s.deep k=k s:=by
 cases s;simp only[S.deep,WB,gR,SV.C6,WF]
def WG(k:XE->S->T):XE->S->T:=λe s=>s.deep (k e)
def aqM(k:XE->S->T):WG k=k:=by funext e s;exact cZ s (k e)
def lx(l:List Nat):Nat:=aAl (motive:=λ_=>Nat) 0 (λd _ m=>ayR (aze 1 d) m) l
def As(m n:Nat):Bool:=aA2 (motive:=λ_=>Bool) true false (azq (Nat.land 1 (aBX m n)) 0)
def agp(m n:Nat):As m n=m.testBit n:=by
 have:m.testBit n= !(azq (Nat.land 1 (aBX m n)) 0):=by
  show((1&&&(m>>>n))!=0)= !(azq (1&&&(m>>>n)) 0);cases h:azq (1&&&(m>>>n)) 0 with
  |true=>rw[aBQ h];rfl
  |false=>simp only[bne,Bool.not_false,ayS,beq_eq_false_iff_ne];exact λe=>by rw[e] at h;cases h
 rw[this,As];cases azq (Nat.land 1 (aBX m n)) 0<;>rfl
def Ov:∀(l:List Nat)(n:Nat),(lx l).testBit n=l.contains n
 |[],n=>by simp[lx]
 |d::l,n=>by
  have:lx (d::l)=(1<<<d)|||lx l:=rfl;rw[this,az3,Ov l n,aBs,aB4];rw[azJ];simp only[ay2,decide_eq_true_eq,aza,ayK];exact⟨λh=>h.imp Eq.symm id,λh=>h.imp Eq.symm id⟩
def aqN(l:List Nat)(n:Nat):As (lx l) n=l.contains n:=by rw[agp,Ov]
def Ow(a:dq)(m Z:Nat)(X:List SV):Nat->List SV->List SV
 |_,[]=>[]
 |n,x::W=>(if As Z n then(qB n a.tm X).getD (if As m n then .any else x) else if As m n then .any else x)::Ow a m Z X (n+1) W
def agq{n:Nat}:∀{X:List (Nat×LK)}{Z:List SV},(X.map (·.1)).contains n=false->qB n X Z=none
 |[],Z,_=>by cases Z<;>rfl
 |(t,k)::r,[],_=>rfl
 |(t,k)::r,v::V,h=>by
  simp only[ayO,List.contains_cons,azi] at h;have W:(t==n)=false:=by
   have:=h.1;simp only[beq_eq_false_iff_ne,ne_eq] at this⊢;exact λe=>this e.symm
  simp only[qB,W,ayV,if_false];exact agq h.2
def agr(a:dq)(Z:List Nat)(X:List SV):∀(n:Nat)(l:List SV),Ow a (lx Z) (lx (a.tm.map (·.1))) X n l=vM a Z X n l
 |_,[]=>rfl
 |n,x::W=>by
  simp only[Ow,vM,agr a Z X (n+1) W,aqN];cases V:(a.tm.map (·.1)).contains n with
  |true=>rfl
  |false=>rw[agq V];rfl
def J5(m:Nat):Nat->List SV->List SV->Bool
 |_,[],[]=>true
 |n,x::Z,y::X=>(As m n||SV.same x y)&&J5 m (n+1) Z X
 |_,_,_=>false
def WH(a:dq)(Z:List Nat):∀(n:Nat)(l k:List SV),J5 (ayR (lx Z) (lx (a.tm.map (·.1)))) n l k=tY a Z n l k
 |_,[],[]=>rfl
 |_,[],_::_=>rfl
 |_,_::_,[]=>rfl
 |n,x::X,y::W=>by
  simp only[J5,tY,WH a Z (n+1) X W];congr 1;have:As (ayR (lx Z) (lx (a.tm.map (·.1)))) n=(a.tm.any (·.1==n)||Z.contains n):=by
   rw[agp];change((lx Z)|||(lx (a.tm.map (·.1)))).testBit n=_;rw[az3,Ov,Ov,Bool.or_comm];congr 1;rw[azJ,aza,ay8];simp only[ay1,beq_iff_eq]
  rw[this]
def WI(a:dq)(Z:List Nat)(s:S):S:=
 let r:List SV×S:=S.bB {s with ao:=s.ao+1,rs:=fy a s} a.ks
 {r.2 with tmps:=Ow a (lx Z) (lx (a.tm.map (·.1))) r.1 0 s.tmps,boxes:=pw a (r.1.drop a.tm.length) 0 s.boxes}
def aqO(a:dq)(Z:List Nat)(s:S):WI a Z s=mD a Z s:=by
 simp only[WI,mD,agr]
def WJ(X:dq)(W:List Nat)(s:S)(k:XE->S->T):XE->S->T
 |.normal,Z=>if J5 (ayR (lx W) (lx (X.tm.map (·.1)))) 0 s.tmps Z.tmps&&oe X 0 s.boxes Z.boxes&&og Z X.ks (gK X Z)&&tX (fy X s) Z.rs&&Cr (fy X s) (Cq X Z)&&decide (Z.pd=s.pd) then .back s.ao (gK X Z) else .stuck (acA X s Z)
 |e,Z=>k e Z
def aqP(Z:dq)(X:List Nat)(s:S)(k:XE->S->T):WJ Z X s k=MU Z X s k:=by
 funext e W;cases e<;>simp only[WJ,MU,WH]
def iZ(Z:aY):Nat->FuncId->Code->S->YH->(XE->S->T)->T
 |0,_,_,_,_,_=>.stuck ""
 |n+1,W,c,s,X,k=>
  match c with
  |.skip=>k .normal s
  |.label _=>k .normal s
  |.ret=>k .ret s
  |.exit id=>k (.exit id) s
  |.seq a b=>iZ Z n W a s X (MP (λR=>iZ Z n W b R X k) k)
  |.block id a=>iZ Z n W a s X (Ub id k)
  |.scope a=>iZ Z n W a s X k
  |.cond c a b=>match s.ev Z.gl c with
   |.bool (.c true)=>iZ Z n W a s X k
   |.bool (.c false)=>iZ Z n W b s X k
   |.bool x=>match c with
    |.tmp t=>.node x (iZ Z n W a {s with tmps:=s.tmps.set t (.bool (.c true))} X k) (iZ Z n W b {s with tmps:=s.tmps.set t (.bool (.c false))} X k)
    |_=>.stuck ""
   |_=>.stuck ""
  |.region id V Q=>match MY Z W id s with
   |some (e,L,dW,ax)=>E5 e dW (Um (λR=>iZ Z n W (.region id V Q) R X k) ax) (λR=>iZ Z n W (.region id V Q) R X k) L
   |none=>s.WC λs=>if Q then
    match Ot Z (!Z.II W id) V s with
    |some c=>I3 Z (gL Z (λf c s k=>iZ Z n f c s X k) X) V (WG k) c
    |none=>match WA V s.boxes.length with
    |some O=>if !EV Z V.toList then .stuck "" else Ar Z (ua Z (zV Z V λf c s k=>iZ Z n f c s fD k) X) V (k .normal) (λv=>k (.aR v)) O (s.vP V O) []
    |none=>match Ot Z false V s with
     |some c=>I3 Z (gL Z (λf c s k=>iZ Z n f c s X k) X) V (WG k) c
     |none=>.stuck ""
   else
   Ar Z (Uc (Z.II W (id+1000000)) Z (gL Z (λf c s k=>iZ Z n f c s X k) X)) V (k .normal) (λv=>k (.aR v)) (eo (λ_=>false) true false 0 s.boxes.length V.toList) (s.room (jy V.toList)) []
  |.loop a=>match(Code.first a).map (Z.loop W) with
   |some (.inv U)=>
    if !s.bd|| !og s (U.at s).ks (gK (U.at s) s)|| !J5 (ayR (lx (Code.ky a)) (lx ((U.at s).tm.map (·.1)))) 0 s.tmps s.tmps|| !oe (U.at s) 0 s.boxes s.boxes|| !tX (fy (U.at s) s) s.rs|| !Cr (fy (U.at s) s) (Cq (U.at s) s) then .stuck (acB (U.at s) (Code.ky a) s) else
    .loop s.ao (U.at s).ks (gK (U.at s) s) (iZ Z n W a (WI (U.at s) (Code.ky a) s) X (WJ (U.at s) (Code.ky a) s k))
   |_=>iZ Z n W a s X (MP (λR=>iZ Z n W (.loop a) R X k) k)
  |.rangeFunc f N assign body=>match s.ev Z.gl f with
   |.fn g P=>match Z.inl g with
    |some (c,J,[])=>
     if !s.cV P||s.sf s.pd.length||SV.mE s.pd.length P||gf assign||gf body then .stuck "" else
     iZ Z n g c (E4 s J P)
      (I0 s.pd.length N.size λI M H G=>
       iZ Z n W assign (xV M s N.toList I) fD (IZ s.pd.length λF=>
        iZ Z n W body (F.CA s.pd.length .busy) fD (MV s.pd.length M H G))) (Cz s k)
    |_=>.stuck ""
   |_=>.stuck ""
  |_=>.stuck ""
def WK(Z:aY):∀n,iZ Z n=dF Z n
 |0=>by funext X c s W k;rfl
 |n+1=>by
  have V:=WK Z n;funext X c s W k;unfold iZ dF;simp only[V,Ou,aqF,aqH,aqI,WH,aqO,aqP,aqM];cases c<;>rfl
def WL(Z:aY)(n:Nat)(W:FuncId)(c:Code)(V:Nat)(U:List ResultVar)(X:List SV)(s:S):T:=
 iZ Z n W c {s with tmps:=X++ayJ (V-X.length) (.bh [])} fD (MZ Z s.boxes.length U)
def aqQ(Z:aY)(n:Nat)(X:FuncId)(c:Code)(W:Nat)(V:List ResultVar)(U:List SV)(s:S):WL Z n X c W V U s=I5 Z n X c W V U s:=by
 unfold WL I5;rw[WK]
def WM(Z:aY)(n:Nat)(U:FuncId)(c:Code)(R:Nat)(Q:List ResultVar)(W:TypeId)(V:List SV)(s:S):T:=match qC c with
 |some d=>Ar Z (gL Z (λf c s k=>iZ Z n f c s fD k) fD) d.oj (λX=>match X.tmps[d.te]? with
  |some (.loc i 0)=>if !mw W&&aE X.boxes i&&decide (d.tf<X.tmps.length) then iZ Z n U d.rest (X.put (some d.tf) (.fn d.g [.loc i 0])) fD (Uo Z s.boxes.length W i Q) else .stuck ""
  |_=>.stuck "") (λ_ _=>.stuck "") (eo (λ_=>false) true false 0 s.boxes.length d.oj.toList) (({s with tmps:=V++ayJ (R-V.length) (SV.bh [])}:S).room (jy d.oj.toList)) []
 |none=>.stuck ""
def aqR(Z:aY)(n:Nat)(X:FuncId)(c:Code)(W:Nat)(V:List ResultVar)(U:TypeId)(R:List SV)(s:S):WM Z n X c W V U R s=I6 Z n X c W V U R s:=by
 unfold WM I6;cases qC c with
 |none=>rfl
 |some d=>
  simp only[WK,Ou];rfl
def WN(Z:aY)(R:Option TypeId)(n:Nat)(X:FuncId)(c:Code)(W:Nat)(V:List ResultVar)(U:List SV)(s:S):T:=match R with
 |none=>WL Z n X c W V U s
 |some Q=>WM Z n X c W V Q U s
section
section
variable{aO u:jQ}
def kz(N:∀f M o,aO f M=some o->u f M=some o):∀(n V:Nat)(t:T)(O:aa)(i:List Lp)(o:aQ),n<=V->exec aO n t O i=some o->exec u V t O i=some o
 |0,_,t,O,i,o,_,h=>by simp[exec] at h
 |n+1,0,t,O,i,o,L,h=>by omega
 |n+1,V+1,t,O,i,o,L,h=>by
  have Z:=kz N n V;cases t with
  |ret v J U=>simpa only[exec] using h
  |aR v=>simpa only[exec] using h
  |node b t f=>
   simp only[exec] at h⊢;split at h;rename_i X;rw[if_pos X];exact Z t O i o (by omega) h;rename_i X;rw[if_neg X];exact Z f O i o (by omega) h
  |aF b t=>
   simp only[exec] at h⊢;split at h;rename_i X;rw[if_pos X];exact Z t O i o (by omega) h;cases h
  |call f I J U H fe t=>
   simp only[exec] at h⊢;cases Q:aO f ((lu I).map (SV.xv O)) with
   |none=>rw[Q] at h;cases h
   |some r=>
    rw[Q] at h;rw[N _ _ _ Q];cases r with
    |ret E=>
     simp only at h⊢;split at h;rename_i R;rw[if_pos R];exact Z t _ i o (by omega) h;cases h
    |aR v=>exact h
  |loop ao H D t=>
   simp only[exec] at h⊢;exact Z t _ _ o (by omega) h
  |back ao x=>
   simp only[exec] at h⊢;cases R:nA ao i with
   |none=>rw[R] at h;cases h
   |some q=>
    obtain⟨G,C⟩:=q;rw[R] at h;exact Z G.t _ _ o (by omega) h
  |new e x U B t=>
   simp only[exec] at h⊢;exact Z t _ i o (by omega) h
  |rows k x U t=>
   simp only[exec] at h⊢;exact Z t _ i o (by omega) h
  |dW g F t f=>
   simp only[exec] at h⊢;split at h;rename_i P;rw[if_pos P];split at h;rename_i W;rw[if_pos W];exact afY h (Z t O i o (by omega)) (Z f O i o (by omega));rename_i W;rw[if_neg W];exact Z t O i o (by omega) h;rename_i P;rw[if_neg P];split at h;rename_i W;rw[if_pos W];exact Z f O i o (by omega) h;cases h
  |pick m g F t f=>
   simp only[exec] at h⊢;refine afZ h λj _ q=> ?_
   cases j with
   |some j=>exact Z t _ i o (by omega) q
   |none=>exact Z f _ i o (by omega) q
  |cA f g e A z r U t=>
   simp only[exec] at h⊢;split at h;rename_i rows y;exact Z t _ i o (by omega) h;cases h
  |out e s=>simp[exec] at h
  |stuck m=>simp[exec] at h
end
def iV(n:Int):RV:=.mk (.int .i64 n) []
def bV(b:Bool):RV:=.mk (.bool b) []
def sV(l:List Int):RV:=.mk (.slice none l.length l.length) (l.map λn=>[iV n])
def ux(b:Nat)(Z:List (List RV)):RV:=.mk (.slice (some ⟨b,0,none⟩) Z.length Z.length) Z
def oE:List RV:=[
 ux 0 ([(false,false,false,0,0,0),(true,true,false,1,0,16),(false,true,false,1,0,16),(true,true,false,0,3,0),(true,true,false,0,3,0),(false,true,false,0,3,0),(false,false,false,0,0,7),(false,false,true,0,0,0),(false,false,true,0,0,0),(true,false,false,0,3,0)].map λ(a,b,c,d,e,f)=>[bV a,bV b,bV c,iV d,iV e,iV f]),
 ux 1 ([([],[]),([0],[]),([],[0,1]),([0],[]),([2],[]),([],[4]),([],[]),([],[2,3]),([],[0,1]),([2],[])].map λ(a,b)=>[sV a,sV b]),
 ux 2 ([(0,29),(20,21),(29,0),(20,-21),(0,-29),(-20,-21),(-29,0),(-20,21)].map λ(a,b)=>[iV a,iV b])]
def iH(g:Bool):List RV:=if g then oE else[]
def uy(d:Bool):Option aQ->Option aQ
 |some (.ret Z)=>some (.ret Z)
 |some (.aR v)=>if d then none else some (.aR v)
 |none=>none
structure Fn where
 t:T
 g:Bool:=false
 d:Bool:=false
structure gT where
 tree:FuncId->Option Fn
 ly:jQ
def gT.aO(p:gT):Nat->jQ
 |0=>p.ly
 |n+1=>λf X=>match p.ly f X with
  |some o=>some o
  |none=>match p.tree f with
   |some Z=>uy Z.d (exec (gT.aO p n) n Z.t (dB (iH Z.g) X) [])
   |none=>none
def i5{p:gT}:∀(n X:Nat)(f:FuncId)(Z:List XV)(o:aQ),n<=X->p.aO n f Z=some o->p.aO X f Z=some o
 |0,0,f,Z,o,_,h=>h
 |0,X+1,f,Z,o,_,h=>by
  simp only[gT.aO] at h⊢;rw[h]
 |n+1,0,f,Z,o,P,_=>by omega
 |n+1,X+1,f,Z,o,P,h=>by
  simp only[gT.aO] at h⊢;cases U:p.ly f Z with
  |some R=>rw[U] at h;exact h
  |none=>
   rw[U] at h;simp only at h⊢;cases Q:p.tree f with
   |none=>rw[Q] at h;cases h
   |some W=>
    rw[Q] at h;simp only at h⊢;cases V:exec (p.aO n) n W.t (dB (iH W.g) Z) [] with
    |none=>rw[V] at h;cases h
    |some R=>
     rw[V] at h;rw[kz (λf Z o h=>i5 n X f Z o (by omega) h) n X W.t _ _ R (by omega) V];exact h
def gT.Ev(p:gT)(f:FuncId)(Z:List XV)(o:aQ):Prop:=∃n,p.aO n f Z=some o
def gT.Go(p:gT)(t:T)(O:aa)(i:List Lp)(o:aQ):Prop:=∃n,exec (p.aO n) n t O i=some o
section
variable{p:gT}{O:aa}{i:List Lp}{o:aQ}
def WO(h:p.ly F l=some o):p.Ev F l o:=⟨0,h⟩
def aqS{Z:Fn}(V:p.tree F=some Z)(U:p.ly F l=none)(X:Z.d=false\/∃W,o=.ret W)(h:p.Go Z.t (dB (iH Z.g) l) [] o):p.Ev F l o:=by
 obtain⟨n,h⟩:=h;refine⟨n+1, ?_⟩;simp only[gT.aO,U,V,h];rcases X with X|⟨W,rfl⟩;cases o<;>simp[uy,X];rfl
def go_of:p.Go n O i o<->∃Z,exec (p.aO (Z+1)) (Z+1) n O i=some o:=
 ⟨λ⟨Z,h⟩=>⟨Z,kz (λf X o h=>i5 Z (Z+1) f X o (by omega) h) Z (Z+1) n O i o (by omega) h⟩,λ⟨Z,h⟩=>⟨Z+1,h⟩⟩
def go_up{m:Nat}(h:exec (p.aO U) m n O i=some o):p.Go n O i o:=
 ⟨max U m,kz (λf Z o h=>i5 U _ f Z o (by omega) h) m _ n O i o (by omega) h⟩
@[simp] def go_ret {Z:aX}:p.Go (.ret e Z N) O i o<->o=.ret ((qO e).map (SV.xv O)):=by
 rw[go_of];simp only[exec,ayE];exact⟨λ⟨_,h⟩=>h.symm,λh=>⟨0,h.symm⟩⟩
@[simp] def go_pan:p.Go (.aR e) O i o<->(C0 O e).map .aR=some o:=by
 rw[go_of];simp only[exec];exact⟨λ⟨_,h⟩=>h,λh=>⟨0,h⟩⟩
@[simp] def go_node {b:BE} {f:T}:p.Go (.node b n f) O i o<->if b.den O=true then p.Go n O i o else p.Go f O i o:=by
 rw[go_of];simp only[exec];split
 ·exact⟨λ⟨Z,h⟩=>go_up h,λ⟨Z,h⟩=>⟨Z,kz (λf X o h=>i5 Z (Z+1) f X o (by omega) h) Z Z n O i o (by omega) h⟩⟩
 ·exact⟨λ⟨Z,h⟩=>go_up h,λ⟨Z,h⟩=>⟨Z,kz (λf X o h=>i5 Z (Z+1) f X o (by omega) h) Z Z f O i o (by omega) h⟩⟩
@[simp] def go_need {b:BE}:p.Go (.aF b n) O i o<->b.den O=true/\p.Go n O i o:=by
 rw[go_of];simp only[exec];by_cases X:b.den O=true
 ·simp only[X,if_true,true_and];exact⟨λ⟨Z,h⟩=>go_up h,λ⟨Z,h⟩=>⟨Z,kz (λf W o h=>i5 Z (Z+1) f W o (by omega) h) Z Z n O i o (by omega) h⟩⟩
 simp[X]
@[simp] def go_loop:p.Go (.loop U r Q n) O i o<->p.Go n (O.ext (Q.map (SV.xv O))) (⟨U,n,O⟩::i) o:=by
 rw[go_of];simp only[exec];exact⟨λ⟨Z,h⟩=>go_up h,λ⟨Z,h⟩=>⟨Z,kz (λf X o h=>i5 Z (Z+1) f X o (by omega) h) Z Z n _ _ o (by omega) h⟩⟩
@[simp] def go_new {x:LE} {X:List RK}:p.Go (.new v x N X n) O i o<->p.Go n (O.add (.r (eK x O))) i o:=by
 rw[go_of];simp only[exec];exact⟨λ⟨Z,h⟩=>go_up h,λ⟨Z,h⟩=>⟨Z,kz (λf W o h=>i5 Z (Z+1) f W o (by omega) h) Z Z n _ _ o (by omega) h⟩⟩
@[simp] def go_rows {k:RK} {x:LE}:p.Go (.rows k x N n) O i o<->p.Go n (O.add (.r (eK x O))) i o:=by
 rw[go_of];simp only[exec];exact⟨λ⟨Z,h⟩=>go_up h,λ⟨Z,h⟩=>⟨Z,kz (λf X o h=>i5 Z (Z+1) f X o (by omega) h) Z Z n _ _ o (by omega) h⟩⟩
def go_turn{g:FuncId}{X:aU}{W:Bool}{r:RE}(h:jM O X W (r.rv O).rows=some w):p.Go (.cA F g v X W r N n) O i o<->p.Go n (O.add (.r (.mk (r.rv O).val w))) i o:=by
 rw[go_of];simp only[exec,h];exact⟨λ⟨Z,h⟩=>go_up h,λ⟨Z,h⟩=>⟨Z,kz (λF V o h=>i5 Z (Z+1) F V o (by omega) h) Z Z n _ _ o (by omega) h⟩⟩
def go_back{X:List Lp}{Z:Lp}(h:nA U i=some (Z,X)):p.Go (.back U Q) O i o<->p.Go Z.t (Z.O.ext (Q.map (SV.xv O))) (Z::X) o:=by
 rw[go_of];simp only[exec,h];exact⟨λ⟨n,h⟩=>go_up h,λ⟨n,h⟩=>⟨n,kz (λf W o h=>i5 n (n+1) f W o (by omega) h) n n Z.t _ _ o (by omega) h⟩⟩
def go_call{W:aX}(h:p.Ev F ((lu Q).map (SV.xv O)) (.ret l))(V:dj r l=true)(X:p.Go n (O.ext l) i o):p.Go (.call F Q W N r e n) O i o:=by
 obtain⟨Z,h⟩:=h;obtain⟨m,X⟩:=X;refine⟨max Z m+1, ?_⟩;simp only[exec];rw[i5 Z _ _ _ _ (by omega) h];simp only[V,if_true];exact kz (λF U o h=>i5 m _ F U o (by omega) h) m _ n _ _ o (by omega) X
def go_callp{X:aX}{v:Value}(h:p.Ev F ((lu Q).map (SV.xv O)) (.aR v)):p.Go (.call F Q X N r e n) O i (.aR v):=by
 obtain⟨Z,h⟩:=h;refine⟨Z+1, ?_⟩;simp only[exec];rw[i5 Z _ _ _ _ (by omega) h]
end
end
section
structure PC where
 ao:Nat
 I:List XV->Prop
 μ:List XV->Nat
 m:Nat
def C7(ao:Nat):List PC->Option PC
 |[]=>none
 |x::Z=>if x.ao=ao then some x else C7 ao Z
def J6(R:aQ->Prop):Prop:=∀o Z,R o->R Z->o=Z/\uu o o=true
def T.jq(Z:FuncId->List XV->aQ->Prop):T->(aQ->Prop)->aa->List PC->Prop
 |.ret v _ _,R,O,_=>R (.ret ((qO v).map (SV.xv O)))
 |.aR v,R,O,_=>∃x,C0 O v=some x/\R (.aR x)
 |.node b t f,R,O,L=>(b.den O=true->t.jq Z R O L)/\(b.den O=false->f.jq Z R O L)
 |.aF b t,R,O,L=>b.den O=true/\t.jq Z R O L
 |.call f N _ _ M _ t,R,O,L=>∃o,Z f ((lu N).map (SV.xv O)) o/\(match o with
  |.ret U=>dj M U=true/\t.jq Z R (O.ext U) L
  |.aR v=>R (.aR v))
 |.loop ao _ J t,R,O,L=>∃X W,((X=R/\W=L)\/((∀o,X o->R o)/\W=[]))/\∃I Q,I (J.map (SV.xv O))/\∀V,I V->t.jq Z X (O.ext V) (⟨ao,I,Q,Q V⟩::W)
 |.back ao x,R,O,L=>match C7 ao L with
  |some c=>c.I (x.map (SV.xv O))/\c.μ (x.map (SV.xv O))<c.m
  |none=>False
 |.new _ x _ _ t,R,O,L=>t.jq Z R (O.add (.r (eK x O))) L
 |.rows _ x _ t,R,O,L=>t.jq Z R (O.add (.r (eK x O))) L
 |.dW g h t f,R,O,L=>(g.den O=true\/h.den O=true)/\(g.den O=true->t.jq Z R O L)/\(h.den O=true->f.jq Z R O L)/\(g.den O=true->h.den O=true->J6 R)
 |.pick n g h t f,R,O,L=>J6 R/\nz n g h O≠[]/\(∀j:Int,0<=j->j<n.den O->g.den (O.add (.i j))=true->t.jq Z R (O.add (.i j)) L)/\(h.den O=true->f.jq Z R O L)
 |.cA _ _ _ H G r _ t,R,O,L=>∃P,jM O H G (r.rv O).rows=some P/\t.jq Z R (O.add (.r (.mk (r.rv O).val P))) L
 |.stuck _,_,_,_=>False
 |.out _ _,_,_,_=>False
def T.wp(Z:FuncId->List XV->aQ->Prop)(R:aQ->Prop)(t:T)(O:aa)(L:List PC):Prop:=t.jq Z R O L
section
variable{a:gT}{R:aQ->Prop}
inductive we(a:gT)(R:aQ->Prop):List PC->List Lp->Prop where
 |nil (st:List Lp):we a R [] st
 |cons (c:PC) (fr:Lp) (L:List PC) (st:List Lp) (h1:c.ao=fr.ao) (h2:∀xs,c.I xs->c.μ xs<c.m->∃o,a.Go fr.t (fr.O.ext xs) (fr::st) o/\R o) (h3:we a R L st):we a R (c::L) (fr::st)
def we.find{L:List PC}{W:List Lp}(h:we a R L W){c:PC}(X:C7 U L=some c):
  ∃Z P,nA U W=some (Z,P)/\∀V,c.I V->c.μ V<c.m->∃o,a.Go Z.t (Z.O.ext V) (Z::P) o/\R o:=by
 induction h with
 |nil _=>cases X
 |cons H Z L W N M G J=>
  simp only[C7] at X;simp only[nA,<-N];split at X;rename_i Q;cases X;rw[if_pos Q];exact⟨Z,W,rfl,M⟩;rename_i Q;rw[if_neg Q];exact J X
def go_mono{t:T}{O:aa}{Z:List Lp}{o:aQ}{n m:Nat}(h:exec (a.aO n) n t O Z=some o)(X:n<=m):exec (a.aO m) m t O Z=some o:=
 kz (λf W o h=>i5 n m f W o X h) n m t O Z o X h
def ags{Z:Type}{f:Z->Option aQ}{o:aQ}(X:uu o o=true):∀{l:List Z},l≠[]->(∀x∈l,f x=some o)->oD (l.map f)=some o
 |[],h,_=>absurd rfl h
 |[x],_,h=>by simpa[oD] using h x (by simp)
 |x::y::r,_,h=>by
  have:=ags X (l:=y::r) (by simp) (λz W=>h z (by simp at W⊢;exact .inr W));simp only[ayO,oD] at this⊢;rw[this,h x (by simp),wb,if_pos X]
def agt{W:Type}{p:W->Nat->Prop}(X:∀x n m,p x n->n<=m->p x m):∀{l:List W},(∀x∈l,∃n,p x n)->∃n,∀x∈l,p x n
 |[],_=>⟨0,λx V=>by cases V⟩
 |x::r,h=>by
  obtain⟨n,U⟩:=h x (by simp);obtain⟨m,Q⟩:=agt X (l:=r) (λz Z=>h z (by simp[Z]));refine⟨max n m,λz Z=> ?_⟩;rcases ayK.1 Z with rfl|Z;exact X _ _ _ U (by omega);exact X _ _ _ (Q z Z) (by omega)
def go_wp:∀(t:T)(R:aQ->Prop)(O:aa)(L:List PC)(Z:List Lp),t.jq a.Ev R O L->we a R L Z->∃o,a.Go t O Z o/\R o
 |.ret v bx E,R,O,L,Z,h,_=>⟨_,go_ret.2 rfl,h⟩
 |.aR v,R,O,L,Z,h,_=>by
  obtain⟨x,V,W⟩:=h;exact⟨.aR x,go_pan.2 (by rw[V];rfl),W⟩
 |.node b t f,R,O,L,Z,h,X=>by
  simp only[go_node];cases w:b.den O with
  |true=>simpa using go_wp t R O L Z (h.1 w) X
  |false=>simpa using go_wp f R O L Z (h.2 w) X
 |.aF b t,R,O,L,Z,h,X=>by
  obtain⟨o,V,W⟩:=go_wp t R O L Z h.2 X;exact⟨o,go_need.2 ⟨h.1,V⟩,W⟩
 |.call f a2 bx E ks fe t,R,O,L,Z,h,X=>by
  obtain⟨o,V,W⟩:=h;cases o with
  |ret ys=>
   obtain⟨o,N,M⟩:=go_wp t R (O.ext ys) L Z W.2 X;exact⟨o,go_call V W.1 N,M⟩
  |aR v=>exact⟨.aR v,go_callp V,W⟩
 |.loop ao ks x0 t,R,O,L,Z,h,X=>by
  obtain⟨D,L',ab,I,μ,V,W⟩:=h;have u:we a D L' Z/\∀o,D o->R o:=by
   rcases ab with⟨rfl,rfl⟩|⟨N,rfl⟩;exact⟨X,λo h=>h⟩;exact⟨we.nil Z,N⟩
  have af:∀n U,μ U<n->I U->∃o,a.Go t (O.ext U) (⟨ao,t,O⟩::Z) o/\D o:=by
   intro n;induction n with
   |zero=>intro U A;omega
   |succ n ih=>
    intro U A hI;exact go_wp t D (O.ext U) _ _ (W U hI) (we.cons _ _ _ _ rfl (λag al hm=>ih ag (by simp only at hm;omega) al) u.1)
  obtain⟨o,N,M⟩:=af _ _ (Nat.lt_succ_self _) V;exact⟨o,go_loop.2 N,u.2 o M⟩
 |.back ao x,R,O,L,Z,h,X=>by
  simp only[T.jq] at h;split at h
  ·rename_i c hf;obtain⟨fr,a3,V,W⟩:=X.find hf;obtain⟨o,N,M⟩:=W _ h.1 h.2;exact⟨o,(go_back V).2 N,M⟩
  exact h.elim
 |.new e x E a4 t,R,O,L,Z,h,X=>by
  obtain⟨o,V,W⟩:=go_wp t R _ L Z h X;exact⟨o,go_new.2 V,W⟩
 |.rows e x E t,R,O,L,Z,h,X=>by
  obtain⟨o,V,W⟩:=go_wp t R _ L Z h X;exact⟨o,go_rows.2 V,W⟩
 |.dW g F t f,R,O,L,Z,h,X=>by
  obtain⟨C,V,W,N⟩:=h;cases G:g.den O with
  |true=>
   obtain⟨o,Q,J⟩:=go_wp t R O L Z (V G) X;cases H:F.den O with
   |true=>
    obtain⟨z,y,k2⟩:=go_wp f R O L Z (W H) X;obtain⟨rfl,e⟩:=N G H o z J k2;obtain⟨n,Q⟩:=Q;obtain⟨m,y⟩:=y;refine⟨o,⟨max n m+1, ?_⟩,J⟩;simp only[exec,G,H,if_true];rw[kz (λf U o h=>i5 n _ f U o (by omega) h) n (max n m) t O Z o (by omega) Q,kz (λf U o h=>i5 m _ f U o (by omega) h) m (max n m) f O Z o (by omega) y,wb,if_pos e]
   |false=>
    obtain⟨n,Q⟩:=Q;refine⟨o,⟨n+1, ?_⟩,J⟩;simp only[exec,G,H,if_true];exact kz (λf U o h=>i5 n _ f U o (by omega) h) n n t O Z o (by omega) Q
  |false=>
   have H:F.den O=true:=C.resolve_left (by simp[G]);obtain⟨o,Q,J⟩:=go_wp f R O L Z (W H) X;obtain⟨n,Q⟩:=Q;refine⟨o,⟨n+1, ?_⟩,J⟩;simp only[exec,G,H,if_true];exact kz (λf U o h=>i5 n _ f U o (by omega) h) n n f O Z o (by omega) Q
 |.pick m g F t f,R,O,L,Z,h,X=>by
  obtain⟨q,C,V,W⟩:=h;have d:∀j∈nz m g F O,∃o,R o/\(match j with
   |some j=>a.Go t (O.add (.i j)) Z o
   |none=>a.Go f O Z o):=by
   intro j P;cases j with
   |some j=>
    simp only[nz,ayL,ay1,azk,azz] at P;rcases P with⟨j',⟨⟨k,hk,rfl⟩,G⟩,e⟩|P
    ·cases e;obtain⟨o,Q,J⟩:=go_wp t R (O.add (.i (k:Int))) L Z (V _ (by omega) (by omega) G) X;exact⟨o,J,Q⟩
    split at P<;>simp at P
   |none=>
    simp only[nz,ayL,ay1,azk,azz] at P;rcases P with⟨j',_,e⟩|P;cases e;split at P
    ·rename_i H;obtain⟨o,Q,J⟩:=go_wp f R O L Z (W H) X;exact⟨o,J,Q⟩
    simp at P
  obtain⟨j0,an⟩:=List.exists_mem_of_ne_nil _ C;obtain⟨o,B,_⟩:=d j0 an;have a0:uu o o=true:=(q o o B B).2;obtain⟨n,A⟩:=agt (p:=λj n=>(match j with
   |some j=>exec (a.aO n) n t (O.add (.i j)) Z
   |none=>exec (a.aO n) n f O Z)=some o) (λx n m hx a1=>by cases x<;>exact go_mono hx a1) (l:=nz m g F O) (λj P=>by
    obtain⟨z,N,M⟩:=d j P;obtain⟨rfl,_⟩:=q o z B N;cases j<;>exact M)
  refine⟨o,⟨n+1, ?_⟩,B⟩;simp only[exec];refine ags a0 C λj P=> ?_
  have:=A j P;cases j with
  |some j=>exact kz (λf U o h=>i5 n _ f U o (by omega) h) n n t _ Z o (by omega) this
  |none=>exact kz (λf U o h=>i5 n _ f U o (by omega) h) n n f O Z o (by omega) this
 |.cA f g e sp sb r E t,R,O,L,Z,h,X=>by
  obtain⟨a5,V,W⟩:=h;obtain⟨o,N,M⟩:=go_wp t R _ L Z W X;exact⟨o,(go_turn V).2 N,M⟩
 |.stuck m,R,O,L,Z,h,_=>h.elim
 |.out e s,R,O,L,Z,h,_=>h.elim
def Ga(a:gT)(f:FuncId)(Z:Fn):Prop:=a.tree f=some Z/\∀X,a.ly f X=none
def agu{Z:Fn}(X:Ga a F Z)(V:Z.d=false\/∀v,¬R (.aR v))(h:Z.t.wp a.Ev R (dB (iH Z.g) l) []):∃o,a.Ev F l o/\R o:=by
 obtain⟨o,U,W⟩:=go_wp Z.t R _ [] [] h (we.nil []);refine⟨o,aqS X.1 (X.2 _) (V.imp id λQ=> ?_) U,W⟩;cases o with
 |ret P=>exact⟨P,rfl⟩
 |aR v=>exact(Q v W).elim
def C8{f:FuncId}{Z:Fn}{X:List XV}{o:aQ}(W:Ga a f Z)(V:Z.d=false\/∀v,o≠ .aR v)(h:Z.t.wp a.Ev (· =o) (dB (iH Z.g) X) []):a.Ev f X o:=by
 obtain⟨N,U,Q⟩:=agu (R:=(· =o)) W (V.imp id λP v O=>P v O.symm) h;exact Q▸U
def Ox{f:FuncId}{Z:List XV}{o X:aQ}(h:a.Ev f Z o)(k:a.Ev f Z X):o=X:=by
 obtain⟨n,h⟩:=h;obtain⟨m,k⟩:=k;have V:=i5 n (max n m) f Z o (by omega) h;have W:=i5 m (max n m) f Z X (by omega) k;rw[V] at W;cases W;rfl
end
end
def Oy(n j:Nat)(a b c:Int)(Z:List (List RV)):Int:=match fY n [a,b,c] Z with
 |some X=>bc (X.getD j default).val
 |none=>0
def Oz(n j:Nat)(a b c:Int)(Z:List (List RV)):Bool:=match fY n [a,b,c] Z with
 |some X=>gv (X.getD j default).val
 |none=>false
def IE.dn(e:IE):aa->Int:=IE.rec (motive_1:=λ_=>aa->Int) (motive_2:=λ_=>aa->Bool) (motive_3:=λ_=>aa->RV) (λn _=>n) (λk O=>O.i.getD k 0) (λZ k _ _ a b O=>aP Z k (a O) (b O)) (λk _ a O=>k.wrap (a O)) (λ_ r O=>lenOf (r O).val) (λX _ _ a b O=>cond X (max (a O) (b O)) (min (a O) (b O))) (λ_ _ _ b x y O=>cond (b O) (x O) (y O)) (λ_ _ j r i O=>bc (cellAt (r O).rows (i O) j).val) (λ_ _ r i O=>zY (r O).val (i O)) (λ_ n _ _ _ j r a b c O=>Oy n j (a O) (b O) (c O) (r O).rows) (λb _=>b) (λk O=>O.b.getD k false) (λZ _ _ a b O=>ey Z (a O) (b O)) (λ_ a O=> !(a O)) (λ_ _ a b O=>a O&&b O) (λ_ _ a b O=>a O==b O) (λ_ _ _ b x y O=>cond (b O) (x O) (y O)) (λ_ _ j r i O=>gv (cellAt (r O).rows (i O) j).val) (λ_ _ a b O=>qD (a O).val (b O).val) (λ_ n _ _ _ j r a b c O=>Oz n j (a O) (b O) (c O) (r O).rows) (λ_ n _ _ _ r a b c O=>(fY n [a O,b O,c O] (r O).rows).isSome) (λk O=>O.rv k) (λ_ _ j k r i O=>cN k (cellAt (r O).rows (i O) j)) (λv _=>.mk v []) e
def BE.dn(e:BE):aa->Bool:=BE.rec (motive_1:=λ_=>aa->Int) (motive_2:=λ_=>aa->Bool) (motive_3:=λ_=>aa->RV) (λn _=>n) (λk O=>O.i.getD k 0) (λZ k _ _ a b O=>aP Z k (a O) (b O)) (λk _ a O=>k.wrap (a O)) (λ_ r O=>lenOf (r O).val) (λX _ _ a b O=>cond X (max (a O) (b O)) (min (a O) (b O))) (λ_ _ _ b x y O=>cond (b O) (x O) (y O)) (λ_ _ j r i O=>bc (cellAt (r O).rows (i O) j).val) (λ_ _ r i O=>zY (r O).val (i O)) (λ_ n _ _ _ j r a b c O=>Oy n j (a O) (b O) (c O) (r O).rows) (λb _=>b) (λk O=>O.b.getD k false) (λZ _ _ a b O=>ey Z (a O) (b O)) (λ_ a O=> !(a O)) (λ_ _ a b O=>a O&&b O) (λ_ _ a b O=>a O==b O) (λ_ _ _ b x y O=>cond (b O) (x O) (y O)) (λ_ _ j r i O=>gv (cellAt (r O).rows (i O) j).val) (λ_ _ a b O=>qD (a O).val (b O).val) (λ_ n _ _ _ j r a b c O=>Oz n j (a O) (b O) (c O) (r O).rows) (λ_ n _ _ _ r a b c O=>(fY n [a O,b O,c O] (r O).rows).isSome) (λk O=>O.rv k) (λ_ _ j k r i O=>cN k (cellAt (r O).rows (i O) j)) (λv _=>.mk v []) e
def RE.dn(e:RE):aa->RV:=RE.rec (motive_1:=λ_=>aa->Int) (motive_2:=λ_=>aa->Bool) (motive_3:=λ_=>aa->RV) (λn _=>n) (λk O=>O.i.getD k 0) (λZ k _ _ a b O=>aP Z k (a O) (b O)) (λk _ a O=>k.wrap (a O)) (λ_ r O=>lenOf (r O).val) (λX _ _ a b O=>cond X (max (a O) (b O)) (min (a O) (b O))) (λ_ _ _ b x y O=>cond (b O) (x O) (y O)) (λ_ _ j r i O=>bc (cellAt (r O).rows (i O) j).val) (λ_ _ r i O=>zY (r O).val (i O)) (λ_ n _ _ _ j r a b c O=>Oy n j (a O) (b O) (c O) (r O).rows) (λb _=>b) (λk O=>O.b.getD k false) (λZ _ _ a b O=>ey Z (a O) (b O)) (λ_ a O=> !(a O)) (λ_ _ a b O=>a O&&b O) (λ_ _ a b O=>a O==b O) (λ_ _ _ b x y O=>cond (b O) (x O) (y O)) (λ_ _ j r i O=>gv (cellAt (r O).rows (i O) j).val) (λ_ _ a b O=>qD (a O).val (b O).val) (λ_ n _ _ _ j r a b c O=>Oz n j (a O) (b O) (c O) (r O).rows) (λ_ n _ _ _ r a b c O=>(fY n [a O,b O,c O] (r O).rows).isSome) (λk O=>O.rv k) (λ_ _ j k r i O=>cN k (cellAt (r O).rows (i O) j)) (λv _=>.mk v []) e
def OA{Z:Type}(b:Bool)(x y:Z):cond b x y=if b then x else y:=by cases b<;>rfl
mutual
def IE.dC:∀(e:IE)(O:aa),e.dn O=e.den O
 |.c _,_=>rfl
 |.v _,_=>rfl
 |.bin o k a b,O=>by show aP o k (a.dn O) (b.dn O)=_;rw[IE.dC a,IE.dC b];rfl
 |.conv k a,O=>by show k.wrap (a.dn O)=_;rw[IE.dC a];rfl
 |.len r,O=>by show lenOf (r.dn O).val=_;rw[RE.dC r];rfl
 |.mm m a b,O=>by show cond m (max (a.dn O) (b.dn O)) (min (a.dn O) (b.dn O))=_;rw[IE.dC a,IE.dC b,OA];rfl
 |.b9 b x y,O=>by show cond (b.dn O) (x.dn O) (y.dn O)=_;rw[BE.dC b,IE.dC x,IE.dC y,OA];rfl
 |.cell r i j,O=>by show bc (cellAt (r.dn O).rows (i.dn O) j).val=_;rw[RE.dC r,IE.dC i];rfl
 |.j6 r i,O=>by show zY (r.dn O).val (i.dn O)=_;rw[RE.dC r,IE.dC i];rfl
 |.look r n a b c j,O=>by show Oy n j (a.dn O) (b.dn O) (c.dn O) (r.dn O).rows=_;rw[RE.dC r,IE.dC a,IE.dC b,IE.dC c];rfl
def BE.dC:∀(e:BE)(O:aa),e.dn O=e.den O
 |.c _,_=>rfl
 |.v _,_=>rfl
 |.cmp o a b,O=>by show ey o (a.dn O) (b.dn O)=_;rw[IE.dC a,IE.dC b];rfl
 |.not a,O=>by show(!(a.dn O))=_;rw[BE.dC a];rfl
 |.and a b,O=>by show(a.dn O&&b.dn O)=_;rw[BE.dC a,BE.dC b];rfl
 |.beq a b,O=>by show(a.dn O==b.dn O)=_;rw[BE.dC a,BE.dC b];rfl
 |.b9 b x y,O=>by show cond (b.dn O) (x.dn O) (y.dn O)=_;rw[BE.dC b,BE.dC x,BE.dC y,OA];rfl
 |.cell r i j,O=>by show gv (cellAt (r.dn O).rows (i.dn O) j).val=_;rw[RE.dC r,IE.dC i];rfl
 |.seq a b,O=>by show qD (a.dn O).val (b.dn O).val=_;rw[RE.dC a,RE.dC b];rfl
 |.look r n a b c j,O=>by show Oz n j (a.dn O) (b.dn O) (c.dn O) (r.dn O).rows=_;rw[RE.dC r,IE.dC a,IE.dC b,IE.dC c];rfl
 |.has r n a b c,O=>by show(fY n [a.dn O,b.dn O,c.dn O] (r.dn O).rows).isSome=_;rw[RE.dC r,IE.dC a,IE.dC b,IE.dC c];rfl
def RE.dC:∀(e:RE)(O:aa),e.dn O=e.rv O
 |.v _,_=>rfl
 |.cell r i j k,O=>by show cN k (cellAt (r.dn O).rows (i.dn O) j)=_;rw[RE.dC r,IE.dC i];rfl
 |.k _,_=>rfl
end
def fN{Z:Type}(n:Nat)(k:Nat->Z):Z:=aA5 (motive:=λ_=>Z) (k 0) (λm _=>k (Nat.succ m)) n
def fI{Z:Type}(n:Int)(k:Int->Z):Z:=Int.rec (motive:=λ_=>Z) (λn=>fN n λn=>k (aCe n)) (λn=>fN n λn=>k (aBP n)) n
def fB{Z:Type}(b:Bool)(k:Bool->Z):Z:=aA2 (motive:=λ_=>Z) (k false) (k true) b
def fV{Z:Type}(v:Value)(k:Value->Z):Z:=match v with
 |.int q n=>fI n λn=>k (.int q n)
 |.bool b=>fB b λb=>k (.bool b)
 |.slice none n c=>fN n λn=>fN c λc=>k (.slice none n c)
 |v=>k v
def fR{Z:Type}(v:RV):(RV->Z)->Z:=RV.rec (motive_1:=λ_=>(RV->Z)->Z) (motive_2:=λ_=>(List (List RV)->Z)->Z) (motive_3:=λ_=>(List RV->Z)->Z) (λv _ h k=>fV v λv=>h λl=>k (.mk v l)) (λk=>k []) (λ_ _ h X k=>h λx=>X λW=>k (x::W)) (λk=>k []) (λ_ _ h X k=>h λx=>X λW=>k (x::W)) v
def WP{Z:Type}(v:List (List RV)):(List (List RV)->Z)->Z:=RV.rec_1 (motive_1:=λ_=>(RV->Z)->Z) (motive_2:=λ_=>(List (List RV)->Z)->Z) (motive_3:=λ_=>(List RV->Z)->Z) (λv _ h k=>fV v λv=>h λl=>k (.mk v l)) (λk=>k []) (λ_ _ h X k=>h λx=>X λW=>k (x::W)) (λk=>k []) (λ_ _ h X k=>h λx=>X λW=>k (x::W)) v
def WQ{Z:Type}(v:List RV):(List RV->Z)->Z:=RV.rec_2 (motive_1:=λ_=>(RV->Z)->Z) (motive_2:=λ_=>(List (List RV)->Z)->Z) (motive_3:=λ_=>(List RV->Z)->Z) (λv _ h k=>fV v λv=>h λl=>k (.mk v l)) (λk=>k []) (λ_ _ h X k=>h λx=>X λW=>k (x::W)) (λk=>k []) (λ_ _ h X k=>h λx=>X λW=>k (x::W)) v
def fX{Z:Type}(x:XV)(k:XV->Z):Z:=match x with
 |.i n=>fI n λn=>k (.i n)
 |.b b=>fB b λb=>k (.b b)
 |.r v=>fR v λv=>k (.r v)
def fL{Z:Type}(l:List XV):(List XV->Z)->Z:=aAl (motive:=λ_=>(List XV->Z)->Z) (λk=>k []) (λx _ X k=>fX x λx=>X λW=>k (x::W)) l
def OC{Z:Type}:∀(n:Nat)(k:Nat->Z),fN n k=k n
 |0,_=>rfl
 |_+1,_=>rfl
def WR{Z:Type}:∀(n:Int)(k:Int->Z),fI n k=k n
 |.ofNat n,k=>OC n λn=>k (aCe n)
 |.negSucc n,k=>OC n λn=>k (aBP n)
def agv{Z:Type}:∀(n:Bool)(k:Bool->Z),fB n k=k n
 |false,_=>rfl
 |true,_=>rfl
def aqT{Z:Type}(v:Value)(k:Value->Z):fV v k=k v:=by
 unfold fV;split;exact WR _ _;exact agv _ _;rw[OC,OC];rfl
mutual
def WS{Z:Type}:∀(v:RV)(k:RV->Z),fR v k=k v
 |.mk v l,k=>by
  show(fV v λv=>WP l λl=>k (.mk v l))=_;rw[aqT,agw l]
def agw{X:Type}:∀(l:List (List RV))(k:List (List RV)->X),WP l k=k l
 |[],_=>rfl
 |x::Z,k=>by
  show(WQ x λx=>WP Z λZ=>k (x::Z))=_;rw[agx x,agw Z]
def agx{X:Type}:∀(l:List RV)(k:List RV->X),WQ l k=k l
 |[],_=>rfl
 |x::Z,k=>by
  show(fR x λx=>WQ Z λZ=>k (x::Z))=_;rw[WS x,agx Z]
end
def aqU{Z:Type}(x:XV)(k:XV->Z):fX x k=k x:=by
 cases x<;>simp only[fX,WR,agv,WS]
def agy{X:Type}:∀(l:List XV)(k:List XV->X),fL l k=k l
 |[],_=>rfl
 |x::Z,k=>by
  show(fX x λx=>fL Z λZ=>k (x::Z))=_;rw[aqU,agy Z]
def fS{Z V:Type}(l:List V):(List V->Z)->Z:=aAl (motive:=λ_=>(List V->Z)->Z) (λk=>k []) (λx _ X k=>X λW=>k (x::W)) l
def fE{Z:Type}(O:aa)(k:aa->Z):Z:=aa.rec (motive:=λ_=>Z) (λi b r y=>fS i λi=>fS b λb=>fS r λr=>k ⟨i,b,r,y⟩) O
def OD{X V:Type}:∀(l:List V)(k:List V->X),fS l k=k l
 |[],_=>rfl
 |x::Z,k=>OD Z λZ=>k (x::Z)
def agz{Z:Type}(O:aa)(k:aa->Z):fE O k=k O:=by
 obtain⟨i,b,r,y⟩:=O;show(fS i λi=>fS b λb=>fS r λr=>k ⟨i,b,r,y⟩)=_;rw[OD,OD,OD]
def SV.xn(O:aa):SV->XV
 |.int _ e=>.i (e.dn O)
 |.bool b=>.b (b.dn O)
 |.ref r=>.r (r.dn O)
 |_=>.i 0
def aqV(O:aa):SV.xn O=SV.xv O:=by
 funext v;cases v<;>simp only[SV.xn,SV.xv,IE.dC,BE.dC,RE.dC]
def T.step(Z:T->aa->List Lp->Option aQ)(aO:jQ)(t:T)(O:aa)(X:List Lp):Option aQ:=match t with
 |.ret v _ _=>fL ((qO v).map (SV.xn O)) λl=>some (.ret l)
 |.aR v=>(C0 O v).map .aR
 |.node b t f=>cond (b.dn O) (Z t O X) (Z f O X)
 |.aF b t=>cond (b.dn O) (Z t O X) none
 |.call f R _ _ Q _ t=>fL ((lu R).map (SV.xn O)) λW=>match aO f W with
  |some (.ret U)=>cond (dj Q U) (fE (O.ext U) λO=>Z t O X) none
  |some (.aR v)=>some (.aR v)
  |none=>none
 |.loop ao _ P t=>fL (P.map (SV.xn O)) λW=>fE (O.ext W) λN=>Z t N (⟨ao,t,O⟩::X)
 |.back ao x=>match nA ao X with
  |some (V,M)=>fL (x.map (SV.xn O)) λW=>fE (V.O.ext W) λO=>Z V.t O (V::M)
  |none=>none
 |.new _ x _ _ t=>fR (eK x O) λv=>fE (O.add (.r v)) λO=>Z t O X
 |.rows _ x _ t=>fR (eK x O) λv=>fE (O.add (.r v)) λO=>Z t O X
 |.dW g h t f=>cond (g.dn O) (cond (h.dn O) (wb (Z t O X) (Z f O X)) (Z t O X)) (cond (h.dn O) (Z f O X) none)
 |.pick m g h t f=>oD ((nz m g h O).map λj=>match j with
  |some j=>fI j λj=>fE (O.add (.i j)) λO=>Z t O X
  |none=>Z f O X)
 |.cA _ _ _ L J r _ t=>match jM O L J (r.dn O).rows with
  |some l=>fR (.mk (r.dn O).val l) λv=>fE (O.add (.r v)) λO=>Z t O X
  |none=>none
 |_=>none
def OE(aO:jQ)(n:Nat):T->aa->List Lp->Option aQ:=aA5 (motive:=λ_=>T->aa->List Lp->Option aQ) (λ_ _ _=>none) (λ_ Z=>T.step Z aO) n
def agA(aO:jQ):∀n,OE aO n=exec aO n
 |0=>by funext t O Z;simp only[exec];rfl
 |n+1=>by
  funext t O Z;show T.step (OE aO n) aO t O Z=_;rw[agA aO n];cases t<;>simp only[T.step,exec,OA,BE.dC,RE.dC,aqV,agy,WS,WR,agz]
  try case call f X _ _ U _ t=>
   cases aO f ((lu X).map (SV.xv O)) with
   |none=>rfl
   |some o=>cases o<;>rfl
  try case back ao x=>cases nA ao Z<;>rfl
  try case pick m g h t f=>
   refine congrArg oD (ayZ λj _=> ?_);cases j<;>rfl
  try case cA f g e W V r R t=>cases jM O W V (r.rv O).rows<;>rfl
def OF(Z:gT)(n:Nat):jQ:=aA5 (motive:=λ_=>jQ) Z.ly (λn V f W=>match Z.ly f W with
  |some o=>some o
  |none=>match Z.tree f with
   |some X=>uy X.d (fE (dB (iH X.g) W) λO=>OE V n X.t O [])
   |none=>none) n
def agB(Z:gT):∀n,OF Z n=Z.aO n
 |0=>rfl
 |n+1=>by
  funext f X;simp only[gT.aO];show(match Z.ly f X with
   |some o=>some o
   |none=>match Z.tree f with
    |some W=>uy W.d (fE (dB (iH W.g) X) λO=>OE (OF Z n) n W.t O [])
    |none=>none)=_
  rw[agB Z n];simp only[agA,agz]
  all_goals cases Z.ly f X with
  |some o=>rfl
  |none=>cases Z.tree f<;>rfl
def aqW{Z:gT}{n f:Nat}{X:List XV}{o:aQ}(h:OF Z n f X=some o):Z.Ev f X o:=⟨n,by rw[<-agB];exact h⟩
end
end Go.Proofs.YtieaiocljdpebaaGreatDoor.Y
