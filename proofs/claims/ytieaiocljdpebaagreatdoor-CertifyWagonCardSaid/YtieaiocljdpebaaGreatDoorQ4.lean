/- Part 4 of the proof; the last part says what is shown. -/
import Derived.Test.YtieaiocljdpebaaGreatDoorQ3
import Derived.WalkKit
import Derived.Below
import Derived.DefersIn
import Derived.RangeFuncLeaves
set_option linter.defProp false
set_option linter.unusedVariables false
set_option linter.unusedSimpArgs false
set_option linter.unnecessarySimpa false
open Bool renaming and_eq_true→awF,not_eq_true'→awY,false_eq_true→aw0,or_eq_true→aw9,or_eq_false_iff→axo,eq_iff_iff→axO,and_self→axZ,not_eq_false→ax8,and_true→ayG,rec→azb,not_true→azy,not_eq_true→azJ,true_eq_false→aAg
open List renaming getElem?_eq_some_iff→awG,getElem?_eq_getElem→awH,getElem?_append_left→awI,getD_eq_getElem?_getD→awK,getElem?_map→awL,getElem?_append_right→awM,mem_cons→awP,length_append→awQ,mem_append→awR,replicate→awS,map_cons→awT,all_eq_true→awU,cons_append→awV,nil_append→awX,mem_of_getElem?→aw1,pairwise_cons→aw2,range→aw3,getElem?_eq_none→aw4,map_congr_left→aw5,mem_map→aw7,pairwise_append→aw8,length_eq_one_iff→axb,getElem?_take→axc,ext_getElem?→axd,any_eq_true→axe,contains_iff_mem→axg,getElem?_cons_succ→axh,length_cons→axm,length_eq_zero_iff→axp,mem_filter→axr,map_map→axu,getElem?_of_mem→axv,mem_append_left→axw,getElem?_cons_zero→axz,getElem?_eq_none_iff→axA,length_map→axB,getElem?_set→axC,nodup_append→axF,getElem?_replicate→axK,mem_range→axR,mem_cons_of_mem→axS,mem_filterMap→axV,getD_cons_zero→axY,map_nil→ax0,foldl_cons→ax4,append_assoc→ax9,append_nil→aya,mem_append_right→ayf,mem_of_find?_eq_some→ayg,pairwise_iff_getElem→ayh,length_nil→ayj,mem_cons_self→ayp,map_append→ayq,rec→ayt,range_eq_range'→ayv,filterMap_cons→ayC,all_cons→ayF,mem_singleton→ayJ,sublist_cons_self→ayO,pairwise_map→ayQ,all_map→ayT,find?_some→ayY,drop_left'→ay2,getElem?_toArray→azg,mem_iff_getElem?→azi,drop_zero→azt,any_map→azH,find?_cons→azN,filter_map→azO,sizeOf_lt_of_mem→azY,drop_succ_cons→az9,Sublist→aAf,append_of_mem→aAh,filterMap_map→aAi
open Option.some renaming injEq→awJ
open Nat renaming le_refl→awN,lor→awW,zero_add→axf,shiftLeft→axk,le_trans→axn,beq→axx,testBit_or→ax7,lt_succ_self→ayx,strongRecOn→ay1,rec→azd,div_add_mod→azk,one_shiftLeft→azC,eq_of_beq_eq_true→azT,shiftRight→azZ,testBit_two_pow→az7,lt_or_gt_of_ne→aAc
open Option renaming map_some→awO,isSome_iff_exists→awZ,getD_some→axi,map_eq_some_iff→ayd,bind_some→ayV,isNone_iff_eq_none→azE
open Array renaming getElem?_eq_some_iff→aw6,toList_map→axq,ext'→axD,getElem?_eq_getElem→ayZ,getD_eq_getD_getElem?→azw,foldl_toList→aAb
open Int renaming negSucc→azS,ofNat→aAj
open Prod.mk renaming injEq→ayl
open List.Sublist renaming append→ayX,refl→ay7
namespace Go.Proofs.YtieaiocljdpebaaGreatDoor.Y
open Go.RowKit
noncomputable section
section
def adN(s:S)(ds:List Nat)(i:Nat):(s.bE ds).tmps[i]?=(s.tmps[i]?).map λx=>if ds.contains i then .any else x:=by
 simp only[S.bE];rw[qy,axf]
def aog{s:S}{ds:List Nat}{i:Nat}(h:i∉ds):(s.bE ds).tmps[i]?=s.tmps[i]?:=by
 rw[adN];cases s.tmps[i]?<;>simp[h]
def adO{ni nb Z:Nat}{pr:Nat->Bool}(ds:List Nat):∀(l:List SV)(n:Nat),SV.ck ni nb Z pr l=true->SV.ck ni nb Z pr (oq ds n l)=true
 |[],n,_=>rfl
 |x::xs,n,h=>by
  simp only[SV.eY,awF] at h;simp only[oq,SV.eY,awF];refine⟨?_,adO ds xs (n+1) h.2⟩;split;simp[SV.aG];exact h.1
def FH{s:S}{ds:List Nat}{l:List SV}(h:s.cU l=true):(s.bE ds).cU l=true:=by
 simp only[S.cU,S.bd,awF,S.bE] at h⊢;exact⟨⟨adO ds _ 0 h.1.1,h.1.2⟩,h.2⟩
def Ah{s:S}{ds:List Nat}{d:Option Nat}{v:SV}(h:∀x,d=some x->x∉ds):(s.put d v).bE ds=(s.bE ds).put d v:=by
 cases d with
 |none=>rfl
 |some x=>
  have Z:=h x rfl;simp only[S.put,nh,S.bE];congr 1;apply axd;intro i;rw[qy,axf,axC,axC,qy,axf,FF];by_cases hi:x=i;subst hi;by_cases X:x<s.tmps.length<;>simp[X,Z];simp[hi]
def aoh{s:S}{ds es:List Nat}(h:∀x∈es,x∈ds):(s.bE es).bE ds=s.bE ds:=by
 simp only[S.bE];congr 1;apply axd;intro i;rw[qy,qy,qy,axf];cases s.tmps[i]? with
 |none=>rfl
 |some x=>
  simp only[awO];by_cases hi:i∈ds;simp[hi];have:i∉es:=λZ=>hi (h i Z)
  simp[hi,this]
def aoi(v:SV):ID false v=0:=by
 cases v<;>rfl
section
variable{p:Sp}{cf:bc}{ops:Array Oper}
def ao.bE{D:bw}{s:S}{ρ:aa}{β:List Nat}{a:Act}{W:World}(R:ao p.S0 p.w0 D cf.ty β ρ s a W)(ds:List Nat):ao p.S0 p.w0 D cf.ty β ρ (s.bE ds) a W:=by
 refine⟨R.mem,R.dX,R.ei,R.eb,R.er,R.bT,by simp only[S.bE,FF];exact R.size,λt V Z=> ?_,R.cO⟩;rw[adN] at Z;cases X:s.tmps[t]? with
 |none=>rw[X] at Z;cases Z
 |some x=>
  rw[X] at Z;simp only[awO,awJ] at Z;split at Z;exact .inl Z.symm;subst Z;exact R.tmps t x X
def adP{m:OM}{s:S}{ρ:aa}{b:BE}{v:SV}(U:jY m.o.op=true)(R:m.aY=false)(h:vQ cf s m.o=some (b,v))(Q:b.den ρ=true):(dR cf m s).gives ρ (s.put m.o.dst v):=by
 unfold vQ at h;split at h;cases h;rename_i Z;simp only[aw9,not_or,azJ] at Z;obtain⟨Z,X⟩:=Z;have W:(oj s m.o.dst 0 (bq cf.ty cf.gl s m.o.op)).gives ρ (s.put m.o.dst v):=by
  split at h;rename_i w V;cases h;rw[V];simp only[oj,OR.gives,CG];rename_i O w V;split at h;rename_i aO;cases h;rw[V];simp only[oj,aO,if_true,OR.gives,CG,and_true];exact Q;cases h;cases h
 unfold dR;rw[if_neg (by rw[Z];simp)];cases P:m.o.op<;>rw[P] at U W X<;>simp only[jY,aw0,S6] at U X<;>first|exact W|(simp only[R,aoi];exact W)|cases X
def NN{o:Oper}{s:S}{ρ:aa}{ds:List Nat}(h:∀t∈gu ops o,t∉ds):gX cf ops o s ρ (s.bE ds) ρ:=gX.ue (λt Z=>aog (h t Z)) rfl rfl rfl
def adQ{o:Oper}{s:S}{ds:List Nat}{r:BE×SV}(h:∀t∈gu ops o,t∉ds)(Z:vQ cf s o=some r):vQ cf (s.bE ds) o=some r:=by
 have W:=NN (cf:=cf) (s:=s) (ρ:=⟨[],[],[],[]⟩) h;have U:=W.ev cf.gl;unfold vQ at Z⊢;split at Z;cases Z;rename_i P;have O:¬((o.op.operands.toList.any λx=>((s.bE ds).ev cf.gl x).cN)||S6 o.op)=true:=by
  intro X;apply P;simp only[aw9] at X⊢;rcases X with X|X;left;obtain⟨x,Q,N⟩:=axe.1 X;exact axe.2 ⟨x,Q,by rw[<-U x Q];exact N⟩;exact .inr X
 rw[if_neg O];cases V:bq cf.ty cf.gl s o.op with
 |ok w=>rw[Nw (ty:=cf.ty) U W.kd W.kl (λi _=>rfl) V (λw R=>by cases R)];rw[V] at Z;exact Z
 |az b w=>rw[Nw (ty:=cf.ty) U W.kd W.kl (λi _=>rfl) V (λw R=>by cases R)];rw[V] at Z;exact Z
 |no w=>rw[V] at Z;cases Z
def aoj{m:OM}{s s':S}{ds:List Nat}(U:IR m.o.op=true)(h:∀t∈gu ops m.o,t∉ds)(V:∀x,m.o.dst=some x->x∉ds)(Z:dR cf m s=.ok s'):dR cf m (s.bE ds)=.ok (s'.bE ds):=by
 have Q:=NN (cf:=cf) (s:=s) (ρ:=⟨[],[],[],[]⟩) h;have W:=Q.ev cf.gl;unfold dR at Z⊢;split at Z;cases Z;rename_i P;have O:¬(m.o.op.operands.toList.any λx=>((s.bE ds).ev cf.gl x).cN)=true:=by
  intro N;apply P;obtain⟨x,R,M⟩:=axe.1 N;exact axe.2 ⟨x,R,by rw[<-W x R];exact M⟩
 rw[if_neg O];have F:∀(n:Nat)(t:TypeId)(cs:List SV),(s.bE ds).bI n t cs=(s.bI n t cs).bE ds:=λ_ _ _=>rfl
 cases L:m.o.op<;>rw[L] at U Z W<;>simp only[IR,aw0] at U
 
 simp only at Z⊢;split at Z;split at Z;rename_i X;simp only[awF] at X;rw[if_pos (by simp only[awF];exact⟨FH X.1,X.2⟩)];cases Z;rw[Ah V];rfl;cases Z;cases Z
 
 rename_i t x;simp only at Z⊢;rw[W x (by simp[Op.operands])];split at Z;split at Z;rename_i X;simp only[awF] at X;rw[if_pos (by simp only[awF];exact⟨⟨⟨X.1.1.1,FH X.1.1.2⟩,X.1.2⟩,X.2⟩)];cases Z;rw[Ah V];rfl;cases Z;cases Z;rename_i t E parts;simp only at Z⊢;have J:(parts.toList.map λq=>(q.1,(s.bE ds).ev cf.gl q.2))=parts.toList.map λq=>(q.1,s.ev cf.gl q.2):=by
  refine aw5 λq I=> ?_
  rw[W q.2 (by simp only[Op.operands,axq,aw7];exact⟨q,I,rfl⟩)]
 rw[J];split at Z;split at Z;split at Z;split at Z;rename_i X;simp only[awF] at X;rw[if_pos (by simp only[awF];exact⟨⟨FH X.1.1,X.1.2⟩,X.2⟩)];cases Z;congr 1;rw[Ah V];rfl;cases Z;cases Z;cases Z;cases Z
 
 rename_i t x y;simp only at Z⊢;rw[W x (by simp[Op.operands]),W y (by simp[Op.operands])];split at Z;split at Z;rename_i H;have G:iP (s.bE ds).boxes _=_:=H;rw[G];simp only;split at Z;rename_i X;rw[show(s.bE ds).lk=s.lk from rfl,if_pos X];cases Z;rw[Ah V];rfl;cases Z;cases Z;cases Z
def aok{o:Oper}{s:S}{ds:List Nat}(h:∀t∈gu ops o,t∉ds):∀x∈o.op.operands.toList,s.ev cf.gl x=(s.bE ds).ev cf.gl x:=
 λx Z=>((NN (cf:=cf) (s:=s) (ρ:=⟨[],[],[],[]⟩) h).ev cf.gl x Z).symm
def UU{ty:Ty}{s:S}{ds:List Nat}(r:RE):r.kind ty (s.bE ds)=r.kind ty s:=yb (s:=s.bE ds) (s':=s) rfl r
def UV{ty:Ty}{s:S}{ds:List Nat}:∀(ab:List CT)(l:List SV),ji ty (s.bE ds) ab l=ji ty s ab l
 |[],[]=>rfl
 |[],_::_=>rfl
 |_::_,[]=>rfl
 |c::cs,v::vs=>by
  simp only[ji,UV cs vs];congr 1;unfold oh;split<;>try rfl
  rename_i z k r;cases k<;>simp only[RE.fits,UU]
def NO{ty:Ty}{s:S}{ds:List Nat}(ab:List CT):∀l:List (List SV),jX ty (s.bE ds) ab l=jX ty s ab l
 |[]=>rfl
 |r::rs=>by simp only[jX,UV,NO ab rs]
def JL{s:S}{ds:List Nat}{d:Option Nat}{az:BE}{e:TypeId}{k:RK}{x:LE}{kill frz:List Nat}{b:BI}(X:∀x,d=some x->x∉ds)(h:gF s d az e k x kill frz=some b):gF (s.bE ds) d az e k x kill frz=some {b with s:=b.s.bE ds}:=by
 unfold gF at h⊢;split at h;rename_i Z;cases h;have W:(s.bE ds).bd=true:=by
  have V:s.cU []=true:=by
   simp only[awF] at Z;simp only[S.cU,SV.eY,ayG];exact Z.1.1.1
  have:=FH (ds:=ds) V;simpa only[S.cU,SV.eY,ayG] using this
 simp only[awF] at Z;rw[if_pos (by simp only[awF];exact⟨⟨⟨W,Z.1.1.2⟩,Z.1.2⟩,Z.2⟩),Ah X];rfl;cases h
def aol{s:S}{ds:List Nat}{e:TypeId}{aY:Bool}(v:SV):rR (s.bE ds) e aY v=rR s e aY v:=rfl
def aom{ty:Ty}{s:S}{ds:List Nat}{e:TypeId}{Z:TI}(v:SV):nq ty (s.bE ds) e Z v=nq ty s e Z v:=by
 unfold nq;split<;>simp only[UU,NO]<;>rfl
def adR{ds:List Nat}{k n:Nat}:∀(l:List SV)(i:Nat),oq ds i (SV.lA k n l)=SV.lA k n (oq ds i l)
 |[],_=>rfl
 |x::xs,i=>by
  simp only[SV.lA,oq,adR xs (i+1)];split<;>rfl
def aon{s:S}{ds:List Nat}{k n:Nat}:(s.bE ds).fa k n=(s.fa k n).bE ds:=by
 simp only[S.bE,S.fa,adR]
def aoo{o:Oper}{s:S}{ds:List Nat}{aY:Bool}{b:BI}(V:EM o.op=true)(h:∀t∈gu ops o,t∉ds)(R:∀x,o.dst=some x->x∉ds)(Z:cK cf o aY false s=some b):cK cf o aY false (s.bE ds)=some {b with s:=b.s.bE ds}:=by
 have X:=aok (cf:=cf) (s:=s) h;unfold cK at Z⊢;cases U:o.op with
 |call c=>
  rw[U] at V Z X;simp only[EM] at V;split at V
  ·rename_i J;simp only[J] at Z⊢;have I:c.args.toList.map ((s.bE ds).ev cf.gl)=c.args.toList.map (s.ev cf.gl):=aw5 λx W=>(X x (by simp[Op.operands,Call.operands];exact .inr (by simpa using W))).symm
   rw[I];simp only[aol,aom]
   repeat' split at Z
   all_goals first
    |cases Z;done
    |(have q:=JL (ds:=ds) R Z;(repeat' split)<;>first|exact q|contradiction|(exfalso;simp_all;done))
  cases V
 |makeSlice t n m=>
  rw[U] at Z X;simp only at Z⊢;rw[<-X n (by simp[Op.operands]),<-X m (by simp[Op.operands])];simp only[NO]
  repeat' split at Z
  all_goals first
   |cases Z;done
   |(have q:=JL (ds:=ds) R Z;(repeat' split)<;>first|exact q|contradiction|(exfalso;simp_all;done))
 |buildSlice t C parts=>
  rw[U] at Z X;have H:(parts.toList.map λq=>(q.1,(s.bE ds).ev cf.gl q.2))=parts.toList.map λq=>(q.1,s.ev cf.gl q.2):=by
   refine aw5 λq P=> ?_
   rw[X q.2 (by simp only[Op.operands,axq,aw7];exact⟨q,P,rfl⟩)]
  have G:(parts.toList.any λq=>((s.bE ds).ev cf.gl q.2).cN)=parts.toList.any λq=>(s.ev cf.gl q.2).cN:=by
   rw[axO,axe,axe];constructor;rintro⟨x,W,O⟩;exact⟨x,W,by rw[X x.2 (by simp only[Op.operands,axq,aw7];exact⟨x,W,rfl⟩)];exact O⟩;rintro⟨x,W,O⟩;exact⟨x,W,by rw[<-X x.2 (by simp only[Op.operands,axq,aw7];exact⟨x,W,rfl⟩)];exact O⟩
  simp only at Z⊢;rw[H,G];simp only[NO]
  repeat' split at Z
  all_goals first
   |cases Z;done
   |(have q:=JL (ds:=ds) R Z;(repeat' split)<;>first|exact q|contradiction|(exfalso;simp_all;done))
 |slice t x lo hi L=>
  rw[U] at Z X;have N:∀y:Option Operand,(∀z,y=some z->z∈(Op.slice t x lo hi L).operands.toList)->y.map ((s.bE ds).ev cf.gl)=y.map (s.ev cf.gl):=by
   intro y F;cases y with
   |none=>rfl
   |some z=>simp only[awO];rw[<-X z (F z rfl)]
  simp only at Z⊢;rw[<-X x (by simp[Op.operands]),N lo (λz Q=>by subst Q;simp[Op.operands]),N hi (λz Q=>by subst Q;simp[Op.operands]),N L (λz Q=>by subst Q;simp[Op.operands])];simp only[UU]
  repeat' split at Z
  all_goals first
   |cases Z;done
   |(have q:=JL (ds:=ds) R Z;(repeat' split)<;>first|exact q|contradiction|(exfalso;simp_all;done))
 |store t a x=>
  rw[U] at Z X;simp only at Z⊢;rw[<-X a (by simp[Op.operands]),<-X x (by simp[Op.operands])];have E:(s.bE ds).rs=s.rs:=rfl;simp only[UV];rw[E];have key:∀{az:BE}{e:TypeId}{M:RK}{y:LE}{kill frz:List Nat}{k:Nat}{b:BI},(gF s none az e M y kill frz).map (λb=>{b with s:=(b.s.fa k s.rs.length).put o.dst (.bj [])})=some b->
    (gF (s.bE ds) none az e M y kill frz).map (λb=>{b with s:=(b.s.fa k s.rs.length).put o.dst (.bj [])})=some {b with s:=b.s.bE ds}:=by
   intro az e M y kill frz k b P;obtain⟨B,D,rfl⟩:=ayd.1 P;rw[JL (ds:=ds) (by simp) D];simp only[awO];rw[aon,<-Ah R]
  repeat' split at Z
  all_goals first
   |cases Z;done
   |(have q:=key Z;clear key;(repeat' split)<;>first|exact q|contradiction|(exfalso;simp_all;done))
 |_=>rw[U] at V;simp[EM] at V
end
section
variable{ops:Array Oper}
def qd(l:List OM):List Nat:=l.filterMap (·.o.dst)
structure pu(ops:Array Oper)(listed:Array Bool)(rem:List OM):Prop where
 mem:∀m∈rem,ops[m.j]?=some m.o
 un:∀i,i<ops.size->(listed.getD i true=false<->∃m∈rem,m.j=i)
 sz:listed.size=ops.size
 dn:∀(j:Nat)(o:Oper),ops[j]?=some o->listed.getD j false=true->∀e∈iB o,listed.getD e false=true
 nd:rem.Pairwise λx y=>x.j≠y.j
def pu.listed{X:List Nat}{listed:Array Bool}{Q:List OM}(W:FC ops X)(P:pu ops listed Q):∀(j:Nat)(o:Oper),ops[j]?=some o->(∀e∈iB o,listed.getD e false=true)->∀i,i<ops.size->(X.getD j 0).testBit i=true->listed.getD i false=true:=by
 intro j;induction j using ay1 with
 |_ j O=>
  intro o Z V i hi N;rcases W.cl j o Z i hi N with h|⟨e,U,h⟩;exact V i h;have M:=W.lt j o Z e U;have L:j<ops.size:=(aw6.1 Z).1;have R:ops[e]?=some ops[e]:=ayZ (by omega);exact O e M ops[e] R (P.dn e _ R (V e U)) i hi h
def pu.lt{listed:Array Bool}{Z:List OM}(X:pu ops listed Z){m:OM}(W:m∈Z):m.j<ops.size:=(aw6.1 (X.mem m W)).1
def pu.not{listed:Array Bool}{W:List OM}(Z:pu ops listed W){m:OM}(X:m∈W):listed.getD m.j false≠true:=by
 have h:=(Z.un m.j (Z.lt X)).2 ⟨m,X,rfl⟩;have V:m.j<listed.size:=by rw[Z.sz];exact Z.lt X
 simp[V] at h⊢;exact h
def pu.next{listed:Array Bool}{xs ys:List OM}{m:OM}(X:pu ops listed (xs++m::ys))(L:∀e∈iB m.o,listed.getD e false=true):pu ops (listed.setIfInBounds m.j true) (xs++ys):=by
 have O:=X.mem m (by simp);have J:m.j<ops.size:=(aw6.1 O).1;have V:m.j<listed.size:=by rw[X.sz];exact J
 have U:aAf (xs++ys) (xs++m::ys):=ayX (ay7 _) (ayO _ _);have I:∀x∈xs++ys,x.j≠m.j:=by
  intro x Z;have R:=X.nd;rw[aw8] at R;rcases awR.1 Z with h|h;exact R.2.2 x h m (by simp);exact Ne.symm ((aw2.1 R.2.1).1 x h)
 refine⟨λx Z=>X.mem x (U.subset Z),λi hi=> ?_,by simp[X.sz],λj o Q W e N=> ?_,X.nd.sublist U⟩;rw[CH _ _ _ _ V];by_cases P:i=m.j;subst P;simp only[if_true,aAg,false_iff];rintro⟨x,Z,W⟩;exact I x Z W;rw[if_neg P,X.un i hi];constructor;rintro⟨x,Z,rfl⟩;refine⟨x, ?_,rfl⟩;simp only[awR,awP] at Z⊢;rcases Z with h|h|h;exact .inl h;subst h;exact absurd rfl P;exact .inr h;rintro⟨x,Z,rfl⟩;exact⟨x,U.subset Z,rfl⟩;rw[CH _ _ _ _ V];rw[CH _ _ _ _ V] at W;split;rfl;by_cases M:j=m.j;subst M;rw[O] at Q;cases Q;exact L e N;rw[if_neg M] at W;exact X.dn j o Q W e N
def pu.some{Q:List Nat}{listed:Array Bool}{X:List OM}(P:FC ops Q)(Z:pu ops listed X):∀(j:Nat),(∃m∈X,m.j=j)->∃m∈X,∀e∈iB m.o,listed.getD e false=true:=by
 intro j;induction j using ay1 with
 |_ j O=>
  rintro⟨m,W,rfl⟩;by_cases h:∀e∈iB m.o,listed.getD e false=true;exact⟨m,W,h⟩;simp only[Classical.not_forall] at h;obtain⟨e,N,V⟩:=h;have U:=P.lt m.j m.o (Z.mem m W) e N;have R:e<ops.size:=Nat.lt_trans U (Z.lt W);have:listed.getD e true=false:=by
   have M:e<listed.size:=by rw[Z.sz];exact R
   simp[M] at V⊢;exact V
  exact O e U ((Z.un e R).1 this)
end
def aop(ks:List LK)(s:S)(ds:List Nat):((s.bE ds).bz ks).1=(s.bz ks).1/\((s.bE ds).bz ks).2=(s.bz ks).2.bE ds:=by
 induction ks generalizing s with
 |nil=>exact⟨rfl,rfl⟩
 |cons k ks Z=>
  simp only[S.bz];have X:((s.bE ds).fresh k).1=(s.fresh k).1:=by cases k<;>rfl
  have W:((s.bE ds).fresh k).2=(s.fresh k).2.bE ds:=by cases k<;>rfl
  rw[X,W];obtain⟨V,U⟩:=Z (s.fresh k).2;exact⟨by rw[V],U⟩
section
variable{p:Sp}{cf:bc}
open Classical in
noncomputable def yo(s:S)(ds:List Nat)(k:SV->S->T):SV->S->T:=λv s'=>if s'.tmps=(s.bE ds).tmps then k v {s' with tmps:=s.tmps} else .stuck ""
def aoq{W:FuncId->Code->S->(XE->S->T)->T}{yh:YH}{g:FuncId}{args:List SV}{s:S}{ds:List Nat}{k kp:SV->S->T}{ρ:aa}{L:List LC}
  (h:(gN cf W yh (.fn g) args s k kp).aD p ρ L):(gN cf W yh (.fn g) args (s.bE ds) (yo s ds k) (yo s ds kp)).aD p ρ L:=by
 unfold gN at h⊢;simp only at h⊢;split at h;rename_i c O rs N;split at h;rename_i V;rw[if_pos (FH V)];have:EI cf (s.bE ds) rs (yo s ds k) (yo s ds kp)=EI cf s rs k kp:=by
  funext e s';cases e<;>simp only[EI,yo,if_true]
 rw[this];exact h;exact h.elim;unfold vL at h⊢;split at h;split at h;rename_i ks M;obtain⟨U,R⟩:=aop ks (s.cut args ks) ds;have Q:(s.bE ds).cut args ks=(s.cut args ks).bE ds:=rfl;rw[Q,U,R];split at h;rename_i l J;split at h;rename_i Z;simp only[awF] at Z;rw[if_pos (by simp only[awF];exact⟨FH Z.1,Z.2⟩)];have X:((s.cut args ks).bz ks).2.tmps=s.tmps:=(sc ks (s.cut args ks)).2.1;have P:yo s ds k (one l) (((s.cut args ks).bz ks).2.bE ds)=k (one l) ((s.cut args ks).bz ks).2:=by
  simp only[yo];rw[if_pos (by simp only[S.bE,X])];congr 1;simp only[S.bE];generalize((s.cut args ks).bz ks).2=z at X;rw[<-X]
 rw[P];exact h;exact h.elim;exact h.elim;exact h.elim;exact h.elim
end
section
variable{p:Sp}{cf:bc}{ops:Array Oper}
def adS{α:Type}:∀{l:List α}{x:α},x∈l->∃xs ys,l=xs++x::ys/\(x,xs++ys)∈EK l
 |[],x,h=>by cases h
 |y::r,x,h=>by
  rcases awP.1 h with rfl|h;exact⟨[],r,rfl,by simp[EK]⟩;obtain⟨xs,ys,Z,X⟩:=adS h;subst Z;exact⟨y::xs,ys,rfl,by simp only[EK,awP,aw7];exact .inr ⟨_,X,rfl⟩⟩
def UW{p:Sp}{ρ:aa}{L:List LC}:∀{l:List T},(xJ l).aD p ρ L->∀t∈l,t.aD p ρ L
 |[],h,_,_=>h.elim
 |[t],h,x,Z=>by simp only[ayJ] at Z;subst Z;exact h
 |t::u::r,h,x,Z=>by
  simp only[xJ,T.aD,BE.den,true_implies] at h;rcases awP.1 Z with rfl|Z;exact h.1;exact UW (l:=u::r) h.2 x Z
def JM:∀{l m:aX},jK l m=true->l=m
 |[],[],_=>rfl
 |[],_::_,h=>by simp[jK] at h
 |none::_,[],h=>by simp[jK] at h
 |some _::_,[],h=>by simp[jK] at h
 |none::xs,none::ys,h=>by simp only[jK] at h;rw[JM h]
 |none::_,some _::_,h=>by simp[jK] at h
 |some _::_,none::_,h=>by simp[jK] at h
 |some (t,cs)::xs,some (Z,cs')::ys,h=>by
  simp only[jK,awF,beq_iff_eq] at h;rw[h.1.1,SV.ow _ _ h.1.2,JM h.2]
def adT:∀{l m:List (List SV)},EL l m=true->l=m
 |[],[],_=>rfl
 |[],_::_,h=>by simp[EL] at h
 |_::_,[],h=>by simp[EL] at h
 |x::xs,y::ys,h=>by
  simp only[EL,awF] at h;rw[SV.ow _ _ h.1,adT h.2]
def LE.bl:∀(a b:LE),LE.same a b=true->a=b
 |.ref r,b,h=>by cases b<;>simp[LE.same] at h;rw[RE.bl _ _ h]
 |.lit l,b,h=>by cases b<;>simp[LE.same] at h;rw[adT h]
 |.jG x y,b,h=>by cases b<;>simp[LE.same] at h;rw[LE.bl _ _ h.1,LE.bl _ _ h.2]
 |.oc n row,b,h=>by cases b<;>simp[LE.same] at h;rw[IE.bl _ _ h.1,SV.ow _ _ h.2]
 |.set x i off cs,b,h=>by cases b<;>simp[LE.same] at h;rw[LE.bl _ _ h.1.1.1,IE.bl _ _ h.1.1.2,h.1.2,SV.ow _ _ h.2]
 |.sub x lo hi,b,h=>by cases b<;>simp[LE.same] at h;rw[LE.bl _ _ h.1.1,IE.bl _ _ h.1.2,IE.bl _ _ h.2]
 |.ins x n cs,b,h=>by cases b<;>simp[LE.same] at h;rw[LE.bl _ _ h.1.1,h.1.2,SV.ow _ _ h.2]
def S.bl{s s':S}(h:S.same s s'=true):s=s':=by
 obtain⟨O,a2,a3,a4,a5,N,M,L⟩:=s;obtain⟨J,I,H,G,F,E,D,C⟩:=s';simp only[S.same,awF,beq_iff_eq,decide_eq_true_eq] at h;obtain⟨⟨⟨⟨⟨⟨⟨Z,X⟩,W⟩,V⟩,U⟩,R⟩,Q⟩,P⟩:=h;rw[SV.ow _ _ Z,JM X,W,V,U,R,Q,P]
def T.bl:∀(a b:T),T.same a b=true->a=b
 |.out e s,b,h=>by
  cases e with
  |normal=>
   cases b with
   |out Z s'=>
    cases Z with
    |normal=>rw[S.bl (s:=s) (s':=s') h]
    |_=>simp[T.same] at h
   |_=>simp[T.same] at h
  |_=>simp[T.same] at h
 |.stuck _,b,h=>by simp[T.same] at h
 |.dl _ _ _ _ _ _ _ _,b,h=>by simp[T.same] at h
 |.ret v bx rs,b,h=>by cases b<;>simp[T.same] at h;rw[SV.bl _ _ h.1.1,JM h.1.2,h.2]
 |.aS v,b,h=>by cases b<;>simp[T.same] at h;rw[SV.bl _ _ h]
 |.node c t f,b,h=>by cases b<;>simp[T.same] at h;rw[BE.bl _ _ h.1.1,T.bl _ _ h.1.2,T.bl _ _ h.2]
 |.az c t,b,h=>by cases b<;>simp[T.same] at h;rw[BE.bl _ _ h.1,T.bl _ _ h.2]
 |.call f args bx rs ks fp t,b,h=>by
  cases b<;>simp[T.same] at h;obtain⟨⟨⟨⟨⟨⟨X,W⟩,V⟩,U⟩,R⟩,Q⟩,P⟩:=h;rw[X,SV.ow _ _ W,JM V,U,R,SV.bl _ _ Q,T.bl _ _ P]
 |.loop al ks O t,b,h=>by cases b<;>simp[T.same] at h;rw[h.1.1.1,h.1.1.2,SV.ow _ _ h.1.2,T.bl _ _ h.2]
 |.back al x,b,h=>by cases b<;>simp[T.same] at h;rw[h.1,SV.ow _ _ h.2]
 |.new e x rs N t,b,h=>by cases b<;>simp[T.same] at h;rw[h.1.1.1.1,LE.bl _ _ h.1.1.1.2,h.1.1.2,h.1.2,T.bl _ _ h.2]
 |.rows k x rs t,b,h=>by cases b<;>simp[T.same] at h;rw[h.1.1.1,LE.bl _ _ h.1.1.2,h.1.2,T.bl _ _ h.2]
 |.eC g k t f,b,h=>by cases b<;>simp[T.same] at h;rw[BE.bl _ _ h.1.1.1,BE.bl _ _ h.1.1.2,T.bl _ _ h.1.2,T.bl _ _ h.2]
 |.pick n g k t f,b,h=>by
  cases b<;>simp[T.same] at h;rw[IE.bl _ _ h.1.1.1.1,BE.bl _ _ h.1.1.1.2,BE.bl _ _ h.1.1.2,T.bl _ _ h.1.2,T.bl _ _ h.2]
def FI:∀{l:List T}{t:T},t∈l->t∈Cm l
 |[],t,h=>by cases h
 |u::V,t,h=>by
  simp only[Cm];rcases awP.1 h with rfl|h;split;rename_i Z;obtain⟨w,X,W⟩:=axe.1 Z;rw[T.bl _ _ W];exact FI X;exact ayp;split;exact FI h;exact axS _ (FI h)
def adU{p:Sp}{ρ:aa}{L:List LC}:∀{l:List BE}{t:T},(MA l t).aD p ρ L->(∀b∈l,b.den ρ=true)/\t.aD p ρ L
 |[],t,h=>⟨λ_ Z=>(by cases Z),h⟩
 |b::r,t,h=>by
  simp only[MA,T.aD] at h;obtain⟨X,W⟩:=adU h.2;exact⟨λx V=>(awP.1 V).elim (λe=>e▸h.1) (X x),W⟩
def aor{W:og}{V:List Nat}{jk:List BE}{Z:List OM}{ds:List Nat}{k:S->T}{kp:SV->S->T}{n:Nat}{X:List OM}{s:S}{ρ:aa}{L:List LC}(h:(lD cf W V jk Z ds k kp n X s).aD p ρ L):S8 cf jk s Z=true:=by
 cases X with
 |nil=>
  cases n<;>simp only[lD] at h<;>split at h;assumption;exact h.elim;assumption;exact h.elim
 |cons m rest=>
  cases n with
  |zero=>exact h.elim
  |succ n=>
   simp only[lD] at h;split at h;exact h.elim;rename_i U;simpa using U
def aos(s:S):s.bE []=s:=by
 obtain⟨tmps,b,c,d,e,f,g,i⟩:=s;simp only[S.bE,S.mk.injEq,and_self,and_true];apply axd;intro i;rw[qy];cases tmps[i]?<;>simp
def UX:∀{l:List T}{t:T},t∈Cm l->t∈l
 |[],t,h=>by cases h
 |u::Z,t,h=>by
  simp only[Cm] at h;split at h;exact axS _ (UX h);rcases awP.1 h with rfl|h;exact ayp;exact axS _ (UX h)
def adV{ρ:aa}{L:List LC}:∀{l:List T},l≠[]->(∀t∈l,t.aD p ρ L)->(xJ l).aD p ρ L
 |[],h,_=>absurd rfl h
 |[t],_,h=>h t ayp
 |t::u::r,_,h=>by
  simp only[xJ,T.aD];exact⟨λ_=>h t ayp,λ_=>adV (l:=u::r) (by simp) λx Z=>h x (axS _ Z)⟩
def adW{k:S->T}{kp:SV->S->T}:∀{l:List T},(xJ l).lE k kp=xJ (l.map (T.lE k kp))
 |[]=>rfl
 |[t]=>rfl
 |t::u::r=>by
  simp only[xJ,T.lE,awT];rw[adW (l:=u::r)];rfl
def aot{k:S->T}{kp:SV->S->T}{X V:SV->S->T}{g:FuncId}{args:List SV}{s:S}{ρ:aa}{L:List LC}(P:∀v s' ρ L,((X v s').lE k kp).aD p ρ L->(V v s').aD p ρ L)(h:((vL cf g args s X).lE k kp).aD p ρ L):(vL cf g args s V).aD p ρ L:=by
 unfold vL at h⊢;cases e1:cf.sig g with
 |none=>rw[e1] at h;exact h.elim
 |some U=>
  simp only[e1] at h⊢;cases R:eZ cf.ty U with
  |none=>rw[R] at h;exact h.elim
  |some ks=>
   simp only[R] at h⊢;cases Q:vF cf.ty U ((s.cut args ks).bz ks).1 with
   |none=>rw[Q] at h;exact h.elim
   |some l=>
    simp only[Q] at h⊢;split at h;rename_i O;rw[if_pos O];simp only[T.lE,T.aD] at h⊢;intro y β W N;refine(h y β W N).mono λe W' Z=> ?_
    cases e with
    |returned v=>
     obtain⟨xs,M,J,I,H,G⟩:=Z;exact⟨xs,M,J,I,H,P _ _ _ _ G⟩
    |panicked F=>exact Z
    |outgrown=>exact Z
    exact h.elim
def aou{k:S->T}{kp M:SV->S->T}{J:FuncId->Code->S->(XE->S->T)->T}{yh:YH}{ds:List Nat}{m:OM}{U R:S->T}{s:S}{ρ:aa}{L:List LC}(X:∀s' ρ L,((U s').lE k kp).aD p ρ L->(R s').aD p ρ L)(h:((zT cf (MB cf) ds M m U s).lE k kp).aD p ρ L):(zT cf (gN cf J yh) ds kp m R s).aD p ρ L:=by
 unfold zT at h⊢;cases Z:cV cf s m.o with
 |call c args=>
  cases c with
  |fn g=>
   simp only[Z,MB] at h⊢;split at h;rename_i V;have V:cf.inl g=none:=by simpa using V
   simp only[gN,V];exact aot (λv s' ρ L I=>X _ ρ L I) h;exact h.elim
  |yl n=>simp only[Z] at h;exact h.elim
 |aS v=>simp only[Z] at h;exact h.elim
 |no=>simp only[Z] at h;exact h.elim
 |op=>
  simp only[Z] at h⊢;cases Q:(if EM m.o.op then cK cf m.o m.aY false s else none) with
  |some b=>
   simp only[Q,T.lE,T.aD] at h⊢;exact⟨h.1,λrv H=>X _ _ _ (h.2 rv H)⟩
  |none=>
   simp only[Q] at h⊢;by_cases P:jY m.o.op=true;rw[if_pos P] at h⊢;cases O:vQ cf s m.o with
   |none=>rw[O] at h;exact h.elim
   |some x=>
    obtain⟨b,v⟩:=x;simp only[O,T.lE,T.aD] at h⊢;exact⟨h.1,X _ _ _ h.2⟩
   rw[if_neg P] at h⊢;by_cases N:IR m.o.op=true;rw[if_pos N] at h⊢;cases W:dR cf m s with
   |ok s'=>simp only[W] at h⊢;exact X _ _ _ h
   |az b s'=>simp only[W] at h;exact h.elim
   |split b G F=>simp only[W] at h;exact h.elim
   |no w=>simp only[W] at h;exact h.elim
   rw[if_neg N] at h;exact h.elim
def aov{k:S->T}{kp O:SV->S->T}{V:FuncId->Code->S->(XE->S->T)->T}{yh:YH}{Z:List Nat}{jk:List BE}{ds:List Nat}:∀(n:Nat)(X:List OM)(W:List OM)(s:S)(ρ:aa)(L:List LC),
  ((lD cf (MB cf) Z jk W ds (.out .normal) O n X s).lE k kp).aD p ρ L->(lD cf (gN cf V yh) Z jk W ds k kp n X s).aD p ρ L:=by
 intro n;induction n with
 |zero=>
  intro X W s ρ L h;cases X with
  |nil=>
   simp only[lD] at h⊢;split at h;rename_i U;rw[if_pos U];exact h;exact h.elim
  |cons m r=>exact h.elim
 |succ n N=>
  intro X W s ρ L h;cases X with
  |nil=>
   simp only[lD] at h⊢;split at h;rename_i U;rw[if_pos U];exact h;exact h.elim
  |cons m r=>
   simp only[lD] at h⊢;split at h;exact h.elim;rename_i U;rw[if_neg U];rw[adW] at h;have R:=UW h;cases Q:(EK (m::r)).filter (S9 Z) with
   |nil=>rw[Q] at h;exact h.elim
   |cons x xs=>
    rw[Q] at R;refine adV (λP=> ?_) λt M=> ?_
    have:=FI (ayp (a:=zT cf (gN cf V yh) ds kp x.1 (λs'=>lD cf (gN cf V yh) Z jk (EN Z x.1 W) ds k kp n x.2 s') s) (l:=xs.map λx=>zT cf (gN cf V yh) ds kp x.1 (λs'=>lD cf (gN cf V yh) Z jk (EN Z x.1 W) ds k kp n x.2 s') s));simp only[awT] at P;rw[P] at this;cases this;obtain⟨y,J,rfl⟩:=aw7.1 (UX M);exact aou (λs' ρ L I=>N _ _ _ _ _ I) (R _ (aw7.2 ⟨_,FI (aw7.2 ⟨y,J,rfl⟩),rfl⟩))
structure adX(cf:bc)(ops:Array Oper)(bs:List Nat)(qs ch:List OM):Prop where
 adY:FC ops bs
 vZ:∀m∈qs++ch,∀x∈qs++ch,∀d,x.o.dst=some d->d∈gu ops m.o->(bs.getD m.j 0).testBit x.j=true
 dst:∀x∈qs++ch,∀y∈qs++ch,x.j≠y.j->∀d,x.o.dst=some d->y.o.dst≠some d
 gd:∀m∈qs++ch,m.o.guard=none/\m.aY=false
 qt:∀q∈qs,jY q.o.op=true
def aow{F:Fence}(hF:mS F)(ok:jr p cf){n nn:Nat}(ih:uh p cf nn){D:bw}{B:jq}{yh:YH}(hY:Ag p cf D.cC B yh){Q:Exit->Act->World->Prop}(HP:∀G a' W' pd y,cF p.w0 D pd y a'.defers W'->p.R (.panicked G) W'->Q (.panic G) a' W')
  {C:List Nat}{jk:List BE}{qs G:List OM}{ds:List Nat}(hX:adX cf ops C qs G)(b6:∀x∈qs++G,∀d,x.o.dst=some d->d∈ds){k:S->T}{kp:SV->S->T}{s0:S}{ρ0:aa}{β0:List Nat}{L0:List LC}(hB:B.nA s0 ρ0 β0 L0)(b0:∀b∈jk,b.bd ρ0.i.length ρ0.b.length ρ0.r.length=true/\b.den ρ0=true)
  (hk:∀s' ρ' N a' W' A,bi s0 ρ0 β0 s' ρ' N->bU s0.al L0 A->ao p.S0 p.w0 D cf.ty N ρ' s' a' W'->(k s').aD p ρ' A->Q .normal a' W')
  (b7:∀v s' ρ' N a' W' A,bi s0 ρ0 β0 s' ρ' N->bU s0.al L0 A->ao p.S0 p.w0 D cf.ty N ρ' s' a' W'->(kp v s').aD p ρ' A->Q (.panic [{v:=v.den ρ' N,recovered:=false}]) a' W'):
  ∀(fuel:Nat)(listed:Array Bool)(X H z:List OM)(s:S)(ρ:aa)(β:List Nat)(a:Act)(W:World)(L:List LC),(X++H).length=fuel->pu ops listed (X++H)->(∀q∈X,q∈z)->(∀q∈z,q∈qs)->(∀m∈H,m∈G)->
   bi s0 ρ0 β0 s ρ β->bU s0.al L0 L->ao p.S0 p.w0 D cf.ty β ρ (s.bE (qd X)) a W->dA cf.gl ρ->(lD cf (gN cf (λf c s k=>dJ cf nn f c s yh k) yh) C jk z ds k kp H.length H s).aD p ρ L->
   wpAnyIn F n p.P .any ops Q fuel listed a W:=by
 intro fuel;induction fuel with
 |zero=>
  intro listed X H z s ρ β a W L a9 M a0 a5 hr u hL R hg h;have hp:∀q∈X,q∈qs:=λq O=>a5 q (a0 q O)
  have a6:X++H=[]:=axp.1 a9;obtain⟨rfl,rfl⟩:=List.append_eq_nil_iff.1 a6;simp only[ayj,lD] at h;split at h;refine⟨?_,hk s ρ β a W L u hL (by have:=R;simp only[qd,List.filterMap_nil,aos] at this;exact this) h⟩;cases af:Region.ready .any ops listed with
  |nil=>rfl
  |cons i r=>
   obtain⟨h1,o,ho,-⟩:=mem_ready.1 (show i∈Region.ready .any ops listed by rw[af];simp);obtain⟨m,J,-⟩:=(M.un i (aw6.1 ho).1).1 h1;cases J
  exact h.elim
 |succ fuel b1=>
  intro listed X H z s ρ β a W L a9 M a0 a5 hr u hL R hg h;have hp:∀q∈X,q∈qs:=λq O=>a5 q (a0 q O)
  have a2:∀m∈X++H,m∈qs++G:=λm J=>by
   rcases awR.1 J with h1|h1;exact axw _ (hp m h1);exact ayf _ (hr m h1)
  refine⟨λaf=> ?_,λi hi=> ?_⟩;exfalso;obtain⟨m0,b8⟩:=List.exists_mem_of_length_pos (l:=X++H) (by omega);obtain⟨m,J,a6⟩:=pu.some hX.adY M m0.j ⟨m0,b8,rfl⟩;have:m.j∈Region.ready .any ops listed:=
   mem_ready.2 ⟨(M.un m.j (M.lt J)).2 ⟨m,J,rfl⟩,m.o,M.mem m J,λe he hb=>a6 e.on (ady he hb)⟩
  rw[af] at this;cases this;obtain⟨h1,o,ho,a6⟩:=mem_ready.1 hi;obtain⟨m,J,rfl⟩:=(M.un i (aw6.1 ho).1).1 h1;have bf:=M.mem m J;rw[bf] at ho;cases ho;have hd:∀e∈iB m.o,listed.getD e false=true:=λe he=>by
   obtain⟨ed,h2,h3,rfl⟩:=adz he;exact a6 ed h2 h3
  have bk:∀x∈X++H,¬(C.getD m.j 0).testBit x.j=true:=λx U hb=>M.not U (M.listed hX.adY m.j m.o bf hd x.j (M.lt U) hb)
  have af:∀t∈gu ops m.o,t∉qd X:=λt ht O=>by
   obtain⟨x,U,a7⟩:=axV.1 O;exact bk x (axw _ U) (hX.vZ m (a2 m J) x (a2 x (axw _ U)) t a7 ht)
  obtain⟨ca,b2⟩:=hX.gd m (a2 m J);have b3:=aor h;have cc:Region.wanted m.o (yielded ops a.tmps)=true:=UH R (by simp[em,ca]);unfold wpOpIn;rw[bf];simp only[cc,if_true];rcases awR.1 J with cl|cp
  
  obtain⟨xs,ys,rfl⟩:=aAh cl;have O:=awU.1 b3 m (a0 m (by simp));split at O;rename_i d b v br hv;split at O;rename_i w hw;simp only[awF,aw9] at O;have cs:=SV.bl _ _ O.1;subst cs;have cL:b.den ρ=true:=by
   rcases O.2 with V|V;cases b<;>simp only[BE.S7,aw0] at V;simp only[BE.den];exact V;obtain⟨x,U,h6⟩:=axe.1 V;rw[<-BE.bl _ _ h6,BE.cu u.ext.agree x (b0 x U).1];exact(b0 x U).2
  have ag:=adP (ρ:=ρ) (hX.qt m (hp m (by simp))) b2 (adQ (ops:=ops) (ds:=qd (xs++m::ys)) af hv) cL;obtain⟨v',W',N,an,I,Z⟩:=Jj R ok.jt hg m ag;have a3:=M.nd;rw[ax9,awV] at M a3;have a4:d∉qd (xs++ys):=λhh=>by
   obtain⟨x,U,a7⟩:=axV.1 hh;have bt:x.j≠m.j:=by
    rw[aw8] at a3;rcases awR.1 U with V|V;exact a3.2.2 x V m (by simp);exact Ne.symm ((aw2.1 a3.2.1).1 x (by simp[V]))
   exact hX.dst x (axw _ (hp x (by rcases awR.1 U with V|V<;>simp[V]))) m (axw _ (hp m (by simp))) bt d a7 br
  have E:((s.bE (qd (xs++m::ys))).put m.o.dst v)=s.bE (qd (xs++ys)):=by
   rw[br];simp only[S.put,nh,S.bE];congr 1;apply axd;intro i;rw[axC,qy,qy,axf,FF];have ct:=(awG.1 hw).1;by_cases hi:d=i;subst hi;rw[if_pos rfl,if_pos ct,hw];simp[a4];rw[if_neg hi];have cv:(qd (xs++m::ys)).contains i=(qd (xs++ys)).contains i:=by
    rw[axO,axg,axg];simp only[qd,List.filterMap_append,ayC,br,awR,awP];constructor;rintro(V|V|V);exact .inl V;exact absurd V.symm hi;exact .inr V;rintro(V|V);exact .inl V;exact .inr (.inr V)
   rw[cv]
  rw[E] at I Z;refine xY hF an (Jr ag) ?_;refine b1 _ (xs++ys) H z s ρ N _ W' L (by simp at a9⊢;omega) ?_ (λq O=>a0 q (by rcases awR.1 O with V|V<;>simp[V])) a5 hr (u.trans ⟨Z.ext,Z.mono,Z.len,Z.al⟩) hL I hg h;rw[ax9];exact M.next hd;cases O;cases O
  
  obtain⟨xs,ys,rfl,b4⟩:=adS cp;have cx:(xs++m::ys).length=(xs++ys).length+1:=by simp;omega
  have cy:S9 C (m,xs++ys)=true:=by
   refine awU.2 λx U=> ?_
   have:=bk x (ayf _ (by simp only[awR,awP] at U⊢;exact U.imp id .inr));simpa using this
  have h:(zT cf (gN cf (λf c s k=>dJ cf nn f c s yh k) yh) ds kp m (λs'=>lD cf (gN cf (λf c s k=>dJ cf nn f c s yh k) yh) C jk (EN C m z) ds k kp (xs++ys).length (xs++ys) s') s).aD p ρ L:=by
   rw[cx] at h;generalize cI:xs++m::ys=c0 at h b4;cases c0 with
   |nil=>simp at cI
   |cons m0 r0=>
    simp only[lD,b3,azy,aw0,if_false] at h;exact UW h _ (FI (aw7.2 ⟨_,axr.2 ⟨b4,cy⟩,rfl⟩))
  have c1:pu ops (listed.setIfInBounds m.j true) (X++(xs++ys)):=by
   have V:X++(xs++m::ys)=(X++xs)++m::ys:=by simp
   rw[V] at M;have:=M.next hd;simpa using this
  have a4:∀d,m.o.dst=some d->d∉qd X:=λd c2 hh=>by
   obtain⟨x,U,a7⟩:=axV.1 hh;have bt:x.j≠m.j:=(aw8.1 M.nd).2.2 x U m (by simp);exact hX.dst x (a2 x (axw _ U)) m (a2 m J) bt d a7 c2
  have bb:∀(s1:S)(ρ1:aa)(β1:List Nat)(a1:Act)(W1:World)(L1:List LC),bi s ρ β s1 ρ1 β1->bU s.al L L1->ao p.S0 p.w0 D cf.ty β1 ρ1 (s1.bE (qd X)) a1 W1->(lD cf (gN cf (λf c s k=>dJ cf nn f c s yh k) yh) C jk (EN C m z) ds k kp (xs++ys).length (xs++ys) s1).aD p ρ1 L1->wpAnyIn F n p.P .any ops Q fuel (listed.setIfInBounds m.j true) a1 W1:=
   λs1 ρ1 β1 a1 W1 L1 cj c3 R1 c4=>b1 _ X (xs++ys) (EN C m z) s1 ρ1 β1 a1 W1 L1 (by simp at a9⊢;omega) c1 (λq O=>axr.2 ⟨a0 q O,by have:=bk q (axw _ O);simpa using this⟩) (λq O=>a5 q (axr.1 O).1) (λx U=>hr x (by simp only[awR,awP] at U⊢;exact U.imp id .inr)) (u.trans cj) (hL.trans c3 u.al) R1 (hg.ext cj.ext) c4
  have c5:=(NN (cf:=cf) (s:=s) (ρ:=ρ) af).ev cf.gl;unfold zT at h;split at h;rename_i g args b5;have c6:cV cf (s.bE (qd X)) m.o=.call (.fn g) args:=by rw[Fu c5];exact b5
  have c7:B.nA (s.bE (qd X)) ρ β L:=by
   have:=hB.go u hL;exact⟨⟨this.later.ext,this.later.mono,this.later.len,this.later.al⟩,this.Ni⟩
  have hC:=NH ok ih hY L (.fn g) args (s.bE (qd X)) _ _ ρ β a W (λe W'=>match e with
    |.returned v=>wpAnyIn F n p.P .any ops Q fuel (listed.setIfInBounds m.j true) (a.put m.o.dst v) W'
    |.panicked G=>Q (.panic G) a W'
    |.outgrown=>LetsOut Q) c7 (aoq h) R hg
   (λv s' ρ' N W' A Z bx I E=>by
    simp only[yo] at E;split at E;rename_i a8;refine bb (({s' with tmps:=s.tmps}:S).put m.o.dst v) ρ' N _ W' A (bi.put (s':={s' with tmps:=s.tmps}) (show bi s ρ β _ ρ' N from⟨Z.ext,Z.mono,Z.len,Z.al⟩) _ _) bx ?_ E;rw[Ah a4];have:({s' with tmps:=s.tmps}:S).bE (qd X)=s':=by
     simp only[S.bE] at a8⊢;rw[<-a8]
    rw[this];exact I.put _ _;exact E.elim)
   (λv s' ρ' N W' A Z bx I E=>by
    simp only[yo] at E;split at E;rename_i a8;refine b7 v (({s' with tmps:=s.tmps}:S).bE ds) ρ' N a W' A (u.trans ⟨Z.ext,Z.mono,Z.len,Z.al⟩) (hL.trans bx u.al) ?_ E;have:({s' with tmps:=s.tmps}:S).bE ds=s'.bE ds:=by
     have h6:=aoh (s:=s) (ds:=ds) (es:=qd X) (λx U=>by
      obtain⟨y,hy,c8⟩:=axV.1 U;exact b6 y (a2 y (axw _ hy)) x c8)
     have h7:=congrArg S.tmps h6;simp only[S.bE] at h7 a8⊢;rw[a8,h7]
    rw[this];exact I.bE ds;exact E.elim)
   (λG W' pd y hA hR=>HP G a W' pd y hA hR)
  obtain⟨c9,dc⟩:=hC;refine⟨λf _=>hF.fn f, ?_⟩;have a3:∀c,m.o.op≠ .defer c:=λc dd=>by simp[cV,dd] at b5
  rw[Oper.semAt_eq _ _ _ a3,Nj R hg c6 c9,Oper.uponIn_enter];refine⟨λhd=>by rw[hF.vZ] at hd;simp at hd,CallsIn.mono (hF.calls dc) (λe W' he=> ?_)⟩;cases e<;>exact he;split at h;rename_i b hb;split at hb;rename_i df;simp only[T.aD] at h;have dk:=aoo (cf:=cf) (ops:=ops) df af a4 hb;obtain⟨v',W',rv,an,dn,I,Z⟩:=TW R ok.jt hg dk h.1;exact xY hF an (Ud hb) (bb b.s _ β _ W' L ⟨Z.ext,Z.mono,Z.len,Z.al⟩ (bU.refl _ _) I (h.2 rv (by rw[ok.pt];exact dn)));cases hb;split at h;rename_i dr;split at h;rename_i b v hv;simp only[T.aD] at h;have ag:=adP (ρ:=ρ) dr b2 (adQ (ops:=ops) (ds:=qd X) af hv) h.1;obtain⟨v',W',N,an,I,Z⟩:=Jj R ok.jt hg m ag;rw[<-Ah a4] at I Z;exact xY hF an (Jr ag) (bb (s.put m.o.dst v) ρ N _ W' L ⟨Z.ext,Z.mono,Z.len,Z.al⟩ (bU.refl _ _) I h.2);exact h.elim;split at h;rename_i dx;split at h;rename_i s' dy;have dz:=aoj (ops:=ops) dx af a4 dy;have ag:(dR cf m (s.bE (qd X))).gives ρ (s'.bE (qd X)):=by rw[dz];rfl
  obtain⟨v',W',N,an,I,Z⟩:=Jj R ok.jt hg m ag;exact xY hF an (Jr ag) (bb s' ρ N _ W' L ⟨Z.ext,Z.mono,Z.len,Z.al⟩ (bU.refl _ _) I h);exact h.elim;exact h.elim;exact h.elim
def adZ:∀{R:List OM}{s:S}{x:S×List BE},zS cf R s=some x->x.1={s with tmps:=x.1.tmps}/\x.1.tmps.length=s.tmps.length/\(∀t,t∉qd R->x.1.tmps[t]?=s.tmps[t]?)/\∀b∈x.2,b.bd s.ni s.nb s.rs.length=true
 |[],s,x,h=>by simp only[zS,awJ] at h;subst h;exact⟨rfl,rfl,λ_ _=>rfl,λ_ V=>(by cases V)⟩
 |q::r,s,x,h=>by
  simp only[zS] at h;split at h;rename_i b v Z;cases U:zS cf r (s.put q.o.dst v) with
  |none=>rw[U] at h;cases h
  |some y=>
   rw[U] at h;simp only[awO,awJ] at h;subst h;obtain⟨N,M,L,Q⟩:=adZ U;refine⟨?_, ?_,λt P=> ?_,λx X=> ?_⟩;show y.1=_;rw[N];cases q.o.dst<;>rfl;show y.1.tmps.length=_;rw[M];cases q.o.dst<;>simp[S.put,nh];have J:t∉qd r:=λO=>P (by
    simp only[qd,ayC];cases q.o.dst with
    |none=>exact O
    |some d=>exact axS _ O)
   show y.1.tmps[t]?=_;rw[L t J,iT (λe=>P (by simp[qd,ayC,e]))];have W:(s.put q.o.dst v).ni=s.ni/\(s.put q.o.dst v).nb=s.nb/\(s.put q.o.dst v).rs=s.rs:=by cases q.o.dst<;>exact⟨rfl,rfl,rfl⟩
   have V:b.bd s.ni s.nb s.rs.length=true:=by
    unfold vQ at Z;split at Z;cases Z;split at Z;cases Z;exact BE.aG.1 _;split at Z;rename_i aO;cases Z;exact aO;cases Z;cases Z
   simp only at X;split at X;have:=Q x X;rwa [W.1,W.2.1,W.2.2] at this;rcases awP.1 X with rfl|X;exact V;have:=Q x X;rwa [W.1,W.2.1,W.2.2] at this
  cases h
def ad0{F:Fence}(hF:mS F)(ok:jr p cf){n nn:Nat}(ih:uh p cf nn){D:bw}{B:jq}{yh:YH}(hY:Ag p cf D.cC B yh){Q:Exit->Act->World->Prop}(HP:∀V a' W' pd y,cF p.w0 D pd y a'.defers W'->p.R (.panicked V) W'->Q (.panic V) a' W')
  {id:Nat}{so:Bool}{c:IS}{s:S}{ρ:aa}{β:List Nat}{a:Act}{W:World}{L:List LC}{k:XE->S->T}(hB:B.nA s ρ β L)(U:EP cf so ops s=some c)
  (h:(IZ cf (gN cf (λf c s k=>dJ cf nn f c s yh k) yh) ops k c).aD p ρ L)(R:ao p.S0 p.w0 D cf.ty β ρ s a W)(hg:dA cf.gl ρ)
  (hk:∀s' ρ' E a' W' z,bi s ρ β s' ρ' E->bU s.al L z->ao p.S0 p.w0 D cf.ty E ρ' s' a' W'->(k .normal s').aD p ρ' z->Q .normal a' W')
  (a6:∀v s' ρ' E a' W' z,bi s ρ β s' ρ' E->bU s.al L z->ao p.S0 p.w0 D cf.ty E ρ' s' a' W'->(k (.aS v) s').aD p ρ' z->Q (.panic [{v:=v.den ρ' E,recovered:=false}]) a' W'):
  (Code.region id ops true).wpIn F n p.P Q a W:=by
 unfold EP at U;split at U;rename_i C;obtain⟨A,u⟩:∃A,A=ek (λ_=>false) false true 0 s.boxes.length ops.toList:=⟨_,rfl⟩;obtain⟨X,ag⟩:∃X,X=xK so ops s.boxes.length:=⟨_,rfl⟩;obtain⟨V,an⟩:∃V,V=xL so ops s.boxes.length:=⟨_,rfl⟩;have a7:X=A.filter λm=>(MC so ops).contains m.j:=by rw[ag,u];rfl
 have a8:V=A.filter λm=> !(MC so ops).contains m.j:=by rw[an,u];rfl
 have C:=(awF _ _▸C).2;unfold EO at C;rw[<-ag,<-an,<-u] at C;rw[<-ag,<-an] at U;cases w:zS cf X (s.room (jI ops.toList)) with
 |none=>rw[w] at U;cases U
 |some x1=>
  obtain⟨J,jk⟩:=x1;rw[w] at U;simp only[ayV,Tc] at U;split at U;cases U;cases U;obtain⟨a1,h⟩:=adU h;simp only at h a1;have h:(lD cf (gN cf (λf c s k=>dJ cf nn f c s yh k) yh) (lC ops.toList) jk X (zP ops.toList) (k .normal) (λv=>k (.aS v)) V.length V J).aD p ρ L:=by
   split at h;exact h;exact aov _ _ _ _ _ _ h
  simp only[Tb,awF,beq_iff_eq] at C;obtain⟨⟨⟨⟨⟨⟨⟨⟨c1,c2⟩,c4⟩,c5⟩,c6⟩,c7⟩,c8⟩,c9⟩,bk⟩:=C;have I:∀m∈X++V,m∈A:=λm Z=>by
   rcases awR.1 Z with H|H;rw[a7] at H;exact(axr.1 H).1;rw[a8] at H;exact(axr.1 H).1
  have a2:∀m∈A,ops[m.j]?=some m.o:=λm Z=>by
   obtain⟨i,hi⟩:=azi.1 Z;rw[u] at hi;have H:=JI _ _ _ _ _ _ _ _ hi;have h2:=UO _ _ _ _ _ _ _ _ hi;rw[h2,axf];simpa using H
  have a3:=NF c4;have hX:adX cf ops (lC ops.toList) X V:=by
   refine⟨adK c1,λm Z x N d hd O=> ?_,λx N y hy a9 d a4 a5=> ?_,λm Z=> ?_,λq w=> ?_⟩;have:=awU.1 (awU.1 c5 m (I m Z)) x (I x N);rw[hd] at this;simp only[aw9,awY] at this;rcases this with r|r;rw[axg.2 O] at r;cases r;exact r;obtain⟨i,hi⟩:=azi.1 (I x N);obtain⟨j,G⟩:=azi.1 (I y hy);have bb:i≠j:=λe=>by subst e;rw[hi] at G;cases G;exact a9 rfl
   have l:=(awG.1 hi);have g:=(awG.1 G);rcases aAc bb with a0|a0;exact(ayh.1 a3 i j l.1 g.1 a0) d (by rw[l.2];exact a4) (by rw[g.2];exact a5);exact(ayh.1 a3 j i g.1 l.1 a0) d (by rw[g.2];exact a5) (by rw[l.2];exact a4);have:=awU.1 c2 m (I m Z);simp only[awF,awY,azE] at this;exact this;have:=awU.1 c6 q w;simp only[awF] at this;exact this.1
  obtain⟨Rr,af⟩:=R.room (jI ops.toList);have M:=Rr.drew;obtain⟨e1,e2,e3,e4⟩:=adZ w;simp only at e1 e2 e3 e4;have Rb:ao p.S0 p.w0 D cf.ty (β++awS (jI ops.toList) 0) ρ (J.bE (qd X)) a {W with drawn:=W.drawn+1}:=by
   have hh:J.bE (qd X)={s.room (jI ops.toList) with tmps:=oq (qd X) 0 J.tmps}:=by
    rw[e1];rfl
   rw[hh];refine⟨M.mem,M.dX,M.ei,M.eb,M.er,M.bT,by simp only[FF,e2];exact M.size,λt sv O=> ?_,M.cO⟩;simp only at O;rw[qy,axf] at O;cases N:J.tmps[t]? with
   |none=>rw[N] at O;cases O
   |some x=>
    rw[N] at O;simp only[awO,awJ] at O;split at O;exact .inl O.symm;rename_i bd;subst O;exact M.tmps t x (by rw[<-e3 t (λZ=>bd (axg.2 Z))];exact N)
  have cj:bi s ρ β J ρ (β++awS (jI ops.toList) 0):=by
   rw[e1];exact⟨af.ext,af.mono,af.len,af.al⟩
  refine wpIn_region_any ok.Ul ?_;refine aow (ds:=zP ops.toList) hF ok ih hY HP hX (λx N d hd=> ?_) hB (λb hb=>⟨by have:=e4 b hb;rw[R.ei,R.eb,R.er];exact this,a1 b hb⟩) hk a6 ops.size _ X V X J ρ _ a _ L c8 ?_ (λ_ h=>h) (λ_ h=>h) (λ_ h=>h) cj (bU.refl _ _) Rb hg h;have h2:ops.toList[x.j]?=some x.o:=by have:=a2 x (I x N);simpa using this
  exact axV.2 ⟨x.o,aw1 h2,hd⟩;refine⟨λm Z=>a2 m (I m Z),λi hi=> ?_,by simp,λj o ho G=> ?_, ?_⟩;constructor;intro _;have:=awU.1 c7 i (by simpa using hi);obtain⟨m,Z,G⟩:=axe.1 this;exact⟨m,Z,by simpa using G⟩;intro _;simp[hi];exfalso;have bf:j<ops.size:=(aw6.1 ho).1;simp[bf] at G;have:=UR c9;rw[ayQ] at this;exact this
 cases U
end
end
section
section
variable{p:Sp}{cf:bc}
def jq.here(s:S)(ρ:aa)(β:List Nat)(L:List LC):(jq.mk s ρ β L).nA s ρ β L:=⟨bi.refl _ _ _,bU.refl _ _⟩
def aox(ps:Array Nat)(vs:List Value)(A:Array Value):(ps.zip vs.toArray).foldl (λ(tmps:Array Value)(x:Nat×Value)=>match x with|(t,a)=>tmps.setIfInBounds t a) A=(ps.toList.zip vs).foldl (λ(tmps:Array Value)(x:Nat×Value)=>tmps.setIfInBounds x.1 x.2) A:=by
 rw[<-aAb];simp[Array.toList_zip]
def aoy(ok:jr p cf){n:Nat}(ih:uh p cf n){N:FuncId}{g:Func}(f:p.P.funcs[N]?=some g){ps:Array Tmp}{assign body:Code}{s:S}{L:List LC}{ρ:aa}{β:List Nat}{a:Act}{sE:S}{l:Nat}{rec:Loop}{OB:List (Nat×Loop)}
  (hE:sE.boxes=s.boxes)(cL:SV.ck ρ.i.length ρ.b.length ρ.r.length (aA s.boxes) s.tmps=true)(bf:a.tmps.size=s.tmps.length)(bk:∀(t:Nat)(U:SV),s.tmps[t]?=some U->U=.any\/a.tmps[t]?=some (U.den ρ β))
  (br:gv assign=false)(bs:gv body=false){z:Nat}(Q:rec={state:=.ready,pending:=none,fn:=N,tmps:=a.tmps,params:=ps,assign,body,defers:=rec.defers})(O:OB[z]?=some (l,rec)):
  Ag p cf OB ⟨sE,ρ,β,L⟩ (IW z ps.size λargs X d a4=>
   dJ cf n N assign (xN X s ps.toList args) fK (IU z λM=>dJ cf n N body (M.Cp z .busy) fK (ME z X d a4))):=by
 intro D hD L1 m args X d a4 ρ1 β1 w W1 R' hB h R hg hk bt hp F hF mm;unfold IW at h;split at h;rename_i hc;simp only[awF,beq_iff_eq,decide_eq_true_eq] at hc;obtain⟨⟨⟨⟨c1,c2⟩,c3⟩,c4⟩,c5⟩:=hc;subst c1;simp only[S.cU,awF] at c5;rw[<-hD] at O;have a5:nu rec .ready=rec:=by rw[Q];rfl
 obtain⟨y1,y2,y3⟩:=R.bT.cC m l rec .ready O c3;rw[a5] at y2;have bx:ρ1.y.getD m 0=l:=by simp[awK,y1]
 rw[bx];have a6:rec.params=ps:=by rw[Q]
 have b0:=run_yield (P:=p.P) (args:=(SV.ap ρ1 β1 args).toArray) y2 (by rw[a6];simpa using c4);refine⟨_,_,_,_,b0, ?_⟩;have e1:rec.fn=N:=by rw[Q]
 have e2:rec.assign=assign:=by rw[Q]
 have e3:rec.body=body:=by rw[Q]
 have e4:rec.tmps=a.tmps:=by rw[Q]
 rw[e1,e2,e3,e4,a6];refine an1 hF f ?_;obtain⟨ms,m1,m0,m2,m3⟩:=R.bT.j6;have hA:=R.bT.enter m2 m3 true;have b1:∀(t:Nat)(U:SV),s.tmps[t]?=some U->U=.any\/a.tmps[t]?=some (U.den ρ1 β1):=by
  intro t U ht;rcases bk t U ht with h1|h1;exact .inl h1;right;have hX:=hB.later.ext;simp only[hE] at hX;rw[hX.den (qn cL ht)];exact h1
 obtain⟨q1,q2⟩:=adD (ρ:=ρ1) (β:=β1) ps.toList args s.tmps a.tmps bf b1;rw[<-aox] at q1 q2;have RS:ao p.S0 p.w0 ⟨ms++D.out,D.cC,true,[]⟩ cf.ty β1 ρ1 (xN X s ps.toList args) {tmps:=(ps.zip (SV.ap ρ1 β1 args).toArray).foldl (λ(tmps:Array Value)(x:Nat×Value)=>match x with|(t,a)=>tmps.setIfInBounds t a) a.tmps,defers:=[]} W1:=
  ⟨R.mem,R.dX,R.ei,R.eb,R.er,hA,q1,q2,R.cO⟩
 have u:∀(a':Act) W' pd y,cF p.w0 ⟨ms++D.out,D.cC,true,[]⟩ pd y a'.defers W'->a'.defers=[]/\cF p.w0 D pd y w.defers W':=by
  intro a' W' pd y J;obtain⟨b2,I,p0,B,p3⟩:=J.j6;have:b2=[]:=p0 rfl;subst this;have a7:a'.defers=[]:=by simpa using I
  rw[a7] at J;refine⟨a7, ?_⟩;rw[m1];exact J.FD m0
 refine ih ⟨ms++D.out,D.cC,true,[]⟩ ⟨xN X s ps.toList args,ρ1,β1,L1⟩ fK (some l) N assign (xN X s ps.toList args) _ L1 ρ1 β1 _ W1 _ (CJ _ _) (jq.here _ _ _ _) rfl (λ_=>br) ⟨g,f⟩ h RS hg ?_ ?_;intro q a' W' pd y J hR;obtain⟨I,B⟩:=u a' W' pd y J;exact .inr ⟨q,rfl,I,hp q W' pd y B hR⟩;intro e M af ag a2 W2 L2 an b3 R2 H;cases e with
 |normal=>
  simp only[IU] at H;split at H;rename_i a8;simp only[decide_eq_true_eq] at a8;left;obtain⟨z1,z2,z3⟩:=R2.bT.cC m l rec .ready O a8;rw[a5] at z2;have b4:({rec with state:=.busy}:Loop)=nu rec .busy:=by rw[Q];rfl
  have a9:=run_beginRound (P:=p.P) z2 (by rw[Q]);rw[b4] at a9;refine⟨rfl,_,a9, ?_⟩;have R3:ao p.S0 p.w0 ⟨ms++D.out,D.cC,true,[]⟩ cf.ty ag af (M.Cp m .busy) a2 (W2.putObj l (.loop (nu rec .busy))):=
   R2.obj z2 rfl z3 _ rfl (R2.bT.UM O .busy)
  refine ih ⟨ms++D.out,D.cC,true,[]⟩ ⟨M.Cp m .busy,af,ag,L2⟩ fK (some l) N body (M.Cp m .busy) _ L2 af ag a2 _ _ (CJ _ _) (jq.here _ _ _ _) rfl (λ_=>bs) ⟨g,f⟩ H R3 (hg.ext an.ext) ?_ ?_;intro q a' W' pd y J hR;obtain⟨I,B⟩:=u a' W' pd y J;exact⟨I,hp q W' pd y B hR⟩
  ·intro e W A o a3 W4 L3 k b5 G j;have b6:m<W.pd.length:=by
    rw[<-G.bT.len];exact(awG.1 O).1
   obtain⟨u1,u2,u3⟩:=G.bT.cC m l rec W.pd[m] O (awH b6);have Z:bi (xN X s ps.toList args) ρ1 β1 W A o:=an.trans (s':=M) ⟨k.ext,k.mono,k.len,k.al⟩;have bb:bU X.al L1 L3:=bU.trans (m:=M.al) b3 b5 an.al;have a0:∀(V:kO)(E:Option Code),(∀C,({nu rec C with state:=if E.isNone then .ready else .done,pending:=E}:Loop)=nu rec V)->
     (d (.bool (.c E.isNone)) {W with tmps:=X.tmps,pd:=W.pd.set m V}).aD p A L3->∃v w',(Instr.endRound l E).run p.P W4=.ok v w'/\R' (.returned v) w':=by
    intro V E b7 b8;have bd:=run_endRound (P:=p.P) E u2;rw[b7] at bd;refine⟨_,_,bd, ?_⟩;have R5:=G.obj u2 rfl u3 (.loop (nu rec V)) rfl (G.bT.UM O V);have ca:cF p.w0 D (W.pd.set m V) A.y w.defers (W4.putObj l (.loop (nu rec V))):=(u a3 _ _ _ (G.bT.UM O V)).2;have cc:bi (xN X s ps.toList args) ρ1 β1 {W with pd:=W.pd.set m V} A o:=⟨Z.ext,Z.mono,Z.len,Z.al⟩;have RB:=R.back c5.1 cc rfl R5 (D2:=D) (a2:=w) rfl ca;have:=hk (.bool (.c E.isNone)) {W with tmps:=X.tmps,pd:=W.pd.set m V} A o _ L3 ⟨Z.ext,Z.mono,Z.len,Z.al⟩ bb RB b8;simpa[SV.den,BE.den] using this
   cases e with
   |normal=>exact a0 .ready none (λC=>by cases C<;>rfl) j
   |ret=>exact a0 (.done .ret) (some .ret) (λC=>by cases C<;>rfl) j
   |exit id=>exact a0 (.done (.exit id)) (some (.exit id)) (λC=>by cases C<;>rfl) j
   |aS v=>
    obtain⟨I,B⟩:=u a3 _ _ _ G.bT;have RB:=R.back c5.1 Z rfl G (D2:=D) (a2:=w) rfl B;exact⟨I,bt v {W with tmps:=X.tmps} A o _ L3 ⟨Z.ext,Z.mono,Z.len,Z.al⟩ bb RB j⟩
  exact H.elim
 |ret=>exact H.elim
 |exit id=>exact H.elim
 |aS v=>exact H.elim
 exact h.elim
def aoz(j:jr p cf){n:Nat}(ih:uh p cf n){D:bw}{E:FuncId}{b5:Func}(b6:p.P.funcs[E]?=some b5){f:Operand}{ps:Array Tmp}{assign body:Code}{s:S}{k:XE->S->T}{L:List LC}{ρ:aa}{β:List Nat}{a:Act}{W:World}{Q:Exit->Act->World->Prop}
  (a7:D.rd=false){g:FuncId}{Z:List SV}{c:Code}{A:Nat}(a8:s.ev cf.gl f=.fn g Z)(a9:cf.inl g=some (c,A,[]))
  (aO:s.cU Z=true)(a1:s.rW s.pd.length=false)(b7:SV.mO s.pd.length Z=false)(b8:gv assign=false)(ca:gv body=false)
  (h:(dJ cf n g c (EQ s A Z) (IW s.pd.length ps.size λargs s1 k1 cc=>dJ cf n E assign (xN s1 s ps.toList args) fK (IU s.pd.length λs2=>dJ cf n E body (s2.Cp s.pd.length .busy) fK (ME s.pd.length s1 k1 cc))) (Co s k)).aD p ρ L)
  (R:ao p.S0 p.w0 D cf.ty β ρ s a W)(hg:dA cf.gl ρ)
  (HP:∀x a' W' pd y,cF p.w0 D pd y a'.defers W'->p.R (.panicked x) W'->Q (.panic x) a' W')
  (hk:∀e s' ρ' U a' W' H,bi s ρ β s' ρ' U->bU s.al L H->ao p.S0 p.w0 D cf.ty U ρ' s' a' W'->(k e s').aD p ρ' H->Q (e.to ρ' U) a' W'):
  gQ none E p.P (.rangeFunc f ps assign body) Q a W:=by
 obtain⟨ms,m1,m0,m2,m3⟩:=R.bT.j6;simp only[S.cU,awF] at aO;simp only[S.rW,axo] at a1;obtain⟨rec,a2⟩:∃rec:Loop,rec={state:=.ready,pending:=none,fn:=E,tmps:=a.tmps,params:=ps,assign,body,defers:=W.heap.size}:=⟨_,rfl⟩;obtain⟨N,ag⟩:∃N,(W.alloc (.deferred (some []))).alloc (.loop rec)=N:=⟨_,rfl⟩;have cj:N.heap[W.heap.size+1]?=some (.loop rec):=by
  rw[<-ag];have:=World.alloc_heap_new (W.alloc (.deferred (some []))) (.loop rec);rwa [World.size_alloc] at this
 have cl:N.heap[W.heap.size]?=some (.deferred (some [])):=by
  rw[<-ag];exact(Below.heap_alloc _ _ _ (by simp)).trans (World.alloc_heap_new W _)
 have bb:Below W.heap.size W N:=by
  rw[<-ag];exact⟨rfl,rfl,rfl,by simp;omega,λk hk=>(Below.heap_alloc _ _ _ (by simp;omega)).trans (Below.heap_alloc _ _ _ hk)⟩
 have C:=R.below bb;have cp:nu rec .ready=rec:=by rw[a2];rfl
 have cs:p.w0.heap.size<=W.heap.size:=R.mem.base.size;have bd:∀(n M:Nat)(G:Loop),D.cC[n]?=some (M,G)->M<W.heap.size:=by
  intro n M G w;have a3:n<s.pd.length:=by rw[<-R.bT.len];exact(awG.1 w).1
  exact vS (R.bT.cC n M G s.pd[n] w (awH a3)).2.1
 have bf:cF p.w0 ⟨W.heap.size::(ms++D.out),D.cC++[(W.heap.size+1,rec)],false,[]⟩ (s.pd++[.ready]) (ρ.y++[W.heap.size+1]) [] N:=
  C.bT.push m2 (λd J=>⟨(bb.block d (vS (m3 d J).1)).trans (m3 d J).1,(m3 d J).2⟩) cl (λu=>by have:=vS (m3 _ u).1;omega) cs (by rw[cp];exact cj) (λn M G w e=>by have:=bd n M G w;omega) (by omega)
 have bk:ρ.y.length=s.pd.length:=R.bT.ov;have an:∀m,m≠s.pd.length->(ρ.y++[W.heap.size+1]).getD m 0=ρ.y.getD m 0:=by
  intro m u;simp only[awK];by_cases a3:m<ρ.y.length;rw[awI a3];rw[awM (by omega),aw4 (l:=ρ.y) (by omega),aw4 (by simp;omega)]
 have br:∀(t:Nat)(F:SV),s.tmps[t]?=some F->F=.any\/a.tmps[t]?=some (F.den (ρ.at (ρ.y++[W.heap.size+1])) β):=by
  intro t F ht;rcases R.tmps t F ht with V|V;exact .inl V;right;rw[SV.JG an β F (adC a1.1 F (aw1 ht))];exact V
 have ct:ao p.S0 p.w0 ⟨W.heap.size::(ms++D.out),D.cC++[(W.heap.size+1,rec)],false,[]⟩ cf.ty β (ρ.at (ρ.y++[W.heap.size+1])) {s with pd:=s.pd++[.ready]} {a with defers:=[]} N:=
  ⟨C.mem.at an a1.2,C.dX,C.ei,C.eb,C.er,bf,C.size,br,λk e rv b V h2 h3=>let t:=C.cO k e rv b V h2 h3;⟨t.own,t.mem,t.box,t.alone,t.inner⟩⟩
 have RE:=ct.enter (.yl s.pd.length::Z) A bf;have cv:SV.ap (ρ.at (ρ.y++[W.heap.size+1])) β (.yl s.pd.length::Z)=.func (.yield (W.heap.size+1)) #[] #[]::SV.ap ρ β Z:=by
  simp only[SV.ap,SV.den];rw[SV.FE an β Z b7];congr 3;simp only[aa.at];rw[<-bk];simp
 have cx:a.eval f=.func (.func g) #[] (SV.ap ρ β Z).toArray:=by
  have:=bM R hg f (by rw[a8];rfl);rw[a8,SV.den] at this;exact this
 have eg:=j.Ab g (.inr (by rw[a9];rfl));obtain⟨af,hf,cy,cI,aM⟩:=j.inl g c A [] a9;refine anY ⟨W.heap.size+1,[iS W.heap.size],N,{target:=.fn (.func g) (SV.ap ρ β Z).toArray,args:= #[.func (.yield (W.heap.size+1)) #[] #[]]},N,g,
  #[.func (.yield (W.heap.size+1)) #[] #[]]++(SV.ap ρ β Z).toArray,N, ?_, ?_, ?_, ?_⟩
 rw[<-ag,a2];exact run_enterLoop_outer _ _ _ _ _
 ·simp only[resolve,cx];simp[go_sem]
 ·simp[invoke,go_sem,eg]
 have c0:(#[.func (.yield (W.heap.size+1)) #[] #[]]++(SV.ap ρ β Z).toArray:Array Value)=(SV.ap (ρ.at (ρ.y++[W.heap.size+1])) β (.yl s.pd.length::Z)).toArray:=by
  rw[cv];simp
 rw[c0];refine JE hf cy ?_;rw[cI];have bs:([iS W.heap.size]++a.defers:List Deferred)=(W.heap.size::ms).map iS++D.base:=by rw[m1];rfl
 have bt:(D.cC++[(W.heap.size+1,rec)])[s.pd.length]?=some (W.heap.size+1,rec):=by rw[<-R.bT.len];simp
 refine ih ⟨W.heap.size::(ms++D.out),D.cC++[(W.heap.size+1,rec)],false,[]⟩ ⟨EQ s A Z,ρ.at (ρ.y++[W.heap.size+1]),β,L⟩ _ none g c (EQ s A Z) (Co s k) L _ β _ N _
  (aoy j ih b6 (a:=a) (s:=s) (sE:=EQ s A Z) (L:=L) (ps:=ps) (ρ:=ρ.at (ρ.y++[W.heap.size+1])) (β:=β) rfl (R.tY aO.1).1 R.size br b8 ca (by rw[a2]) bt) (jq.here _ _ _ _) rfl (λhh=>by cases hh) ⟨af,hf⟩ (oE p _ ρ L _ h) RE hg ?_ ?_
 intro x a' W' pd y hA hR;obtain⟨c1,q,q0,q2,q3⟩:=hA.j6;rw[q] at hA;have o:=(hA.nC).pop a7;show LeavesInM Fence.wide 0 p.P af a'.tmps _ a'.defers (.panicking x) W';rw[q];refine po (by simp) (axF.1 q2).1 (λd J=>(q3 d (by simp[J])).1) ?_;exact HP x _ _ _ _ (by rw[<-bs] at o;exact o) (JH (j.Nu x) (λd J=>(q3 d (by simp[J])).2) hR);intro e s' ρ' U a' W' H I hL RR X;obtain⟨c1,q,q0,q2,q3⟩:=RR.bT.j6;have O:=RR.nC q;have o:=O.bT.pop a7;have bx:ρ'.y=ρ.y++[W.heap.size+1]:=I.ext.agree.y;have c2:ρ'.y.take D.cC.length=ρ.y:=by rw[bx,R.bT.len,<-bk];simp
 rw[c2,<-bs,R.bT.len] at o;have b0:∀m,m≠s.pd.length->ρ.y.getD m 0=ρ'.y.getD m 0:=λm u=>by rw[bx];exact(an m u).symm
 have a4:bi s ρ β (s.xM s') (ρ'.at ρ.y) U:=⟨⟨⟨I.ext.agree.i,I.ext.agree.b,I.ext.agree.r,rfl⟩,I.ext.li,I.ext.lb,I.ext.lr,I.ext.ad⟩,I.mono,I.len,I.al⟩;have b1:∀(W3:World),gP p.S0 p.w0 U ρ' s'.boxes cf.ty s'.rs W3->(∀(k:Nat)(e:TypeId)(rv:RV)(b:Nat),s'.rs[k]?=some (.own e)->ρ'.r[k]?=some rv->rv.iC=some b->tW p.S0 p.w0 U ρ' s'.boxes cf.ty s'.rs W3 k e rv b)->rX s.pd.length s'.boxes=false->
   cF p.w0 D (s'.pd.take s.pd.length) ρ.y ([iS W.heap.size]++a.defers) W3->ao p.S0 p.w0 D cf.ty U (ρ'.at ρ.y) (s.xM s') {a with defers:=[iS W.heap.size]++a.defers} W3:=by
  intro W3 u ht hb c3;refine⟨u.at b0 hb,O.dX,O.ei,O.eb,O.er,c3,R.size,λt F h=> ?_,λk e rv b V h2 h3=>let t:=ht k e rv b V h2 h3;⟨t.own,t.mem,t.box,t.alone,t.inner⟩⟩;rcases R.tmps t F h with V|V;exact .inl V;right;rw[a4.ext.den (qn (R.tY aO.1).1 h)];exact V
 have b2:s.pd.length<s'.pd.length:=by
  have:=O.bT.len;simp only[awQ,axm,ayj] at this;rw[R.bT.len] at this;omega
 obtain⟨u1,u2,u3⟩:=O.bT.cC s.pd.length (W.heap.size+1) rec s'.pd[s.pd.length] bt (awH b2);have a5:∀(st:kO)(e:XE)(a0:Option Code),s'.pd[s.pd.length]?=some st->(nu rec st).state≠ .busy->(nu rec st).pending=a0->rX s.pd.length s'.boxes=false->(k e (s.xM s')).aD p ρ' H->
   (∀W4,Q (e.to (ρ'.at ρ.y) U) {a with defers:=[iS W.heap.size]++a.defers} W4->(match a0 with|none=>Q .normal {a with defers:=[iS W.heap.size]++a.defers} W4|some c=>gQ none E p.P c Q {a with defers:=[iS W.heap.size]++a.defers} W4))->
   LeavesInM Fence.wide 0 p.P af a'.tmps (UJ none E p.P (W.heap.size+1) Q {a with defers:=[iS W.heap.size]++a.defers}) a'.defers .returning W':=by
  intro st e a0 B c4 hj z c5 hq;rw[q];refine po (by simp) (axF.1 q2).1 (λd J=>(q3 d (by simp[J])).1) ⟨_,Js O j.jt (l:=[]) (by rw[aM];rfl), ?_⟩;have c6:s'.pd[s.pd.length]=st:=by
   rw[awH b2] at B;simpa using B
  rw[c6] at u2;have b3:=run_endLoop (P:=p.P) u2 c4;rw[hj] at b3;refine⟨a0,_,b3,hq _ ?_⟩;have c7:∀(n M:Nat)(G:Loop),D.cC[n]?=some (M,G)->M≠W.heap.size+1:=λn M G w e=>by have:=bd n M G w;omega
  refine hk e (s.xM s') (ρ'.at ρ.y) U _ _ H a4 hL (b1 _ (O.mem.obj u2 rfl u3 _) (λk e rv b V h2 h3=>(O.cO k e rv b V h2 h3).obj u2 rfl _) z (o.put u2 c7 _)) (oE p _ ρ' H _ c5)
 have b4:(Co s k .ret s').aD p ρ' H->LeavesInM Fence.wide 0 p.P af a'.tmps (UJ none E p.P (W.heap.size+1) Q {a with defers:=[iS W.heap.size]++a.defers}) a'.defers .returning W':=by
  intro X;simp only[Co] at X;split at X;exact X.elim;rename_i z;have a6:rX s.pd.length s'.boxes=false:=by simpa using z
  split at X;rename_i B;exact a5 .ready .normal none B (by simp[nu]) rfl a6 X (λ_ h=>h)
  ·rename_i B;exact a5 (.done .ret) .ret (some .ret) B (by simp[nu]) rfl a6 X (λ_ h=>ym (n:=0) (wpIn_ret h))
  ·rename_i id B;exact a5 (.done (.exit id)) (.exit id) (some (.exit id)) B (by simp[nu]) rfl a6 X (λ_ h=>ym (n:=0) (wpIn_exit h))
  exact X.elim
 cases e with
 |normal=>exact b4 X
 |ret=>exact b4 X
 |exit id=>exact X.elim
 |aS v=>
  simp only[Co] at X;split at X;exact X.elim;rename_i z;simp only[aw9,not_or,azJ] at z;show LeavesInM Fence.wide 0 p.P af a'.tmps _ a'.defers (.panicking _) W';rw[q];refine po (by simp) (axF.1 q2).1 (λd J=>(q3 d (by simp[J])).1) ?_;have:=hk (.aS v) (s.xM s') (ρ'.at ρ.y) U _ _ H a4 hL (b1 _ O.mem O.cO z.2 o) (oE p _ ρ' H _ X);simp only[XE.to] at this;rw[SV.JG b0 U v z.1] at this;exact this
end
end
section
section
variable{cf:bc}{p:Sp}{L:List LC}{β:List Nat}{W:World}
def Up(ρ ρ':aa):Prop:=∃l,ρ'={ρ with r:=ρ.r++l}
def Up.refl(ρ:aa):Up ρ ρ:=⟨[],by simp⟩
def Up.trans{ρ ρ' Z:aa}(h:Up ρ ρ')(k:Up ρ' Z):Up ρ Z:=by
 obtain⟨l,rfl⟩:=h;obtain⟨m,rfl⟩:=k;exact⟨l++m,by simp⟩
def Up.agree{ρ ρ':aa}(h:Up ρ ρ'):fj ρ ρ' ρ.i.length ρ.b.length ρ.r.length:=by
 obtain⟨l,rfl⟩:=h;have:∀(l:List RV)(ρ:aa),ρ.ext (l.map XV.r)={ρ with r:=ρ.r++l}:=by
  intro l;induction l with
  |nil=>intro ρ;simp[aa.ext]
  |cons x xs Z=>intro ρ;simp only[awT,aa.ext,Z,aa.add];simp
 rw[<-this l ρ];exact zV _ _
def sR(ρ:aa)(rs:List RK)(pd:List kO):S:=⟨[],[],ρ.i.length,ρ.b.length,rs,0,0,pd⟩
def JN(rs:List RK):Prop:=∀(k:Nat)(e:TypeId),rs[k]?≠some (RK.own e)
def ad1(p:Sp)(cf:bc)(D:bw)(a:Act)(W:World)(L:List LC)(β:List Nat)(bx:aX)(pd:List kO)(ρ0:aa)(v:SV)(f:List RK->(SV->List RK->T)->T):Prop:=
 ∀(rs:List RK)(ρ:aa)(k:SV->List RK->T),ao p.S0 p.w0 D cf.ty [] ρ (sR ρ rs pd) a W->Up ρ0 ρ->JN rs->v.bd ρ0.i.length ρ0.b.length ρ0.r.length (aA bx)=true->(f rs k).aD p ρ L->
  ∃X Z ρ',ao p.S0 p.w0 D cf.ty [] ρ' (sR ρ' Z pd) a W/\Up ρ ρ'/\JN Z/\(∀V,Up ρ' V->X.den V []=v.den ρ0 β)/\(k X Z).aD p ρ' L
def NP{D:bw}{a:Act}{bx:aX}{pd:List kO}{ρ0:aa}{f:SV->List RK->(SV->List RK->T)->T}(P:∀v,ad1 p cf D a W L β bx pd ρ0 v (f v)):∀(l:List SV)(rs:List RK)(ρ:aa)(k:List SV->List RK->T),ao p.S0 p.w0 D cf.ty [] ρ (sR ρ rs pd) a W->Up ρ0 ρ->JN rs->SV.ck ρ0.i.length ρ0.b.length ρ0.r.length (aA bx) l=true->(ES f l rs k).aD p ρ L->
  ∃O X ρ',ao p.S0 p.w0 D cf.ty [] ρ' (sR ρ' X pd) a W/\Up ρ ρ'/\JN X/\(∀Z,Up ρ' Z->SV.ap Z [] O=SV.ap ρ0 β l)/\(k O X).aD p ρ' L
 |[],rs,ρ,k,R,V,U,_,h=>⟨[],rs,ρ,R,Up.refl ρ,U,λ_ _=>rfl,h⟩
 |x::xs,rs,ρ,k,R,V,U,Q,h=>by
  rw[SV.eY.2,awF] at Q;simp only[ES] at h;obtain⟨I,H,ρ1,G,N,n1,F,E⟩:=P x rs ρ _ R V U Q.1 h;obtain⟨C,B,A,z,M,n2,y,w⟩:=NP P xs H ρ1 _ G (V.trans N) n1 Q.2 E;exact⟨I::C,B,A,z,N.trans M,n2,λZ J=>by simp only[SV.ap,F Z (M.trans J),y Z J],w⟩
def UY(A:p.ty=cf.ty){D:bw}{a:Act}{bx:aX}{pd:List kO}{ρ0:aa}(y:a.tmps= #[])(x:∀i e cs,iP bx i=some (e,cs)->W.heap[ad β i]?=some (.cells (SV.ap ρ0 β cs).toArray e (0,0))/\(p.w0.heap.size<=ad β i\/ad β i∈p.S0)/\SV.ck ρ0.i.length ρ0.b.length ρ0.r.length (aA bx) cs=true):
  ∀(n:Nat)(v:SV),ad1 p cf D a W L β bx pd ρ0 v (ET cf bx n v)
 |0,v=>λrs ρ k R N M V h=>h.elim
 |n+1,v=>by
  intro rs ρ k R N M V h;cases v with
  |int q e=>
   refine⟨_,rs,ρ,R,Up.refl ρ,M,λH U=> ?_,h⟩;rw[SV.aG.1] at V;simp only[SV.den,IE.cu (N.trans U).agree e V]
  |bool e=>
   refine⟨_,rs,ρ,R,Up.refl ρ,M,λH U=> ?_,h⟩;rw[SV.aG.2.1] at V;simp only[SV.den,BE.cu (N.trans U).agree e V]
  |ref r=>
   refine⟨_,rs,ρ,R,Up.refl ρ,M,λH U=> ?_,h⟩;rw[SV.aG.2.2.1] at V;simp only[SV.den,RE.cu (N.trans U).agree r V]
  |agg l=>
   rw[SV.aG.2.2.2.2.2.2.1] at V;simp only[ET] at h;obtain⟨l',an,ρ',R',u',n',d',h'⟩:=NP (UY A y x n) l rs ρ _ R N M V h;exact⟨.agg l',an,ρ',R',u',n',λH U=>by simp only[SV.den,d' H U],h'⟩
  |fo i off G cap=>
   simp only[ET] at h;split at h;rename_i e cs a1;obtain⟨g1,g2,g3⟩:=x i e cs a1;split at h;rename_i F a2;obtain⟨cs',X,ρ1,P,u1,n1,d1,w⟩:=NP (UY A y x n) cs rs ρ _ R N M g3 h;split at w;rename_i hc;simp only[awF,beq_iff_eq,decide_eq_true_eq,bne_iff_ne,ne_eq] at hc;obtain⟨⟨⟨⟨c1,c2⟩,c3⟩,c4⟩,c5⟩:=hc;subst c3;have o:aW cf.ty (.sl e)=F.ab:=by simp[aW,a2]
   have m:jX cf.ty (sR ρ1 X pd) (aW cf.ty (.sl e)) (fW F.ab.length G cs')=true:=by
    rw[o,<-c1];exact Ae (s:=sR ρ1 X pd) (s':=S.cm X) rfl
   have g:=TQ P m;obtain⟨rows,O⟩:∃rows,rows=(fW F.ab.length G cs').map λrow=>row.map (SV.bp ρ1):=⟨_,rfl⟩
   rw[<-O] at g;have hN:rows.length=G:=by rw[O];simp[M8]
   have a3:SV.ap ρ1 [] cs'=SV.ap ρ0 β cs:=d1 ρ1 (Up.refl _);have hH:aT W cf.ty (.sl e) (.mk (.slice (some ⟨ad β i,0,none⟩) rows.length cap) rows):=by
    refine TH g ⟨_,_,_,g1⟩ (λq u hq=> ?_) (by rw[hN];exact c4);rw[O] at hq;have af:=TR (β:=[]) (by rw[o]) m (λi row J=>by rw[<-O] at J;rw[g.len i row J,o]) hq;rw[a3] at af;simp[World.cell?,g1,af]
   have a4:Ct p.ty p.S0 p.w0 e (.lit (fW F.ab.length G cs')) X ρ1 (.mk (.slice (some ⟨ad β i,0,none⟩) rows.length cap) rows):=by
    refine⟨⟨some ⟨ad β i,0,none⟩,rows.length,cap,by rw[O];rfl,by rw[O];rfl⟩,λb f=> ?_,λ_ _ _ _ h=>by cases h⟩;rw[A] at f⊢;generalize ag:RV.mk (.slice (some ⟨ad β i,0,none⟩) rows.length cap) rows=rv at f;cases f with
    |here e a0 a7 a8 a5=>
     injection ag with p1 p2;injection p1 with p3 p4 p5;cases p3;exact g2.imp id .inl
    |deep e v a5 i j row c z k b I q2 q3 q4=>
     injection ag with p1 p2;subst p2;rw[O,awL] at I;cases J:(fW F.ab.length G cs')[i]? with
     |none=>rw[J] at I;cases I
     |some a6=>
      rw[J] at I;simp only[awO,awJ] at I;subst I;obtain⟨r,Z,Q,k3,k4⟩:=TL (z6 m i a6 J) q2 q3 q4;exact .inr (.inr (Ff P k3 Q k4).1)
   have hs:=w _ a4;refine⟨.ref (.v X.length),X++[.sl e],ρ1.add (.r (.mk (.slice (some ⟨ad β i,0,none⟩) rows.length cap) rows)), ?_,u1.trans ⟨[_],rfl⟩, ?_, ?_,hs⟩;have B:ρ1.r.length=X.length:=P.er;refine⟨⟨P.mem.base,λi hi=>by simp[sR,aA,bP] at hi,λi j hi=>by simp[sR,aA,bP] at hi,λi t cs hi=>by simp[sR,bP] at hi,λk d rv Z Q=> ?_⟩,rfl,rfl,rfl,by simp[sR,aa.add,B],P.bT,by rw[y];rfl,λt sv ht=>by simp[sR] at ht,λk d rv b Z=> ?_⟩;refine⟨?_,λb V i hi=>by simp[sR,aA,bP] at hi⟩;simp only[sR,aa.add] at Z Q;by_cases E:k<X.length;rw[awI E] at Z;rw[awI (by omega)] at Q;exact(P.mem.ref k d rv Z Q).1;have C:k=X.length:=by
    have:=(awG.1 Z).1;simp at this;omega
   subst C;simp at Z;rw[<-B] at Q;simp at Q;subst Z Q;exact hH;exfalso;simp only[sR] at Z;by_cases E:k<X.length;rw[awI E] at Z;exact n1 _ _ Z;have:=(awG.1 Z).1;have C:k=X.length:=by simp at this;omega
   subst C;simp at Z;intro k d Z;by_cases E:k<X.length;rw[awI E] at Z;exact n1 _ _ Z;have:=(awG.1 Z).1;have C:k=X.length:=by simp at this;omega
   subst C;simp at Z;intro H U;obtain⟨l,rfl⟩:=U;have B:ρ1.r.length=X.length:=P.er;simp only[SV.den,RE.den,RE.rv,aa.rv,aa.add,awK,ax9];rw[<-B,awM (awN _)];simp[hN];exact w.elim;exact h.elim;exact h.elim
  |loc _ _=>exact h.elim
  |el _ _ _ _=>exact h.elim
  |bj _=>exact h.elim
  |fn _ _=>exact h.elim
  |dH _ _=>exact h.elim
  |yl _=>exact h.elim
  |any=>exact h.elim
  |mp _=>exact h.elim
  |dI _ _ _=>exact h.elim
end
end
section
section
variable{cf:bc}
section
variable{S0:List Nat}{w0:World}{D:bw}{β:List Nat}{ρ:aa}{s:S}{a:Act}{W:World}
def UZ{k:Int}:∀{ks:List Int}{vs:List SV}{v:SV},Cq k ks vs=some v->v.eE ρ β=.mk (gO k ks (SV.ap ρ β vs)) []
 |[],_,v,h=>by simp[Cq] at h
 |P::ks,[],v,h=>by simp[Cq] at h
 |P::ks,u::vs,v,h=>by
  unfold Cq at h;split at h;rename_i X V;injection X with e1 U;injection V with R Q;subst e1 U R Q;simp only[SV.ap,gO];split at h;rename_i Z;cases h;rw[if_pos Z];rfl;rename_i Z;rw[if_neg Z];exact UZ h;rename_i X V;injection X with e1 U;injection V with R Q;subst e1 U R Q;simp only[SV.ap,gO];split at h;rename_i Z;cases h;rw[if_pos Z];rfl;rename_i Z;rw[if_neg Z];exact UZ h;cases h
def ad2{x:Int}:∀{ks:List Int}{vs:List Value},¬x∈ks->gO x ks vs=.nilFunc
 |[],_,_=>rfl
 |k::ks,[],_=>rfl
 |k::ks,v::vs,h=>by
  simp only[awP,not_or] at h;simp only[gO,if_neg h.1];exact ad2 h.2
def U0{e:IE}{k:Int}(Z:e.den ρ=k):∀(n:Nat)(b:BE),(IX e k n b).den ρ=b.den ρ
 |0,b=>rfl
 |n+1,b=>by
  unfold IX;split;rfl;rename_i n' U R x y X;cases X;split;rename_i V;have:=IE.bl _ _ V;subst this;simp only[BE.den,IE.den,ew,Z,beq_iff_eq];split;exact U0 Z n x;exact U0 Z n y;rfl;rfl
def U4{e:IE}{k:Int}(Z:e.den ρ=k):∀(n:Nat)(b:IE),(IY e k n b).den ρ=b.den ρ
 |0,b=>rfl
 |n+1,b=>by
  unfold IY;split;rfl;rename_i n' U R x y X;cases X;split;rename_i V;have:=IE.bl _ _ V;subst this;simp only[BE.den,IE.den,ew,Z,beq_iff_eq];split;exact U4 Z n x;exact U4 Z n y;rfl;rfl
def aoA{e:IE}{k:Int}(Z:e.den ρ=k)(v:SV):(Td e k v).eE ρ β=v.eE ρ β:=by
 cases v<;>simp only[Td];simp only[SV.eE,SV.den,U4 Z];simp only[SV.eE,SV.den,U0 Z];rename_i U ks vs;split;rename_i X;have:=IE.bl _ _ X;subst this;split;rename_i v V;rw[UZ V];simp only[SV.eE,SV.den,Z];rfl;rfl
def aoB{e:IE}{X:List Int}(V:¬e.den ρ∈X)(v:SV):(MG e X v).eE ρ β=v.eE ρ β:=by
 cases v<;>simp only[MG];rename_i Q ks vs;split;rename_i Z;rw[awF] at Z;have:=IE.bl _ _ Z.1;subst this;have U:¬e.den ρ∈ks:=λR=>V (by
  have:=awU.1 Z.2 _ R;exact axg.1 this)
 simp only[SV.eE,SV.den,ad2 U];rfl;rfl
def U5{f:SV->SV}{l:aX}{i:Nat}{t:TypeId}{cs:List SV}:bA (Cr f l) i=some (t,cs)<->∃Z,bA l i=some (t,Z)/\cs=Z.map f:=by
 rw[gw];simp only[Cr,awL];constructor;intro h;cases X:l[i]? with
 |none=>rw[X] at h;cases h
 |some x=>
  rw[X] at h;cases x with
  |none=>cases h
  |some y=>
   simp only[awO,awJ,ayl] at h;obtain⟨rfl,rfl⟩:=h;exact⟨y.2,gw.2 X,rfl⟩
 rintro⟨Z,h,rfl⟩;rw[gw] at h;rw[h];rfl
def ad3{f:SV->SV}{l:aX}{i:Nat}:aA (Cr f l) i=aA l i:=by
 rw[axO];simp only[aA,awZ];constructor;rintro⟨⟨t,cs⟩,h⟩;obtain⟨Z,h,-⟩:=U5.1 h;exact⟨_,h⟩;rintro⟨⟨t,cs⟩,h⟩;exact⟨_,U5.2 ⟨cs,h,rfl⟩⟩
def ao.fix(R:ao S0 w0 D cf.ty β ρ s a W){f:SV->SV}(O:∀v,(f v).eE ρ β=v.eE ρ β):ao S0 w0 D cf.ty β ρ (s.fix f) a W:=by
 have X:∀j,aA (s.fix f).boxes j=aA s.boxes j:=λj=>ad3
 refine⟨⟨R.mem.base,λj Z=>R.mem.own j (by rw[<-X];exact Z),λj k Z N=>R.mem.inj j k (by rw[<-X];exact Z) (by rw[<-X];exact N),λj t cs Q=> ?_,λk e rv V U=>⟨(R.mem.ref k e rv V U).1,λb Q j Z=>(R.mem.ref k e rv V U).2 b Q j (by rw[<-X];exact Z)⟩⟩,by rw[R.dX];simp[S.fix,Cr],R.ei,R.eb,R.er,R.bT,R.size,R.tmps,λk e rv b M L J=> ?_⟩;obtain⟨P,h,rfl⟩:=U5.1 Q;have:SV.b9 ρ β (P.map f)=SV.b9 ρ β P:=by
  simp only[SV.b9,axu];exact aw5 λv _=>O v
 rw[this];exact R.mem.box j t P h;obtain⟨V,U,I,H,G⟩:=R.cO k e rv b M L J;exact⟨V,U,λj Z=>I j (by rw[<-X];exact Z),H,G⟩
def ad4(f:SV->SV):bi s ρ β (s.fix f) ρ β:=⟨j8.refl _ _ _,λi h=>by rw[show aA (s.fix f).boxes i=aA s.boxes i from ad3];exact h,by simp[S.fix,Cr],awN _⟩
def ao.aoC(R:ao S0 w0 D cf.ty β ρ s a W){t:Nat}{k:IntKind}{e:IE}{v:Int}(X:s.tmps.getD t .any=.int k e)(U:e.den ρ=v):ao S0 w0 D cf.ty β ρ {s with tmps:=s.tmps.set t (.int k (.c v))} a W:=by
 refine⟨R.mem,R.dX,R.ei,R.eb,R.er,R.bT,by simpa using R.size,λi Q h=> ?_,R.cO⟩;simp only[axC] at h;split at h;rename_i hi;subst hi;split at h;rename_i V;cases h;have P:s.tmps[t]?=some (.int k e):=by
  rw[awK,awH V] at X;rw[awH V];simpa using X
 rcases R.tmps t _ P with Z|Z;cases Z;right;rw[Z];simp only[SV.den,IE.den,U];cases h;exact R.tmps i Q h
def U6{p:Sp}{L:List LC}{e:IE}{eC:Int->S}{ar:T}{g:S->T}:∀{ks:List Int},(ER e eC ar g ks).aD p ρ L->(∃k∈ks,e.den ρ=k/\(g (eC k)).aD p ρ L)\/(¬e.den ρ∈ks/\ar.aD p ρ L)
 |[],h=>.inr ⟨by simp,h⟩
 |k::ks,h=>by
  simp only[ER,T.aD] at h;by_cases Z:e.den ρ=k;exact .inl ⟨k,by simp,Z,h.1 (by simp[BE.den,IE.den,ew,Z])⟩;rcases U6 (h.2 (by simp[BE.den,IE.den,ew,Z])) with⟨U,X,V⟩|⟨X,V⟩;exact .inl ⟨U,by simp[X],V⟩;exact .inr ⟨by simp[Z,X],V⟩
def aoD{p:Sp}{L:List LC}(R:ao S0 w0 D cf.ty β ρ s a W){P id:Nat}{e:IE}{ks:List Int}{eC:Int->S}{ar:Option S}(Z:MH cf P id s=some (e,ks,eC,ar)){g:S->T}(h:(ER e eC (Te g ar) g ks).aD p ρ L):
  ∃s',bi s ρ β s' ρ β/\s'.al=s.al/\ao S0 w0 D cf.ty β ρ s' a W/\(g s').aD p ρ L:=by
 unfold MH at Z;split at Z;split at Z;cases Z;rcases U6 h with⟨k,V,X,U⟩|⟨V,X⟩;exact⟨_,ad4 _,rfl,R.fix (aoA X),U⟩;split at X;exact⟨_,ad4 _,rfl,R.fix (aoB V),X⟩;exact X.elim;cases Z;split at Z;cases Z;rename_i k O N Q;cases Z;rw[ng] at Q;rcases U6 h with⟨k,V,X,U⟩|⟨V,X⟩;refine⟨_, ?_, ?_,R.aoC Q X,U⟩;exact⟨j8.refl _ _ _,λ_ h=>h,awN _,awN _⟩;rfl;exact X.elim;cases Z;cases Z
end
def NQ:∀(n:Nat)(p:Sp)(_:jr p cf),uh p cf n/\NG p cf n
 |0,p,ok=>⟨λD B yh ro q c s k L ρ β a W Q _ _ _ _ _ h=>h.elim,λD B yh ro q c s k L ρ β a W Q _ _ _ _ _ _ h=>h.elim⟩
 |n+1,p,ok=>by
  have b5:=(NQ n p ok).2;have A:=(NQ n p ok).1;have b6:∀p':Sp,p'.P=p.P->jr p' cf->uh p' cf n:=λp' _ b7=>(NQ n p' b7).1
  have bx:=an8 A b5;refine⟨?_,bx⟩;intro D B yh ro q c s k L ρ β a W Q w F af a5 ag h R G HP M;have a6:∀e X,bU s.al L X->(k e s).aD p ρ X->Q (e.to ρ β) a W:=λe X U V=>M e s ρ β a W X (bi.refl _ _ _) U R V
  have h0:=h;unfold dJ at h;split at h;exact ym (n:=0) (wpIn_skip (a6 .normal L (bU.refl _ _) h));exact ym (n:=0) (wpIn_label (a6 .normal L (bU.refl _ _) h));exact ym (n:=0) (wpIn_ret (a6 .ret L (bU.refl _ _) h));rename_i id;exact ym (n:=0) (wpIn_exit (a6 (.exit id) L (bU.refl _ _) h))
  
  rename_i x y;have a7:ro.isSome=true->gv x=false:=λo=>by have:=a5 o;simp only[gv,axo] at this;exact this.1
  have a8:ro.isSome=true->gv y=false:=λo=>by have:=a5 o;simp only[gv,axo] at this;exact this.2
  refine UI (A D B yh ro q x s _ L ρ β a W _ w F af a7 ag h R G (λch a' W' pd y hd hR=>HP ch a' W' pd y hd hR) ?_);intro e s' ρ' J a' W' X Z U O V;cases e with
  |normal=>exact A D B yh ro q y s' k X ρ' J a' W' Q w (F.go Z U) af a8 ag V O (G.ext Z.ext) HP (λe2 s2 a0 a3 a2 W2 d u a4 R2 E=>M e2 s2 a0 a3 a2 W2 d (Z.trans u) (U.trans a4 Z.al) R2 E)
  |ret=>exact M .ret s' ρ' J a' W' X Z U O V
  |exit id=>exact M (.exit id) s' ρ' J a' W' X Z U O V
  |aS v=>exact M (.aS v) s' ρ' J a' W' X Z U O V
  
  rename_i id x;refine anV (A D B yh ro q x s _ L ρ β a W _ w F af (λo=>by have:=a5 o;simpa only[gv] using this) ag h R G (λch a' W' pd y hd hR=>HP ch a' W' pd y hd hR) ?_);intro e s' ρ' J a' W' X Z U O V;cases e with
  |normal=>exact M .normal s' ρ' J a' W' X Z U O V
  |ret=>exact M .ret s' ρ' J a' W' X Z U O V
  |exit j=>
   simp only[S4] at V;split at V;rename_i hj;have bb:j=id:=by simpa using hj
   subst bb;simp only[XE.to,Exit.inBlock,if_true];exact M .normal s' ρ' J a' W' X Z U O V;rename_i hj;have bb:¬j=id:=by simpa using hj
   simp only[XE.to,Exit.inBlock,bb,if_false];exact M (.exit j) s' ρ' J a' W' X Z U O V
  |aS v=>exact M (.aS v) s' ρ' J a' W' X Z U O V
  
  rename_i x;refine anW (A D B yh ro q x s _ L ρ β a W _ w F af (λo=>by have:=a5 o;simpa only[gv] using this) ag h R G (λch a' W' pd y hd hR=>⟨λl h=>by(cases h),HP ch a' W' pd y hd hR⟩) ?_);intro e s' ρ' J a' W' X Z U O V;exact⟨λl h=>(by cases e<;>cases h),M e s' ρ' J a' W' X Z U O V⟩
  
  rename_i x y z;have a8:ro.isSome=true->gv y=false:=λo=>by have:=a5 o;simp only[gv,axo] at this;exact this.1
  have b0:ro.isSome=true->gv z=false:=λo=>by have:=a5 o;simp only[gv,axo] at this;exact this.2
  split at h;rename_i C;have he:=bM R G x (by rw[C];rfl);rw[C] at he;exact ND (t:=true) (by simpa[SV.den,BE.den] using he) (A D B yh ro q y s k L ρ β a W Q w F af a8 ag h R G HP M);rename_i C;have he:=bM R G x (by rw[C];rfl);rw[C] at he;exact ND (t:=false) (by simpa[SV.den,BE.den] using he) (A D B yh ro q z s k L ρ β a W Q w F af b0 ag h R G HP M);rename_i b d4 d5 C;have he:=bM R G x (by rw[C];rfl);rw[C] at he;split at h;rename_i t;simp only[S.ev,ng] at C;simp only[T.aD] at h;have b1:∀v,B.nA {s with tmps:=s.tmps.set t v} ρ β L:=λv=>⟨⟨F.later.ext,F.later.mono,F.later.len,F.later.al⟩,F.Ni⟩
  cases hv:b.den ρ;refine ND (t:=false) (by simpa[SV.den,hv] using he) (A D B yh ro q z _ k L ρ β a W Q w (b1 _) af b0 ag (h.2 hv) (R.acY C hv) G HP ?_);exact λe2 s2 a0 a3 a2 W2 d u a4 R2 E=>M e2 s2 a0 a3 a2 W2 d ⟨u.ext,u.mono,u.len,u.al⟩ a4 R2 E
  refine ND (t:=true) (by simpa[SV.den,hv] using he) (A D B yh ro q y _ k L ρ β a W Q w (b1 _) af a8 ag (h.1 hv) (R.acY C hv) G HP ?_);exact λe2 s2 a0 a3 a2 W2 d u a4 R2 E=>M e2 s2 a0 a3 a2 W2 d ⟨u.ext,u.mono,u.len,u.al⟩ a4 R2 E
  exact h.elim;exact h.elim
  
  rename_i id ops b8;split at h;rename_i e ks eC ar hf;obtain⟨s',Z,bd,O,h'⟩:=aoD R hf h;exact A D B yh ro q _ s' k L ρ β a W Q w (F.go Z (bU.refl _ _)) af a5 ag h' O G HP (λe2 s2 a0 a3 a2 W2 d u a4 R2 E=>M e2 s2 a0 a3 a2 W2 d (Z.trans u) (bd▸a4) R2 E);refine ym (n:=0) ?_;split at h;rename_i hd;subst hd;split at h;rename_i c bf;exact ad0 (yk ro) ok A w HP F bf h R G (λs' ρ' J a' W' X Z U O V=>M .normal s' ρ' J a' W' X Z U O V) (λv s' ρ' J a' W' X Z U O V=>M (.aS v) s' ρ' J a' W' X Z U O V);split at h;rename_i om ca;split at h;exact h.elim;rename_i cc;exact an7 (yk ro) ok (aof b6 ok) w HP F ca (by simpa using cc) (aoe _ _ _) h R G (λs' ρ' J a' W' X Z U O V=>M .normal s' ρ' J a' W' X Z U O V) (λv s' ρ' J a' W' X Z U O V=>M (.aS v) s' ρ' J a' W' X Z U O V);split at h;rename_i c bf;exact ad0 (yk ro) ok A w HP F bf h R G (λs' ρ' J a' W' X Z U O V=>M .normal s' ρ' J a' W' X Z U O V) (λv s' ρ' J a' W' X Z U O V=>M (.aS v) s' ρ' J a' W' X Z U O V);exact h.elim;rename_i hd;have cl:b8=false:=by simpa using hd
  subst cl;obtain⟨Rr,bk⟩:=R.room (jI ops.toList);refine wpIn_region ?_;have:=xZ (ops:=ops) ok.pt ok.B8 (yk ro) ok.jt (NH ok A w) HP (n:=0) (ek (λ_=>false) true false 0 s.boxes.length ops.toList) 0 _ [] L ρ _ a W (λi m' hi=>by have:=JI _ _ _ _ _ _ _ _ hi;simpa using this) (F.go bk (bU.refl _ _)) h (λx hx=>by cases hx) Rr G
   (λs' ρ' J a' W' X Z U O V=>M .normal s' ρ' J a' W' X (bk.trans Z) U O V)
   (λv s' ρ' J a' W' X Z U O V=>M (.aS v) s' ρ' J a' W' X (bk.trans Z) U O V)
  rw[UN] at this;simpa[ayv] using this
  
  rename_i x;have a7:ro.isSome=true->gv x=false:=λo=>by have:=a5 o;simpa only[gv] using this
  split at h;rename_i cp d6;obtain⟨H,cs⟩:∃H,H=cp.at s:=⟨_,rfl⟩;rw[<-cs] at h;split at h;exact h.elim;rename_i C;simp only[aw9,awY,not_or,ax8] at C;obtain⟨⟨⟨⟨⟨aO,ct⟩,cv⟩,cx⟩,cy⟩,cI⟩:=C;simp only[T.aD] at h;obtain⟨I,μ,c0,c7⟩:=h;refine anX (λN a1 W1=>∃r ρ1 β1,bi s ρ β r ρ1 β1/\ao p.S0 p.w0 D cf.ty β1 ρ1 r a1 W1/\tR H (Code.kP x) 0 s.tmps r.tmps=true/\ol H 0 s.boxes r.boxes=true/\oo r H.ks (gM H r)=true/\tQ (fy H s) r.rs=true/\Cg (fy H s) (Cf H r)=true/\r.pd=s.pd/\I ((gM H r).map (SV.xv ρ1))/\μ ((gM H r).map (SV.xv ρ1))=N)
   (μ ((gM H s).map (SV.xv ρ))) ⟨s,ρ,β,bi.refl _ _ _,R,cv,cx,ct,cy,cI,rfl,c0,rfl⟩ ?_
  rintro N a1 W1 ⟨r,ρ1,β1,cj,R1,hT,c8,b2,c9,dc,dd,hI,rfl⟩;have RH:=ao.head (ty:=cf.ty) aO R.ei R.eb R.er cj R1 hT c8 b2 c9 dc dd;have df:=c7 _ (Ui (ρ1:=ρ1) b2) hI;have bd:(mN H (Code.kP x) s).al=s.al+1:=(sc H.ks {s with al:=s.al+1,rs:=fy H s}).2.2.1;have br:bi s ρ β (mN H (Code.kP x) s) (ρ.ext ((gM H r).map (SV.xv ρ1))) (β1.take s.boxes.length):=by
   obtain⟨e1,e2,e3,e4⟩:=sc H.ks {s with al:=s.al+1,rs:=fy H s};have hE:=xT s.boxes ρ ((gM H r).map (SV.xv ρ1)) β;refine⟨⟨hE.agree,hE.li,hE.lb,hE.lr,λk b3=> ?_⟩,λi hi=> ?_,by simp[mN,Nr], ?_⟩;have bs:k<s.boxes.length:=by
    obtain⟨b,hb⟩:=awZ.1 b3;exact(awG.1 (gw.1 hb)).1
   rw[ya bs];exact cj.ext.ad k b3;unfold aA at hi⊢;simp only[mN];rw[Ju];simpa using hi;simp only[mN];rw[e3];exact Nat.le_succ _
  have dk:∀m,bU s.al L (⟨s.al,I,μ,m⟩::L):=λm l bs=>by
   simp only[kQ];rw[if_neg (by omega)]
  refine A D B yh ro q x _ _ _ _ _ a1 W1 _ w (F.go br (dk _)) af a7 ag df RH (G.ext br.ext) (λch a' W' pd y hd hR=>HP ch a' W' pd y hd hR) ?_;intro e s2 a0 a3 a2 W2 d u a4 R2 E;have a9:=br.trans u;rw[bd] at a4;have bt:bU s.al L d:=λl bs=>by
   rw[a4 l (by omega)];simp only[kQ];rw[if_neg (by omega)]
  cases e with
  |normal=>
   simp only[MD] at E;split at E;rename_i b4;simp only[awF,decide_eq_true_eq] at b4;obtain⟨⟨⟨⟨⟨c1,c2⟩,c3⟩,c4⟩,c5⟩,c6⟩:=b4;have dn:kQ s.al d=some ⟨s.al,I,μ,μ ((gM H r).map (SV.xv ρ1))⟩:=by
    rw[a4 s.al (by omega)];simp[kQ]
   simp only[T.aD,dn] at E;exact⟨_,E.2,s2,a0,a3,a9,R2,c1,c2,c3,c4,c5,c6,E.1,rfl⟩;exact E.elim
  |ret=>exact M .ret s2 a0 a3 a2 W2 d a9 bt R2 E
  |exit id=>exact M (.exit id) s2 a0 a3 a2 W2 d a9 bt R2 E
  |aS v=>exact M (.aS v) s2 a0 a3 a2 W2 d a9 bt R2 E
  rename_i dr;exact adA (n+1) (bx D B yh ro q x s k L ρ β a W Q w F af a7 ag (λH=>dr H) h0 R G HP M)
  
  rename_i f ps assign body;have ds:ro=none:=by
   cases ro with
   |none=>rfl
   |some l=>have:=a5 rfl;simp[gv] at this
  subst ds;split at h;rename_i g d7 dx;split at h;rename_i c nt dy;split at h;exact h.elim;rename_i C;simp only[aw9,awY,not_or,ax8,azJ] at C;obtain⟨⟨⟨⟨dz,dT⟩,d0⟩,d1⟩,d2⟩:=C;obtain⟨d8,d3⟩:=ag;exact aoz ok A d3 af dx dy dz dT d0 d1 d2 h R G HP M;exact h.elim;exact h.elim;exact h.elim
variable{p:Sp}
def aoE{ρ ρ':aa}{β Z:List Nat}:∀{l X:List SV},SV.ap ρ β l=SV.ap ρ' Z X->(one l).den ρ β=(one X).den ρ' Z
 |[],[],_=>rfl
 |[x],[y],h=>by
  have h:SV.den ρ β x=SV.den ρ' Z y:=by simpa[SV.ap] using h
  exact h
 |[],_::_,h=>by simp[SV.ap] at h
 |_::_,[],h=>by simp[SV.ap] at h
 |[_],_::_::_,h=>by simp[SV.ap] at h
 |_::_::_,[_],h=>by simp[SV.ap] at h
 |a::b::c,a'::V::U,h=>by
  show Value.tuple (SV.ap ρ β (a::b::c)).toArray=Value.tuple (SV.ap ρ' Z (a'::V::U)).toArray;rw[h]
def ad5(rs:List RK):JN (rs.map RK.rd):=by
 intro k e h;rw[awL] at h;cases Z:rs[k]? with
 |none=>rw[Z] at h;cases h
 |some x=>rw[Z] at h;cases x<;>simp[RK.rd] at h
def aoF{D:bw}{nb:Nat}{l:List SV}{s':S}{ρ':aa}{Z:List Nat}{a:Act}{W:World}{L:List LC}(V:p.ty=cf.ty)(R:ao p.S0 p.w0 D cf.ty Z ρ' s' a W)(X:(I0 cf nb l s').aD p ρ' L):p.R (.returned ((one l).den ρ' Z)) W:=by
 unfold I0 at X;split at X;rename_i N;simp only[awF] at N;obtain⟨⟨⟨v,r⟩,M⟩,J⟩:=N;have U:∀i,aA ([]:aX) i=true->False:=λi hi=>by simp[aA,bP] at hi
 have I:=R.mem.j9 (NM s'.rs);have H:ao p.S0 p.w0 D cf.ty [] ρ' (sR ρ' (s'.rs.map RK.rd) s'.pd) ⟨#[],a.defers⟩ W:=
  ⟨⟨R.mem.base,λi hi=>(U i hi).elim,λi j hi=>(U i hi).elim,λi t cs hi=>by simp[sR,bP] at hi,λk e rv Q G=>⟨(I.ref k e rv Q G).1,λb _ i hi=>(U i hi).elim⟩⟩,rfl,rfl,rfl,by simp[sR,R.er],R.bT,rfl,λt q F=>by simp[sR] at F,λk e rv b Q=>absurd Q (ad5 _ k e)⟩
 have aO:=R.tY M;obtain⟨E,o,P,C,u,_,d,B⟩:=NP (a:=⟨#[],a.defers⟩) (UY (bx:=s'.boxes) (ρ0:=ρ') (β:=Z) V rfl (λi e cs A=>by
  obtain⟨O,z⟩:=tX A;have:=R.mem.box i e cs O;rw[qo z] at this;exact⟨this,R.mem.own i (by simp[aA,O]),oz aO.2 O⟩) 9) l (s'.rs.map RK.rd) ρ' _ H (Up.refl _) (ad5 _) (by rw[R.ei,R.eb,R.er];exact J) X
 have x:=B P.y [] W (by rw[V];exact C.mem);have w:(one E).den P []=(one l).den ρ' Z:=aoE (d P (Up.refl _));rw[<-w];exact x;exact X ρ'.y Z _ (by rw[V];exact(R.mem.take _).j9 (NM _))
def NR(Z:jr p cf)(n:Nat):uh p cf n/\NG p cf n:=NQ n p Z
def ad6(O:jr p cf){f:FuncId}{fn:Func}{c:Code}(L:p.P.funcs[f]?=some fn)(G:fn.body=some c){n:Nat}{args:List SV}{s:S}{ρ:aa}{β:List Nat}{t:T}
  (F:I1 cf n f c fn.ntmps fn.results.toList args s=t)(Z:t.aD p ρ [])(E:dA cf.gl ρ)(R:ao p.S0 p.w0 bw.none cf.ty β ρ {s with tmps:=[]} ⟨#[],[]⟩ p.w0):
  Calls p.P f (SV.ap ρ β args).toArray p.w0 p.R:=by
 subst F;refine JE L G ?_;have RE:=R.enter args fn.ntmps R.bT;refine(NR O n).1 bw.none ⟨{s with tmps:=args++awS (fn.ntmps-args.length) (.bj [])},ρ,β,[]⟩ fK none f c _ _ [] ρ β _ p.w0 _ (CJ _ _) (jq.here _ _ _ _) rfl (λC=>by cases C) ⟨fn,L⟩ Z RE E ?_ ?_;intro J a' W' pd y B A;obtain⟨z,V,x,N,U⟩:=B.j6;show LeavesInM Fence.wide 0 p.P fn a'.tmps p.R a'.defers (.panicking J) W';rw[V];exact po (by simp) (axF.1 N).1 (λd X=>(U d (by simp[X])).1) (JH (O.Nu J) (λd X=>(U d (by simp[X])).2) A);intro e s' ρ' w a' W' u r q I Z;obtain⟨z,V,x,N,U⟩:=I.bT.j6;have M:=I.nC V;have H:∀l,o7 cf s' fn.results.toList=some l->(I0 cf s.boxes.length l s').aD p ρ' u->LeavesInM Fence.wide 0 p.P fn a'.tmps p.R a'.defers .returning W':=by
  intro l Q Z;rw[V];exact po (by simp) (axF.1 N).1 (λd X=>(U d (by simp[X])).1) ⟨_,Js M O.jt Q,aoF O.pt M Z⟩
 cases e with
 |normal=>
  simp only[MI] at Z;split at Z;rename_i l Q;exact H l Q Z;exact Z.elim
 |ret=>
  simp only[MI] at Z;split at Z;rename_i l Q;exact H l Q Z;exact Z.elim
 |aS v=>
  show LeavesInM Fence.wide 0 p.P fn a'.tmps p.R a'.defers (.panicking _) W';rw[V];exact po (by simp) (axF.1 N).1 (λd X=>(U d (by simp[X])).1) (Z ρ'.y w _ M.mem.base)
 |exit id=>exact Z.elim
end
end
def zEq:Value->CT->Bool
 |.int k n,.int Z=>decide (k=Z)&&n==0
 |.bool b,.bool=> !b
 |v,.ar z _=>B5 v z
 |_,_=>false
def FJ:List Value->List CT->Bool
 |[],[]=>true
 |v::vs,c::cs=>zEq v c&&FJ vs cs
 |_,_=>false
def ad8:∀(vs:List Value)(cs:List CT),FJ vs cs=true->vs=cs.map mQ
 |[],[],_=>rfl
 |[],_::_,h=>by simp[FJ] at h
 |_::_,[],h=>by simp[FJ] at h
 |v::vs,c::cs,h=>by
  simp only[FJ,awF] at h;rw[awT,<-ad8 vs cs h.2];congr 1;have Z:=h.1;unfold zEq at Z;split at Z;simp only[awF,decide_eq_true_eq,beq_iff_eq] at Z;obtain⟨rfl,rfl⟩:=Z;rfl;rename_i b;cases b;rfl;cases Z;exact abg _ _ Z;cases Z
def FL:List Field->List (Nat×TypeId)->Bool
 |[],[]=>true
 |f::Z,x::xs=>f.offset==x.1&&f.type==x.2&&FL Z xs
 |_,_=>false
def ad9:∀(Z:List Field)(xs:List (Nat×TypeId)),FL Z xs=true->Z.map (λf=>(f.offset,f.type))=xs
 |[],[],_=>rfl
 |[],_::_,h=>by simp[FL] at h
 |_::_,[],h=>by simp[FL] at h
 |f::Z,x::xs,h=>by
  simp only[FL,awF,beq_iff_eq] at h;rw[awT,ad9 Z xs h.2,h.1.1,h.1.2]
def U7(ab:List CT):TD->Option TypeDesc->Bool
 |.struct W,some (.struct F)=>FL F.toList W
 |.arr n e,some (.array n' Z)=>n==n'&&e==Z
 |.slice e,some (.slice Z)=>e==Z
 |.str,some .string=>true
 |.dH,some (.interface _)=>true
 |.map k e _ _,some (.map X Z)=>k==X&&e==Z
 |.one,some (.int k)=>match ab with
  |[.int X]=>decide (k=X)
  |_=>false
 |.one,some .bool=>match ab with
  |[.bool]=>true
  |_=>false
 |.one,some (.pointer _)|.one,some (.map _ _)|.one,some (.chan _ _)=>match ab with
  |[.ar .nilFunc _]=>false
  |[.ar _ _]=>true
  |_=>false
 |.one,some (.func _ _ _)=>match ab with
  |[.ar _ _]=>true
  |_=>false
 |_,_=>false
def aoG{P:Program}{t:TypeId}{ab:List CT}{d:TD}(h:U7 ab d (P.underlying t)=true):d.Ok P t ab:=by
 unfold U7 at h;split at h;rename_i Q F X;exact⟨F,X,ad9 _ _ h⟩;rename_i n e n' V X;simp only[awF,beq_iff_eq] at h;obtain⟨rfl,rfl⟩:=h;exact X;rename_i e V X;simp at h;subst h;exact X;rename_i X;exact X;rename_i m X;exact⟨m,X⟩;rename_i k e n ag R V X;simp only[awF,beq_iff_eq] at h;obtain⟨rfl,rfl⟩:=h;exact X;rename_i k X;split at h;rename_i R;simp at h;subst h;exact⟨_,X,⟨trivial,λk Z=>(by cases Z)⟩,λk Z=>(by cases Z;rfl),λZ=>(by cases Z)⟩;cases h;rename_i X;split at h;exact⟨_,X,⟨trivial,λk Z=>(by cases Z)⟩,λk Z=>(by cases Z),λZ=>rfl⟩;cases h;rename_i x X;split at h;cases h;rename_i z U W;exact⟨_,X,⟨trivial,λk Z=>(W (by cases Z;rfl)).elim⟩,λk Z=>(by cases Z),λZ=>(by cases Z)⟩;cases h;rename_i x y X;split at h;cases h;rename_i z U W;exact⟨_,X,⟨trivial,λk Z=>(W (by cases Z;rfl)).elim⟩,λk Z=>(by cases Z),λZ=>(by cases Z)⟩;cases h;rename_i x y X;split at h;cases h;rename_i z U W;exact⟨_,X,⟨trivial,λk Z=>(W (by cases Z;rfl)).elim⟩,λk Z=>(by cases Z),λZ=>(by cases Z)⟩;cases h;rename_i x y z X;split at h;exact⟨_,X,⟨trivial,λk Z=>⟨_,_,_,rfl⟩⟩,λk Z=>(by cases Z),λZ=>(by cases Z)⟩;cases h;cases h
def U8(P:Program)(t:TypeId)(Z:TI):Bool:=
 match P.info? t with
 |some i=>match i.zero with
  |some z=>decide (i.bytes<=131072)&&i.size==Z.ab.length&&FJ z.cells.toList Z.ab&&U7 Z.ab Z.d (P.underlying t)&&(MM z==Z.d.isAgg)
  |none=>false
 |none=>false
def aoH{P:Program}{t:TypeId}{Z:TI}(h:U8 P t Z=true)(U:Z.eq=true->∀(xs ys:List Value)(r:Bool)(x y:Operand)(w:World),gW Z.ab xs->gW Z.ab ys->gz xs ys=some r->
  (do eqGuard .eql t x y (.agg xs.toArray) (.agg ys.toArray);binOp .eql t (.agg xs.toArray) (.agg ys.toArray)).run P w=.ok (.bool r) w/\
  (do eqGuard .neq t x y (.agg xs.toArray) (.agg ys.toArray);binOp .neq t (.agg xs.toArray) (.agg ys.toArray)).run P w=.ok (.bool !r) w)(R:∀k e n ag,Z.d=.map k e n ag->pj P k n ag):cS P t Z:=by
 unfold U8 at h;split at h;rename_i i hi;split at h;rename_i z W;simp only[awF,beq_iff_eq,decide_eq_true_eq] at h;obtain⟨h,Q⟩:=h;exact⟨⟨i,hi,h.1.1.2,z,W,ad8 _ _ h.1.2⟩,aoG h.2,λj X=>(by rw[hi] at X;cases X;exact h.1.1.1),U,R,λj O X V=>(by rw[hi] at X;cases X;rw[W] at V;cases V;exact Q)⟩;cases h;cases h
def aea{α:Type}(l:List (Option α))(i:Nat):Option α:=ayt (motive:=λ_=>Nat->Option α) (λ_=>none) (λx _ Z t=>azd (motive:=λ_=>Option α) x (λm _=>Z m) t) l i
def U9{α:Type}(l:List (List α))(i:Nat):List α:=ayt (motive:=λ_=>Nat->List α) (λ_=>[]) (λx _ Z t=>azd (motive:=λ_=>List α) x (λm _=>Z m) t) l i
def look{α:Type}(l:List (List (Option α)))(t:Nat):Option α:=aea (U9 l (t/16)) (t%16)
def aeb{α:Type}{x:α}:∀{l:List (Option α)}{i:Nat},aea l i=some x->l[i]?=some (some x)
 |[],_,h=>by cases h
 |y::_,0,h=>by simp only[axz];exact congrArg some h
 |_::l,i+1,h=>by rw[axh];exact aeb (l:=l) h
def aec{α:Type}:∀(l:List (List α))(i:Nat),l[i]?=some (U9 l i)\/U9 l i=[]
 |[],_=>.inr rfl
 |_::_,0=>.inl rfl
 |_::l,i+1=>by rw[axh];exact aec l i
def CL{α:Type}(Z:Nat->α->Bool):Nat->List (Option α)->Bool
 |_,[]=>true
 |n,none::r=>CL Z (n+1) r
 |n,some x::r=>Z n x&&CL Z (n+1) r
def Ai{α:Type}(Z:Nat->α->Bool):Nat->List (List (Option α))->Bool
 |_,[]=>true
 |n,r::rs=>CL Z n r&&Ai Z (n+16) rs
def Va{α:Type}{X:Nat->α->Bool}:∀{r:List (Option α)}{n i:Nat}{x:α},CL X n r=true->r[i]?=some (some x)->X (n+i) x=true
 |[],n,i,x,_,h=>by simp at h
 |none::r,n,0,x,_,h=>by simp at h
 |none::r,n,i+1,x,Z,h=>by
  simp only[CL] at Z;have:=Va Z (by simpa using h)
  rwa [show n+1+i=n+(i+1) by omega] at this
 |some y::r,n,0,x,Z,h=>by simp[CL] at Z;simp at h;subst h;exact Z.1
 |some y::r,n,i+1,x,Z,h=>by
  simp only[CL,awF] at Z;have:=Va Z.2 (by simpa using h)
  rwa [show n+1+i=n+(i+1) by omega] at this
def aed{α:Type}{W:Nat->α->Bool}:∀{l:List (List (Option α))}{n q i:Nat}{r:List (Option α)}{x:α},Ai W n l=true->l[q]?=some r->r[i]?=some (some x)->W (n+16*q+i) x=true
 |[],n,q,i,r,x,_,h,_=>by simp at h
 |y::l,n,0,i,r,x,Z,h,X=>by simp only[Ai,awF] at Z;simp at h;subst h;simpa using Va Z.1 X
 |y::l,n,q+1,i,r,x,Z,h,X=>by
  simp only[Ai,awF] at Z;have:=aed Z.2 (by simpa using h) X
  rwa [show n+16+16*q+i=n+16*(q+1)+i by omega] at this
def aee{α:Type}{W:Nat->α->Bool}{l:List (List (Option α))}(h:Ai W 0 l=true){t:Nat}{x:α}(V:look l t=some x):W t x=true:=by
 have Z:=aeb V;rcases aec l (t/16) with X|X;have:=aed h X Z
 rwa [axf,azk] at this
 rw[X] at Z;simp at Z
def Vb(P:Program)(l:List Nat)(g:FuncId):Option (Code×Nat×List ResultVar):=if l.contains g then(match P.funcs[g]? with
 |some fn=>match fn.body with
  |some c=>some (c,fn.ntmps,fn.results.toList)
  |none=>none
 |none=>none) else none
def qz(P:Program)(g:Nat):Bool:=match P.funcs[g]? with
 |some fn=>fn.body.isSome&& !(fn.name== "runtime.NumGoroutine")
 |none=>false
def ui{P:Program}{g:Nat}(h:qz P g=true):∀args W,(callFunc g args).run P W=.ok (.enter g args) W:=by
 unfold qz at h;split at h;rename_i fn Z;simp only[awF,awY] at h;intro args W;have X:fn.name≠ "runtime.NumGoroutine":=by simpa using h.2
 obtain⟨c,V⟩:=awZ.1 h.1;simp[callFunc,Z,X,V];cases h
def aoI(chs:List (Nat×Nat))(f i:Nat):Option FK:=match chs.find? (λx=>x.1==f&&(x.2%1000==i&&decide (1000<=x.2))) with
 |some x=>if x.2/1000==1 then some .box else some (.slot (x.2/1000-2) [0,1,2,3])
 |none=>none
def mj(P:Program)(jt:List (List (Option TI)))(Z:List (List (Option (List TypeId))))(gl:List (Nat×Nat×Nat))(inl:List Nat)(loops:List (Nat×Nat×du))(srts:List (FuncId×FuncId×TypeId×aJ×Bool))(mc:Bool:=false)(chs:List (Nat×Nat):=[]):bc:=
 {ty:=look jt,gl,inl:=Vb P inl,sig:=look Z,loop:=λf i=>match loops.find? (λx=>x.1==f&&x.2.1==i) with
  |some x=>.inv x.2.2
  |none=>.alF,B8:=λf g=>(srts.find? λx=>x.1==f&&x.2.1==g).map (·.2.2),mc,SQ:=λf i=>chs.contains (f,i),frk:=λf i=>aoI chs f i}
def NS{P:Program}{jt:List (List (Option TI))}{O:List (List (Option (List TypeId)))}{gl:List (Nat×Nat×Nat)}{inl:List Nat}{loops:List (Nat×Nat×du)}{srts:List (FuncId×FuncId×TypeId×aJ×Bool)}{mc:Bool}{chs:List (Nat×Nat)}{S0:List Nat}{w0:World}{D:bw}{R:Ending->World->Prop}{Q:Exit->Act->World->Prop}
  (M:fA P (look jt))(L:Ai (λg _=>qz P g) 0 O=true)(hi:inl.all (qz P)=true)(J:P.follows .mixedOrders=true)(I:∀N W b o,w0.heap.size<=b->R (.panicked N) W->R (.panicked N) (W.putObj b o))(hsr:∀x∈srts,lJ P (look jt) x.1 x.2.1 x.2.2.1 x.2.2.2.1 x.2.2.2.2):jr ⟨P,look jt,S0,w0,D,R,Q⟩ (mj P jt O gl inl loops srts mc chs):=by
 refine⟨rfl,J,M,λf g e sp E h=> ?_,λg X=> ?_,I,λg c C rs h=> ?_⟩;simp only[mj] at h;cases Z:srts.find? (λx=>x.1==f&&x.2.1==g) with
 |none=>rw[Z] at h;cases h
 |some x=>
  rw[Z] at h;simp only[awO,awJ] at h;have V:=ayY Z;simp only[awF,beq_iff_eq] at V;have:=hsr x (ayg Z);rw[V.1,V.2,h] at this;exact this
 rcases X with X|X;obtain⟨B,H⟩:=awZ.1 X;exact ui (aee L H);obtain⟨x,U⟩:=awZ.1 X;simp only[mj,Vb] at U;split at U;rename_i G;exact ui (awU.1 hi g (axg.1 G));cases U;simp only[mj,Vb] at h;split at h;split at h;rename_i fn Z;split at h;rename_i A F;cases h;exact⟨fn,Z,F,rfl,rfl⟩;cases h;cases h;cases h
inductive bQ:RV->RV->Prop where
 |sl (A A':Option Addr) (len cap cap':Nat) (rows ay:List (List RV)) (h1:rows.length=ay.length) (h2:∀(i:Nat)(row row':List RV),rows[i]?=some row->ay[i]?=some row'->row.length=row'.length)
   (h3:∀(i j:Nat)(row row':List RV)(c c':RV),rows[i]?=some row->ay[i]?=some row'->row[j]?=some c->row'[j]?=some c'->bQ c c'):bQ (.mk (.slice A len cap) rows) (.mk (.slice A' len cap') ay)
 |val (v:Value) (rows:List (List RV)) (h:∀a l c,v≠ .slice a l c):bQ (.mk v rows) (.mk v rows)
def FM:XV->XV->Prop
 |.i n,.i m=>n=m
 |.b x,.b y=>x=y
 |.r v,.r w=>bQ v w
 |_,_=>False
def wa:List XV->List XV->Prop
 |[],[]=>True
 |x::xs,y::ys=>FM x y/\wa xs ys
 |_,_=>False
structure jw(ρ ρ':aa):Prop where
 i:ρ.i=ρ'.i
 b:ρ.b=ρ'.b
 len:ρ.r.length=ρ'.r.length
 r:∀(k:Nat)(v v':RV),ρ.r[k]?=some v->ρ'.r[k]?=some v'->bQ v v'
def bQ.refl:∀(v:RV),bQ v v
 |.mk v rows=>by
  by_cases h:∃a l c,v=.slice a l c;obtain⟨a,l,c,rfl⟩:=h;refine bQ.sl a a l c c rows rows rfl (λi row U X Z=>by rw[X] at Z;cases Z;rfl) (λi j row U x Q X Z W V=> ?_);rw[X] at Z;cases Z;rw[W] at V;cases V;exact bQ.refl x;exact bQ.val v rows (λa l c R=>h ⟨a,l,c,R⟩)
termination_by v=>SizeOf.sizeOf v
decreasing_by
 have e1:=azY (aw1 X);have P:=azY (aw1 W);simp only[RV.mk.sizeOf_spec];omega
def bQ.default:bQ default default:=bQ.refl _
def jw.rv{ρ ρ':aa}(h:jw ρ ρ')(k:Nat):bQ (ρ.rv k) (ρ'.rv k):=by
 unfold aa.rv;simp only[awK];cases Z:ρ.r[k]? with
 |none=>
  have:ρ'.r[k]?=none:=by rw[axA] at Z⊢;have:=h.len;omega
  rw[this];exact bQ.default
 |some v=>
  cases X:ρ'.r[k]? with
  |none=>rw[axA] at X;have:=(awG.1 Z).1;have:=h.len;omega
  |some W=>exact h.r k v W Z X
def bQ.cellAt{v R:RV}(h:bQ v R)(i:Int)(j:Nat):bQ (Y.cellAt v.rows i j) (Y.cellAt R.rows i j):=by
 cases h with
 |sl A N M cap L rows ay J P O=>
  simp only[Y.cellAt,RV.jl,awK];cases X:rows[i.toNat]? with
  |none=>
   have:ay[i.toNat]?=none:=by rw[axA] at X⊢;omega
   rw[this];exact bQ.default
  |some row=>
   obtain⟨Z,W⟩:∃Z,ay[i.toNat]?=some Z:=by
    have:i.toNat<rows.length:=(awG.1 X).1;exact⟨ay[i.toNat],awH (by omega)⟩
   rw[W];simp only[axi];have I:=P _ row Z X W;cases V:row[j]? with
   |none=>
    have:Z[j]?=none:=by rw[axA] at V⊢;omega
    rw[this];exact bQ.default
   |some c=>
    obtain⟨U,Q⟩:∃U,Z[j]?=some U:=by
     have:j<row.length:=(awG.1 V).1;exact⟨Z[j],awH (by omega)⟩
    rw[Q];exact O _ j row Z c U X W V Q
 |val v rows H=>exact bQ.refl _
def bQ.ba{v Z:RV}(h:bQ v Z):Y.ba v.val=Y.ba Z.val/\Y.jm v.val=Y.jm Z.val/\lenOf v.val=lenOf Z.val/\(∀i,zU v.val i=zU Z.val i)/\(∀w,ql v.val w=ql Z.val w)/\∀w,ql w v.val=ql w Z.val:=by
 cases h with
 |sl A X W cap V rows ay=>exact⟨rfl,rfl,rfl,λ_=>rfl,λ_=>rfl,λw=>by cases w<;>rfl⟩
 |val v rows U=>exact⟨rfl,rfl,rfl,λ_=>rfl,λ_=>rfl,λ_=>rfl⟩
def bQ.dv{v Q:RV}(h:bQ v Q)(k:RK):bQ (Y.dv k v) (Y.dv k Q):=by
 cases h with
 |sl A Z X cap W rows ay V U R=>
  cases k with
  |sl e=>exact bQ.sl A Z X cap W rows ay V U R
  |str=>exact bQ.refl _
  |ar=>exact bQ.sl A Z X cap W [] [] rfl (λi row P q=>by simp at q) (λi j row P c O q=>by simp at q)
  |own e=>exact bQ.sl A Z X cap W rows ay V U R
  |dead=>exact bQ.sl A Z X cap W rows ay V U R
  |mr N=>exact bQ.sl A Z X cap W rows ay V U R
 |val v rows M=>exact bQ.refl _
structure fq(rows ay:List (List RV)):Prop where
 len:rows.length=ay.length
 row:∀(i:Nat)(row row':List RV),rows[i]?=some row->ay[i]?=some row'->row.length=row'.length
 cell:∀(i j:Nat)(row row':List RV)(c c':RV),rows[i]?=some row->ay[i]?=some row'->row[j]?=some c->row'[j]?=some c'->bQ c c'
def bQ.FN{v V:RV}(h:bQ v V):fq v.rows V.rows:=by
 cases h with
 |sl A Q P cap O rows ay X Z W=>exact⟨X,Z,W⟩
 |val v rows N=>exact⟨rfl,λi row R X Z=>by rw[X] at Z;cases Z;rfl,λi j row R c M X Z W U=>by rw[X] at Z;cases Z;rw[W] at U;cases U;exact bQ.refl _⟩
def lK(row Z:List RV):Prop:=row.length=Z.length/\∀(j:Nat)(c X:RV),row[j]?=some c->Z[j]?=some X->bQ c X
def fq.cons{r Z:List RV}{rs R:List (List RV)}(h:fq (r::rs) (Z::R)):lK r Z/\fq rs R:=
 ⟨⟨h.row 0 r Z rfl rfl,λj c X=>h.cell 0 j r Z c X rfl rfl⟩,by simpa using h.len,λi row W V U=>h.row (i+1) row W (by simpa using V) (by simpa using U),λi j row W c X V U=>h.cell (i+1) j row W c X (by simpa using V) (by simpa using U)⟩
def fq.FO{r V:List RV}{rs U:List (List RV)}(h:lK r V)(k:fq rs U):fq (r::rs) (V::U):=by
 refine⟨by simp[k.len],λi row W Z X=> ?_,λi j row W c R Z X=> ?_⟩;cases i with
 |zero=>simp at Z X;subst Z X;exact h.1
 |succ i=>exact k.row i row W (by simpa using Z) (by simpa using X)
 cases i with
 |zero=>simp at Z X;subst Z X;exact h.2 j c R
 |succ i=>exact k.cell i j row W c R (by simpa using Z) (by simpa using X)
def lK.getD{row Z:List RV}(h:lK row Z)(j:Nat):bQ (row.getD j Inhabited.default) (Z.getD j Inhabited.default):=by
 simp only[awK];cases X:row[j]? with
 |none=>
  have:Z[j]?=none:=by rw[axA] at X⊢;have:=h.1;omega
  rw[this];exact bQ.refl _
 |some c=>
  obtain⟨W,V⟩:∃W,Z[j]?=some W:=by
   have:j<row.length:=(awG.1 X).1;exact⟨Z[j]'(by have:=h.1;omega),awH _⟩
  rw[V];exact h.2 j c W X V
def lK.ints{row Z:List RV}(h:lK row Z)(n:Nat):(row.take n).map (λc=>Y.ba c.val)=(Z.take n).map λc=>Y.ba c.val:=by
 apply axd;intro j;simp only[awL,axc];split;cases X:row[j]? with
 |none=>
  have:Z[j]?=none:=by rw[axA] at X⊢;have:=h.1;omega
  rw[this]
 |some c=>
  obtain⟨W,V⟩:∃W,Z[j]?=some W:=by
   have:j<row.length:=(awG.1 X).1;exact⟨Z[j]'(by have:=h.1;omega),awH _⟩
  rw[V];simp only[awO,(h.2 j c W X V).ba.1]
 rfl
def lK.iR{row Z:List RV}(h:lK row Z)(n:Nat)(ks:List Int):Y.iR n ks row=Y.iR n ks Z:=by
 simp only[Y.iR,h.ints n]
def NT{n:Nat}{ks:List Int}:∀{rows ay:List (List RV)},fq rows ay->(jo n ks rows=none/\jo n ks ay=none)\/∃row Z,jo n ks rows=some row/\jo n ks ay=some Z/\lK row Z
 |[],[],_=>.inl ⟨rfl,rfl⟩
 |[],_::_,h=>by have:=h.len;simp at this
 |_::_,[],h=>by have:=h.len;simp at this
 |r::rs,W::U,h=>by
  obtain⟨X,V⟩:=h.cons;simp only[jo,azN,<-X.iR n ks];cases Y.iR n ks r with
  |true=>exact .inr ⟨r,W,rfl,rfl,X⟩
  |false=>exact NT V
def aef{n:Nat}{row Z:List RV}(h:lK row Z):∀{rows ay:List (List RV)},fq rows ay->fq (eD n row rows) (eD n Z ay)
 |[],[],k=>fq.FO h k
 |[],_::_,k=>by have:=k.len;simp at this
 |_::_,[],k=>by have:=k.len;simp at this
 |r::rs,V::U,k=>by
  obtain⟨X,W⟩:=k.cons;simp only[eD,h.ints n,<-X.iR n];split;exact fq.FO h W;exact fq.FO X (aef h W)
mutual
def IE.bW{ρ ρ':aa}(h:jw ρ ρ'):∀e:IE,e.den ρ=e.den ρ'
 |.c n=>rfl
 |.v k=>by simp only[IE.den,h.i]
 |.bin o k a b=>by simp only[IE.den,IE.bW h a,IE.bW h b]
 |.conv k a=>by simp only[IE.den,IE.bW h a]
 |.len r=>by simp only[IE.den];exact(RE.bW h r).ba.2.2.1
 |.mm m a b=>by simp only[IE.den,IE.bW h a,IE.bW h b]
 |.bY b x y=>by simp only[IE.den,BE.bW h b,IE.bW h x,IE.bW h y]
 |.cell r i j=>by simp only[IE.den,IE.bW h i];exact((RE.bW h r).cellAt _ j).ba.1
 |.ku r i=>by simp only[IE.den,IE.bW h i];exact(RE.bW h r).ba.2.2.2.1 _
 |.look r n a b c j=>by
  simp only[IE.den,IE.bW h a,IE.bW h b,IE.bW h c];rcases NT (n:=n) (ks:=[a.den ρ',b.den ρ',c.den ρ']) (RE.bW h r).FN with⟨Z,X⟩|⟨row,V,Z,X,W⟩;rw[Z,X];rw[Z,X];exact(W.getD j).ba.1
def BE.bW{ρ ρ':aa}(h:jw ρ ρ'):∀e:BE,e.den ρ=e.den ρ'
 |.c n=>rfl
 |.v k=>by simp only[BE.den,h.b]
 |.cmp o a b=>by simp only[BE.den,IE.bW h a,IE.bW h b]
 |.not a=>by simp only[BE.den,BE.bW h a]
 |.and a b=>by simp only[BE.den,BE.bW h a,BE.bW h b]
 |.beq a b=>by simp only[BE.den,BE.bW h a,BE.bW h b]
 |.bY b x y=>by simp only[BE.den,BE.bW h b,BE.bW h x,BE.bW h y]
 |.cell r i j=>by simp only[BE.den,IE.bW h i];exact((RE.bW h r).cellAt _ j).ba.2.1
 |.seq a b=>by simp only[BE.den];rw[(RE.bW h a).ba.2.2.2.2.1,(RE.bW h b).ba.2.2.2.2.2]
 |.look r n a b c j=>by
  simp only[BE.den,IE.bW h a,IE.bW h b,IE.bW h c];rcases NT (n:=n) (ks:=[a.den ρ',b.den ρ',c.den ρ']) (RE.bW h r).FN with⟨Z,X⟩|⟨row,V,Z,X,W⟩;rw[Z,X];rw[Z,X];exact(W.getD j).ba.2.1
 |.has r n a b c=>by
  simp only[BE.den,IE.bW h a,IE.bW h b,IE.bW h c];rcases NT (n:=n) (ks:=[a.den ρ',b.den ρ',c.den ρ']) (RE.bW h r).FN with⟨Z,X⟩|⟨row,V,Z,X,W⟩;rw[Z,X];rw[Z,X];rfl
def RE.bW{ρ ρ':aa}(h:jw ρ ρ'):∀r:RE,bQ (r.rv ρ) (r.rv ρ')
 |.v k=>by simp only[RE.rv];exact h.rv k
 |.cell r i j k=>by simp only[RE.rv,IE.bW h i];exact((RE.bW h r).cellAt _ j).dv k
 |.k v=>by simp only[RE.rv];exact bQ.refl _
end
def SV.aoJ{ρ ρ':aa}(h:jw ρ ρ')(v:SV):FM (v.xv ρ) (v.xv ρ'):=by
 cases v<;>simp only[SV.xv,FM];exact IE.bW h _;exact BE.bW h _;exact RE.bW h _
def SV.aoK{ρ ρ':aa}(h:jw ρ ρ')(v:SV):bQ (v.bp ρ) (v.bp ρ'):=by
 cases v<;>simp only[SV.bp];rw[IE.bW h];exact bQ.refl _;rw[BE.bW h];exact bQ.refl _;exact RE.bW h _
 all_goals exact bQ.refl _
def fq.of{rows ay:List (List RV)}(U:rows.length=ay.length)(h:∀(i:Nat)(row Z:List RV),rows[i]?=some row->ay[i]?=some Z->row.length=Z.length/\∀(j:Nat)(c X:RV),row[j]?=some c->Z[j]?=some X->bQ c X):fq rows ay:=
 ⟨U,λi row Z W V=>(h i row Z W V).1,λi j row Z c X W V=>(h i row Z W V).2 j c X⟩
def NU{ρ ρ':aa}(h:jw ρ ρ')(l:List SV):(l.map (SV.bp ρ)).length=(l.map (SV.bp ρ')).length/\∀(j:Nat)(c W:RV),(l.map (SV.bp ρ))[j]?=some c->(l.map (SV.bp ρ'))[j]?=some W->bQ c W:=by
 refine⟨by simp,λj c W Z X=> ?_⟩;rw[awL] at Z X;cases V:l[j]? with
 |none=>rw[V] at Z;cases Z
 |some v=>
  rw[V] at Z X;simp only[awO,awJ] at Z X;rw[<-Z,<-X];exact SV.aoK h v
def aeg:∀{vs U row V:List RV}{off:Nat},vs.length=U.length->(∀(j:Nat)(c Z:RV),vs[j]?=some c->U[j]?=some Z->bQ c Z)->row.length=V.length->(∀(j:Nat)(c Z:RV),row[j]?=some c->V[j]?=some Z->bQ c Z)->
  (eR row off vs).length=(eR V off U).length/\∀(j:Nat)(c Z:RV),(eR row off vs)[j]?=some c->(eR V off U)[j]?=some Z->bQ c Z
 |[],[],row,V,off,_,_,R,Q=>⟨R,Q⟩
 |[],_::_,_,_,_,h,_,_,_=>by simp at h
 |_::_,[],_,_,_,h,_,_,_=>by simp at h
 |v::vs,M::U,row,V,off,N,O,R,Q=>by
  simp only[eR];refine aeg (by simpa using N) (λj c Z W X=>O (j+1) c Z (by simpa using W) (by simpa using X)) (by simp[R]) (λj c Z W X=> ?_);rw[axC] at W X;split at W;rename_i P;rw[if_pos P] at X;split at W;split at X;cases W;cases X;exact O 0 _ _ rfl rfl;cases X;cases W;rename_i P;rw[if_neg P] at X;exact Q j c Z W X
def LE.bW{ρ ρ':aa}(h:jw ρ ρ'):∀x:LE,fq (x.rows ρ) (x.rows ρ')
 |.ref r=>(RE.bW h r).FN
 |.lit l=>by
  simp only[LE.rows];refine fq.of (by simp) (λi row V Z X=> ?_);rw[awL] at Z X;cases N:l[i]? with
  |none=>rw[N] at Z;cases Z
  |some v=>
   rw[N] at Z X;simp only[awO,awJ] at Z X;rw[<-Z,<-X];exact NU h v
 |.jG a b=>by
  simp only[LE.rows];have W:=LE.bW h a;have P:=LE.bW h b;refine fq.of (by simp[W.len,P.len]) (λi row V Z X=> ?_);by_cases hi:i<(a.rows ρ).length;rw[awI hi] at Z;rw[awI (by rw[<-W.len];exact hi)] at X;exact⟨W.row i row V Z X,λj c U=>W.cell i j row V c U Z X⟩;rw[awM (by omega)] at Z;rw[awM (by rw[<-W.len];omega),<-W.len] at X;exact⟨P.row _ row V Z X,λj c U=>P.cell _ j row V c U Z X⟩
 |.oc n row=>by
  simp only[LE.rows,IE.bW h n];refine fq.of (by simp) (λi r I Z X=> ?_);rw[axK] at Z X;split at Z;rename_i hi;rw[if_pos hi] at X;cases Z;cases X;exact NU h row;cases Z
 |.set a i off cs=>by
  simp only[LE.rows,IE.bW h i];have W:=LE.bW h a;have M:=NU h cs;refine fq.of (by simp[W.len]) (λH row V Z X=> ?_);rcases Fj Z with⟨rfl,L,R,rfl⟩|⟨O,R⟩;rcases Fj X with⟨_,J,Q,rfl⟩|⟨O,_⟩;exact aeg M.1 M.2 (W.row _ L J R Q) (λj c U=>W.cell _ j L J c U R Q);exact absurd rfl O;rcases Fj X with⟨rfl,_⟩|⟨_,Q⟩;exact absurd rfl O;exact⟨W.row _ row V R Q,λj c U=>W.cell _ j row V c U R Q⟩
 |.sub a lo hi=>by
  simp only[LE.rows,IE.bW h lo,IE.bW h hi];have W:=LE.bW h a;refine fq.of (by simp[W.len]) (λi row V Z X=> ?_);have R:=(Jk Z).1;have Q:=(Jk X).1;exact⟨W.row _ row V R Q,λj c U=>W.cell _ j row V c U R Q⟩
 |.ins a n cs=>by
  simp only[LE.rows];exact aef (NU h cs) (LE.bW h a)
def aeh{ρ ρ':aa}(h:jw ρ ρ')(x:LE){A:Option Addr}{c:Nat}:bQ (fb x ρ) (.mk (.slice A (x.rows ρ').length c) (x.rows ρ')):=by
 have Z:=LE.bW h x;unfold fb;rw[Z.len];exact bQ.sl _ _ _ _ _ _ _ Z.len Z.row Z.cell
def jw.add{ρ ρ':aa}(h:jw ρ ρ'){x y:XV}(W:FM x y):jw (ρ.add x) (ρ'.add y):=by
 cases x<;>cases y<;>simp only[FM] at W;subst W;exact⟨by simp[aa.add,h.i],h.b,h.len,h.r⟩;subst W;exact⟨h.i,by simp[aa.add,h.b],h.len,h.r⟩;refine⟨h.i,h.b,by simp[aa.add,h.len],λk v U Z X=> ?_⟩;simp only[aa.add] at Z X;by_cases V:k<ρ.r.length;rw[awI V] at Z;rw[awI (by rw[<-h.len];exact V)] at X;exact h.r k v U Z X;have R:k=ρ.r.length:=by
  have:=(awG.1 Z).1;simp at this;omega
 subst R;simp at Z;rw[h.len] at X;simp at X;subst Z X;exact W
def jw.ext:∀{xs ys:List XV}{ρ ρ':aa},jw ρ ρ'->wa xs ys->jw (ρ.ext xs) (ρ'.ext ys)
 |[],[],_,_,h,_=>h
 |[],_::_,_,_,_,Z=>Z.elim
 |_::_,[],_,_,_,Z=>Z.elim
 |x::xs,y::ys,_,_,h,Z=>(h.add Z.1).ext Z.2
inductive aV where
 |ret (xs:List XV)
 |aS (v:Value)
abbrev kD:=FuncId->List XV->Option aV
def FP:LK->XV->Bool
 |.int _,.i _=>true
 |.bool,.b _=>true
 |.ref _,.r _=>true
 |_,_=>false
def dg:List LK->List XV->Bool
 |[],[]=>true
 |k::ks,x::xs=>FP k x&&dg ks xs
 |_,_=>false
def Aj(ty:Ty)(rs:List RK):LK->SV->Bool
 |.int k,.int Z _=>decide (k=Z)
 |.bool,.bool _=>true
 |.ref e,.ref r=>match e with
  |.mr X=>r.mI ty ⟨[],[],0,0,rs,0,0,[]⟩ X
  |e=>r.fits ty ⟨[],[],0,0,rs,0,0,[]⟩ e.rd
 |_,_=>false
def gR(ty:Ty)(rs:List RK):List LK->List SV->Bool
 |[],[]=>true
 |k::ks,v::vs=>Aj ty rs k v&&gR ty rs ks vs
 |_,_=>false
def gG(ty:Ty):List TypeId->List SV->Option (List SV)
 |[],[]=>some []
 |t::X,v::vs=>match ty t,gG ty X vs with
  |some Z,some r=>if Z.d.isAgg then(match v with
    |.agg l=>if l.length==Z.ab.length then some (l++r) else none
    |_=>none) else(if Z.ab.length==1 then some (v::r) else none)
  |_,_=>none
 |_,_=>none
def uj(n:Nat):SV->List SV
 |.bj l=>if n==1 then[.bj l] else l
 |v=>[v]
def CM(ρ:aa):SV->Option Value
 |.dH t (.int k e)=>some (.iface t (.int k (e.den ρ)))
 |_=>none
structure Fr where
 al:Nat
 ks:List LK
 t:T
 ρ:aa
 rs:List RK
def CN(al:Nat):List Fr->Option (Fr×List Fr)
 |[]=>none
 |x::xs=>if x.al=al then some (x,xs) else CN al xs
def gk:List LK->List RK
 |[]=>[]
 |.ref e::ks=>e::gk ks
 |_::ks=>gk ks
def oF:Nat->Nat->Nat->List LK->List SV->Bool
 |_,_,_,[],[]=>true
 |a,b,c,.int k::ks,.int Z (.v n)::l=>decide (k=Z)&&n==a&&oF (a+1) b c ks l
 |a,b,c,.bool::ks,.bool (.v n)::l=>n==b&&oF a (b+1) c ks l
 |a,b,c,.ref _::ks,.ref (.v n)::l=>n==c&&oF a b (c+1) ks l
 |_,_,_,_,_=>false
def NV:RK->RK->Bool
 |_,.dead=>true
 |.own t,.sl Z=>decide (t=Z)
 |.sl t,.sl Z=>decide (t=Z)
 |.str,.str=>true
 |.ar,.ar=>true
 |.mr a,.mr b=>decide (a=b)
 |_,_=>false
def yp:List RK->List RK->Bool
 |[],[]=>true
 |x::xs,y::ys=>NV x y&&yp xs ys
 |_,_=>false
def aei:RK->RK->Bool
 |.own t,.own Z=>decide (t=Z)
 |x,y=>NV x y
def yq:List RK->List RK->Bool
 |[],[]=>true
 |x::xs,y::ys=>aei x y&&yq xs ys
 |_,_=>false
def Vc(ty:Ty)(Z:List TypeId)(v:SV)(rs:List RK)(ρ:aa):Option aV:=match gG ty Z (uj Z.length v),eZ ty Z with
 |some l,some ks=>if gR ty rs ks l&&me ks then some (.ret (l.map (SV.xv ρ))) else none
 |_,_=>none
def Vd(ty:Ty)(W V:FuncId->Option (List TypeId))(f:FuncId)(args:List SV)(rs:List RK)(ks:List LK)(fp:SV)(ρ:aa):Option (List XV):=match W f,V f with
 |some ps,some Z=>match gG ty ps args,eZ ty ps,eZ ty Z,gG ty Z (uj Z.length fp) with
  |some l,some X,some U,some r=>if gR ty rs X l&&me X&&decide (U=ks)&&oF ρ.i.length ρ.b.length ρ.r.length ks r then some (l.map (SV.xv ρ)) else none
  |_,_,_,_=>none
 |_,_=>none
def Ve(rs:List RK)(r:RE)(e:TypeId):Bool:=match r with
 |.v k=>decide (rs[k]?=some (.own e))
 |.k (.slice none 0 0)=>true
 |_=>false
def Vf:RK->Bool
 |.mr _=>true
 |_=>false
def lK.key{x y:List RV}(h:lK x y)(c:Nat):aK c x=aK c y:=(h.getD c).ba.1
def aej{d:Bool}{x Z y X:List RV}(W:lK x Z)(V:lK y X):∀cs:List Nat,fz d cs x y=fz d cs Z X
 |[]=>rfl
 |c::cs=>by simp only[fz,W.key,V.key,aej W V cs]
def Vg{sp:aJ}{x Z y X:List RV}(W:lK x Z)(V:lK y X):sp.lt x y=sp.lt Z X:=by
 cases sp with
 |lex cs d=>exact aej W V cs
 |ratio n d=>simp only[aJ.lt,W.key,V.key]
 |co k o as=>rfl
def aoL{sp:aJ}{x Z:List RV}(X:lK x Z):sp.ok x=sp.ok Z:=by
 cases sp with
 |lex cs d=>rfl
 |ratio n d=>simp only[aJ.ok,X.key]
 |co k o as=>rfl
def fq.NW{r:List (List RV)}(h:fq [] r):r=[]:=by cases r with
 |nil=>rfl
 |cons x xs=>have:=h.len;simp at this
def aek{sp:aJ}{x W:List RV}(Z:lK x W):∀{l X:List (List RV)},fq l X->fq (cQ sp.lt x l) (cQ sp.lt W X)
 |[],X,h=>by have U:=h.NW;subst U;exact fq.FO Z h
 |y::l,[],h=>by have:=h.len;simp at this
 |y::l,Q::X,h=>by
  obtain⟨V,R⟩:=h.cons;simp only[cQ,Vg Z V];split;exact fq.FO Z h;exact fq.FO V (aek Z R)
def ael{sp:aJ}:∀{l X:List (List RV)}{acc Z:List (List RV)},fq l X->fq acc Z->fq (l.foldl (λacc x=>cQ sp.lt x acc) acc) (X.foldl (λacc x=>cQ sp.lt x acc) Z)
 |[],X,acc,Z,h,W=>by rw[h.NW];exact W
 |y::l,[],acc,Z,h,W=>by have:=h.len;simp at this
 |y::l,R::X,acc,Z,h,W=>by
  obtain⟨V,U⟩:=h.cons;simp only[ax4];exact ael U (aek V W)
def Vh{f g:List RV->Bool}:∀{l Z:List (List RV)},(∀x X,lK x X->f x=g X)->fq l Z->l.all f=Z.all g
 |[],Z,_,h=>by rw[h.NW];rfl
 |y::l,[],_,h=>by have:=h.len;simp at this
 |y::l,R::Z,W,h=>by
  obtain⟨V,U⟩:=h.cons;simp only[ayF,W _ _ V,Vh W U]
def aem{sp:aJ}:∀{l Z:List (List RV)},fq l Z->pi sp.lt l=pi sp.lt Z
 |[],Z,h=>by rw[h.NW]
 |y::l,[],h=>by have:=h.len;simp at this
 |y::l,X::Z,h=>by
  obtain⟨W,V⟩:=h.cons;have R:(l.all λz=>sp.lt y z||sp.lt z y)=Z.all λz=>sp.lt X z||sp.lt z X:=Vh (λx Q U=>by rw[Vg W U,Vg U W]) V
  simp only[pi,aem V,R]
def aen{sp:aJ}{W:Bool}{l V r:List (List RV)}(h:fq l V)(Z:dw sp W l=some r):∃U,dw sp W V=some U/\fq r U:=by
 cases sp with
 |co k o as=>simp[dw] at Z
 |_=>
  simp only[dw] at Z⊢;rw[Vh (λx O R=>aoL R) h,aem h,h.len] at Z;split at Z;rename_i Q;cases Z;rw[if_pos Q];exact⟨_,rfl,ael h ⟨rfl,λi row P X=>by simp at X,λi j row P c N X=>by simp at X⟩⟩;cases Z
def bQ.dl{a b:RV}(h:bQ a b){sp:aJ}{R:Bool}{X W:List (List RV)}(V:dw sp R a.rows=some X)(Z:dw sp R b.rows=some W):bQ (.mk a.val X) (.mk b.val W):=by
 obtain⟨M,Q,U⟩:=aen h.FN V;rw[Z] at Q;cases Q;cases h with
 |sl A P O cap N rows ay L J I=>exact bQ.sl A P O cap N X W U.len U.row U.cell
 |val v rows H=>
  rw[RV.jl] at V Z;rw[V] at Z;cases Z;exact bQ.refl _
def aoM{ty:Ty}{e:TypeId}{rv:RV}{rows:List (List RV)}{b:Nat}(Z:cn ty (.own e) (.mk rv.val rows) b)(X:∀x∈rows,x∈rv.rows):cn ty (.own e) rv b:=by
 obtain⟨v,old⟩:=rv;simp only[RV.jZ,RV.jl] at Z X;cases Z with
 |own e rv b Z=>
  refine cn.own e _ b ?_;generalize W:RV.mk v rows=rv at Z;cases Z with
  |here e a V cap ay=>cases W;exact cn.here e a V cap old
  |deep e M ay i j row c z k b U R Q P=>
   cases W;obtain⟨O,N⟩:=axv (X _ (aw1 U));exact cn.deep e v old O j row c z k b N R Q P
mutual
def Ak:RV->RV->Bool
 |.mk v rows,.mk Z ay=>(match v,Z with
  |.int k a,.int X b=>decide (k=X)&&a==b
  |.bool a,.bool b=>a==b
  |.string a,.string b=>decide (a=b)
  |.slice none a b,.slice none c d=>a==c&&b==d
  |_,_=>false)&&uk rows ay
def uk:List (List RV)->List (List RV)->Bool
 |[],[]=>true
 |r::rs,Z::X=>wb r Z&&uk rs X
 |_,_=>false
def wb:List RV->List RV->Bool
 |[],[]=>true
 |c::cs,Z::cs'=>Ak c Z&&wb cs cs'
 |_,_=>false
end
def CO:XV->XV->Bool
 |.i a,.i b=>a==b
 |.b a,.b b=>a==b
 |.r a,.r b=>Ak a b
 |_,_=>false
def CP:List XV->List XV->Bool
 |[],[]=>true
 |x::xs,y::ys=>CO x y&&CP xs ys
 |_,_=>false
def aeo:Value->Value->Bool
 |.iface t (.int k a),.iface Z (.int X b)=>t==Z&&decide (k=X)&&a==b
 |_,_=>false
def se:aV->aV->Bool
 |.ret a,.ret b=>CP a b
 |.aS a,.aS b=>aeo a b
 |_,_=>false
def wc:Option aV->Option aV->Option aV
 |some a,some b=>if se a b then some a else none
 |_,_=>none
def pw:List (Option aV)->Option aV
 |[]=>none
 |[o]=>o
 |o::os=>wc o (pw os)
mutual
def aep:∀(a b:RV),Ak a b=true->a=b
 |.mk v rows,.mk W ay,h=>by
  simp only[Ak,awF] at h;have Z:=aeq rows ay h.2;subst Z;congr 1;have X:=h.1;split at X<;>simp_all
def aeq:∀(a b:List (List RV)),uk a b=true->a=b
 |[],[],_=>rfl
 |[],_::_,h=>by simp[uk] at h
 |_::_,[],h=>by simp[uk] at h
 |r::rs,Z::X,h=>by
  simp only[uk,awF] at h;rw[aer r Z h.1,aeq rs X h.2]
def aer:∀(a b:List RV),wb a b=true->a=b
 |[],[],_=>rfl
 |[],_::_,h=>by simp[wb] at h
 |_::_,[],h=>by simp[wb] at h
 |r::rs,Z::X,h=>by
  simp only[wb,awF] at h;rw[aep r Z h.1,aer rs X h.2]
end
def aoN:∀(a b:XV),CO a b=true->a=b
 |.i a,b,h=>by cases b<;>simp[CO] at h;rw[h]
 |.b a,b,h=>by cases b<;>simp[CO] at h;rw[h]
 |.r a,b,h=>by cases b<;>simp[CO] at h;rw[aep _ _ h]
def aes:∀(a b:List XV),CP a b=true->a=b
 |[],b,h=>by cases b<;>simp[CP] at h;rfl
 |x::xs,b,h=>by cases b<;>simp[CP] at h;rw[aoN _ _ h.1,aes _ _ h.2]
def aoO:∀(a b:aV),se a b=true->a=b
 |.ret a,b,h=>by cases b<;>simp[se] at h;rw[aes _ _ h]
 |.aS a,b,h=>by
  cases b<;>simp[se] at h;rename_i v;unfold aeo at h;split at h;simp only[awF,beq_iff_eq,decide_eq_true_eq] at h;obtain⟨⟨rfl,rfl⟩,rfl⟩:=h;rfl;cases h
def NX{a b:Option aV}{o:aV}(h:wc a b=some o):a=some o/\b=some o:=by
 unfold wc at h;split at h;split at h;rename_i x y Z;cases h;rw[aoO _ _ Z];exact⟨rfl,rfl⟩;cases h;cases h
def NY:∀{l:List (Option aV)}{o:aV},pw l=some o->∀x∈l,x=some o
 |[],o,h=>by simp[pw] at h
 |[x],o,h=>by simp only[pw] at h;intro y X;simp at X;rw[X];exact h
 |x::y::r,o,h=>by
  simp only[pw] at h;obtain⟨W,V⟩:=NX h;intro z Z;rcases awP.1 Z with rfl|Z;exact W;exact NY (l:=y::r) V z Z
def aet{a b a' Z:Option aV}{o:aV}(h:wc a b=some o)(V:a=some o->a'=some o)(U:b=some o->Z=some o):wc a' Z=some o:=by
 obtain⟨X,W⟩:=NX h;rw[X,W] at h;rw[V X,U W];exact h
def aeu{α:Type}{l:List α}{f g:α->Option aV}{o:aV}(h:pw (l.map f)=some o)(X:∀x∈l,f x=some o->g x=some o):pw (l.map g)=some o:=by
 rw[<-h];congr 1;refine aw5 λx Z=> ?_
 have:=NY h (f x) (aw7.2 ⟨x,Z,rfl⟩);rw[this,X x Z this]
def qA(m:IE)(g h:BE)(ρ:aa):List (Option Int):=(((aw3 (m.den ρ).toNat).map λ(j:Nat)=>(j:Int)).filter λj=>g.den (ρ.add (.i j))).map some++(if h.den ρ then[none] else[])
def Vi{m:IE}{g h:BE}{ρ:aa}{j:Int}(X:0<=j)(W:j<m.den ρ)(Z:g.den (ρ.add (.i j))=true):some j∈qA m g h ρ:=by
 simp only[qA,awR,aw7,axr,axR];exact .inl ⟨j,⟨⟨j.toNat,by omega,by omega⟩,Z⟩,rfl⟩
def Vj{m:IE}{g h:BE}{ρ:aa}(Z:h.den ρ=true):none∈qA m g h ρ:=by
 simp[qA,Z]
def run(ty:Ty)(X W:FuncId->Option (List TypeId))(aP:kD)(V:List TypeId):Nat->T->aa->List RK->List Fr->Option aV
 |0,_,_,_,_=>none
 |n+1,.ret v _ U,ρ,rs,_=>if yp rs U then Vc ty V v U ρ else none
 |n+1,.aS v,ρ,_,_=>(CM ρ v).map .aS
 |n+1,.node b t f,ρ,rs,Z=>if b.den ρ then run ty X W aP V n t ρ rs Z else run ty X W aP V n f ρ rs Z
 |n+1,.az b t,ρ,rs,Z=>if b.den ρ then run ty X W aP V n t ρ rs Z else none
 |n+1,.call f args _ U ks fp t,ρ,rs,Z=>if yp rs U then(match Vd ty X W f args U ks fp ρ with
   |some xs=>match aP f xs with
    |some (.ret ys)=>if dg ks ys then run ty X W aP V n t (ρ.ext ys) (rs++gk ks) Z else none
    |some (.aS v)=>some (.aS v)
    |none=>none
   |none=>none) else none
 |n+1,.loop al ks R t,ρ,rs,Z=>if gR ty rs ks R then run ty X W aP V n t (ρ.ext (R.map (SV.xv ρ))) (rs++gk ks) (⟨al,ks,t,ρ,rs++gk ks⟩::Z) else none
 |n+1,.back al x,ρ,rs,Z=>match CN al Z with
  |some (fr,Q)=>if gR ty rs fr.ks x then run ty X W aP V n fr.t (fr.ρ.ext (x.map (SV.xv ρ))) fr.rs (fr::Q) else none
  |none=>none
 |n+1,.rows k x _ t,ρ,rs,Z=>if Vf k then run ty X W aP V n t (ρ.add (.r (fb x ρ))) (rs++[k]) Z else none
 |n+1,.eC g h t f,ρ,rs,Z=>if g.den ρ then(if h.den ρ then wc (run ty X W aP V n t ρ rs Z) (run ty X W aP V n f ρ rs Z) else run ty X W aP V n t ρ rs Z) else(if h.den ρ then run ty X W aP V n f ρ rs Z else none)
 |n+1,.pick m g h t f,ρ,rs,Z=>pw ((qA m g h ρ).map λj=>match j with
  |some j=>run ty X W aP V n t (ρ.add (.i j)) rs Z
  |none=>run ty X W aP V n f ρ rs Z)
 |n+1,.dl _ _ e sp P r U t,ρ,rs,Z=>if yq rs U&&Ve rs r e then(match dw sp P (r.rv ρ).rows with
  |some rows=>run ty X W aP V n t (ρ.add (.r (.mk (r.rv ρ).val rows))) (rs++[.own e]) Z
  |none=>none) else none
 |n+1,.new e x U _ t,ρ,rs,Z=>if yq rs U then run ty X W aP V n t (ρ.add (.r (fb x ρ))) (rs++[.own e]) Z else none
 |_,_,_,_,_=>none
section
def JO{w Z:World}(h:bS [] w Z):Below w.heap.size w Z:=⟨h.os,h.tape,h.output,h.size,λk X=>h.block k X (by simp)⟩
def aoP{a b c:World}(h:Below a.heap.size a b)(k:Below b.heap.size b c):Below a.heap.size a c:=h.trans (k.mono h.size)
def lL:List LK->List XV->List Value
 |k::ks,x::xs=>x.at k::lL ks xs
 |_,_=>[]
def qB(ty:Ty):List TypeId->List Value->List Value
 |[],_=>[]
 |t::X,l=>match ty t with
  |some Z=>(if Z.d.isAgg then .agg (l.take Z.ab.length).toArray else l.getD 0 undef)::qB ty X (l.drop Z.ab.length)
  |none=>[]
def CQ:List Value->Value
 |[v]=>v
 |l=>.tuple l.toArray
def aev{ty:Ty}:∀{Z:List TypeId}{vs l:List SV},gG ty Z vs=some l->Z.length=vs.length
 |[],[],l,_=>rfl
 |[],_::_,l,h=>by simp[gG] at h
 |_::_,[],l,h=>by simp[gG] at h
 |t::Z,v::vs,l,h=>by
  simp only[gG] at h;split at h;rename_i W r V X;simp[aev X];cases h
def NZ{ty:Ty}{ρ:aa}{β:List Nat}:∀{X:List TypeId}{vs l:List SV},gG ty X vs=some l->SV.ap ρ β vs=qB ty X (SV.ap ρ β l)
 |[],[],l,_=>rfl
 |[],_::_,l,h=>by simp[gG] at h
 |_::_,[],l,h=>by simp[gG] at h
 |t::X,v::vs,l,h=>by
  simp only[gG] at h;split at h;rename_i Q r U R;have V:=NZ (ρ:=ρ) (β:=β) R;simp only[qB,U];split at h;rename_i W;rw[if_pos W];split at h;rename_i O;split at h;rename_i Z;simp only[beq_iff_eq] at Z;cases h;rw[MJ,<-Z,List.take_left' (by simp),ay2 (by simp),<-V];simp only[SV.ap,SV.den];cases h;cases h;rename_i W;rw[if_neg W];split at h;rename_i Z;simp only[beq_iff_eq] at Z;cases h;rw[Z];simp only[SV.ap,axY,az9,azt,<-V];cases h;cases h
def aew{ty:Ty}{ρ:aa}{β:List Nat}{Z:List TypeId}{v:SV}{l:List SV}(h:gG ty Z (uj Z.length v)=some l):v.den ρ β=CQ (qB ty Z (SV.ap ρ β l)):=by
 have X:=aev h;rw[<-NZ h];cases v
 case bj U=>
  simp only[uj] at X⊢;by_cases W:Z.length==1;simp[W,SV.ap,CQ];simp only[W,if_false,aw0] at X⊢;have V:U.length≠1:=by rw[<-X];simpa using W
  match U,V with
  |[],_=>simp[SV.ap,CQ,SV.den]
  |[x],V=>simp at V
  |x::y::z,_=>simp[SV.ap,CQ,SV.den]
 all_goals simp[uj,SV.ap,CQ]
def aoQ{ty:Ty}{rs:List RK}{ρ:aa}{β:List Nat}{k:LK}{v:SV}(h:Aj ty rs k v=true):v.den ρ β=(v.xv ρ).at k/\nx k (v.xv ρ):=by
 unfold Aj at h;split at h;rename_i k Z e;simp at h;subst h;exact⟨rfl,trivial⟩;exact⟨rfl,trivial⟩;exact⟨rfl,trivial⟩;cases h
def FQ{ty:Ty}{rs:List RK}{ρ:aa}{β:List Nat}:∀{ks:List LK}{l:List SV},gR ty rs ks l=true->SV.ap ρ β l=lL ks (l.map (SV.xv ρ))/\cR ks (l.map (SV.xv ρ))
 |[],[],_=>⟨rfl,trivial⟩
 |[],_::_,h=>by simp[gR] at h
 |_::_,[],h=>by simp[gR] at h
 |k::ks,v::l,h=>by
  simp only[gR,awF] at h;obtain⟨Z,X⟩:=aoQ (ρ:=ρ) (β:=β) h.1;obtain⟨W,V⟩:=FQ (ρ:=ρ) (β:=β) h.2;exact⟨by simp only[SV.ap,awT,lL,Z,W],X,V⟩
def aoR{ks:List LK}{xs:List XV}(h:dg ks xs=true):cR ks xs:=by
 induction ks generalizing xs with
 |nil=>cases xs with
  |nil=>trivial
  |cons=>simp[dg] at h
 |cons k ks Z=>cases xs with
  |nil=>simp[dg] at h
  |cons x xs=>
   simp only[dg,awF] at h;refine⟨?_,Z h.2⟩;cases k<;>cases x<;>first|trivial|simp[FP] at h
def Vk:∀{ks:List LK}{xs ys:List XV},cR ks ys->wa xs ys->cR ks xs
 |[],[],[],_,_=>trivial
 |[],_::_,[],_,h=>h.elim
 |[],_,_::_,h,_=>h.elim
 |_::_,_,[],h,_=>h.elim
 |_::_,[],_::_,_,h=>h.elim
 |k::ks,x::xs,y::ys,h,Z=>by
  refine⟨?_,Vk h.2 Z.2⟩;have X:=h.1;have W:=Z.1;cases k<;>cases x<;>cases y<;>simp_all[nx,FM]
def JP{ρ ρ':aa}(h:jw ρ ρ'):∀l:List SV,wa (l.map (SV.xv ρ)) (l.map (SV.xv ρ'))
 |[]=>trivial
 |v::l=>⟨SV.aoJ h v,JP h l⟩
def JQ{β:List Nat}:∀{ks:List LK}{l:List SV}{xs:List XV}{ρ:aa}{a b c:Nat},oF a b c ks l=true->cR ks xs->ρ.i.length=a->ρ.b.length=b->ρ.r.length=c->SV.ap (ρ.ext xs) β l=lL ks xs
 |[],[],[],ρ,a,b,c,_,_,_,_,_=>rfl
 |[],[],_::_,ρ,a,b,c,_,h,_,_,_=>h.elim
 |[],_::_,xs,ρ,a,b,c,h,_,_,_,_=>by simp[oF] at h
 |k::ks,[],xs,ρ,a,b,c,h,_,_,_,_=>by cases k<;>simp[oF] at h
 |_::_,_::_,[],ρ,a,b,c,_,h,_,_,_=>h.elim
 |k::ks,v::l,x::xs,ρ,a,b,c,h,N,X,W,V=>by
  have R:=zV xs (ρ.add x);obtain⟨Q,O⟩:=N;simp only[SV.ap,aa.ext,lL];unfold oF at h;split at h;rename_i Z;cases Z;rename_i Z U;cases Z;cases U;cases x<;>simp[nx] at Q;simp only[awF,decide_eq_true_eq,beq_iff_eq] at h;obtain⟨⟨rfl,rfl⟩,h⟩:=h;rw[JQ h O (by simp[aa.add,X]) (by simp[aa.add,W]) (by simp[aa.add,V])];simp only[SV.den,IE.den,XV.at];rw[R.i _ (by simp[aa.add,X])];simp[aa.add,<-X];rename_i Z U;cases Z;cases U;cases x<;>simp[nx] at Q;simp only[awF,beq_iff_eq] at h;obtain⟨rfl,h⟩:=h;rw[JQ h O (by simp[aa.add,X]) (by simp[aa.add,W]) (by simp[aa.add,V])];simp only[SV.den,BE.den,XV.at];rw[R.b _ (by simp[aa.add,W])];simp[aa.add,<-W];rename_i Z U;cases Z;cases U;cases x<;>simp[nx] at Q;simp only[awF,beq_iff_eq] at h;obtain⟨rfl,h⟩:=h;rw[JQ h O (by simp[aa.add,X]) (by simp[aa.add,W]) (by simp[aa.add,V])];simp only[SV.den,RE.den,RE.rv,XV.at];rw[R.r _ (by simp[aa.add,V])];simp[aa.add,aa.rv,<-V];cases h
def aoS{ty:Ty}{ρ:aa}{s:S}{b:Nat}{r:RE}{e:RK}(U:e≠ .ar)(h:r.kind ty s=e)(X:cn ty e (r.rv ρ) b):ρ.mg ty s.rs b:=by
 obtain⟨W,e0,Q,V,Z⟩:=M1 U h X;rcases Z with⟨rfl,Z⟩|⟨t,Z,R⟩;exact⟨W,e0,V,MZ (by rw[Z];exact X)⟩;exact⟨W,e0,V,Fe Z R⟩
def aex{ty:Ty}{e:RK}{rv:RV}{b:Nat}(h:cn ty e rv b):cn ty e.rd rv b:=by
 cases h with
 |own e rv b h=>exact h
 |here e a Z cap rows=>exact cn.here e a Z cap rows
 |deep e v rows i j row c z k b X W V U=>exact cn.deep e v rows i j row c z k b X W V U
def ul(ty:Ty)(ks:List LK)(xs:List XV)(b:Nat):Prop:=∃(q:Nat)(e:RK)(rv:RV),ks[q]?=some (.ref e)/\xs[q]?=some (.r rv)/\cn ty e rv b
def aey{ty:Ty}{rs:List RK}:∀{ks:List LK}{l:List SV},gR ty rs ks l=true->∀(q:Nat)(k:LK)(v:SV),ks[q]?=some k->l[q]?=some v->Aj ty rs k v=true
 |[],_,_,q,k,v,Z,_=>by simp at Z
 |_::_,[],h,q,k,v,_,_=>by simp[gR] at h
 |W::ks,v0::l,h,0,k,v,Z,X=>by simp only[gR,awF] at h;simp at Z X;subst Z X;exact h.1
 |W::ks,v0::l,h,q+1,k,v,Z,X=>by simp only[gR,awF] at h;exact aey h.2 q k v (by simpa using Z) (by simpa using X)
def aez{ty:Ty}{rs:List RK}{ρ:aa}{ks:List LK}{l:List SV}(h:gR ty rs ks l=true){q:Nat}{e:RK}{rv:RV}(U:ks[q]?=some (.ref e))(Z:(l.map (SV.xv ρ))[q]?=some (.r rv)):
  ∃r:RE,((∃V,e=.mr V/\r.mI ty ⟨[],[],0,0,rs,0,0,[]⟩ V=true)\/r.fits ty ⟨[],[],0,0,rs,0,0,[]⟩ e.rd=true)/\rv=r.rv ρ:=by
 rw[awL] at Z;cases W:l[q]? with
 |none=>rw[W] at Z;cases Z
 |some v=>
  rw[W] at Z;have:=aey h q _ v U W;unfold Aj at this;split at this;rename_i X;cases X;rename_i X;cases X;rename_i X;cases X;simp only[awO,awJ,SV.xv,XV.r.injEq] at Z;refine⟨_, ?_,Z.symm⟩;split at this;exact .inl ⟨_,rfl,this⟩;exact .inr this;cases this
def JR{ty:Ty}{rs:List RK}{ρ:aa}{ks:List LK}{l:List SV}(h:gR ty rs ks l=true){b:Nat}(V:ul ty ks (l.map (SV.xv ρ)) b):ρ.mg ty rs b:=by
 obtain⟨q,e,rv,U,R,X⟩:=V;obtain⟨r,Z,rfl⟩:=aez h U R;rcases Z with⟨N,rfl,-⟩|Z;cases X;have W:=aex X;obtain⟨Q,O⟩:=TJ (ρ:=ρ) Z W;exact aoS (s:=⟨[],[],0,0,rs,0,0,[]⟩) O Q W
def um(ty:Ty)(W:World)(ks:List LK)(xs:List XV):Prop:=∀(q:Nat)(e:RK)(rv:RV),ks[q]?=some (.ref e)->xs[q]?=some (.r rv)->aT W ty e rv
def aeA{ty:Ty}{W:World}{B:Nat}{old:Nat->Prop}:∀{ks:List LK}{xs:List XV},um ty W ks xs->(∀b,ul ty ks xs b->B<=b\/old b)->EV ty W B old ks xs
 |[],xs,_,_=>by cases xs<;>trivial
 |_::_,[],_,_=>trivial
 |k::ks,x::xs,h,V=>by
  refine⟨?_,aeA (λq e rv Z X=>h (q+1) e rv (by simpa using Z) (by simpa using X)) (λb ⟨q,e,rv,Z,X,U⟩=>V b ⟨q+1,e,rv,by simpa using Z,by simpa using X,U⟩)⟩;cases k<;>cases x<;>try trivial
  exact⟨h 0 _ _ rfl rfl,λb R=>V b ⟨0,_,_,rfl,rfl,R⟩⟩
def N0(w0 W:World):cF w0 bw.none [] [] [] W:=⟨rfl,rfl,λn l r Z h=>by simp[bw.none] at h,λn n' l r X h=>by simp[bw.none] at h,[],rfl,λ_=>rfl,by simp[bw.none],λd h=>by simp[bw.none] at h⟩
def gP.N1{S0:List Nat}{w0:World}{β:List Nat}{ρ:aa}{bx:aX}{ty:Ty}{rs:List RK}{W:World}(R:gP S0 w0 β ρ bx ty rs W)(X:ρ.r.length=rs.length)(V:∀(k:Nat)(t:TypeId),rs[k]?≠some (.own t)):ao S0 w0 bw.none ty [] (ρ.at []) ⟨[],[],ρ.i.length,ρ.b.length,rs,0,0,[]⟩ ⟨#[],[]⟩ W:=
 ⟨⟨R.base,λi h=>by simp[aA,bP] at h,λi j h=>by simp[aA,bP] at h,λi t cs h=>by simp[bP] at h,λk e rv Z U=>⟨(R.ref k e rv Z U).1,λb Q i hi=>by simp[aA,bP] at hi⟩⟩,rfl,rfl,rfl,X,N0 _ _,rfl,λt O h=>by simp at h,λk e rv b Z=>absurd Z (V k e)⟩
def N2:∀{l X:List RK},yp l X=true->mh l X/\∀(k:Nat)(t:TypeId),X[k]?≠some (.own t)
 |[],[],_=>⟨mh.refl _,λk t h=>by simp at h⟩
 |[],_::_,h=>by simp[yp] at h
 |_::_,[],h=>by simp[yp] at h
 |x::xs,y::ys,h=>by
  simp only[yp,awF] at h;obtain⟨W,U⟩:=N2 h.2;have V:mR x y/\∀t,y≠ .own t:=by
   have Q:=h.1;cases x<;>cases y<;>simp_all[NV,mR]
  refine⟨⟨by simp[W.len],λk R Z=> ?_⟩,λk t Z=> ?_⟩;cases k with
  |zero=>simp at Z;subst Z;exact⟨x,rfl,V.1⟩
  |succ k=>exact W.get k R (by simpa using Z)
  cases k with
  |zero=>simp at Z;exact V.2 t Z
  |succ k=>exact U k t (by simpa using Z)
def aoT{e:RK}(h:Cj (.ref e)=true):e.rd=e:=by cases e<;>simp[Cj] at h<;>rfl
def Vl{ty:Ty}{ρ:aa}{rs Z:List RK}(h:mh rs Z){b:Nat}(X:ρ.mg ty Z b):ρ.mg ty rs b:=by
 obtain⟨k,e,W,V⟩:=X;obtain⟨e0,U,R⟩:=h.get k e W;exact⟨k,e0,U,V.j9 R⟩
def aeB:∀{l X:List RK},yq l X=true->mh l X
 |[],[],_=>mh.refl _
 |[],_::_,h=>by simp[yq] at h
 |_::_,[],h=>by simp[yq] at h
 |x::xs,y::ys,h=>by
  simp only[yq,awF] at h;have W:=aeB h.2;have V:mR x y:=by
   have R:=h.1;cases x<;>cases y<;>simp_all[NV,aei,mR]
  refine⟨by simp[W.len],λk U Z=> ?_⟩;cases k with
  |zero=>simp at Z;subst Z;exact⟨x,rfl,V⟩
  |succ k=>exact W.get k U (by simpa using Z)
def aeC{S0:List Nat}{w0:World}{β:List Nat}{ρ:aa}{bx:aX}{ty:Ty}{rs:List RK}{W:World}(R:gP S0 w0 β ρ bx ty rs W)(X:ρ.r.length=rs.length)(V:∀(k:Nat)(t:TypeId),rs[k]?≠some (.own t)){ks:List LK}{l:List SV}(h:gR ty rs ks l=true)(O:me ks=true):um ty W ks (l.map (SV.xv ρ)):=by
 intro q e rv U N;obtain⟨r,Z,rfl⟩:=aez h U N;rcases Z with⟨Q,rfl,Z⟩|Z;simp only[RE.mI,aw9,decide_eq_true_eq] at Z;rcases Z with Z|Z;have:=nz (R.N1 X V) (e:=.mr Q) (r:=r) (by simp) (by
  rw[yb (s:=⟨[],[],ρ.i.length,ρ.b.length,rs,0,0,[]⟩) (s':=⟨[],[],0,0,rs,0,0,[]⟩) rfl r];exact Z)
 rwa [RE.ju] at this
 unfold RE.nil at Z;split at Z;exact aT.mr Q [] (by simp) (by simp) (by simp) (by simp);cases Z;have:=abU (R.N1 X V) (k:=e.rd) (r:=r) (by
  unfold RE.fits at Z⊢;rw[yb (s:=⟨[],[],ρ.i.length,ρ.b.length,rs,0,0,[]⟩) (s':=⟨[],[],0,0,rs,0,0,[]⟩) rfl r];exact Z)
 rwa [aoT (No O U),RE.ju] at this
def CR(ty:Ty)(B:Nat)(old:Nat->Prop)(ρ:aa)(rs:List RK):Prop:=∀b,ρ.mg ty rs b->B<=b\/old b
def N3:∀(ks:List LK)(s:S),(s.bz ks).2.rs=s.rs++gk ks
 |[],s=>by simp[S.bz,gk]
 |k::ks,s=>by
  simp only[S.bz];rw[N3 ks];cases k<;>simp[S.fresh,gk]
def JS{ks:List LK}{xs:List XV}{ρ:aa}{rs:List RK}(Z:cR ks xs)(X:ρ.r.length=rs.length):(ρ.ext xs).r.length=(rs++gk ks).length:=by
 have:=(ud ks xs ⟨[],[],ρ.i.length,ρ.b.length,rs,0,0,[]⟩ ρ Z rfl rfl X).2.2
 rwa [N3] at this
def CR.ext{ty:Ty}{B:Nat}{old:Nat->Prop}{ρ:aa}{rs:List RK}(h:CR ty B old ρ rs){ks:List LK}{xs:List XV}(V:cR ks xs)(U:ρ.r.length=rs.length)(Q:∀b,ul ty ks xs b->B<=b\/old b):CR ty B old (ρ.ext xs) (rs++gk ks):=by
 intro b ⟨k,e,R,O⟩;have N:k<(ρ.ext xs).r.length:=by rw[JS V U];exact(awG.1 R).1
 have M:(ρ.ext xs).r[k]?=some ((ρ.ext xs).rv k):=by simp[aa.rv,N]
 have:=CD (PP:=λe rv=>∀b,cn ty e rv b->B<=b\/old b) ks xs ⟨[],[],ρ.i.length,ρ.b.length,rs,0,0,[]⟩ ρ V U
  (λq e rv X Z b W=>Q b ⟨q,e,rv,X,Z,W⟩) (λk e rv X Z b W=>h b ⟨k,e,X,by
   have L:k<ρ.r.length:=(awG.1 Z).1;have:ρ.rv k=rv:=by simp[aa.rv,Z]
   rw[this];exact W⟩)
 rw[N3] at this;exact this k e _ R M b O
def JT(ty:Ty)(u:List TypeId)(J:List LK)(w0:World)(O:List LK)(U:List XV)(out:aV):Ending->World->Prop
 |.returned v,W'=>∃yh ys,out=.ret yh/\wa yh ys/\cR J ys/\v=CQ (qB ty u (lL J ys))/\Below w0.heap.size w0 W'/\um ty W' J ys/\∀b,ul ty J ys b->w0.heap.size<=b\/ul ty O U b
 |.panicked Z,W'=>Below w0.heap.size w0 W'/\∃v,out=.aS v/\Z=[{v:=v,recovered:=false}]
 |.outgrown,_=>False
def CS(P:Program)(ty:Ty)(H I:FuncId->Option (List TypeId))(G:World->Prop)(f:FuncId)(F:List XV->Option aV):Prop:=
 ∀ps u O J,H f=some ps->I f=some u->eZ ty ps=some O->eZ ty u=some J->∀(Z xs:List XV)(out:aV),F Z=some out->wa Z xs->cR O xs->∀W,G W->um ty W O xs->
  Calls P f (qB ty ps (lL O xs)).toArray W (JT ty u J W O xs out)
section
variable{P:Program}{ty:Ty}{H I:FuncId->Option (List TypeId)}{aP:kD}{G:World->Prop}{w0:World}{u:List TypeId}{J O:List LK}{U:List XV}{out:aV}{old:Nat->Prop}
def JU(P:Program)(ty:Ty)(w0:World)(u:List TypeId)(J O:List LK)(U:List XV)(out:aV):Sp:=⟨P,ty,[],w0,bw.none,JT ty u J w0 O U out,λ_ _ _=>False⟩
def JV(ty:Ty)(H I:FuncId->Option (List TypeId))(aP:kD)(u:List TypeId)(out:aV)(fr:Fr)(X:List Fr)(xs:List XV)(n:Nat):Prop:=∃Z,wa Z xs/\run ty H I aP u n fr.t (fr.ρ.ext Z) fr.rs (fr::X)=some out
def Vm(ty:Ty)(H I:FuncId->Option (List TypeId))(aP:kD)(w0:World)(u:List TypeId)(old:Nat->Prop)(out:aV)(fr:Fr)(Z:List Fr)(N:Nat)(xs:List XV):Prop:=
 (∀b,ul ty fr.ks xs b->w0.heap.size<=b\/old b)/\∃n,n<=N/\JV ty H I aP u out fr Z xs n
def aeD(W:World)(Z:List PanicEntry)(W':World)(b:Nat)(o:Obj)(V:W.heap.size<=b)(h:JT ty u J W O U out (.panicked Z) W'):JT ty u J W O U out (.panicked Z) (W'.putObj b o):=
 ⟨⟨h.1.os,h.1.tape,h.1.output,by have:=h.1.size;simpa[World.putObj] using this,λk X=>(World.putObj_heap_other (by omega)).trans (h.1.block k X)⟩,h.2⟩
def aoU{p:Nat->Prop}:∀{n:Nat},p n->∃m,p m/\m<=n/\∀k,p k->m<=k:=by
 intro n;induction n using ay1 with
 |ind n W=>
  intro h;by_cases X:∃k,k<n/\p k;obtain⟨k,Z,V⟩:=X;obtain⟨m,U,O,R⟩:=W k Z V;exact⟨m,U,by omega,R⟩;exact⟨n,h,awN _,λk Z=>by by_cases Q:k<n;exact absurd ⟨k,Q,Z⟩ X;omega⟩
open Classical in
noncomputable def FR(p:Nat->Prop):Nat:=if h:∃m,p m/\∀k,p k->m<=k then Classical.choose h else 0
def aeE{p:Nat->Prop}{n:Nat}(h:p n):p (FR p)/\FR p<=n:=by
 obtain⟨m,X,V,W⟩:=aoU h;have Z:∃m,p m/\∀k,p k->m<=k:=⟨m,X,W⟩;unfold FR;rw[dif_pos Z];exact⟨(Classical.choose_spec Z).1,(Classical.choose_spec Z).2 n h⟩
inductive qC(ty:Ty)(H I:FuncId->Option (List TypeId))(aP:kD)(w0:World)(u:List TypeId)(old:Nat->Prop)(out:aV):Nat->List Fr->List LC->Prop where
 |nil (n:Nat):qC ty H I aP w0 u old out n [] []
 |cons (n N m:Nat) (fr:Fr) (st:List Fr) (L:List LC):n<=m->m<=N->qC ty H I aP w0 u old out n st L->
   qC ty H I aP w0 u old out n (fr::st) (⟨fr.al,Vm ty H I aP w0 u old out fr st N,λxs=>FR (JV ty H I aP u out fr st xs),m⟩::L)
def qC.mono{n n':Nat}{Z:List Fr}{L:List LC}(h:qC ty H I aP w0 u old out n Z L)(V:n'<=n):qC ty H I aP w0 u old out n' Z L:=by
 induction h with
 |nil=>exact qC.nil _
 |cons N m fr Z L U X R W=>exact qC.cons _ _ _ _ _ _ (by omega) X W
def qC.find{n al:Nat}{X W:List Fr}{L:List LC}{fr:Fr}(h:qC ty H I aP w0 u old out n X L)(Z:CN al X=some (fr,W)):
  ∃N m,n<=m/\m<=N/\kQ al L=some ⟨fr.al,Vm ty H I aP w0 u old out fr W N,λxs=>FR (JV ty H I aP u out fr W xs),m⟩:=by
 induction h with
 |nil=>simp[CN] at Z
 |cons N m D X L U R C Q=>
  simp only[CN] at Z;split at Z;rename_i V;cases Z;exact⟨N,m,U,R,by simp[kQ,V]⟩;rename_i V;obtain⟨O,M,J,F,E⟩:=Q Z;exact⟨O,M,J,F,by simp only[kQ,V,if_false];exact E⟩
def aoV(bd:∀f,CS P ty H I G f (aP f))(hG:∀W W',Below W.heap.size W W'->G W->G W')(bf:G w0)(bk:eZ ty u=some J)(br:∀ys b,ul ty J ys b->old b->ul ty O U b):
  ∀(n:Nat)(t:T)(Q ρ:aa)(rs:List RK)(F:List Fr)(L:List LC),run ty H I aP u n t Q rs F=some out->jw Q ρ->ρ.r.length=rs.length->CR ty w0.heap.size old ρ rs->qC ty H I aP w0 u old out n F L->
   t.aD (JU P ty w0 u J O U out) ρ L:=by
 intro n;induction n using ay1 with
 |ind n C=>
  intro t Q ρ rs F L h Z X V D;cases n with
  |zero=>simp[run] at h
  |succ n=>
   cases t with
   |out e s=>simp[run] at h
   |stuck m=>simp[run] at h
   |ret v bx ag=>
    simp only[run] at h;split at h;rename_i B;obtain⟨a,a3⟩:=N2 B;unfold Vc at h;split at h;rename_i l ks E M;rw[bk] at M;cases M;split at h;rename_i w;cases h;simp only[awF] at w;obtain⟨w,bs⟩:=w;intro y β W hR;have Z:jw Q (ρ.at y):=⟨Z.i,Z.b,Z.len,Z.r⟩;have X:(ρ.at y).r.length=rs.length:=X;have V:CR ty w0.heap.size old (ρ.at y) rs:=V;generalize ρ.at y=ρ at Z X V hR⊢;obtain⟨q,h2⟩:=FQ (ρ:=ρ) (β:=β) w;refine⟨_,l.map (SV.xv ρ),rfl,JP Z l,h2,by rw[aew E,q],JO hR.base,aeC hR (X.trans a.len.symm) a3 w bs,λb R=>(V b (Vl a (JR w R))).imp id (br _ b R)⟩;cases h;cases h;cases h
   |aS v=>
    simp only[run,ayd] at h;obtain⟨pv,hv,rfl⟩:=h;intro y β W hO;have Z:jw Q (ρ.at y):=⟨Z.i,Z.b,Z.len,Z.r⟩;refine⟨JO hO,pv,rfl, ?_⟩;unfold CM at hv;split at hv;cases hv;simp only[SV.den,IE.bW Z];cases hv
   |node b t f=>
    simp only[run] at h;rw[BE.bW Z] at h;refine⟨λR=> ?_,λR=> ?_⟩;rw[if_pos R] at h;exact C n (by omega) t Q ρ rs F L h Z X V (D.mono (by omega));rw[if_neg (by simp[R])] at h;exact C n (by omega) f Q ρ rs F L h Z X V (D.mono (by omega))
   |az b t=>
    simp only[run] at h;rw[BE.bW Z] at h;split at h;rename_i R;exact⟨R,C n (by omega) t Q ρ rs F L h Z X V (D.mono (by omega))⟩;cases h
   |call f args bx ag ks fp t=>
    simp only[run] at h;split at h;rename_i B;obtain⟨a,a3⟩:=N2 B;split at h;rename_i ct p;unfold Vd at p;split at p;rename_i ps bt b0 b1;split at p;rename_i l b2 b3 r E b4 b5 b6;split at p;rename_i hc;simp only[awF,decide_eq_true_eq] at hc;obtain⟨⟨⟨c1,cp⟩,rfl⟩,c3⟩:=hc;cases p;intro y β W hR;have an:jw Q (ρ.at y):=⟨Z.i,Z.b,Z.len,Z.r⟩;have cv:CR ty w0.heap.size old (ρ.at y) rs:=V;obtain⟨a1,a2⟩:=FQ (ρ:=ρ.at y) (β:=β) c1;have hB:=JO hR.base;have b7:=aeC hR (X.trans a.len.symm) a3 c1 cp;rw[NZ E,a1];cases ho:aP f (l.map (SV.xv Q)) with
    |none=>rw[ho] at h;cases h
    |some o=>
     rw[ho] at h;refine(bd f ps bt b2 b3 b0 b1 b4 b5 _ _ o ho (JP an l) a2 W (hG _ _ hB bf) b7).mono ?_;intro e W' hE;cases e with
     |outgrown=>exact hE.elim
     |panicked ch=>
      obtain⟨e1,pv,rfl,rfl⟩:=hE;simp only[awJ] at h;subst h;exact⟨e1,aoP hB e1,pv,rfl,rfl⟩
     |returned v=>
      obtain⟨yh,ys,rfl,e2,e3,rfl,e5,e6,e7⟩:=hE;rw[show SV.xv (ρ.at y)=SV.xv ρ from funext (SV.UK ρ y)] at e7;simp only at h;split at h;rename_i cx;refine⟨ys,e3, ?_,e5,aeA e6 (λb R=>(e7 b R).imp id (λb8=>JR c1 b8)), ?_⟩;rw[<-JF,aew b6,JQ c3 e3 (by rw[an.i]) (by rw[an.b]) (by rw[an.len])];refine C n (by omega) t _ _ _ F L h (Z.ext e2) (JS e3 X) (V.ext e3 X (λb R=> ?_)) (D.mono (by omega));rcases e7 b R with q|q;exact .inl (axn hB.size q);exact V b (Vl a (JR c1 q));cases h
    cases p;cases p;cases p;cases h;cases h
   |loop al ks x0 t=>
    simp only[run] at h;split at h;rename_i w;have cy:=(FQ (ρ:=ρ) (β:=[]) w).2;refine⟨Vm ty H I aP w0 u old out ⟨al,ks,t,Q,rs++gk ks⟩ F n,λxs=>FR (JV ty H I aP u out ⟨al,ks,t,Q,rs++gk ks⟩ F xs),⟨λb R=>V b (JR w R),n,awN _,x0.map (SV.xv Q),JP Z x0,h⟩, ?_⟩;intro xs hf ⟨i1,n1,i2,i3⟩;obtain⟨⟨xh,j1,j2⟩,j3⟩:=aeE i3;refine C _ (by omega) t _ _ _ _ _ j2 (Z.ext j1) (JS hf X) (V.ext hf X i1) ?_;exact qC.cons _ _ _ _ _ _ (awN _) (axn j3 i2) (D.mono (by omega));cases h
   |back al x=>
    simp only[run] at h;split at h;rename_i fr ca cc;split at h;rename_i w;obtain⟨N,m,g1,g2,g3⟩:=D.find cc;simp only[T.aD,g3];have a5:JV ty H I aP u out fr ca (x.map (SV.xv ρ)) n:=⟨x.map (SV.xv Q),JP Z x,h⟩;refine⟨⟨λb R=>V b (JR w R),n,by omega,a5⟩, ?_⟩;have:=(aeE a5).2;omega;cases h;cases h
   |new e x ag cI t=>
    simp only[run] at h;split at h;rename_i B;have a:=aeB B;intro rv a6;obtain⟨A,m,c,rfl,hm⟩:=a6.val;subst hm;refine C n (by omega) t _ _ _ F L h (Z.add (aeh Z x)) (by simp[aa.add,X]) ?_ (D.mono (by omega));intro b ⟨k,e',M,E⟩;by_cases d:k<rs.length;rw[awI d] at M;refine V b ⟨k,e',M, ?_⟩;have:(ρ.add (.r (.mk (.slice A (x.rows ρ).length c) (x.rows ρ)))).rv k=ρ.rv k:=by simp[aa.rv,aa.add,awI,X,d]
    rw[<-this];exact E;have af:k=rs.length:=by
     have:=(awG.1 M).1;simp at this;omega
    subst af;simp at M;subst M;have e1:(ρ.add (.r (.mk (.slice A (x.rows ρ).length c) (x.rows ρ)))).rv rs.length=.mk (.slice A (x.rows ρ).length c) (x.rows ρ):=by rw[<-X];simp[aa.rv,aa.add]
    rw[e1] at E;have cf:=aex E;rcases a6.mg b cf with g|g|g;exact .inl g;cases g;exact V b (Vl a g);cases h
   |rows k x ag t=>
    simp only[run] at h;split at h;rename_i B;refine C n (by omega) t _ _ _ F L h (Z.add (aeh Z x)) (by simp[aa.add,X]) ?_ (D.mono (by omega));intro b ⟨k',e',M,E⟩;by_cases d:k'<rs.length;rw[awI d] at M;refine V b ⟨k',e',M, ?_⟩;have:(ρ.add (.r (fb x ρ))).rv k'=ρ.rv k':=by simp[aa.rv,aa.add,awI,X,d]
    rw[<-this];exact E;have af:k'=rs.length:=by
     have:=(awG.1 M).1;simp at this;omega
    subst af;simp at M;subst M;cases k<;>simp[Vf] at B;cases E;cases h
   |eC g h' t f=>
    simp only[run] at h;rw[BE.bW Z,BE.bW Z] at h;refine⟨λR=> ?_,λR=> ?_⟩;rw[if_pos R] at h;split at h;exact C n (by omega) t Q ρ rs F L (NX h).1 Z X V (D.mono (by omega));exact C n (by omega) t Q ρ rs F L h Z X V (D.mono (by omega));simp only[R,if_true] at h;split at h;exact C n (by omega) f Q ρ rs F L (NX h).2 Z X V (D.mono (by omega));exact C n (by omega) f Q ρ rs F L h Z X V (D.mono (by omega))
   |pick m g h' t f=>
    simp only[run] at h;refine⟨λj q h2 h3=> ?_,λR=> ?_⟩;have a7:jw (Q.add (.i j)) (ρ.add (.i j)):=Z.add (x:=.i j) (y:=.i j) rfl;have hj:=NY h _ (aw7.2 ⟨some j,Vi (g:=g) (h:=h') q (by rw[IE.bW Z];exact h2) (by rw[BE.bW a7];exact h3),rfl⟩);exact C n (by omega) t _ _ rs F L hj a7 X V (D.mono (by omega));have hj:=NY h _ (aw7.2 ⟨none,Vj (m:=m) (g:=g) (h:=h') (by rw[BE.bW Z];exact R),rfl⟩);exact C n (by omega) f _ _ rs F L hj Z X V (D.mono (by omega))
   |dl f g e sp sb r ag t=>
    simp only[run] at h;split at h;rename_i B;simp only[awF] at B;obtain⟨B,a0⟩:=B;have a8:=RE.bW Z r;split at h;rename_i cl a9;obtain⟨rows,a4,c0⟩:=aen a8.FN a9;refine⟨rows,alQ a4, ?_⟩;have bb:=T9 a4;have cs:bQ (.mk (r.rv Q).val cl) (.mk (r.rv ρ).val rows):=a8.dl a9 a4;refine C n (by omega) t _ _ _ F L h (Z.add cs) (by simp[aa.add,X]) ?_ (D.mono (by omega));intro b ⟨k,e',M,E⟩;by_cases d:k<rs.length;rw[awI d] at M;refine V b ⟨k,e',M, ?_⟩;have:(ρ.add (.r (.mk (r.rv ρ).val rows))).rv k=ρ.rv k:=by simp[aa.rv,aa.add,awI,X,d]
    rw[<-this];exact E;have af:k=rs.length:=by
     have:=(awG.1 M).1;simp at this;omega
    subst af;simp at M;subst M;have e1:(ρ.add (.r (.mk (r.rv ρ).val rows))).rv rs.length=.mk (r.rv ρ).val rows:=by rw[<-X];simp[aa.rv,aa.add]
    rw[e1] at E;unfold Ve at a0;split at a0;rename_i k;exact V b ⟨k,_,of_decide_eq_true a0,aoM E bb⟩;cases E with
    |own e rv b E=>
     have h0:rows=[]:=by
      cases rows with
      |nil=>rfl
      |cons x xs=>have:=bb x (by simp);simp[RE.rv] at this
     subst h0;simp only[RE.rv] at E;cases E with
     |deep e v rows i j row c z k b q h2 h3 h4=>simp at q
    cases a0;cases h;cases h
def qD:List LK->Bool
 |[]=>true
 |.ref (.sl _)::_=>false
 |.ref (.own _)::_=>false
 |_::ks=>qD ks
def aeF:∀{ks:List LK}{xs:List XV}{b:Nat},qD ks=true->¬ul ty ks xs b
 |[],xs,b,_,⟨q,e,rv,Z,_,_⟩=>by simp at Z
 |k::ks,xs,b,h,⟨0,e,rv,Z,X,W⟩=>by
  simp at Z;subst Z;cases W<;>simp[qD] at h
 |k::ks,[],b,h,⟨q+1,e,rv,Z,X,W⟩=>by simp at X
 |k::ks,x::xs,b,h,⟨q+1,e,rv,Z,X,W⟩=>aeF (ks:=ks) (xs:=xs) (b:=b) (by
   cases k with
   |ref r=>cases r<;>simp[qD] at h⊢<;>exact h
   |int _=>simpa[qD] using h
   |bool=>simpa[qD] using h) ⟨q,e,rv,by simpa using Z,by simpa using X,W⟩
def dY(glv:List RV)(xs:List XV):aa:=(⟨[],[],glv,[]⟩:aa).ext xs
end
end
section
def JW:SV->List SV
 |.agg l=>l
 |v=>[v]
def nD:List SV->List SV
 |[]=>[]
 |v::vs=>JW v++nD vs
def sf:SV->List SV
 |.bj l=>nD l
 |v=>JW v
def aoW:SV->Bool
 |.dH _ (.int _ _)=>true
 |_=>false
def nI:List LK->Nat
 |[]=>0
 |.int _::ks=>nI ks+1
 |_::ks=>nI ks
def nB:List LK->Nat
 |[]=>0
 |.bool::ks=>nB ks+1
 |_::ks=>nB ks
def aeG(ty:Ty)(c:List TypeId)(v:SV)(rs:List RK):Bool:=match gG ty c (uj c.length v),eZ ty c with
 |some l,some ks=>gR ty rs ks l&&me ks
 |_,_=>false
def aeH(ty:Ty)(u H:FuncId->Option (List TypeId))(f:FuncId)(args:List SV)(ni nb:Nat)(rs:List RK)(ks:List LK)(fp:SV):Bool:=match u f,H f with
 |some ps,some Z=>match gG ty ps args,eZ ty ps,eZ ty Z,gG ty Z (uj Z.length fp) with
  |some l,some X,some W,some r=>gR ty rs X l&&me X&&decide (W=ks)&&oF ni nb rs.length ks r
  |_,_,_,_=>false
 |_,_=>false
def JX(al:Nat):List (Nat×List LK)->Option (List LK)
 |[]=>none
 |x::xs=>if x.1=al then some x.2 else JX al xs
def T.eG(ty:Ty)(u H:FuncId->Option (List TypeId))(c:List TypeId):T->Nat->Nat->List RK->List (Nat×List LK)->Bool
 |.ret v _ X,_,_,rs,_=>yp rs X&&aeG ty c v X
 |.aS v,_,_,_,_=>aoW v
 |.node _ t f,ni,nb,rs,Z=>t.eG ty u H c ni nb rs Z&&f.eG ty u H c ni nb rs Z
 |.az _ t,ni,nb,rs,Z=>t.eG ty u H c ni nb rs Z
 |.call f args _ X ks fp t,ni,nb,rs,Z=>yp rs X&&aeH ty u H f args ni nb X ks fp&&t.eG ty u H c (ni+nI ks) (nb+nB ks) (rs++gk ks) Z
 |.loop al ks W t,ni,nb,rs,Z=>gR ty rs ks W&&t.eG ty u H c (ni+nI ks) (nb+nB ks) (rs++gk ks) ((al,ks)::Z)
 |.back al x,_,_,rs,Z=>match JX al Z with
  |some ks=>gR ty rs ks x
  |none=>false
 |.new e _ X _ t,ni,nb,rs,Z=>yq rs X&&t.eG ty u H c ni nb (rs++[.own e]) Z
 |.rows k _ _ t,ni,nb,rs,Z=>Vf k&&t.eG ty u H c ni nb (rs++[k]) Z
 |.eC _ _ t f,ni,nb,rs,Z=>t.eG ty u H c ni nb rs Z&&f.eG ty u H c ni nb rs Z
 |.pick _ _ _ t f,ni,nb,rs,Z=>t.eG ty u H c (ni+1) nb rs Z&&f.eG ty u H c ni nb rs Z
 |.dl _ _ e _ _ r X t,ni,nb,rs,Z=>yq rs X&&Ve rs r e&&t.eG ty u H c ni nb (rs++[.own e]) Z
 |.stuck _,_,_,_,_=>true
 |.out _ _,_,_,_,_=>false
structure Lp where
 al:Nat
 t:T
 ρ:aa
def we(al:Nat):List Lp->Option (Lp×List Lp)
 |[]=>none
 |x::xs=>if x.al=al then some (x,xs) else we al xs
def exec(aP:kD):Nat->T->aa->List Lp->Option aV
 |0,_,_,_=>none
 |_+1,.ret v _ _,ρ,_=>some (.ret ((sf v).map (SV.xv ρ)))
 |_+1,.aS v,ρ,_=>(CM ρ v).map .aS
 |n+1,.node b t f,ρ,Z=>if b.den ρ then exec aP n t ρ Z else exec aP n f ρ Z
 |n+1,.az b t,ρ,Z=>if b.den ρ then exec aP n t ρ Z else none
 |n+1,.call f args _ _ ks _ t,ρ,Z=>match aP f ((nD args).map (SV.xv ρ)) with
  |some (.ret ys)=>if dg ks ys then exec aP n t (ρ.ext ys) Z else none
  |some (.aS v)=>some (.aS v)
  |none=>none
 |n+1,.loop al _ X t,ρ,Z=>exec aP n t (ρ.ext (X.map (SV.xv ρ))) (⟨al,t,ρ⟩::Z)
 |n+1,.back al x,ρ,Z=>match we al Z with
  |some (fr,W)=>exec aP n fr.t (fr.ρ.ext (x.map (SV.xv ρ))) (fr::W)
  |none=>none
 |n+1,.new _ x _ _ t,ρ,Z=>exec aP n t (ρ.add (.r (fb x ρ))) Z
 |n+1,.rows _ x _ t,ρ,Z=>exec aP n t (ρ.add (.r (fb x ρ))) Z
 |n+1,.eC g h t f,ρ,Z=>if g.den ρ then(if h.den ρ then wc (exec aP n t ρ Z) (exec aP n f ρ Z) else exec aP n t ρ Z) else(if h.den ρ then exec aP n f ρ Z else none)
 |n+1,.pick m g h t f,ρ,Z=>pw ((qA m g h ρ).map λj=>match j with
  |some j=>exec aP n t (ρ.add (.i j)) Z
  |none=>exec aP n f ρ Z)
 |n+1,.dl _ _ _ sp V r _ t,ρ,Z=>match dw sp V (r.rv ρ).rows with
  |some rows=>exec aP n t (ρ.add (.r (.mk (r.rv ρ).val rows))) Z
  |none=>none
 |_,_,_,_=>none
def aoX{ty:Ty}{rs:List RK}{k:LK}{v:SV}(h:Aj ty rs k v=true):JW v=[v]:=by
 unfold Aj at h;split at h<;>first|rfl|cases h
def JY{ty:Ty}{rs:List RK}:∀{c:List TypeId}{vs l:List SV}{ks:List LK},gG ty c vs=some l->eZ ty c=some ks->gR ty rs ks l=true->nD vs=l
 |[],[],l,ks,h,_,_=>by simp[gG] at h;simp[nD,h]
 |[],_::_,l,ks,h,_,_=>by simp[gG] at h
 |_::_,[],l,ks,h,_,_=>by simp[gG] at h
 |t::c,v::vs,l,ks,h,U,Q=>by
  simp only[gG] at h;split at h;rename_i I r M P;simp only[eZ,M] at U;split at U;rename_i H O e1 N;cases e1;cases U;have key:∀(a:List LK)(b:List SV),a.length=b.length->gR ty rs (a++O) (b++r)=true->gR ty rs a b=true/\gR ty rs O r=true:=by
   intro a;induction a with
   |nil=>intro b R W;cases b with
    |nil=>exact⟨rfl,W⟩
    |cons=>simp at R
   |cons k a L=>intro b R W;cases b with
    |nil=>simp at R
    |cons x b=>
     simp only[awV,gR,awF] at W⊢;obtain⟨Z,V⟩:=L b (by simpa using R) W.2;exact⟨⟨W.1,Z⟩,V⟩
  split at h;split at h;rename_i G;split at h;rename_i X;simp only[beq_iff_eq] at X;cases h;obtain⟨Z,V⟩:=key _ _ (by simp[X]) Q;simp only[nD,JW,JY P N V];cases h;cases h;split at h;rename_i X;simp only[beq_iff_eq] at X;cases h;obtain⟨Z,V⟩:=key _ [v] (by simp[X]) Q;obtain⟨F,J⟩:=axb.1 X;rw[J] at Z;simp only[awT,ax0,gR,ayG] at Z;simp only[nD,aoX Z,JY P N V,awV,awX];cases h;cases U;cases h
def aoY{ty:Ty}{rs:List RK}{c:List TypeId}{v:SV}{l:List SV}{ks:List LK}(h:gG ty c (uj c.length v)=some l)(X:eZ ty c=some ks)(Z:gR ty rs ks l=true):sf v=l:=by
 rw[<-JY h X Z];cases v
 case bj N=>
  simp only[uj,sf];split;rename_i W;simp only[beq_iff_eq] at W;exfalso;have U:=JY h X Z;simp only[uj,W,beq_self_eq_true,if_true] at h U;obtain⟨t,R⟩:=axb.1 W;subst R;simp only[gG,eZ] at h X;split at h;rename_i M r W Q;cases Q;split at h;cases h;split at h;rename_i V;cases h;rw[W] at X;simp only[awJ] at X;subst X;simp only[beq_iff_eq] at V;obtain⟨L,P⟩:=axb.1 V;rw[P] at Z;simp only[awT,ax0,aya,gR,ayG] at Z;unfold Aj at Z;split at Z<;>first|(rename_i O;cases O)|cases Z
  cases h;cases h;rfl
 all_goals simp[uj,sf,nD]
section
variable{ty:Ty}{u H:FuncId->Option (List TypeId)}{aP:kD}{c:List TypeId}
def Al:∀{ks:List LK}{xs:List XV}{ρ:aa},cR ks xs->(ρ.ext xs).i.length=ρ.i.length+nI ks/\(ρ.ext xs).b.length=ρ.b.length+nB ks/\(ρ.ext xs).r.length=ρ.r.length+(gk ks).length
 |[],[],ρ,_=>⟨rfl,rfl,rfl⟩
 |[],_::_,ρ,h=>h.elim
 |_::_,[],ρ,h=>h.elim
 |k::ks,x::xs,ρ,h=>by
  obtain⟨Z,X⟩:=h;obtain⟨W,V,U⟩:=Al (ρ:=ρ.add x) X;simp only[aa.ext,W,V,U];cases k<;>cases x<;>simp only[nx] at Z<;>simp[aa.add,nI,nB,gk]<;>omega
inductive wh(ty:Ty)(u H:FuncId->Option (List TypeId))(c:List TypeId):List (Nat×List LK)->List Lp->List Fr->Prop where
 |nil:wh ty u H c [] [] []
 |cons (al:Nat) (ks:List LK) (t:T) (ρ:aa) (rs:List RK) (lv:List (Nat×List LK)) (sl:List Lp) (st:List Fr):ρ.r.length=rs.length->t.eG ty u H c (ρ.i.length+nI ks) (ρ.b.length+nB ks) (rs++gk ks) ((al,ks)::lv)=true->wh ty u H c lv sl st->
   wh ty u H c ((al,ks)::lv) (⟨al,t,ρ⟩::sl) (⟨al,ks,t,ρ,rs++gk ks⟩::st)
def wh.find{W:List (Nat×List LK)}{U R:List Lp}{V:List Fr}{al:Nat}{ks:List LK}{fr:Lp}(h:wh ty u H c W U V)(Z:JX al W=some ks)(X:we al U=some (fr,R)):
  ∃rs Q P,CN al V=some (⟨fr.al,ks,fr.t,fr.ρ,rs++gk ks⟩,P)/\fr.ρ.r.length=rs.length/\fr.t.eG ty u H c (fr.ρ.i.length+nI ks) (fr.ρ.b.length+nB ks) (rs++gk ks) ((fr.al,ks)::Q)=true/\wh ty u H c Q R P:=by
 induction h with
 |nil=>simp[JX] at Z
 |cons N G t ρ rs W U V M L J I=>
  simp only[JX,we,CN] at Z X⊢;by_cases O:N=al;rw[if_pos O] at Z X⊢;cases Z;cases X;exact⟨rs,W,V,rfl,M,L,J⟩;rw[if_neg O] at Z X⊢;exact I Z X
def px:∀(n:Nat)(t:T)(ρ:aa)(rs:List RK)(X:List (Nat×List LK))(W:List Lp)(V:List Fr)(o:aV),exec aP n t ρ W=some o->t.eG ty u H c ρ.i.length ρ.b.length rs X=true->ρ.r.length=rs.length->wh ty u H c X W V->
  run ty u H aP c n t ρ rs V=some o
 |0,t,ρ,rs,X,W,V,o,h,_,_,_=>by simp[exec] at h
 |n+1,.out _ _,ρ,rs,X,W,V,o,h,_,_,_=>by simp[exec] at h
 |n+1,.stuck _,ρ,rs,X,W,V,o,h,_,_,_=>by simp[exec] at h
 |n+1,.ret v bx P,ρ,rs,X,W,V,o,h,Z,U,R=>by
  simp only[exec,awJ] at h;simp only[T.eG,awF] at Z;obtain⟨J,Z⟩:=Z;simp only[run,J,if_true,Vc];unfold aeG at Z;split at Z
  ·rename_i l ks I G
   try rw[I,G]
   simp only[Z,if_true];simp only[awF] at Z;rw[<-aoY I G Z.1,h]
  cases Z
 |n+1,.aS v,ρ,rs,X,W,V,o,h,Z,U,R=>by simpa only[exec,run] using h
 |n+1,.node b t f,ρ,rs,X,W,V,o,h,Z,U,R=>by
  simp only[exec] at h;simp only[T.eG,awF] at Z;simp only[run];split at h;rename_i O;rw[if_pos O];exact px n t ρ rs X W V o h Z.1 U R;rename_i O;rw[if_neg O];exact px n f ρ rs X W V o h Z.2 U R
 |n+1,.az b t,ρ,rs,X,W,V,o,h,Z,U,R=>by
  simp only[exec] at h;simp only[T.eG] at Z;simp only[run];split at h;rename_i O;rw[if_pos O];exact px n t ρ rs X W V o h Z U R;cases h
 |n+1,.call f args bx P ks fp t,ρ,rs,X,W,V,o,h,Z,U,R=>by
  simp only[exec] at h;simp only[T.eG,awF] at Z;obtain⟨⟨J,Q⟩,s⟩:=Z;have p:=(N2 J).1.len;simp only[run,J,if_true,Vd];unfold aeH at Q;split at Q
  ·rename_i ps qs I G
   try rw[I,G]
   try simp only
   split at Q
   ·rename_i l pk qk r D C d a
    try rw[D,C,d,a]
    try simp only
    rw[p,<-U] at Q;rw[if_pos Q];simp only[awF] at Q;rw[JY D C Q.1.1.1] at h
    try simp only
    split at h
    ·rename_i ys F
     try rw[F]
     try simp only
     split at h;rename_i B;rw[if_pos B];obtain⟨e1,N,M⟩:=Al (ρ:=ρ) (aoR B);exact px n t _ _ X W V o h (by rw[e1,N];exact s) (by rw[M,awQ,U]) R;cases h
    ·rename_i v F;(try rw[F]);exact h
    cases h
   cases Q
  cases Q
 |n+1,.loop al ks x0 t,ρ,rs,X,W,V,o,h,Z,U,R=>by
  simp only[exec] at h;simp only[T.eG,awF] at Z;simp only[run,Z.1,if_true];obtain⟨e1,N,M⟩:=Al (ρ:=ρ) (FQ (ρ:=ρ) (β:=[]) Z.1).2;exact px n t _ _ ((al,ks)::X) _ _ o h (by rw[e1,N];exact Z.2) (by rw[M,awQ,U]) (wh.cons _ _ _ _ _ _ _ _ U Z.2 R)
 |n+1,.back al x,ρ,rs,X,W,V,o,h,Z,U,R=>by
  simp only[exec] at h;simp only[T.eG] at Z;split at h;rename_i fr af hf;split at Z;rename_i ks hk;obtain⟨P,ag,a0,q1,A,z,q4⟩:=R.find hk hf;simp only[run,q1,Z,if_true];obtain⟨e1,N,M⟩:=Al (ρ:=fr.ρ) (FQ (ρ:=ρ) (β:=[]) Z).2;exact px n fr.t _ _ ((fr.al,ks)::ag) (fr::af) _ o h (by rw[e1,N];exact z) (by rw[M,awQ,A]) (wh.cons _ _ _ _ _ _ _ _ A z q4);cases Z;cases h
 |n+1,.new e x P a1 t,ρ,rs,X,W,V,o,h,Z,U,R=>by
  simp only[exec] at h;simp only[T.eG,awF] at Z;simp only[run,Z.1,if_true];exact px n t _ _ X W V o h (by simpa[aa.add] using Z.2) (by simp[aa.add,U]) R
 |n+1,.rows k x P t,ρ,rs,X,W,V,o,h,Z,U,R=>by
  simp only[exec] at h;simp only[T.eG,awF] at Z;simp only[run,Z.1,if_true];exact px n t _ _ X W V o h (by simpa[aa.add] using Z.2) (by simp[aa.add,U]) R
 |n+1,.eC g h' t f,ρ,rs,X,W,V,o,h,Z,U,R=>by
  simp only[exec] at h;simp only[T.eG,awF] at Z;simp only[run];have y:=λq=>px n t ρ rs X W V o q Z.1 U R
  have w:=λq=>px n f ρ rs X W V o q Z.2 U R
  split at h;rename_i E;rw[if_pos E];split at h;rename_i L;rw[if_pos L];exact aet h y w;rename_i L;rw[if_neg L];exact y h;rename_i E;rw[if_neg E];split at h;rename_i L;rw[if_pos L];exact w h;cases h
 |n+1,.pick m g h' t f,ρ,rs,X,W,V,o,h,Z,U,R=>by
  simp only[exec] at h;simp only[T.eG,awF] at Z;simp only[run];refine aeu h λj _ q=> ?_
  cases j with
  |some j=>exact px n t (ρ.add (.i j)) rs X W V o q (by simpa[aa.add] using Z.1) (by simpa[aa.add] using U) R
  |none=>exact px n f ρ rs X W V o q Z.2 U R
 |n+1,.dl f g e sp sb r P t,ρ,rs,X,W,V,o,h,Z,U,R=>by
  simp only[exec] at h;simp only[T.eG,awF] at Z;simp only[run,Z.1.1,Z.1.2,axZ,if_true];split at h
  ·rename_i rows an
   try rw[an]
   exact px n t _ _ X W V o h (by simpa[aa.add] using Z.2) (by simp[aa.add,U]) R
  cases h
def qE(aP:kD)(t:T)(ρ:aa)(Z:List Lp)(o:aV):Prop:=∃n,exec aP n t ρ Z=some o
def FT{aP:kD}{t:T}{ρ:aa}{Z:List Lp}{o:aV}:qE aP t ρ Z o<->∃n,exec aP (n+1) t ρ Z=some o:=
 ⟨λ⟨n,h⟩=>by
  cases n with
  |zero=>simp[exec] at h
  |succ n=>exact⟨n,h⟩,λ⟨n,h⟩=>⟨n+1,h⟩⟩
@[simp] def avY {v:SV} {bx:aX} {rs:List RK} {ρ:aa} {Z:List Lp} {o:aV}:qE aP (.ret v bx rs) ρ Z o<->o=.ret ((sf v).map (SV.xv ρ)):=by
 rw[FT];simp only[exec,awJ];exact⟨λ⟨_,h⟩=>h.symm,λh=>⟨0,h.symm⟩⟩
@[simp] def avZ {v:SV} {ρ:aa} {Z:List Lp} {o:aV}:qE aP (.aS v) ρ Z o<->(CM ρ v).map .aS=some o:=by
 rw[FT];simp only[exec];exact⟨λ⟨_,h⟩=>h,λh=>⟨0,h⟩⟩
@[simp] def av0 {b:BE} {t f:T} {ρ:aa} {Z:List Lp} {o:aV}:qE aP (.node b t f) ρ Z o<->if b.den ρ=true then qE aP t ρ Z o else qE aP f ρ Z o:=by
 rw[FT];simp only[exec];split<;>rfl
@[simp] def av1 {b:BE} {t:T} {ρ:aa} {Z:List Lp} {o:aV}:qE aP (.az b t) ρ Z o<->b.den ρ=true/\qE aP t ρ Z o:=by
 rw[FT];simp only[exec];by_cases X:b.den ρ=true;simp only[X,if_true,true_and];rfl;simp[X]
@[simp] def av2 {al:Nat} {ks:List LK} {Z:List SV} {t:T} {ρ:aa} {X:List Lp} {o:aV}:qE aP (.loop al ks Z t) ρ X o<->qE aP t (ρ.ext (Z.map (SV.xv ρ))) (⟨al,t,ρ⟩::X) o:=by
 rw[FT];simp only[exec];rfl
@[simp] def av3 {e:TypeId} {x:LE} {rs X:List RK} {t:T} {ρ:aa} {Z:List Lp} {o:aV}:qE aP (.new e x rs X t) ρ Z o<->qE aP t (ρ.add (.r (fb x ρ))) Z o:=by
 rw[FT];simp only[exec];rfl
end
end
section
structure nE(P:Program)(g:FuncId)(eT:TypeId):Prop where
 Ab:∀args W,(callFunc g args).run P W=.ok (.enter g args) W
 ret:∀(W:World)(b:Nat),CallsDIn Fence.wide 0 P g #[.pointer (some ⟨b,0,none⟩)] .returning W λen u W'=>(∃v,en=.returned v)/\u=.returning/\W'=W
 aS:∀(W:World)(b:Nat)(k0 k:Int),W.heap[b]?=some (.cells #[.int .i64 k0] eT (0,0))->CallsDIn Fence.wide 0 P g #[.pointer (some ⟨b,0,none⟩)] (.panicking [{v:=.iface eT (.int .i64 k),recovered:=false}]) W λen u W'=>
  (∃v,en=.returned v)/\u=.panicking [{v:=.iface eT (.int .i64 k),recovered:=true}]/\W'=W.putObj b (.cells #[.int .i64 k] eT (0,0))
def aoZ{c:Code}{d:DI}(h:qj c=some d):∃R Q V Z X first U W,c=.seq (.region R d.ot false) (.seq (.region Q V false) d.rest)/\V= #[Z,X]/\Z.op=.makeFunc (.func d.g) first U/\first= #[]/\U= #[.tmp d.te]/\Z.dst=some d.tf/\Z.guard=none/\X.op=.defer W/\W.callee=.value (.tmp d.tf)/\W.args= #[]/\X.guard=none/\X.dst=none:=by
 unfold qj at h;split at h;rename_i R ot Q V rest;unfold abe at h;split at h;rename_i Z X O;split at h;rename_i g first U C W N M L J I H
 split at h;rename_i B A G F E D;split at h;rename_i P;simp only[beq_iff_eq] at P;subst P;cases h;exact⟨R,Q,V,Z,X,first,U,W,rfl,by apply axD;simp[O],N,by apply axD;simp[G],by apply axD;simp[F],M,L,J,E,by apply axD;simp[D],I,H⟩;cases h;cases h;cases h;cases h;cases h
section
variable{p:Sp}{cf:bc}
def ao0(M:jr p cf)(ag:∀C W,¬p.R (.panicked C) W){f:FuncId}{fn:Func}{c:Code}(hf:p.P.funcs[f]?=some fn)(hb:fn.body=some c){d:DI}(H:qj c=some d){m:TypeId}(bg:nE p.P d.g m)
  {n:Nat}{args:List SV}{s:S}{ρ:aa}{β:List Nat}{t:T}
  (ht:I2 cf n f c fn.ntmps fn.results.toList m args s=t)(X:t.aD p ρ [])(r:dA cf.gl ρ)(R:ao p.S0 p.w0 bw.none cf.ty β ρ {s with tmps:=[]} ⟨#[],[]⟩ p.w0):
  Calls p.P f (SV.ap ρ β args).toArray p.w0 p.R:=by
 subst ht;unfold I2 at X;rw[H] at X;simp only at X;obtain⟨i0,i1,cv,L,J,first,cx,dc,hc,ho,g1,g2,g3,g4,g5,g6,g7,g8,g9,bk⟩:=aoZ H;subst ho g2 g3;refine JE hf hb ?_;rw[hc];obtain⟨B,j⟩:∃B:bw,B=⟨[],[],true,[]⟩:=⟨_,rfl⟩;have br:cF p.w0 B s.pd ρ.y [] p.w0:=by
  subst j;have h:=R.bT;exact⟨h.len,h.ov,h.cC,h.inj,[],rfl,λ_=>rfl,by simp,λd H=>by simp at H⟩
 have RE:=R.enter args fn.ntmps br;obtain⟨Rr,an⟩:=RE.room (jI d.ot.toList);refine UI (ym (n:=0) (wpIn_region ?_));have hY:=CJ (p:=p) (cf:=cf) B.cC ⟨{s with tmps:=args++awS (fn.ntmps-args.length) (.bj [])},ρ,β,[]⟩;have key:=xZ (ops:=d.ot) M.pt M.B8 (yk none) M.jt (NH M (NR M n).1 hY) (D:=B) (k:=Th cf n f d m s.boxes.length fn.results.toList) (kp:=λ_ _=>.stuck "") (Q:=Exit.then (λa' W'=>gQ none f p.P (.seq (.region i1 #[L,J] false) d.rest) (bodyPostM Fence.wide 0 p.P fn p.R) a' W') (bodyPostM Fence.wide 0 p.P fn p.R)) (λC a' W' pd y hA b=>(ag C W' b).elim) (n:=0) (ek (λ_=>false) true false 0 s.boxes.length d.ot.toList) 0 _ [] [] ρ _ _ p.w0
  (λi m' hi=>by have:=JI _ _ _ _ _ _ _ _ hi;simpa using this) ((jq.here _ _ _ _).go an (bU.refl _ _)) X (λx hx=>by cases hx) Rr r ?_ (λv s' ρ' q a' W' a hl hL R' bs=>bs.elim)
 rw[UN] at key;simpa[ayv] using key;intro G ρ1 β1 U O L1 cj cy A F;show gQ none f p.P (.seq (.region i1 #[L,J] false) d.rest) (bodyPostM Fence.wide 0 p.P fn p.R) U O;unfold Th at F;split at F;rename_i Z bx;split at F;rename_i a0;simp only[awF,awY,decide_eq_true_eq] at a0;obtain⟨⟨a2,b0⟩,b1⟩:=a0;have b2:U.tmps[d.te]?=some (.pointer (some ⟨ad β1 Z,0,none⟩)):=by
  rcases A.tmps _ _ bx with h|h;cases h;exact h
 have b3:U.defers=[]:=by
  have h:=A.bT;rw[j] at h;obtain⟨ms,z,q0,-,-⟩:=h.j6;have:=q0 rfl;subst this;simpa using z
 have b4:(SV.fn d.g [.loc Z 0]).den ρ1 β1=.func (.func d.g) #[] #[.pointer (some ⟨ad β1 Z,0,none⟩)]:=by simp[SV.den,SV.ap]
 have N:=A.put (some d.tf) (.fn d.g [.loc Z 0]);rw[b4] at N;obtain⟨V,o⟩:∃V:Deferred,V={target:=.fn (.func d.g) #[.pointer (some ⟨ad β1 Z,0,none⟩)],args:= #[]}:=⟨_,rfl⟩;have b5:cF p.w0 ⟨[],[],false,[V]⟩ G.pd ρ1.y [V] O:=by
  have h:=A.bT;rw[j] at h;exact⟨h.len,h.ov,h.cC,h.inj,[],rfl,λ_=>rfl,by simp,λd H=>by simp at H⟩
 have cI:(G.put (some d.tf) (.fn d.g [.loc Z 0])).pd=G.pd:=rfl;have R2:ao p.S0 p.w0 ⟨[],[],false,[V]⟩ cf.ty β1 ρ1 (G.put (some d.tf) (.fn d.g [.loc Z 0])) {U.put (some d.tf) (.func (.func d.g) #[] #[.pointer (some ⟨ad β1 Z,0,none⟩)]) with defers:=[V]} O:=
  ⟨N.mem,N.dX,N.ei,N.eb,N.er,b5,N.size,N.tmps,N.cO⟩
 refine UI (ym (n:=0) (wpIn_region ?_));have b6:aw3 (#[L,J]:Array Oper).size=[0,1]:=rfl;rw[b6];have e1:(execOp U.eval L).run p.P O=.ok (.value (.func (.func d.g) #[] #[.pointer (some ⟨ad β1 Z,0,none⟩)])) O:=by
  have:U.eval (.tmp d.te)=.pointer (some ⟨ad β1 Z,0,none⟩):=by simp[Act.eval,azw,b2]
  simp[execOp,g1,this,Instr.makeFunc]
 have e2:(execOp (U.put (some d.tf) (.func (.func d.g) #[] #[.pointer (some ⟨ad β1 Z,0,none⟩)])).eval J).run p.P O=.ok (.defer V) O:=by
  have b7:d.tf<U.tmps.size:=by rw[A.size];exact b1
  have:(U.put (some d.tf) (.func (.func d.g) #[] #[.pointer (some ⟨ad β1 Z,0,none⟩)])).eval (.tmp d.tf)=.func (.func d.g) #[] #[.pointer (some ⟨ad β1 Z,0,none⟩)]:=by
   simp[Act.eval,Act.put,azw,b7]
  simp[execOp,g6,resolve,g7,g8,this,Deferred.ofValue,o]
 have b8:Region.wanted L (yielded #[L,J] U.tmps)=true:=by simp[Region.wanted,g5]
 have ca:∀y,Region.wanted J y=true:=λy=>by simp[Region.wanted,g9]
 have cc:∀c',L.op≠ .defer c':=λc' a3=>by rw[g1] at a3;cases a3
 have hF:=yk none;show wpOpsIn _ 0 p.P #[L,J] _ [0,1] U O;simp only[wpOpsIn,azg,axz,axh,b8,ca,if_true];refine⟨λf _=>hF.fn f, ?_⟩;rw[Oper.semAt_eq _ _ _ cc,e1,Oper.uponIn_value,g4];refine⟨λf _=>hF.fn f, ?_⟩;rw[show(NC none).round=none from rfl,Oper.semAt_none,e2,Oper.uponIn_defer];have cl:({(U.put (some d.tf) (.func (.func d.g) #[] #[.pointer (some ⟨ad β1 Z,0,none⟩)])) with defers:=V::(U.put (some d.tf) (.func (.func d.g) #[] #[.pointer (some ⟨ad β1 Z,0,none⟩)])).defers}:Act).put J.dst undef={U.put (some d.tf) (.func (.func d.g) #[] #[.pointer (some ⟨ad β1 Z,0,none⟩)]) with defers:=[V]}:=by
  rw[bk];have:(U.put (some d.tf) (.func (.func d.g) #[] #[.pointer (some ⟨ad β1 Z,0,none⟩)])).defers=[]:=b3;rw[this];rfl
 rw[cl];show gQ none f p.P d.rest (bodyPostM Fence.wide 0 p.P fn p.R) _ O;have cp:(jq.mk (G.put (some d.tf) (.fn d.g [.loc Z 0])) ρ1 β1 L1).nA (G.put (some d.tf) (.fn d.g [.loc Z 0])) ρ1 β1 L1:=jq.here _ _ _ _;refine(NR M n).1 ⟨[],[],false,[V]⟩ _ fK none f d.rest _ _ L1 ρ1 β1 _ O _ (CJ _ _) cp rfl (λhh=>by cases hh) ⟨fn,hf⟩ F R2 ((r.ext an.ext).ext cj.ext) (λC a' W' pd y hA b=>(ag C W' b).elim) ?_;intro e s' ρ' q a' W' a hl hL RR X;obtain⟨a4,z,q0,q2,q3⟩:=RR.bT.j6;have R3:=RR.nC z;have c0:({a' with defers:=[V]}:Act)={a' with defers:=[V]}:=rfl;have a5:∀d0∈a4,W'.heap[d0]?=some (.deferred (some [])):=λd0 cs=>(q3 d0 (by simp[cs])).1
 have a6:a4.Nodup:=(axF.1 q2).1;have a7:ad q Z=ad β1 Z:=hl.ext.ad Z b0;have a8:∀I,(invoke V.target V.args).run p.P I=.ok (.enter d.g #[.pointer (some ⟨ad β1 Z,0,none⟩)]) I:=λI=>by
  rw[o];simp[invoke,bg.Ab]
 have a9:∀s2:S,∀I,ao p.S0 p.w0 ⟨[],[],false,[V]⟩ cf.ty q ρ' s2 {a' with defers:=[V]} I->(EU cf s.boxes.length fn.results.toList s2).aD p ρ' a->LeavesInM Fence.wide 0 p.P fn a'.tmps p.R [] .returning I:=by
  intro s2 I w E;unfold EU at E;split at E;rename_i l ct;refine⟨_,Js w M.jt ct, ?_⟩;exact E ρ'.y q _ (by rw[M.pt];exact(w.mem.take _).j9 (NM _));exact E.elim
 have bb:(EU cf s.boxes.length fn.results.toList s').aD p ρ' a->LeavesInM Fence.wide 0 p.P fn a'.tmps p.R a'.defers .returning W':=by
  intro E;rw[z];refine po (by simp) a6 a5 ⟨by simp,.inr ⟨by simp[Fence.wide],_,_,_,_,by rw[o],a8 _,λg r=>trivial, ?_⟩⟩;refine(bg.ret _ _).mono ?_;rintro en u W4 ⟨⟨v,rfl⟩,rfl,rfl⟩;exact a9 s' _ R3 E
 cases e with
 |normal=>exact bb X
 |ret=>exact bb X
 |exit id=>exact X.elim
 |aS v=>
  simp only[Tg] at X;split at X;rename_i tt x;split at X;rename_i bt y bd;split at X;rename_i bf;simp only[awF,beq_iff_eq] at bf;obtain⟨rfl,rfl⟩:=bf;have af:=R3.mem.box Z bt _ bd;rw[qo a2] at af;rw[a7] at af;show LeavesInM Fence.wide 0 p.P fn a'.tmps p.R a'.defers (.panicking _) W';rw[z];refine po (by simp) a6 a5 ⟨by simp,.inr ⟨by simp[Fence.wide],_,_,_,_,by rw[o],a8 _,λg r=>trivial, ?_⟩⟩;refine(bg.aS _ (ad β1 Z) (y.den ρ') (x.den ρ') af).mono ?_;rintro en u W4 ⟨⟨v,rfl⟩,rfl,rfl⟩;have w:=R3.ab5 (cs':=[.int .i64 x]) bd;rw[qo a2,a7] at w;exact a9 _ _ w X;exact X.elim;exact X.elim;exact X.elim
 exact F.elim;exact F.elim
end
end
section
section
variable{P:Program}{ty:Ty}{I J:FuncId->Option (List TypeId)}{aP:kD}{G:World->Prop}{H ps:List TypeId}{O u:List LK}
structure JZ(ty:Ty)(gl:List (Nat×Nat×Nat))(glk:List RK)(glv:List RV)(W:World)(glw:List RV):Prop where
 len:glv.length=glw.length
 eq:∀(k:Nat)(v v':RV),glv[k]?=some v->glw[k]?=some v'->bQ v v'
 held:∀(k:Nat)(e:RK)(rv:RV),glk[k]?=some e->glw[k]?=some rv->aT W ty e rv
 aeI:∀xs,dA gl (dY glw xs)
def aeJ{cf:bc}{glk:List RK}{glv:List RV}{args l:List SV}{t:T}{ni nb:Nat}{rs:List RK}
  (z:cf.ty=ty)(x:∀f,CS P ty I J G f (aP f))(w:∀W W',Below W.heap.size W W'->G W->G W')(s:eZ ty H=some O)
  (B:gG ty ps args=some l)(p:oF 0 0 glv.length u l=true)(aM:rs=glk++gk u)(n:∀(k:Nat)(t:TypeId),rs[k]?≠some (.own t))(m:glv.length=glk.length)(Q:glv=[]\/qD O=true)
  (g:∀Z xs,cR u xs->(dY Z xs).i.length=ni)(d:∀Z xs,cR u xs->(dY Z xs).b.length=nb)
  {W:World}(c:G W){Z:List RV}(V:JZ ty cf.gl glk glv W Z){E xs:List XV}{o:aV}{N:Nat}(a:run ty I J aP H N t (dY glv E) rs []=some o)(hx:wa E xs)(U:cR u xs)(hH:um ty W u xs):
  t.aD (JU P ty W H O u xs o) (dY Z xs) []/\SV.ap (dY Z xs) [] args=qB ty ps (lL u xs)/\ao [] W bw.none cf.ty [] (dY Z xs) ⟨[],[],ni,nb,rs,0,0,[]⟩ ⟨#[],[]⟩ W:=by
 have F:Z.length=glk.length:=by rw[<-V.len];exact m
 have hv:SV.ap (dY Z xs) [] args=qB ty ps (lL u xs):=by
  rw[NZ B,dY,JQ (by rw[<-V.len];exact p) U rfl rfl rfl]
 have A:(dY Z xs).r.length=rs.length:=by rw[aM];exact JS U F
 have hS:jw (dY glv E) (dY Z xs):=jw.ext ⟨rfl,rfl,V.len,λk v v' D C=>V.eq k v v' D C⟩ hx;have af:t.aD (JU P ty W H O u xs o) (dY Z xs) []:=by
  refine aoV (old:=λb=>ul ty u xs b\/Z≠[]) x w c s (λys b R M=> ?_) N t _ _ rs [] [] a hS A ?_ (qC.nil _);rcases M with M|M;exact M;rcases Q with Q|Q;subst Q;have:Z=[]:=axp.1 (by rw[<-V.len];rfl);exact absurd this M;exact(aeF Q R).elim;rw[aM];refine CR.ext (λb R=> ?_) U F (λb R=>.inr (.inl R));obtain⟨k,e,hk,B⟩:=R;refine .inr (.inr (λhe=> ?_));subst he;have:=(awG.1 hk).1;simp at F;omega
 have ag:∀(k:Nat)(e:RK)(rv:RV),rs[k]?=some e->(dY Z xs).r[k]?=some rv->aT W ty e rv:=by
  intro k e rv D C;have:=CD (PP:=λe rv=>aT W ty e rv) u xs ⟨[],[],0,0,glk,0,0,[]⟩ ⟨[],[],Z,[]⟩ U F (λq e rv X L=>hH q e rv X L) (λk e rv X L=>V.held k e rv X L);rw[N3] at this;exact this k e rv (by rw[<-aM];exact D) C
 exact⟨af,hv,⟨⟨bS.refl _ _,λi h=>by simp[aA,bP] at h,λi j h=>by simp[aA,bP] at h,λi t cs h=>by simp[bP] at h,λk e rv X L=>⟨by rw[z];exact ag k e rv X L,λb R i hi=>by simp[aA,bP] at hi⟩⟩,rfl,g _ xs U,d _ xs U,A,by rw[show(dY Z xs).y=[] from Fm xs _];exact N0 _ _,rfl,λt sv h=>by simp at h,λk e rv b X=>absurd X (n k e)⟩⟩
def ao1{cf:bc}{f:FuncId}{fn:Func}{c:Code}{F:List XV->Option aV}{glk:List RK}{glv:List RV}{n:Nat}{args l:List SV}{t:T}{ni nb:Nat}{rs:List RK}
  (A:∀w R,(∀X W b o,w.heap.size<=b->R (.panicked X) W->R (.panicked X) (W.putObj b o))->jr ⟨P,ty,[],w,bw.none,R,λ_ _ _=>False⟩ cf)(z:cf.ty=ty)(y:∀f,CS P ty I J G f (aP f))(x:∀W W',Below W.heap.size W W'->G W->G W')
  (v:P.funcs[f]?=some fn)(s:fn.body=some c)(r:I f=some ps)(q:J f=some H)(m:eZ ty ps=some u)(V:eZ ty H=some O)
  (j:gG ty ps args=some l)(h:oF 0 0 glv.length u l=true)(aM:rs=glk++gk u)(g:∀(k:Nat)(t:TypeId),rs[k]?≠some (.own t))(e:glv.length=glk.length)(d:glv=[]\/qD O=true)
  (a:∀Z xs,cR u xs->(dY Z xs).i.length=ni)(af:∀Z xs,cR u xs->(dY Z xs).b.length=nb)
  (ag:∀W,G W->∃Z,JZ ty cf.gl glk glv W Z)
  (ht:I1 cf n f c fn.ntmps fn.results.toList args ⟨[],[],ni,nb,rs,0,0,[]⟩=t)
  (hF:∀xs o,cR u xs->F xs=some o->∃N,run ty I J aP H N t (dY glv xs) rs []=some o):CS P ty I J G f F:=by
 intro a0 a1 a2 a3 U Q M L xh xs o ho E D W C hH;rw[r] at U;cases U;rw[q] at Q;cases Q;rw[m] at M;cases M;rw[V] at L;cases L;obtain⟨N,hN⟩:=hF xh o (Vk D E) ho;obtain⟨Z,B⟩:=ag W C;obtain⟨an,hv,hR⟩:=aeJ z y x V j h aM g e d a af C B hN E D hH;rw[<-hv];exact ad6 (p:=JU P ty W H O u xs o) (cf:=cf) (A W _ (aeD W)) v s ht an (B.aeI xs) hR
def ao2{cf:bc}{f:FuncId}{fn:Func}{c:Code}{F:List XV->Option aV}{glk:List RK}{glv:List RV}{n:Nat}{args l:List SV}{t:T}{ni nb:Nat}{rs:List RK}{d:DI}{U:TypeId}
  (s:∀w R,(∀X W b o,w.heap.size<=b->R (.panicked X) W->R (.panicked X) (W.putObj b o))->jr ⟨P,ty,[],w,bw.none,R,λ_ _ _=>False⟩ cf)(r:cf.ty=ty)(q:∀f,CS P ty I J G f (aP f))(m:∀W W',Below W.heap.size W W'->G W->G W')
  (j:P.funcs[f]?=some fn)(h:fn.body=some c)(e:qj c=some d)(bg:nE P d.g U)(a:I f=some ps)(af:J f=some H)(ag:eZ ty ps=some u)(Q:eZ ty H=some O)
  (hl:gG ty ps args=some l)(an:oF 0 0 glv.length u l=true)(aM:rs=glk++gk u)(a0:∀(k:Nat)(t:TypeId),rs[k]?≠some (.own t))(a1:glv.length=glk.length)(hq:glv=[]\/qD O=true)
  (a2:∀Z xs,cR u xs->(dY Z xs).i.length=ni)(a3:∀Z xs,cR u xs->(dY Z xs).b.length=nb)
  (a4:∀W,G W->∃Z,JZ ty cf.gl glk glv W Z)
  (ht:I2 cf n f c fn.ntmps fn.results.toList U args ⟨[],[],ni,nb,rs,0,0,[]⟩=t)(a5:∀xs v,F xs≠some (.aS v))
  (hF:∀xs o,cR u xs->F xs=some o->∃N,run ty I J aP H N t (dY glv xs) rs []=some o):CS P ty I J G f F:=by
 intro a7 a8 a9 bb M L E D C xs o B A z W y hH;rw[a] at M;cases M;rw[af] at L;cases L;rw[ag] at E;cases E;rw[Q] at D;cases D;obtain⟨N,hN⟩:=hF C o (Vk z A) B;obtain⟨Z,x⟩:=a4 W y;obtain⟨a6,hv,V⟩:=aeJ r q m Q hl an aM a0 a1 hq a2 a3 y x hN A z hH;rw[<-hv];refine ao0 (p:=JU P ty W H O u xs o) (cf:=cf) (s W _ (aeD W)) (λX W' V=> ?_) j h e bg ht a6 (x.aeI xs) V;obtain⟨-,v,h5,-⟩:=V;exact a5 C v (by rw[B,h5])
end
end
def aeK:Op->Bool
 |.move _|.assign _|.fieldAddr _ _ _|.field _ _ _|.load _ _|.indexAddr _ _ _|.build _ _|.index _ _ _|.unOp _ _ _|.convert _ _ _|.makeInterface _ _|.makeFunc _ _ _|.extract _ _|.nilCheck _|.alloc _|.box _ _|.pick _ _ _=>true
 |.binOp op _ _ _ _=>match op with
  |.eql|.neq=>false
  |_=>true
 |_=>false
def Vn(cf:bc)(m:OM)(s:S):Bool:=(xE cf m s).isSome
def ao3{cf:bc}{m:OM}{s:S}(h:Vn cf m s=false):xE cf m s=none:=by
 simpa[Vn] using h
def N4(cf:bc)(W:og)(m:OM)(s:S)(Z:S->Fx->T)(kp:SV->S->T)(X:Fx):T:=
 if aeK m.o.op then match dR cf m s with
  |.ok s'=>Z s' X
  |.az b s'=>.az b (Z s' X)
  |.split b V U=>xD s X b (Z V) (Z U)
  |.no R=>.stuck R
 else if Vn cf m s then vI cf W m s Z kp X else match vH cf m s with
 |some (e,ks,vs,args)=>zL e (λg Q=>W (.fn g) (args++Q) s (λv s'=>Z (s'.put m.o.dst v) (lB s X)) kp) ks vs
 |none=>
 match cV cf s m.o with
 |.call (.fn g) args=>W (.fn g) args s (λv s'=>Z (s'.put m.o.dst v) (lB s X)) kp
 |.call (.yl n) args=>if m.so then W (.yl n) args s (λv s'=>Z (s'.put m.o.dst v) (lB s X)) kp else .stuck ""
 |.aS v=>kp v s
 |.no=>.stuck ""
 |.op=>match vG cf m s Z X with
  |some t=>t
  |none=>match cK cf m.o m.aY m.dr s with
  |some b=>.az b.az (.new b.e b.x s.rs b.s.rs (Z b.s (lB s X)))
  |none=>match dR cf m s with
  |.ok s'=>Z s' X
  |.az b s'=>.az b (Z s' X)
  |.split b V U=>xD s X b (Z V) (Z U)
  |.no R=>.stuck R
def ao4(cf:bc)(W:og)(m:OM)(s:S)(V:S->Fx->T)(kp:SV->S->T)(U:Fx):N4 cf W m s V kp U=vI cf W m s V kp U:=by
 unfold N4;split;rename_i Z;unfold vI;cases X:m.o.op<;>rw[X] at Z<;>simp only[aeK,aw0] at Z<;>try(simp[vH,xE,cV,vG,cK,X]<;>rfl)
 rename_i op t x y z;cases op<;>simp only[aw0] at Z<;>(simp[vH,xE,cV,vG,cK,X]<;>rfl);split;rfl;rename_i R;unfold vI;rw[ao3 (by simpa using R)];cases vH cf m s<;>rfl
def OM.up(n:Nat)(m:OM):OM:={m with ix:=m.ix+n}
def N5(aY:Nat->Bool)(so Z:Bool)(k:Nat):∀(l:List Oper)(j n:Nat),ek aY so Z j (n+k) l=(ek aY so Z j n l).map (OM.up k)
 |[],_,_=>rfl
 |o::r,j,n=>by
  simp only[ek,awT];congr 1;rw[<-N5 aY so Z k r];congr 1;split<;>omega
def ao5(k:Nat)(l:List OM)(Z:List Nat):EF (l.map (OM.up k)) Z=(EF l Z).map (OM.up k):=by
 simp only[EF,List.map_filterMap,awL]
def Vo(k:Nat)(Z:List Nat):∀l:List OM,vN Z (l.map (OM.up k))=vN Z l
 |[]=>rfl
 |x::r=>by simp only[awT,vN,Vo k Z r,ayT];rfl
def aeL(k:Nat)(Z:List Nat):∀(l X:List OM),pg Z (X.map (OM.up k)) (l.map (OM.up k))=(pg Z X l).map (OM.up k)
 |[],_=>rfl
 |m::r,X=>by
  simp only[awT,pg];congr 1;have h:=Vo k Z (m::r);simp only[awT] at h;rw[h,ayT];rfl;rw[<-aeL k Z r (X++[m]),ayq];rfl
def aeM(k:Nat)(ops:Array Oper):∀(l:List OM)(done:List Nat),zO ops done (l.map (OM.up k))=zO ops done l
 |[],_=>rfl
 |x::r,done=>by simp only[awT,zO,aeM k ops r];rfl
def ao6(k a b:Nat):(a+k !=b+k)=(a !=b):=by
 rw[axO];simp
def ao7(k:Nat)(ops:Array Oper)(x y:OM):pf ops (OM.up k x) (OM.up k y)=pf ops x y:=by
 have h:((OM.up k x).ix !=(OM.up k y).ix)=(x.ix !=y.ix):=ao6 k _ _;unfold pf EE IN;rw[h];rfl
def aeN(k:Nat)(ops:Array Oper)(Z:List Nat):∀l:List OM,zN ops Z (l.map (OM.up k))=zN ops Z l
 |[]=>rfl
 |x::r=>by
  simp only[awT,zN,aeN k ops Z r,ayT];congr 2;funext y;simp only[Function.comp,ao7];rfl
def aeO(k:Nat):∀l:List Nat,jJ (l.map (· +k))=jJ l
 |[]=>rfl
 |x::r=>by
  simp only[awT,jJ,aeO k r];congr 2;rw[axO];simp
def lM(ops:Array Oper)(n:Nat):List OM:=pg (lC ops.toList) [] (EF (ek (IQ ops.toList (lC ops.toList)) false true 0 n ops.toList) (IP ops.toList ops.size []))
def ao8(ops:Array Oper)(n:Nat):lM ops n=(lM ops 0).map (OM.up n):=by
 unfold lM;rw[show ek (IQ ops.toList (lC ops.toList)) false true 0 n ops.toList=(ek (IQ ops.toList (lC ops.toList)) false true 0 0 ops.toList).map (OM.up n) by rw[<-N5];simp,ao5,<-aeL];rfl
def Vp(ops:Array Oper)(n:Nat):Option (List OM):=match EG ops 0 with
 |some l=>some (l.map (OM.up n))
 |none=>none
def aeP(ops:Array Oper)(n:Nat):EG ops n=if My ops.toList (lC ops.toList)&&zO ops [] (lM ops n)&&zN ops (lC ops.toList) (lM ops n)&&jJ ((lM ops n).filterMap (·.o.dst))&&jJ ((lM ops n).map (·.j))&&jJ (((lM ops n).filter λm=>dW m.o.op).map (·.ix))&&(lM ops n).length==ops.size&&(aw3 ops.size).all (λi=>(lM ops n).any λm=>m.j==i) then some (lM ops n) else none:=rfl
def ao9(ops:Array Oper)(n:Nat):Vp ops n=EG ops n:=by
 unfold Vp;rw[aeP ops n,aeP ops 0,ao8 ops n,aeM,aeN];have X:((lM ops 0).map (OM.up n)).filterMap (·.o.dst)=(lM ops 0).filterMap (·.o.dst):=by rw[aAi];rfl
 have W:((lM ops 0).map (OM.up n)).map (·.j)=(lM ops 0).map (·.j):=by rw[axu];rfl
 have V:(((lM ops 0).map (OM.up n)).filter λm=>dW m.o.op).map (·.ix)=(((lM ops 0).filter λm=>dW m.o.op).map (·.ix)).map (· +n):=by rw[azO,axu,axu];rfl
 have U:∀i,(((lM ops 0).map (OM.up n)).any λm=>m.j==i)=((lM ops 0).any λm=>m.j==i):=λi=>by rw[azH];rfl
 rw[X,W,V,aeO,axB];simp only[U];split;rename_i l h;split at h;rename_i Z;cases h;rw[if_pos Z];cases h;rename_i h;split at h;cases h;rename_i Z;rw[if_neg Z]
def aeQ(so:Bool)(ops:Array Oper)(n:Nat):xK so ops n=(xK so ops 0).map (OM.up n)/\xL so ops n=(xL so ops 0).map (OM.up n):=by
 unfold xK xL;rw[show ek (λ_=>false) false true 0 n ops.toList=(ek (λ_=>false) false true 0 0 ops.toList).map (OM.up n) by rw[<-N5];simp,azO,azO];exact⟨rfl,rfl⟩
def apa(so:Bool)(ops:Array Oper)(n:Nat):EO so ops n=EO so ops 0:=by
 unfold EO;obtain⟨Z,X⟩:=aeQ so ops n;rw[Z,X,show ek (λ_=>false) false true 0 n ops.toList=(ek (λ_=>false) false true 0 0 ops.toList).map (OM.up n) by rw[<-N5];simp];unfold Tb;rw[<-ayq];have e1:∀l:List OM,(l.map (OM.up n)).filterMap (·.o.dst)=l.filterMap (·.o.dst):=λl=>by rw[aAi];rfl
 have W:∀l:List OM,(l.map (OM.up n)).map (·.j)=l.map (·.j):=λl=>by rw[axu];rfl
 rw[e1,W,axB];simp only[ayT,azH,Function.comp_def];rfl
def N6(cf:bc)(so:Bool)(ops:Array Oper)(s:S):Option IS:=
 if(!so||(Ta cf s ops.toList||(cf.mc&&ops.toList.any λo=>aba o.op))&&vN (lC ops.toList) (xL so ops 0))&&EO so ops 0 then(zS cf ((xK so ops 0).map (OM.up s.boxes.length)) (s.room (jI ops.toList))).bind (Tc cf ((xK so ops 0).map (OM.up s.boxes.length)) ((xL so ops 0).map (OM.up s.boxes.length))) else none
def apb(cf:bc)(so:Bool)(ops:Array Oper)(s:S):N6 cf so ops s=EP cf so ops s:=by
 unfold N6 EP;obtain⟨X,Z⟩:=aeQ so ops s.boxes.length;rw[<-X,<-Z,apa so ops s.boxes.length,Z,Vo]
def CU{α:Type}(l:List α):(List α->T)->T:=ayt (motive:=λ_=>(List α->T)->T) (λk=>k []) (λx _ Z k=>Z λxs=>k (x::xs)) l
def Vq{α:Type}:∀(l:List α)(k:List α->T),CU l k=k l
 |[],_=>rfl
 |x::xs,k=>Vq xs λxs=>k (x::xs)
def bu(n:Nat)(k:Nat->T):T:=azd (motive:=λ_=>T) (k 0) (λm _=>k (Nat.succ m)) n
def gT:∀(n:Nat)(k:Nat->T),bu n k=k n
 |0,_=>rfl
 |_+1,_=>rfl
def S.Vr(s:S)(k:S->T):T:=S.rec (motive:=λ_=>T) (λZ b ni nb rs al lk pd=>CU Z λZ=>CU b λb=>bu ni λni=>bu nb λnb=>CU rs λrs=>bu al λal=>bu lk λlk=>CU pd λpd=>k ⟨Z,b,ni,nb,rs,al,lk,pd⟩) s
def apc(s:S)(k:S->T):s.Vr k=k s:=by
 cases s;simp only[S.Vr,Vq,gT]
def J0{α:Type}(l:List α)(k:List α->T):T:=ayt (motive:=λ_=>T) (k []) (λx xs _=>k (x::xs)) l
def apd{α:Type}(l:List α)(k:List α->T):J0 l k=k l:=by cases l<;>rfl
def S.Vs(s:S)(k:S->T):T:=S.rec (motive:=λ_=>T) (λZ b ni nb rs al lk pd=>J0 Z λZ=>J0 b λb=>bu ni λni=>bu nb λnb=>J0 rs λrs=>bu al λal=>bu lk λlk=>J0 pd λpd=>k ⟨Z,b,ni,nb,rs,al,lk,pd⟩) s
def ape(s:S)(k:S->T):s.Vs k=k s:=by
 cases s;simp only[S.Vs,apd,gT]
def Am(cf:bc)(Z:og)(X:Array Oper)(k:S->T)(kp:SV->S->T):List OM->S->Fx->T
 |[],s,_=>k s
 |m::rest,s,W=>s.Vs λs=>Mt X m s W (N4 cf Z m s (Am cf Z X k kp rest) kp) (Am cf Z X k kp rest (s.put m.o.dst (.bj [])))
def N7(cf:bc)(Z:og)(X:Array Oper)(k:S->T)(kp:SV->S->T):∀(l:List OM),Am cf Z X k kp l=kw cf Z X k kp l
 |[]=>by funext s W;rfl
 |m::rest=>by
  funext s W;have:N4 cf Z m s (Am cf Z X k kp rest) kp=vI cf Z m s (kw cf Z X k kp rest) kp:=by
   funext W;rw[ao4,N7 cf Z X k kp rest]
  simp only[Am,kw,ape];rw[this,N7 cf Z X k kp rest]
def J1(n:Int)(k:Int->T):T:=Int.rec (motive:=λ_=>T) (λn=>bu n λn=>k (aAj n)) (λn=>bu n λn=>k (azS n)) n
def apf:∀(n:Int)(k:Int->T),J1 n k=k n
 |.ofNat n,k=>gT n λn=>k (aAj n)
 |.negSucc n,k=>gT n λn=>k (azS n)
def IE.deep(e:IE):(IE->T)->T:=IE.rec (motive_1:=λ_=>(IE->T)->T) (motive_2:=λ_=>(BE->T)->T) (motive_3:=λ_=>(RE->T)->T) (λn k=>J1 n λn=>k (.c n)) (λn k=>bu n λn=>k (.v n)) (λo q a b Z X k=>Z λa=>X λb=>k (.bin o q a b)) (λq a Z k=>Z λa=>k (.conv q a)) (λr W k=>W λr=>k (.len r)) (λm a b Z X k=>Z λa=>X λb=>k (.mm m a b)) (λb x y X ix R k=>X λb=>ix λx=>R λy=>k (.bY b x y)) (λr i j W V k=>W λr=>V λi=>bu j λj=>k (.cell r i j)) (λr i W V k=>W λr=>V λi=>k (.ku r i)) (λr n a b c j W Z X U k=>W λr=>Z λa=>X λb=>U λc=>bu n λn=>bu j λj=>k (.look r n a b c j)) (λb k=>k (.c b)) (λn k=>bu n λn=>k (.v n)) (λo a b Z X k=>Z λa=>X λb=>k (.cmp o a b)) (λa Z k=>Z λa=>k (.not a)) (λa b Z X k=>Z λa=>X λb=>k (.and a b)) (λa b Z X k=>Z λa=>X λb=>k (.beq a b)) (λb x y X ix R k=>X λb=>ix λx=>R λy=>k (.bY b x y)) (λr i j W V k=>W λr=>V λi=>bu j λj=>k (.cell r i j)) (λa b Z X k=>Z λa=>X λb=>k (.seq a b)) (λr n a b c j W Z X U k=>W λr=>Z λa=>X λb=>U λc=>bu n λn=>bu j λj=>k (.look r n a b c j)) (λr n a b c W Z X U k=>W λr=>Z λa=>X λb=>U λc=>bu n λn=>k (.has r n a b c)) (λn k=>bu n λn=>k (.v n)) (λr i j q W V k=>W λr=>V λi=>bu j λj=>k (.cell r i j q)) (λv k=>k (.k v)) e
def BE.deep(e:BE):(BE->T)->T:=BE.rec (motive_1:=λ_=>(IE->T)->T) (motive_2:=λ_=>(BE->T)->T) (motive_3:=λ_=>(RE->T)->T) (λn k=>J1 n λn=>k (.c n)) (λn k=>bu n λn=>k (.v n)) (λo q a b Z X k=>Z λa=>X λb=>k (.bin o q a b)) (λq a Z k=>Z λa=>k (.conv q a)) (λr W k=>W λr=>k (.len r)) (λm a b Z X k=>Z λa=>X λb=>k (.mm m a b)) (λb x y X ix R k=>X λb=>ix λx=>R λy=>k (.bY b x y)) (λr i j W V k=>W λr=>V λi=>bu j λj=>k (.cell r i j)) (λr i W V k=>W λr=>V λi=>k (.ku r i)) (λr n a b c j W Z X U k=>W λr=>Z λa=>X λb=>U λc=>bu n λn=>bu j λj=>k (.look r n a b c j)) (λb k=>k (.c b)) (λn k=>bu n λn=>k (.v n)) (λo a b Z X k=>Z λa=>X λb=>k (.cmp o a b)) (λa Z k=>Z λa=>k (.not a)) (λa b Z X k=>Z λa=>X λb=>k (.and a b)) (λa b Z X k=>Z λa=>X λb=>k (.beq a b)) (λb x y X ix R k=>X λb=>ix λx=>R λy=>k (.bY b x y)) (λr i j W V k=>W λr=>V λi=>bu j λj=>k (.cell r i j)) (λa b Z X k=>Z λa=>X λb=>k (.seq a b)) (λr n a b c j W Z X U k=>W λr=>Z λa=>X λb=>U λc=>bu n λn=>bu j λj=>k (.look r n a b c j)) (λr n a b c W Z X U k=>W λr=>Z λa=>X λb=>U λc=>bu n λn=>k (.has r n a b c)) (λn k=>bu n λn=>k (.v n)) (λr i j q W V k=>W λr=>V λi=>bu j λj=>k (.cell r i j q)) (λv k=>k (.k v)) e
def RE.deep(e:RE):(RE->T)->T:=RE.rec (motive_1:=λ_=>(IE->T)->T) (motive_2:=λ_=>(BE->T)->T) (motive_3:=λ_=>(RE->T)->T) (λn k=>J1 n λn=>k (.c n)) (λn k=>bu n λn=>k (.v n)) (λo q a b Z X k=>Z λa=>X λb=>k (.bin o q a b)) (λq a Z k=>Z λa=>k (.conv q a)) (λr W k=>W λr=>k (.len r)) (λm a b Z X k=>Z λa=>X λb=>k (.mm m a b)) (λb x y X ix R k=>X λb=>ix λx=>R λy=>k (.bY b x y)) (λr i j W V k=>W λr=>V λi=>bu j λj=>k (.cell r i j)) (λr i W V k=>W λr=>V λi=>k (.ku r i)) (λr n a b c j W Z X U k=>W λr=>Z λa=>X λb=>U λc=>bu n λn=>bu j λj=>k (.look r n a b c j)) (λb k=>k (.c b)) (λn k=>bu n λn=>k (.v n)) (λo a b Z X k=>Z λa=>X λb=>k (.cmp o a b)) (λa Z k=>Z λa=>k (.not a)) (λa b Z X k=>Z λa=>X λb=>k (.and a b)) (λa b Z X k=>Z λa=>X λb=>k (.beq a b)) (λb x y X ix R k=>X λb=>ix λx=>R λy=>k (.bY b x y)) (λr i j W V k=>W λr=>V λi=>bu j λj=>k (.cell r i j)) (λa b Z X k=>Z λa=>X λb=>k (.seq a b)) (λr n a b c j W Z X U k=>W λr=>Z λa=>X λb=>U λc=>bu n λn=>bu j λj=>k (.look r n a b c j)) (λr n a b c W Z X U k=>W λr=>Z λa=>X λb=>U λc=>bu n λn=>k (.has r n a b c)) (λn k=>bu n λn=>k (.v n)) (λr i j q W V k=>W λr=>V λi=>bu j λj=>k (.cell r i j q)) (λv k=>k (.k v)) e
mutual
def IE.da:∀(e:IE)(k:IE->T),e.deep k=k e
 |.c n,k=>by show(J1 n λn=>k (.c n))=_;rw[apf]
 |.v n,k=>by show(bu n λn=>k (.v n))=_;rw[gT]
 |.bin o q a b,k=>by show(IE.deep a λa=>IE.deep b λb=>k (.bin o q a b))=_;rw[IE.da a,IE.da b]
 |.conv q a,k=>by show(IE.deep a λa=>k (.conv q a))=_;rw[IE.da a]
 |.len r,k=>by show(RE.deep r λr=>k (.len r))=_;rw[RE.da r]
 |.mm m a b,k=>by show(IE.deep a λa=>IE.deep b λb=>k (.mm m a b))=_;rw[IE.da a,IE.da b]
 |.bY b x y,k=>by show(BE.deep b λb=>IE.deep x λx=>IE.deep y λy=>k (.bY b x y))=_;rw[BE.da b,IE.da x,IE.da y]
 |.cell r i j,k=>by show(RE.deep r λr=>IE.deep i λi=>bu j λj=>k (.cell r i j))=_;rw[RE.da r,IE.da i,gT]
 |.ku r i,k=>by show(RE.deep r λr=>IE.deep i λi=>k (.ku r i))=_;rw[RE.da r,IE.da i]
 |.look r n a b c j,k=>by show(RE.deep r λr=>IE.deep a λa=>IE.deep b λb=>IE.deep c λc=>bu n λn=>bu j λj=>k (.look r n a b c j))=_;rw[RE.da r,IE.da a,IE.da b,IE.da c,gT,gT]
def BE.da:∀(e:BE)(k:BE->T),e.deep k=k e
 |.c b,k=>rfl
 |.v n,k=>by show(bu n λn=>k (.v n))=_;rw[gT]
 |.cmp o a b,k=>by show(IE.deep a λa=>IE.deep b λb=>k (.cmp o a b))=_;rw[IE.da a,IE.da b]
 |.not a,k=>by show(BE.deep a λa=>k (.not a))=_;rw[BE.da a]
 |.and a b,k=>by show(BE.deep a λa=>BE.deep b λb=>k (.and a b))=_;rw[BE.da a,BE.da b]
 |.beq a b,k=>by show(BE.deep a λa=>BE.deep b λb=>k (.beq a b))=_;rw[BE.da a,BE.da b]
 |.bY b x y,k=>by show(BE.deep b λb=>BE.deep x λx=>BE.deep y λy=>k (.bY b x y))=_;rw[BE.da b,BE.da x,BE.da y]
 |.cell r i j,k=>by show(RE.deep r λr=>IE.deep i λi=>bu j λj=>k (.cell r i j))=_;rw[RE.da r,IE.da i,gT]
 |.seq a b,k=>by show(RE.deep a λa=>RE.deep b λb=>k (.seq a b))=_;rw[RE.da a,RE.da b]
 |.look r n a b c j,k=>by show(RE.deep r λr=>IE.deep a λa=>IE.deep b λb=>IE.deep c λc=>bu n λn=>bu j λj=>k (.look r n a b c j))=_;rw[RE.da r,IE.da a,IE.da b,IE.da c,gT,gT]
 |.has r n a b c,k=>by show(RE.deep r λr=>IE.deep a λa=>IE.deep b λb=>IE.deep c λc=>bu n λn=>k (.has r n a b c))=_;rw[RE.da r,IE.da a,IE.da b,IE.da c,gT]
def RE.da:∀(e:RE)(k:RE->T),e.deep k=k e
 |.v n,k=>by show(bu n λn=>k (.v n))=_;rw[gT]
 |.cell r i j q,k=>by show(RE.deep r λr=>IE.deep i λi=>bu j λj=>k (.cell r i j q))=_;rw[RE.da r,IE.da i,gT]
 |.k v,k=>rfl
end
def SV.deep(v:SV):(SV->T)->T:=SV.rec (motive_1:=λ_=>(SV->T)->T) (motive_2:=λ_=>(List SV->T)->T) (λq e k=>e.deep λe=>k (.int q e)) (λb k=>b.deep λb=>k (.bool b)) (λr k=>r.deep λr=>k (.ref r)) (λi o k=>bu i λi=>bu o λo=>k (.loc i o)) (λr w i o k=>r.deep λr=>i.deep λi=>bu w λw=>bu o λo=>k (.el r w i o)) (λi o l c k=>bu i λi=>bu o λo=>bu l λl=>bu c λc=>k (.fo i o l c)) (λl Z k=>Z λl=>k (.agg l)) (λl Z k=>Z λl=>k (.bj l)) (λf l Z k=>Z λl=>bu f λf=>k (.fn f l)) (λt x ix k=>ix λx=>k (.dH t x)) (λn k=>bu n λn=>k (.yl n)) (λk=>k .any) (λi k=>bu i λi=>k (.mp i)) (λe ks vs X k=>e.deep λe=>X λvs=>k (.dI e ks vs)) (λk=>k []) (λ_ _ ix W k=>ix λx=>W λxs=>k (x::xs)) v
def SV.yr(l:List SV):(List SV->T)->T:=SV.rec_1 (motive_1:=λ_=>(SV->T)->T) (motive_2:=λ_=>(List SV->T)->T) (λq e k=>e.deep λe=>k (.int q e)) (λb k=>b.deep λb=>k (.bool b)) (λr k=>r.deep λr=>k (.ref r)) (λi o k=>bu i λi=>bu o λo=>k (.loc i o)) (λr w i o k=>r.deep λr=>i.deep λi=>bu w λw=>bu o λo=>k (.el r w i o)) (λi o l c k=>bu i λi=>bu o λo=>bu l λl=>bu c λc=>k (.fo i o l c)) (λl Z k=>Z λl=>k (.agg l)) (λl Z k=>Z λl=>k (.bj l)) (λf l Z k=>Z λl=>bu f λf=>k (.fn f l)) (λt x ix k=>ix λx=>k (.dH t x)) (λn k=>bu n λn=>k (.yl n)) (λk=>k .any) (λi k=>bu i λi=>k (.mp i)) (λe ks vs X k=>e.deep λe=>X λvs=>k (.dI e ks vs)) (λk=>k []) (λ_ _ ix W k=>ix λx=>W λxs=>k (x::xs)) l
mutual
def SV.da:∀(v:SV)(k:SV->T),v.deep k=k v
 |.int q e,k=>by show(IE.deep e λe=>k (.int q e))=_;rw[IE.da]
 |.bool b,k=>by show(BE.deep b λb=>k (.bool b))=_;rw[BE.da]
 |.ref r,k=>by show(RE.deep r λr=>k (.ref r))=_;rw[RE.da]
 |.loc i o,k=>by show(bu i λi=>bu o λo=>k (.loc i o))=_;rw[gT,gT]
 |.el r w i o,k=>by show(RE.deep r λr=>IE.deep i λi=>bu w λw=>bu o λo=>k (.el r w i o))=_;rw[RE.da,IE.da,gT,gT]
 |.fo i o l c,k=>by show(bu i λi=>bu o λo=>bu l λl=>bu c λc=>k (.fo i o l c))=_;rw[gT,gT,gT,gT]
 |.agg l,k=>by show(SV.yr l λl=>k (.agg l))=_;rw[SV.CV l]
 |.bj l,k=>by show(SV.yr l λl=>k (.bj l))=_;rw[SV.CV l]
 |.fn f l,k=>by show(SV.yr l λl=>bu f λf=>k (.fn f l))=_;rw[SV.CV l,gT]
 |.dH t x,k=>by show(SV.deep x λx=>k (.dH t x))=_;rw[SV.da x]
 |.yl n,k=>by show(bu n λn=>k (.yl n))=_;rw[gT]
 |.any,k=>rfl
 |.mp i,k=>by show(bu i λi=>k (.mp i))=_;rw[gT]
 |.dI e ks vs,k=>by show(IE.deep e λe=>SV.yr vs λvs=>k (.dI e ks vs))=_;rw[IE.da,SV.CV vs]
def SV.CV:∀(l:List SV)(k:List SV->T),SV.yr l k=k l
 |[],k=>rfl
 |x::xs,k=>by show(SV.deep x λx=>SV.yr xs λxs=>k (x::xs))=_;rw[SV.da x,SV.CV xs]
end
def Vt(l:aX):(aX->T)->T:=ayt (motive:=λ_=>(aX->T)->T) (λk=>k []) (λx _ Z k=>Option.rec (motive:=λ_=>T) (Z λxs=>k (none::xs)) (λb=>Prod.rec (motive:=λ_=>T) (λt cs=>bu t λt=>SV.yr cs λcs=>Z λxs=>k (some (t,cs)::xs)) b) x) l
def Vu:∀(l:aX)(k:aX->T),Vt l k=k l
 |[],_=>rfl
 |none::xs,k=>Vu xs _
 |some (t,cs)::xs,k=>by
  show(bu t λt=>SV.yr cs λcs=>Vt xs λxs=>k (some (t,cs)::xs))=_;rw[gT,SV.CV,Vu]
def S.deep(s:S)(k:S->T):T:=S.rec (motive:=λ_=>T) (λZ b ni nb rs al lk pd=>SV.yr Z λZ=>Vt b λb=>bu ni λni=>bu nb λnb=>CU rs λrs=>bu al λal=>bu lk λlk=>CU pd λpd=>k ⟨Z,b,ni,nb,rs,al,lk,pd⟩) s
def da(s:S)(k:S->T):s.deep k=k s:=by
 cases s;simp only[S.deep,Vq,gT,SV.CV,Vu]
def Vv(k:XE->S->T):XE->S->T:=λe s=>s.deep (k e)
def apg(k:XE->S->T):Vv k=k:=by funext e s;exact da s (k e)
def lN(l:List Nat):Nat:=ayt (motive:=λ_=>Nat) 0 (λd _ m=>awW (axk 1 d) m) l
def An(m n:Nat):Bool:=azb (motive:=λ_=>Bool) true false (axx (Nat.land 1 (azZ m n)) 0)
def aeR(m n:Nat):An m n=m.testBit n:=by
 have:m.testBit n= !(axx (Nat.land 1 (azZ m n)) 0):=by
  show((1&&&(m>>>n))!=0)= !(axx (1&&&(m>>>n)) 0);cases h:axx (1&&&(m>>>n)) 0 with
  |true=>rw[azT h];rfl
  |false=>simp only[bne,Bool.not_false,awY,beq_eq_false_iff_ne];exact λe=>by rw[e] at h;cases h
 rw[this,An];cases axx (Nat.land 1 (azZ m n)) 0<;>rfl
def N8:∀(l:List Nat)(n:Nat),(lN l).testBit n=l.contains n
 |[],n=>by simp[lN]
 |d::l,n=>by
  have:lN (d::l)=(1<<<d)|||lN l:=rfl;rw[this,ax7,N8 l n,azC,az7];rw[axO];simp only[aw9,decide_eq_true_eq,axg,awP];exact⟨λh=>h.imp Eq.symm id,λh=>h.imp Eq.symm id⟩
def aph(l:List Nat)(n:Nat):An (lN l) n=l.contains n:=by rw[aeR,N8]
def N9(a:du)(m Z:Nat)(fr:List SV):Nat->List SV->List SV
 |_,[]=>[]
 |n,x::xs=>(if An Z n then(qi n a.tm fr).getD (if An m n then .any else x) else if An m n then .any else x)::N9 a m Z fr (n+1) xs
def aeS{n:Nat}:∀{Z:List (Nat×LK)}{fr:List SV},(Z.map (·.1)).contains n=false->qi n Z fr=none
 |[],fr,_=>by cases fr<;>rfl
 |(t,k)::r,[],_=>rfl
 |(t,k)::r,v::vs,h=>by
  simp only[awT,List.contains_cons,axo] at h;have X:(t==n)=false:=by
   have:=h.1;simp only[beq_eq_false_iff_ne,ne_eq] at this⊢;exact λe=>this e.symm
  simp only[qi,X,aw0,if_false];exact aeS h.2
def aeT(a:du)(ds:List Nat)(fr:List SV):∀(n:Nat)(l:List SV),N9 a (lN ds) (lN (a.tm.map (·.1))) fr n l=vK a ds fr n l
 |_,[]=>rfl
 |n,x::xs=>by
  simp only[N9,vK,aeT a ds fr (n+1) xs,aph];cases Z:(a.tm.map (·.1)).contains n with
  |true=>rfl
  |false=>rw[aeS Z];rfl
def J2(m:Nat):Nat->List SV->List SV->Bool
 |_,[],[]=>true
 |n,x::xs,y::ys=>(An m n||SV.same x y)&&J2 m (n+1) xs ys
 |_,_,_=>false
def Vw(a:du)(ds:List Nat):∀(n:Nat)(l k:List SV),J2 (awW (lN ds) (lN (a.tm.map (·.1)))) n l k=tR a ds n l k
 |_,[],[]=>rfl
 |_,[],_::_=>rfl
 |_,_::_,[]=>rfl
 |n,x::xs,y::ys=>by
  simp only[J2,tR,Vw a ds (n+1) xs ys];congr 1;have:An (awW (lN ds) (lN (a.tm.map (·.1)))) n=(a.tm.any (·.1==n)||ds.contains n):=by
   rw[aeR];change((lN ds)|||(lN (a.tm.map (·.1)))).testBit n=_;rw[ax7,N8,N8,Bool.or_comm];congr 1;rw[axO,axg,axe];simp only[aw7,beq_iff_eq]
  rw[this]
def Vx(a:du)(ds:List Nat)(s:S):S:=
 let r:List SV×S:=S.bz {s with al:=s.al+1,rs:=fy a s} a.ks
 {r.2 with tmps:=N9 a (lN ds) (lN (a.tm.map (·.1))) r.1 0 s.tmps,boxes:=o8 a (r.1.drop a.tm.length) 0 s.boxes}
def api(a:du)(ds:List Nat)(s:S):Vx a ds s=mN a ds s:=by
 simp only[Vx,mN,aeT]
def Vy(Z:du)(ds:List Nat)(s:S)(k:XE->S->T):XE->S->T
 |.normal,s'=>if J2 (awW (lN ds) (lN (Z.tm.map (·.1)))) 0 s.tmps s'.tmps&&ol Z 0 s.boxes s'.boxes&&oo s' Z.ks (gM Z s')&&tQ (fy Z s) s'.rs&&Cg (fy Z s) (Cf Z s')&&decide (s'.pd=s.pd) then .back s.al (gM Z s') else .stuck (abb Z s s')
 |e,s'=>k e s'
def apj(Z:du)(ds:List Nat)(s:S)(k:XE->S->T):Vy Z ds s k=MD Z ds s k:=by
 funext e s';cases e<;>simp only[Vy,MD,Vw]
def iW(cf:bc):Nat->FuncId->Code->S->YH->(XE->S->T)->T
 |0,_,_,_,_,_=>.stuck ""
 |n+1,Z,c,s,yh,k=>
  match c with
  |.skip=>k .normal s
  |.label _=>k .normal s
  |.ret=>k .ret s
  |.exit id=>k (.exit id) s
  |.seq a b=>iW cf n Z a s yh (Mz (λs'=>iW cf n Z b s' yh k) k)
  |.block id a=>iW cf n Z a s yh (S4 id k)
  |.scope a=>iW cf n Z a s yh k
  |.cond c a b=>match s.ev cf.gl c with
   |.bool (.c true)=>iW cf n Z a s yh k
   |.bool (.c false)=>iW cf n Z b s yh k
   |.bool x=>match c with
    |.tmp t=>.node x (iW cf n Z a {s with tmps:=s.tmps.set t (.bool (.c true))} yh k) (iW cf n Z b {s with tmps:=s.tmps.set t (.bool (.c false))} yh k)
    |_=>.stuck ""
   |_=>.stuck ""
  |.region id ops W=>match MH cf Z id s with
   |some (e,ks,eC,ar)=>ER e eC (Te (λs'=>iW cf n Z (.region id ops W) s' yh k) ar) (λs'=>iW cf n Z (.region id ops W) s' yh k) ks
   |none=>s.Vr λs=>if W then
    match N6 cf (!cf.SQ Z id) ops s with
    |some c=>IZ cf (gN cf (λf c s k=>iW cf n f c s yh k) yh) ops (Vv k) c
    |none=>match Vp ops s.boxes.length with
    |some U=>if !EH cf ops.toList then .stuck "" else Am cf (tU cf (zR cf ops λf c s k=>iW cf n f c s fK k) yh) ops (k .normal) (λv=>k (.aS v)) U (s.vO ops U) []
    |none=>match N6 cf false ops s with
     |some c=>IZ cf (gN cf (λf c s k=>iW cf n f c s yh k) yh) ops (Vv k) c
     |none=>.stuck ""
   else
   Am cf (gN cf (λf c s k=>iW cf n f c s yh k) yh) ops (k .normal) (λv=>k (.aS v)) (ek (λ_=>false) true false 0 s.boxes.length ops.toList) (s.room (jI ops.toList)) []
  |.loop a=>match(Code.first a).map (cf.loop Z) with
   |some (.inv X)=>
    if !s.bd|| !oo s (X.at s).ks (gM (X.at s) s)|| !J2 (awW (lN (Code.kP a)) (lN ((X.at s).tm.map (·.1)))) 0 s.tmps s.tmps|| !ol (X.at s) 0 s.boxes s.boxes|| !tQ (fy (X.at s) s) s.rs|| !Cg (fy (X.at s) s) (Cf (X.at s) s) then .stuck (abc (X.at s) (Code.kP a) s) else
    .loop s.al (X.at s).ks (gM (X.at s) s) (iW cf n Z a (Vx (X.at s) (Code.kP a) s) yh (Vy (X.at s) (Code.kP a) s k))
   |_=>iW cf n Z a s yh (Mz (λs'=>iW cf n Z (.loop a) s' yh k) k)
  |.rangeFunc f ps assign body=>match s.ev cf.gl f with
   |.fn g V=>match cf.inl g with
    |some (c,Q,[])=>
     if !s.cU V||s.rW s.pd.length||SV.mO s.pd.length V||gv assign||gv body then .stuck "" else
     iW cf n g c (EQ s Q V)
      (IW s.pd.length ps.size λargs R P O=>
       iW cf n Z assign (xN R s ps.toList args) fK (IU s.pd.length λN=>
        iW cf n Z body (N.Cp s.pd.length .busy) fK (ME s.pd.length R P O))) (Co s k)
    |_=>.stuck ""
   |_=>.stuck ""
  |_=>.stuck ""
def Vz(cf:bc):∀n,iW cf n=dJ cf n
 |0=>by funext Z c s yh k;rfl
 |n+1=>by
  have X:=Vz cf n;funext Z c s yh k;unfold iW dJ;simp only[X,N7,ao9,apb,apc,Vw,api,apj,apg];cases c<;>rfl
def VA(cf:bc)(n:Nat)(Z:FuncId)(c:Code)(X:Nat)(rs:List ResultVar)(args:List SV)(s:S):T:=
 iW cf n Z c {s with tmps:=args++awS (X-args.length) (.bj [])} fK (MI cf s.boxes.length rs)
def apk(cf:bc)(n:Nat)(Z:FuncId)(c:Code)(X:Nat)(rs:List ResultVar)(args:List SV)(s:S):VA cf n Z c X rs args s=I1 cf n Z c X rs args s:=by
 unfold VA I1;rw[Vz]
def VB(cf:bc)(n:Nat)(W:FuncId)(c:Code)(V:Nat)(rs:List ResultVar)(X:TypeId)(args:List SV)(s:S):T:=match qj c with
 |some d=>Am cf (gN cf (λf c s k=>iW cf n f c s fK k) fK) d.ot (λZ=>match Z.tmps[d.te]? with
  |some (.loc i 0)=>if !oa X&&aA Z.boxes i&&decide (d.tf<Z.tmps.length) then iW cf n W d.rest (Z.put (some d.tf) (.fn d.g [.loc i 0])) fK (Tg cf s.boxes.length X i rs) else .stuck ""
  |_=>.stuck "") (λ_ _=>.stuck "") (ek (λ_=>false) true false 0 s.boxes.length d.ot.toList) (({s with tmps:=args++awS (V-args.length) (SV.bj [])}:S).room (jI d.ot.toList)) []
 |none=>.stuck ""
def apl(cf:bc)(n:Nat)(Z:FuncId)(c:Code)(X:Nat)(rs:List ResultVar)(W:TypeId)(args:List SV)(s:S):VB cf n Z c X rs W args s=I2 cf n Z c X rs W args s:=by
 unfold VB I2;cases qj c with
 |none=>rfl
 |some d=>
  simp only[Vz,N7];rfl
def VC(cf:bc)(dT:Option TypeId)(n:Nat)(Z:FuncId)(c:Code)(X:Nat)(rs:List ResultVar)(args:List SV)(s:S):T:=match dT with
 |none=>VA cf n Z c X rs args s
 |some W=>VB cf n Z c X rs W args s
section
section
variable{aP I:kD}
def kS(Q:∀f xs o,aP f xs=some o->I f xs=some o):∀(n n':Nat)(t:T)(ρ:aa)(u:List Lp)(o:aV),n<=n'->exec aP n t ρ u=some o->exec I n' t ρ u=some o
 |0,_,t,ρ,u,o,_,h=>by simp[exec] at h
 |n+1,0,t,ρ,u,o,P,h=>by omega
 |n+1,n'+1,t,ρ,u,o,P,h=>by
  have Z:=kS Q n n';cases t with
  |ret v bx rs=>simpa only[exec] using h
  |aS v=>simpa only[exec] using h
  |node b t f=>
   simp only[exec] at h⊢;split at h;rename_i X;rw[if_pos X];exact Z t ρ u o (by omega) h;rename_i X;rw[if_neg X];exact Z f ρ u o (by omega) h
  |az b t=>
   simp only[exec] at h⊢;split at h;rename_i X;rw[if_pos X];exact Z t ρ u o (by omega) h;cases h
  |call f args bx rs ks fp t=>
   simp only[exec] at h⊢;cases U:aP f ((nD args).map (SV.xv ρ)) with
   |none=>rw[U] at h;cases h
   |some r=>
    rw[U] at h;rw[Q _ _ _ U];cases r with
    |ret ys=>
     simp only at h⊢;split at h;rename_i V;rw[if_pos V];exact Z t _ u o (by omega) h;cases h
    |aS v=>exact h
  |loop al ks N t=>
   simp only[exec] at h⊢;exact Z t _ _ o (by omega) h
  |back al x=>
   simp only[exec] at h⊢;cases V:we al u with
   |none=>rw[V] at h;cases h
   |some q=>
    obtain⟨fr,M⟩:=q;rw[V] at h;exact Z fr.t _ _ o (by omega) h
  |new e x rs L t=>
   simp only[exec] at h⊢;exact Z t _ u o (by omega) h
  |rows k x rs t=>
   simp only[exec] at h⊢;exact Z t _ u o (by omega) h
  |eC g O t f=>
   simp only[exec] at h⊢;split at h;rename_i R;rw[if_pos R];split at h;rename_i W;rw[if_pos W];exact aet h (Z t ρ u o (by omega)) (Z f ρ u o (by omega));rename_i W;rw[if_neg W];exact Z t ρ u o (by omega) h;rename_i R;rw[if_neg R];split at h;rename_i W;rw[if_pos W];exact Z f ρ u o (by omega) h;cases h
  |pick m g O t f=>
   simp only[exec] at h⊢;refine aeu h λj _ q=> ?_
   cases j with
   |some j=>exact Z t _ u o (by omega) q
   |none=>exact Z f _ u o (by omega) q
  |dl f g e sp J r rs t=>
   simp only[exec] at h⊢;split at h;rename_i rows H;exact Z t _ u o (by omega) h;cases h
  |out e s=>simp[exec] at h
  |stuck m=>simp[exec] at h
end
def iV(n:Int):RV:=.mk (.int .i64 n) []
def bV(b:Bool):RV:=.mk (.bool b) []
def sV(l:List Int):RV:=.mk (.slice none l.length l.length) (l.map λn=>[iV n])
def uo(b:Nat)(rows:List (List RV)):RV:=.mk (.slice (some ⟨b,0,none⟩) rows.length rows.length) rows
def py:List RV:=[
 uo 0 ([(false,false,false,0,0,0),(true,true,false,1,0,16),(false,true,false,1,0,16),(true,true,false,0,3,0),(true,true,false,0,3,0),(false,true,false,0,3,0),(false,false,false,0,0,7),(false,false,true,0,0,0),(false,false,true,0,0,0),(true,false,false,0,3,0)].map λ(a,b,c,d,e,f)=>[bV a,bV b,bV c,iV d,iV e,iV f]),
 uo 1 ([([],[]),([0],[]),([],[0,1]),([0],[]),([2],[]),([],[4]),([],[]),([],[2,3]),([],[0,1]),([2],[])].map λ(a,b)=>[sV a,sV b]),
 uo 2 ([(0,29),(20,21),(29,0),(20,-21),(0,-29),(-20,-21),(-29,0),(-20,21)].map λ(a,b)=>[iV a,iV b])]
def kb(g:Bool):List RV:=if g then py else[]
def wi(d:Bool):Option aV->Option aV
 |some (.ret ys)=>some (.ret ys)
 |some (.aS v)=>if d then none else some (.aS v)
 |none=>none
structure Fn where
 t:T
 g:Bool:=false
 d:Bool:=false
structure jx where
 tree:FuncId->Option Fn
 oG:kD
def jx.aP(H:jx):Nat->kD
 |0=>H.oG
 |n+1=>λf xs=>match H.oG f xs with
  |some o=>some o
  |none=>match H.tree f with
   |some fn=>wi fn.d (exec (jx.aP H n) n fn.t (dY (kb fn.g) xs) [])
   |none=>none
def jP{H:jx}:∀(n n':Nat)(f:FuncId)(xs:List XV)(o:aV),n<=n'->H.aP n f xs=some o->H.aP n' f xs=some o
 |0,0,f,xs,o,_,h=>h
 |0,n'+1,f,xs,o,_,h=>by
  simp only[jx.aP] at h⊢;rw[h]
 |n+1,0,f,xs,o,U,_=>by omega
 |n+1,n'+1,f,xs,o,U,h=>by
  simp only[jx.aP] at h⊢;cases X:H.oG f xs with
  |some W=>rw[X] at h;exact h
  |none=>
   rw[X] at h;simp only at h⊢;cases V:H.tree f with
   |none=>rw[V] at h;cases h
   |some fn=>
    rw[V] at h;simp only at h⊢;cases Z:exec (H.aP n) n fn.t (dY (kb fn.g) xs) [] with
    |none=>rw[Z] at h;cases h
    |some W=>
     rw[Z] at h;rw[kS (λf xs o h=>jP n n' f xs o (by omega) h) n n' fn.t _ _ W (by omega) Z];exact h
def jx.Ev(H:jx)(f:FuncId)(xs:List XV)(o:aV):Prop:=∃n,H.aP n f xs=some o
def jx.Go(H:jx)(t:T)(ρ:aa)(u:List Lp)(o:aV):Prop:=∃n,exec (H.aP n) n t ρ u=some o
section
variable{H:jx}{ρ:aa}{u:List Lp}{o:aV}
def VD{f:FuncId}{xs:List XV}(h:H.oG f xs=some o):H.Ev f xs o:=⟨0,h⟩
def apm{f:FuncId}{xs:List XV}{fn:Fn}(X:H.tree f=some fn)(W:H.oG f xs=none)(Z:fn.d=false\/∃ys,o=.ret ys)(h:H.Go fn.t (dY (kb fn.g) xs) [] o):H.Ev f xs o:=by
 obtain⟨n,h⟩:=h;refine⟨n+1, ?_⟩;simp only[jx.aP,W,X,h];rcases Z with Z|⟨ys,rfl⟩;cases o<;>simp[wi,Z];rfl
def go_of{t:T}:H.Go t ρ u o<->∃n,exec (H.aP (n+1)) (n+1) t ρ u=some o:=
 ⟨λ⟨n,h⟩=>⟨n,kS (λf xs o h=>jP n (n+1) f xs o (by omega) h) n (n+1) t ρ u o (by omega) h⟩,λ⟨n,h⟩=>⟨n+1,h⟩⟩
def go_up{n m:Nat}{t:T}(h:exec (H.aP n) m t ρ u=some o):H.Go t ρ u o:=
 ⟨max n m,kS (λf xs o h=>jP n _ f xs o (by omega) h) m _ t ρ u o (by omega) h⟩
@[simp] def go_ret {v:SV} {bx:aX} {rs:List RK}:H.Go (.ret v bx rs) ρ u o<->o=.ret ((sf v).map (SV.xv ρ)):=by
 rw[go_of];simp only[exec,awJ];exact⟨λ⟨_,h⟩=>h.symm,λh=>⟨0,h.symm⟩⟩
@[simp] def go_pan {v:SV}:H.Go (.aS v) ρ u o<->(CM ρ v).map .aS=some o:=by
 rw[go_of];simp only[exec];exact⟨λ⟨_,h⟩=>h,λh=>⟨0,h⟩⟩
@[simp] def go_node {b:BE} {t f:T}:H.Go (.node b t f) ρ u o<->if b.den ρ=true then H.Go t ρ u o else H.Go f ρ u o:=by
 rw[go_of];simp only[exec];split
 ·exact⟨λ⟨n,h⟩=>go_up h,λ⟨n,h⟩=>⟨n,kS (λf xs o h=>jP n (n+1) f xs o (by omega) h) n n t ρ u o (by omega) h⟩⟩
 ·exact⟨λ⟨n,h⟩=>go_up h,λ⟨n,h⟩=>⟨n,kS (λf xs o h=>jP n (n+1) f xs o (by omega) h) n n f ρ u o (by omega) h⟩⟩
@[simp] def go_need {b:BE} {t:T}:H.Go (.az b t) ρ u o<->b.den ρ=true/\H.Go t ρ u o:=by
 rw[go_of];simp only[exec];by_cases Z:b.den ρ=true
 ·simp only[Z,if_true,true_and];exact⟨λ⟨n,h⟩=>go_up h,λ⟨n,h⟩=>⟨n,kS (λf xs o h=>jP n (n+1) f xs o (by omega) h) n n t ρ u o (by omega) h⟩⟩
 simp[Z]
@[simp] def go_loop {al:Nat} {ks:List LK} {Z:List SV} {t:T}:H.Go (.loop al ks Z t) ρ u o<->H.Go t (ρ.ext (Z.map (SV.xv ρ))) (⟨al,t,ρ⟩::u) o:=by
 rw[go_of];simp only[exec];exact⟨λ⟨n,h⟩=>go_up h,λ⟨n,h⟩=>⟨n,kS (λf xs o h=>jP n (n+1) f xs o (by omega) h) n n t _ _ o (by omega) h⟩⟩
@[simp] def go_new {e:TypeId} {x:LE} {rs Z:List RK} {t:T}:H.Go (.new e x rs Z t) ρ u o<->H.Go t (ρ.add (.r (fb x ρ))) u o:=by
 rw[go_of];simp only[exec];exact⟨λ⟨n,h⟩=>go_up h,λ⟨n,h⟩=>⟨n,kS (λf xs o h=>jP n (n+1) f xs o (by omega) h) n n t _ _ o (by omega) h⟩⟩
@[simp] def go_rows {k:RK} {x:LE} {rs:List RK} {t:T}:H.Go (.rows k x rs t) ρ u o<->H.Go t (ρ.add (.r (fb x ρ))) u o:=by
 rw[go_of];simp only[exec];exact⟨λ⟨n,h⟩=>go_up h,λ⟨n,h⟩=>⟨n,kS (λf xs o h=>jP n (n+1) f xs o (by omega) h) n n t _ _ o (by omega) h⟩⟩
def go_turn{f g:FuncId}{e:TypeId}{sp:aJ}{Z:Bool}{r:RE}{rs:List RK}{t:T}{rows:List (List RV)}(h:dw sp Z (r.rv ρ).rows=some rows):H.Go (.dl f g e sp Z r rs t) ρ u o<->H.Go t (ρ.add (.r (.mk (r.rv ρ).val rows))) u o:=by
 rw[go_of];simp only[exec,h];exact⟨λ⟨n,h⟩=>go_up h,λ⟨n,h⟩=>⟨n,kS (λf xs o h=>jP n (n+1) f xs o (by omega) h) n n t _ _ o (by omega) h⟩⟩
def go_back{al:Nat}{x:List SV}{Z:List Lp}{fr:Lp}(h:we al u=some (fr,Z)):H.Go (.back al x) ρ u o<->H.Go fr.t (fr.ρ.ext (x.map (SV.xv ρ))) (fr::Z) o:=by
 rw[go_of];simp only[exec,h];exact⟨λ⟨n,h⟩=>go_up h,λ⟨n,h⟩=>⟨n,kS (λf xs o h=>jP n (n+1) f xs o (by omega) h) n n fr.t _ _ o (by omega) h⟩⟩
def go_call{f:FuncId}{args:List SV}{bx:aX}{rs:List RK}{ks:List LK}{fp:SV}{t:T}{ys:List XV}(h:H.Ev f ((nD args).map (SV.xv ρ)) (.ret ys))(X:dg ks ys=true)(Z:H.Go t (ρ.ext ys) u o):H.Go (.call f args bx rs ks fp t) ρ u o:=by
 obtain⟨n,h⟩:=h;obtain⟨m,Z⟩:=Z;refine⟨max n m+1, ?_⟩;simp only[exec];rw[jP n _ _ _ _ (by omega) h];simp only[X,if_true];exact kS (λf xs o h=>jP m _ f xs o (by omega) h) m _ t _ _ o (by omega) Z
def go_callp{f:FuncId}{args:List SV}{bx:aX}{rs:List RK}{ks:List LK}{fp:SV}{t:T}{v:Value}(h:H.Ev f ((nD args).map (SV.xv ρ)) (.aS v)):H.Go (.call f args bx rs ks fp t) ρ u (.aS v):=by
 obtain⟨n,h⟩:=h;refine⟨n+1, ?_⟩;simp only[exec];rw[jP n _ _ _ _ (by omega) h]
end
end
section
structure PC where
 al:Nat
 I:List XV->Prop
 μ:List XV->Nat
 m:Nat
def J3(al:Nat):List PC->Option PC
 |[]=>none
 |x::xs=>if x.al=al then some x else J3 al xs
def FU(R:aV->Prop):Prop:=∀o Z,R o->R Z->o=Z/\se o o=true
def T.mT(Z:FuncId->List XV->aV->Prop):T->(aV->Prop)->aa->List PC->Prop
 |.ret v _ _,R,ρ,_=>R (.ret ((sf v).map (SV.xv ρ)))
 |.aS v,R,ρ,_=>∃x,CM ρ v=some x/\R (.aS x)
 |.node b t f,R,ρ,L=>(b.den ρ=true->t.mT Z R ρ L)/\(b.den ρ=false->f.mT Z R ρ L)
 |.az b t,R,ρ,L=>b.den ρ=true/\t.mT Z R ρ L
 |.call f args _ _ ks _ t,R,ρ,L=>∃o,Z f ((nD args).map (SV.xv ρ)) o/\(match o with
  |.ret ys=>dg ks ys=true/\t.mT Z R (ρ.ext ys) L
  |.aS v=>R (.aS v))
 |.loop al _ U t,R,ρ,L=>∃X W,((X=R/\W=L)\/((∀o,X o->R o)/\W=[]))/\∃I V,I (U.map (SV.xv ρ))/\∀xs,I xs->t.mT Z X (ρ.ext xs) (⟨al,I,V,V xs⟩::W)
 |.back al x,R,ρ,L=>match J3 al L with
  |some c=>c.I (x.map (SV.xv ρ))/\c.μ (x.map (SV.xv ρ))<c.m
  |none=>False
 |.new _ x _ _ t,R,ρ,L=>t.mT Z R (ρ.add (.r (fb x ρ))) L
 |.rows _ x _ t,R,ρ,L=>t.mT Z R (ρ.add (.r (fb x ρ))) L
 |.eC g h t f,R,ρ,L=>(g.den ρ=true\/h.den ρ=true)/\(g.den ρ=true->t.mT Z R ρ L)/\(h.den ρ=true->f.mT Z R ρ L)/\(g.den ρ=true->h.den ρ=true->FU R)
 |.pick n g h t f,R,ρ,L=>FU R/\qA n g h ρ≠[]/\(∀j:Int,0<=j->j<n.den ρ->g.den (ρ.add (.i j))=true->t.mT Z R (ρ.add (.i j)) L)/\(h.den ρ=true->f.mT Z R ρ L)
 |.dl _ _ _ sp Q r _ t,R,ρ,L=>∃rows,dw sp Q (r.rv ρ).rows=some rows/\t.mT Z R (ρ.add (.r (.mk (r.rv ρ).val rows))) L
 |.stuck _,_,_,_=>False
 |.out _ _,_,_,_=>False
def T.wp(Z:FuncId->List XV->aV->Prop)(R:aV->Prop)(t:T)(ρ:aa)(L:List PC):Prop:=t.mT Z R ρ L
section
variable{u:jx}{R:aV->Prop}
inductive wj(u:jx)(R:aV->Prop):List PC->List Lp->Prop where
 |nil (st:List Lp):wj u R [] st
 |cons (c:PC) (fr:Lp) (L:List PC) (st:List Lp) (h1:c.al=fr.al) (h2:∀xs,c.I xs->c.μ xs<c.m->∃o,u.Go fr.t (fr.ρ.ext xs) (fr::st) o/\R o) (h3:wj u R L st):wj u R (c::L) (fr::st)
def wj.find{L:List PC}{X:List Lp}(h:wj u R L X){al:Nat}{c:PC}(Z:J3 al L=some c):
  ∃fr V,we al X=some (fr,V)/\∀xs,c.I xs->c.μ xs<c.m->∃o,u.Go fr.t (fr.ρ.ext xs) (fr::V) o/\R o:=by
 induction h with
 |nil _=>cases Z
 |cons O fr L X U Q N P=>
  simp only[J3] at Z;simp only[we,<-U];split at Z;rename_i W;cases Z;rw[if_pos W];exact⟨fr,X,rfl,Q⟩;rename_i W;rw[if_neg W];exact P Z
def go_mono{t:T}{ρ:aa}{Z:List Lp}{o:aV}{n m:Nat}(h:exec (u.aP n) n t ρ Z=some o)(X:n<=m):exec (u.aP m) m t ρ Z=some o:=
 kS (λf xs o h=>jP n m f xs o X h) n m t ρ Z o X h
def aeU{α:Type}{f:α->Option aV}{o:aV}(Z:se o o=true):∀{l:List α},l≠[]->(∀x∈l,f x=some o)->pw (l.map f)=some o
 |[],h,_=>absurd rfl h
 |[x],_,h=>by simpa[pw] using h x (by simp)
 |x::y::r,_,h=>by
  have:=aeU Z (l:=y::r) (by simp) (λz X=>h z (by simp at X⊢;exact .inr X));simp only[awT,pw] at this⊢;rw[this,h x (by simp),wc,if_pos Z]
def aeV{α:Type}{p:α->Nat->Prop}(X:∀x n m,p x n->n<=m->p x m):∀{l:List α},(∀x∈l,∃n,p x n)->∃n,∀x∈l,p x n
 |[],_=>⟨0,λx W=>by cases W⟩
 |x::r,h=>by
  obtain⟨n,V⟩:=h x (by simp);obtain⟨m,U⟩:=aeV X (l:=r) (λz Z=>h z (by simp[Z]));refine⟨max n m,λz Z=> ?_⟩;rcases awP.1 Z with rfl|Z;exact X _ _ _ V (by omega);exact X _ _ _ (U z Z) (by omega)
def go_wp:∀(t:T)(R:aV->Prop)(ρ:aa)(L:List PC)(Z:List Lp),t.mT u.Ev R ρ L->wj u R L Z->∃o,u.Go t ρ Z o/\R o
 |.ret v bx rs,R,ρ,L,Z,h,_=>⟨_,go_ret.2 rfl,h⟩
 |.aS v,R,ρ,L,Z,h,_=>by
  obtain⟨x,V,W⟩:=h;exact⟨.aS x,go_pan.2 (by rw[V];rfl),W⟩
 |.node b t f,R,ρ,L,Z,h,X=>by
  simp only[go_node];cases A:b.den ρ with
  |true=>simpa using go_wp t R ρ L Z (h.1 A) X
  |false=>simpa using go_wp f R ρ L Z (h.2 A) X
 |.az b t,R,ρ,L,Z,h,X=>by
  obtain⟨o,V,W⟩:=go_wp t R ρ L Z h.2 X;exact⟨o,go_need.2 ⟨h.1,V⟩,W⟩
 |.call f args bx rs ks fp t,R,ρ,L,Z,h,X=>by
  obtain⟨o,V,W⟩:=h;cases o with
  |ret ys=>
   obtain⟨o,P,O⟩:=go_wp t R (ρ.ext ys) L Z W.2 X;exact⟨o,go_call V W.1 P,O⟩
  |aS v=>exact⟨.aS v,go_callp V,W⟩
 |.loop al ks x0 t,R,ρ,L,Z,h,X=>by
  obtain⟨G,q,d,I,a,V,W⟩:=h;have z:wj u G q Z/\∀o,G o->R o:=by
   rcases d with⟨rfl,rfl⟩|⟨P,rfl⟩;exact⟨X,λo h=>h⟩;exact⟨wj.nil Z,P⟩
  have key:∀n xs,a xs<n->I xs->∃o,u.Go t (ρ.ext xs) (⟨al,t,ρ⟩::Z) o/\G o:=by
   intro n;induction n with
   |zero=>intro xs D;omega
   |succ n ih=>
    intro xs D hI;exact go_wp t G (ρ.ext xs) _ _ (W xs hI) (wj.cons _ _ _ _ rfl (λaf ag hm=>ih af (by simp only at hm;omega) ag) z.1)
  obtain⟨o,P,O⟩:=key _ _ (ayx _) V;exact⟨o,go_loop.2 P,z.2 o O⟩
 |.back al x,R,ρ,L,Z,h,X=>by
  simp only[T.mT] at h;split at h
  ·rename_i c hf;obtain⟨fr,a2,V,W⟩:=X.find hf;obtain⟨o,P,O⟩:=W _ h.1 h.2;exact⟨o,(go_back V).2 P,O⟩
  exact h.elim
 |.new e x rs a3 t,R,ρ,L,Z,h,X=>by
  obtain⟨o,V,W⟩:=go_wp t R _ L Z h X;exact⟨o,go_new.2 V,W⟩
 |.rows e x rs t,R,ρ,L,Z,h,X=>by
  obtain⟨o,V,W⟩:=go_wp t R _ L Z h X;exact⟨o,go_rows.2 V,W⟩
 |.eC g H t f,R,ρ,L,Z,h,X=>by
  obtain⟨F,V,W,P⟩:=h;cases J:g.den ρ with
  |true=>
   obtain⟨o,U,N⟩:=go_wp t R ρ L Z (V J) X;cases M:H.den ρ with
   |true=>
    obtain⟨C,B,k2⟩:=go_wp f R ρ L Z (W M) X;obtain⟨rfl,e⟩:=P J M o C N k2;obtain⟨n,U⟩:=U;obtain⟨m,B⟩:=B;refine⟨o,⟨max n m+1, ?_⟩,N⟩;simp only[exec,J,M,if_true];rw[kS (λf xs o h=>jP n _ f xs o (by omega) h) n (max n m) t ρ Z o (by omega) U,kS (λf xs o h=>jP m _ f xs o (by omega) h) m (max n m) f ρ Z o (by omega) B,wc,if_pos e]
   |false=>
    obtain⟨n,U⟩:=U;refine⟨o,⟨n+1, ?_⟩,N⟩;simp only[exec,J,M,if_true];exact kS (λf xs o h=>jP n _ f xs o (by omega) h) n n t ρ Z o (by omega) U
  |false=>
   have M:H.den ρ=true:=F.resolve_left (by simp[J]);obtain⟨o,U,N⟩:=go_wp f R ρ L Z (W M) X;obtain⟨n,U⟩:=U;refine⟨o,⟨n+1, ?_⟩,N⟩;simp only[exec,J,M,if_true];exact kS (λf xs o h=>jP n _ f xs o (by omega) h) n n f ρ Z o (by omega) U
 |.pick m g H t f,R,ρ,L,Z,h,X=>by
  obtain⟨y,F,V,W⟩:=h;have w:∀j∈qA m g H ρ,∃o,R o/\(match j with
   |some j=>u.Go t (ρ.add (.i j)) Z o
   |none=>u.Go f ρ Z o):=by
   intro j Q;cases j with
   |some j=>
    simp only[qA,awR,aw7,axr,axR] at Q;rcases Q with⟨j',⟨⟨k,hk,rfl⟩,J⟩,e⟩|Q
    ·cases e;obtain⟨o,U,N⟩:=go_wp t R (ρ.add (.i (k:Int))) L Z (V _ (by omega) (by omega) J) X;exact⟨o,N,U⟩
    split at Q<;>simp at Q
   |none=>
    simp only[qA,awR,aw7,axr,axR] at Q;rcases Q with⟨j',_,e⟩|Q;cases e;split at Q
    ·rename_i M;obtain⟨o,U,N⟩:=go_wp f R ρ L Z (W M) X;exact⟨o,N,U⟩
    simp at Q
  obtain⟨j0,an⟩:=List.exists_mem_of_ne_nil _ F;obtain⟨o,E,_⟩:=w j0 an;have a0:se o o=true:=(y o o E E).2;obtain⟨n,D⟩:=aeV (p:=λj n=>(match j with
   |some j=>exec (u.aP n) n t (ρ.add (.i j)) Z
   |none=>exec (u.aP n) n f ρ Z)=some o) (λx n m hx a1=>by cases x<;>exact go_mono hx a1) (l:=qA m g H ρ) (λj Q=>by
    obtain⟨C,P,O⟩:=w j Q;obtain⟨rfl,_⟩:=y o C E P;cases j<;>exact O)
  refine⟨o,⟨n+1, ?_⟩,E⟩;simp only[exec];refine aeU a0 F λj Q=> ?_
  have:=D j Q;cases j with
  |some j=>exact kS (λf xs o h=>jP n _ f xs o (by omega) h) n n t _ Z o (by omega) this
  |none=>exact kS (λf xs o h=>jP n _ f xs o (by omega) h) n n f ρ Z o (by omega) this
 |.dl f g e sp sb r rs t,R,ρ,L,Z,h,X=>by
  obtain⟨rows,V,W⟩:=h;obtain⟨o,P,O⟩:=go_wp t R _ L Z W X;exact⟨o,(go_turn V).2 P,O⟩
 |.stuck m,R,ρ,L,Z,h,_=>h.elim
 |.out e s,R,ρ,L,Z,h,_=>h.elim
def VE(u:jx)(f:FuncId)(fn:Fn):Prop:=u.tree f=some fn/\∀xs,u.oG f xs=none
def aeW{f:FuncId}{fn:Fn}{xs:List XV}(Z:VE u f fn)(W:fn.d=false\/∀v,¬R (.aS v))(h:fn.t.wp u.Ev R (dY (kb fn.g) xs) []):∃o,u.Ev f xs o/\R o:=by
 obtain⟨o,V,X⟩:=go_wp fn.t R _ [] [] h (wj.nil []);refine⟨o,apm Z.1 (Z.2 _) (W.imp id λU=> ?_) V,X⟩;cases o with
 |ret ys=>exact⟨ys,rfl⟩
 |aS v=>exact(U v X).elim
def apn{f:FuncId}{fn:Fn}{xs:List XV}{o:aV}(Z:VE u f fn)(X:fn.d=false\/∀v,o≠ .aS v)(h:fn.t.wp u.Ev (· =o) (dY (kb fn.g) xs) []):u.Ev f xs o:=by
 obtain⟨P,W,V⟩:=aeW (R:=(· =o)) Z (X.imp id λU v Q=>U v Q.symm) h;exact V▸W
def aeX{f:FuncId}{xs:List XV}{o Z:aV}(h:u.Ev f xs o)(k:u.Ev f xs Z):o=Z:=by
 obtain⟨n,h⟩:=h;obtain⟨m,k⟩:=k;have W:=jP n (max n m) f xs o (by omega) h;have X:=jP m (max n m) f xs Z (by omega) k;rw[W] at X;cases X;rfl
end
end
def Oa(n j:Nat)(a b c:Int)(rows:List (List RV)):Int:=match jo n [a,b,c] rows with
 |some row=>ba (row.getD j default).val
 |none=>0
def Ob(n j:Nat)(a b c:Int)(rows:List (List RV)):Bool:=match jo n [a,b,c] rows with
 |some row=>jm (row.getD j default).val
 |none=>false
def IE.dn(e:IE):aa->Int:=IE.rec (motive_1:=λ_=>aa->Int) (motive_2:=λ_=>aa->Bool) (motive_3:=λ_=>aa->RV) (λn _=>n) (λk ρ=>ρ.i.getD k 0) (λop k _ _ a b ρ=>bh op k (a ρ) (b ρ)) (λk _ a ρ=>k.wrap (a ρ)) (λ_ r ρ=>lenOf (r ρ).val) (λZ _ _ a b ρ=>cond Z (max (a ρ) (b ρ)) (min (a ρ) (b ρ))) (λ_ _ _ b x y ρ=>cond (b ρ) (x ρ) (y ρ)) (λ_ _ j r i ρ=>ba (cellAt (r ρ).rows (i ρ) j).val) (λ_ _ r i ρ=>zU (r ρ).val (i ρ)) (λ_ n _ _ _ j r a b c ρ=>Oa n j (a ρ) (b ρ) (c ρ) (r ρ).rows) (λb _=>b) (λk ρ=>ρ.b.getD k false) (λop _ _ a b ρ=>ew op (a ρ) (b ρ)) (λ_ a ρ=> !(a ρ)) (λ_ _ a b ρ=>a ρ&&b ρ) (λ_ _ a b ρ=>a ρ==b ρ) (λ_ _ _ b x y ρ=>cond (b ρ) (x ρ) (y ρ)) (λ_ _ j r i ρ=>jm (cellAt (r ρ).rows (i ρ) j).val) (λ_ _ a b ρ=>ql (a ρ).val (b ρ).val) (λ_ n _ _ _ j r a b c ρ=>Ob n j (a ρ) (b ρ) (c ρ) (r ρ).rows) (λ_ n _ _ _ r a b c ρ=>(jo n [a ρ,b ρ,c ρ] (r ρ).rows).isSome) (λk ρ=>ρ.rv k) (λ_ _ j k r i ρ=>dv k (cellAt (r ρ).rows (i ρ) j)) (λv _=>.mk v []) e
def BE.dn(e:BE):aa->Bool:=BE.rec (motive_1:=λ_=>aa->Int) (motive_2:=λ_=>aa->Bool) (motive_3:=λ_=>aa->RV) (λn _=>n) (λk ρ=>ρ.i.getD k 0) (λop k _ _ a b ρ=>bh op k (a ρ) (b ρ)) (λk _ a ρ=>k.wrap (a ρ)) (λ_ r ρ=>lenOf (r ρ).val) (λZ _ _ a b ρ=>cond Z (max (a ρ) (b ρ)) (min (a ρ) (b ρ))) (λ_ _ _ b x y ρ=>cond (b ρ) (x ρ) (y ρ)) (λ_ _ j r i ρ=>ba (cellAt (r ρ).rows (i ρ) j).val) (λ_ _ r i ρ=>zU (r ρ).val (i ρ)) (λ_ n _ _ _ j r a b c ρ=>Oa n j (a ρ) (b ρ) (c ρ) (r ρ).rows) (λb _=>b) (λk ρ=>ρ.b.getD k false) (λop _ _ a b ρ=>ew op (a ρ) (b ρ)) (λ_ a ρ=> !(a ρ)) (λ_ _ a b ρ=>a ρ&&b ρ) (λ_ _ a b ρ=>a ρ==b ρ) (λ_ _ _ b x y ρ=>cond (b ρ) (x ρ) (y ρ)) (λ_ _ j r i ρ=>jm (cellAt (r ρ).rows (i ρ) j).val) (λ_ _ a b ρ=>ql (a ρ).val (b ρ).val) (λ_ n _ _ _ j r a b c ρ=>Ob n j (a ρ) (b ρ) (c ρ) (r ρ).rows) (λ_ n _ _ _ r a b c ρ=>(jo n [a ρ,b ρ,c ρ] (r ρ).rows).isSome) (λk ρ=>ρ.rv k) (λ_ _ j k r i ρ=>dv k (cellAt (r ρ).rows (i ρ) j)) (λv _=>.mk v []) e
def RE.dn(e:RE):aa->RV:=RE.rec (motive_1:=λ_=>aa->Int) (motive_2:=λ_=>aa->Bool) (motive_3:=λ_=>aa->RV) (λn _=>n) (λk ρ=>ρ.i.getD k 0) (λop k _ _ a b ρ=>bh op k (a ρ) (b ρ)) (λk _ a ρ=>k.wrap (a ρ)) (λ_ r ρ=>lenOf (r ρ).val) (λZ _ _ a b ρ=>cond Z (max (a ρ) (b ρ)) (min (a ρ) (b ρ))) (λ_ _ _ b x y ρ=>cond (b ρ) (x ρ) (y ρ)) (λ_ _ j r i ρ=>ba (cellAt (r ρ).rows (i ρ) j).val) (λ_ _ r i ρ=>zU (r ρ).val (i ρ)) (λ_ n _ _ _ j r a b c ρ=>Oa n j (a ρ) (b ρ) (c ρ) (r ρ).rows) (λb _=>b) (λk ρ=>ρ.b.getD k false) (λop _ _ a b ρ=>ew op (a ρ) (b ρ)) (λ_ a ρ=> !(a ρ)) (λ_ _ a b ρ=>a ρ&&b ρ) (λ_ _ a b ρ=>a ρ==b ρ) (λ_ _ _ b x y ρ=>cond (b ρ) (x ρ) (y ρ)) (λ_ _ j r i ρ=>jm (cellAt (r ρ).rows (i ρ) j).val) (λ_ _ a b ρ=>ql (a ρ).val (b ρ).val) (λ_ n _ _ _ j r a b c ρ=>Ob n j (a ρ) (b ρ) (c ρ) (r ρ).rows) (λ_ n _ _ _ r a b c ρ=>(jo n [a ρ,b ρ,c ρ] (r ρ).rows).isSome) (λk ρ=>ρ.rv k) (λ_ _ j k r i ρ=>dv k (cellAt (r ρ).rows (i ρ) j)) (λv _=>.mk v []) e
def Oc{α:Type}(b:Bool)(x y:α):cond b x y=if b then x else y:=by cases b<;>rfl
mutual
def IE.dD:∀(e:IE)(ρ:aa),e.dn ρ=e.den ρ
 |.c _,_=>rfl
 |.v _,_=>rfl
 |.bin o k a b,ρ=>by show bh o k (a.dn ρ) (b.dn ρ)=_;rw[IE.dD a,IE.dD b];rfl
 |.conv k a,ρ=>by show k.wrap (a.dn ρ)=_;rw[IE.dD a];rfl
 |.len r,ρ=>by show lenOf (r.dn ρ).val=_;rw[RE.dD r];rfl
 |.mm m a b,ρ=>by show cond m (max (a.dn ρ) (b.dn ρ)) (min (a.dn ρ) (b.dn ρ))=_;rw[IE.dD a,IE.dD b,Oc];rfl
 |.bY b x y,ρ=>by show cond (b.dn ρ) (x.dn ρ) (y.dn ρ)=_;rw[BE.dD b,IE.dD x,IE.dD y,Oc];rfl
 |.cell r i j,ρ=>by show ba (cellAt (r.dn ρ).rows (i.dn ρ) j).val=_;rw[RE.dD r,IE.dD i];rfl
 |.ku r i,ρ=>by show zU (r.dn ρ).val (i.dn ρ)=_;rw[RE.dD r,IE.dD i];rfl
 |.look r n a b c j,ρ=>by show Oa n j (a.dn ρ) (b.dn ρ) (c.dn ρ) (r.dn ρ).rows=_;rw[RE.dD r,IE.dD a,IE.dD b,IE.dD c];rfl
def BE.dD:∀(e:BE)(ρ:aa),e.dn ρ=e.den ρ
 |.c _,_=>rfl
 |.v _,_=>rfl
 |.cmp o a b,ρ=>by show ew o (a.dn ρ) (b.dn ρ)=_;rw[IE.dD a,IE.dD b];rfl
 |.not a,ρ=>by show(!(a.dn ρ))=_;rw[BE.dD a];rfl
 |.and a b,ρ=>by show(a.dn ρ&&b.dn ρ)=_;rw[BE.dD a,BE.dD b];rfl
 |.beq a b,ρ=>by show(a.dn ρ==b.dn ρ)=_;rw[BE.dD a,BE.dD b];rfl
 |.bY b x y,ρ=>by show cond (b.dn ρ) (x.dn ρ) (y.dn ρ)=_;rw[BE.dD b,BE.dD x,BE.dD y,Oc];rfl
 |.cell r i j,ρ=>by show jm (cellAt (r.dn ρ).rows (i.dn ρ) j).val=_;rw[RE.dD r,IE.dD i];rfl
 |.seq a b,ρ=>by show ql (a.dn ρ).val (b.dn ρ).val=_;rw[RE.dD a,RE.dD b];rfl
 |.look r n a b c j,ρ=>by show Ob n j (a.dn ρ) (b.dn ρ) (c.dn ρ) (r.dn ρ).rows=_;rw[RE.dD r,IE.dD a,IE.dD b,IE.dD c];rfl
 |.has r n a b c,ρ=>by show(jo n [a.dn ρ,b.dn ρ,c.dn ρ] (r.dn ρ).rows).isSome=_;rw[RE.dD r,IE.dD a,IE.dD b,IE.dD c];rfl
def RE.dD:∀(e:RE)(ρ:aa),e.dn ρ=e.rv ρ
 |.v _,_=>rfl
 |.cell r i j k,ρ=>by show dv k (cellAt (r.dn ρ).rows (i.dn ρ) j)=_;rw[RE.dD r,IE.dD i];rfl
 |.k _,_=>rfl
end
def fN{α:Type}(n:Nat)(k:Nat->α):α:=azd (motive:=λ_=>α) (k 0) (λm _=>k (Nat.succ m)) n
def fI{α:Type}(n:Int)(k:Int->α):α:=Int.rec (motive:=λ_=>α) (λn=>fN n λn=>k (aAj n)) (λn=>fN n λn=>k (azS n)) n
def fB{α:Type}(b:Bool)(k:Bool->α):α:=azb (motive:=λ_=>α) (k false) (k true) b
def fV{α:Type}(v:Value)(k:Value->α):α:=match v with
 |.int q n=>fI n λn=>k (.int q n)
 |.bool b=>fB b λb=>k (.bool b)
 |.slice none n c=>fN n λn=>fN c λc=>k (.slice none n c)
 |v=>k v
def fR{α:Type}(v:RV):(RV->α)->α:=RV.rec (motive_1:=λ_=>(RV->α)->α) (motive_2:=λ_=>(List (List RV)->α)->α) (motive_3:=λ_=>(List RV->α)->α) (λv _ h k=>fV v λv=>h λl=>k (.mk v l)) (λk=>k []) (λ_ _ h Z k=>h λx=>Z λxs=>k (x::xs)) (λk=>k []) (λ_ _ h Z k=>h λx=>Z λxs=>k (x::xs)) v
def VF{α:Type}(v:List (List RV)):(List (List RV)->α)->α:=RV.rec_1 (motive_1:=λ_=>(RV->α)->α) (motive_2:=λ_=>(List (List RV)->α)->α) (motive_3:=λ_=>(List RV->α)->α) (λv _ h k=>fV v λv=>h λl=>k (.mk v l)) (λk=>k []) (λ_ _ h Z k=>h λx=>Z λxs=>k (x::xs)) (λk=>k []) (λ_ _ h Z k=>h λx=>Z λxs=>k (x::xs)) v
def VG{α:Type}(v:List RV):(List RV->α)->α:=RV.rec_2 (motive_1:=λ_=>(RV->α)->α) (motive_2:=λ_=>(List (List RV)->α)->α) (motive_3:=λ_=>(List RV->α)->α) (λv _ h k=>fV v λv=>h λl=>k (.mk v l)) (λk=>k []) (λ_ _ h Z k=>h λx=>Z λxs=>k (x::xs)) (λk=>k []) (λ_ _ h Z k=>h λx=>Z λxs=>k (x::xs)) v
def fX{α:Type}(x:XV)(k:XV->α):α:=match x with
 |.i n=>fI n λn=>k (.i n)
 |.b b=>fB b λb=>k (.b b)
 |.r v=>fR v λv=>k (.r v)
def fL{α:Type}(l:List XV):(List XV->α)->α:=ayt (motive:=λ_=>(List XV->α)->α) (λk=>k []) (λx _ Z k=>fX x λx=>Z λxs=>k (x::xs)) l
def Od{α:Type}:∀(n:Nat)(k:Nat->α),fN n k=k n
 |0,_=>rfl
 |_+1,_=>rfl
def VH{α:Type}:∀(n:Int)(k:Int->α),fI n k=k n
 |.ofNat n,k=>Od n λn=>k (aAj n)
 |.negSucc n,k=>Od n λn=>k (azS n)
def aeY{α:Type}:∀(n:Bool)(k:Bool->α),fB n k=k n
 |false,_=>rfl
 |true,_=>rfl
def apo{α:Type}(v:Value)(k:Value->α):fV v k=k v:=by
 unfold fV;split;exact VH _ _;exact aeY _ _;rw[Od,Od];rfl
mutual
def VI{α:Type}:∀(v:RV)(k:RV->α),fR v k=k v
 |.mk v l,k=>by
  show(fV v λv=>VF l λl=>k (.mk v l))=_;rw[apo,aeZ l]
def aeZ{α:Type}:∀(l:List (List RV))(k:List (List RV)->α),VF l k=k l
 |[],_=>rfl
 |x::xs,k=>by
  show(VG x λx=>VF xs λxs=>k (x::xs))=_;rw[ae0 x,aeZ xs]
def ae0{α:Type}:∀(l:List RV)(k:List RV->α),VG l k=k l
 |[],_=>rfl
 |x::xs,k=>by
  show(fR x λx=>VG xs λxs=>k (x::xs))=_;rw[VI x,ae0 xs]
end
def apq{α:Type}(x:XV)(k:XV->α):fX x k=k x:=by
 cases x<;>simp only[fX,VH,aeY,VI]
def ae1{α:Type}:∀(l:List XV)(k:List XV->α),fL l k=k l
 |[],_=>rfl
 |x::xs,k=>by
  show(fX x λx=>fL xs λxs=>k (x::xs))=_;rw[apq,ae1 xs]
def fS{α β:Type}(l:List β):(List β->α)->α:=ayt (motive:=λ_=>(List β->α)->α) (λk=>k []) (λx _ Z k=>Z λxs=>k (x::xs)) l
def fE{α:Type}(ρ:aa)(k:aa->α):α:=aa.rec (motive:=λ_=>α) (λi b r y=>fS i λi=>fS b λb=>fS r λr=>k ⟨i,b,r,y⟩) ρ
def Oe{α β:Type}:∀(l:List β)(k:List β->α),fS l k=k l
 |[],_=>rfl
 |x::xs,k=>Oe xs λxs=>k (x::xs)
def ae2{α:Type}(ρ:aa)(k:aa->α):fE ρ k=k ρ:=by
 obtain⟨i,b,r,y⟩:=ρ;show(fS i λi=>fS b λb=>fS r λr=>k ⟨i,b,r,y⟩)=_;rw[Oe,Oe,Oe]
def SV.xn(ρ:aa):SV->XV
 |.int _ e=>.i (e.dn ρ)
 |.bool b=>.b (b.dn ρ)
 |.ref r=>.r (r.dn ρ)
 |_=>.i 0
def apr(ρ:aa):SV.xn ρ=SV.xv ρ:=by
 funext v;cases v<;>simp only[SV.xn,SV.xv,IE.dD,BE.dD,RE.dD]
def T.step(ex:T->aa->List Lp->Option aV)(aP:kD)(t:T)(ρ:aa)(Z:List Lp):Option aV:=match t with
 |.ret v _ _=>fL ((sf v).map (SV.xn ρ)) λl=>some (.ret l)
 |.aS v=>(CM ρ v).map .aS
 |.node b t f=>cond (b.dn ρ) (ex t ρ Z) (ex f ρ Z)
 |.az b t=>cond (b.dn ρ) (ex t ρ Z) none
 |.call f args _ _ ks _ t=>fL ((nD args).map (SV.xn ρ)) λxs=>match aP f xs with
  |some (.ret ys)=>cond (dg ks ys) (fE (ρ.ext ys) λρ=>ex t ρ Z) none
  |some (.aS v)=>some (.aS v)
  |none=>none
 |.loop al _ X t=>fL (X.map (SV.xn ρ)) λxs=>fE (ρ.ext xs) λρ'=>ex t ρ' (⟨al,t,ρ⟩::Z)
 |.back al x=>match we al Z with
  |some (fr,W)=>fL (x.map (SV.xn ρ)) λxs=>fE (fr.ρ.ext xs) λρ=>ex fr.t ρ (fr::W)
  |none=>none
 |.new _ x _ _ t=>fR (fb x ρ) λv=>fE (ρ.add (.r v)) λρ=>ex t ρ Z
 |.rows _ x _ t=>fR (fb x ρ) λv=>fE (ρ.add (.r v)) λρ=>ex t ρ Z
 |.eC g h t f=>cond (g.dn ρ) (cond (h.dn ρ) (wc (ex t ρ Z) (ex f ρ Z)) (ex t ρ Z)) (cond (h.dn ρ) (ex f ρ Z) none)
 |.pick m g h t f=>pw ((qA m g h ρ).map λj=>match j with
  |some j=>fI j λj=>fE (ρ.add (.i j)) λρ=>ex t ρ Z
  |none=>ex f ρ Z)
 |.dl _ _ _ sp V r _ t=>match dw sp V (r.dn ρ).rows with
  |some l=>fR (.mk (r.dn ρ).val l) λv=>fE (ρ.add (.r v)) λρ=>ex t ρ Z
  |none=>none
 |_=>none
def Of(aP:kD)(n:Nat):T->aa->List Lp->Option aV:=azd (motive:=λ_=>T->aa->List Lp->Option aV) (λ_ _ _=>none) (λ_ Z=>T.step Z aP) n
def ae3(aP:kD):∀n,Of aP n=exec aP n
 |0=>by funext t ρ Z;simp only[exec];rfl
 |n+1=>by
  funext t ρ Z;show T.step (Of aP n) aP t ρ Z=_;rw[ae3 aP n];cases t<;>simp only[T.step,exec,Oc,BE.dD,RE.dD,apr,ae1,VI,VH,ae2]
  try case call f args _ _ ks _ t=>
   cases aP f ((nD args).map (SV.xv ρ)) with
   |none=>rfl
   |some o=>cases o<;>rfl
  try case back al x=>cases we al Z<;>rfl
  try case pick m g h t f=>
   refine congrArg pw (aw5 λj _=> ?_);cases j<;>rfl
  try case dl f g e sp X r rs t=>cases dw sp X (r.rv ρ).rows<;>rfl
def Og(Z:jx)(n:Nat):kD:=azd (motive:=λ_=>kD) Z.oG (λn X f xs=>match Z.oG f xs with
  |some o=>some o
  |none=>match Z.tree f with
   |some fn=>wi fn.d (fE (dY (kb fn.g) xs) λρ=>Of X n fn.t ρ [])
   |none=>none) n
def ae4(Z:jx):∀n,Og Z n=Z.aP n
 |0=>rfl
 |n+1=>by
  funext f xs;simp only[jx.aP];show(match Z.oG f xs with
   |some o=>some o
   |none=>match Z.tree f with
    |some fn=>wi fn.d (fE (dY (kb fn.g) xs) λρ=>Of (Og Z n) n fn.t ρ [])
    |none=>none)=_
  rw[ae4 Z n];simp only[ae3,ae2]
  all_goals cases Z.oG f xs with
  |some o=>rfl
  |none=>cases Z.tree f<;>rfl
def aps{Z:jx}{n f:Nat}{xs:List XV}{o:aV}(h:Og Z n f xs=some o):Z.Ev f xs o:=⟨n,by rw[<-ae4];exact h⟩
end
end Go.Proofs.YtieaiocljdpebaaGreatDoor.Y
