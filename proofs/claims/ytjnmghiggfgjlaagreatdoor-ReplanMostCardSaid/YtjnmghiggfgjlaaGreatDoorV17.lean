/- Part 17. -/
import Derived.Test.YtjnmghiggfgjlaaGreatDoorV6
import Derived.Test.YtjnmghiggfgjlaaGreatDoorV9
import Derived.Test.YtjnmghiggfgjlaaGreatDoorV10
import Derived.Test.YtjnmghiggfgjlaaGreatDoorV11
import Derived.Test.YtjnmghiggfgjlaaGreatDoorV12
import Derived.Test.YtjnmghiggfgjlaaGreatDoorV13
import Derived.Test.YtjnmghiggfgjlaaGreatDoorV14
import Derived.Test.YtjnmghiggfgjlaaGreatDoorV15
import Derived.Test.YtjnmghiggfgjlaaGreatDoorV16
import Derived.Test.YtjnmghiggfgjlaaGreatDoorRows
import Derived.ChangeArms
import Derived.DataReads
import Derived.OpenShut
import Derived.RecoverIn
import Derived.Shelf.Small.Strs
import Derived.Carry
import Derived.ProofKit
import Derived.LaidMore
import Derived.Stop.Joined
import Derived.Handed
set_option linter.all false
set_option maxRecDepth 100000
set_option maxHeartbeats 100000000
open Bool renaming and_eq_true->aC,false_eq_true->jX,eq_iff_iff->Jy,and_assoc->awi,true->J,false->E
open Nat renaming le_refl->cd,zero_add->jk,add_mul->sM,mul_le_mul_right->GC,eq_zero_or_pos->Mj,mod_lt->Q0,mul_comm->VM,sub_self->acn,div_lt_of_lt_mul->avT,div_add_mod->awb,le_mul_of_pos_right->aIQ
open List renaming nil_append->da,range->di,getElem?_eq_some_iff->dq,getElem?_eq_getElem->dG,map_cons->dH,getD_eq_getElem?_getD->dM,getElem?_map->et,replicate->eu,mem_append->fg,mem_cons->fh,mem_map->fw,getElem?_append_left->f8,all_eq_true->gz,getElem?_append_right->ji,mem_of_getElem?->jz,any_eq_true->nA,map_nil->oC,length_map->oW,getElem?_take->qg,getElem?_of_mem->sK,mem_range->sL,getElem_mem->ul,getElem?_cons_succ->vC,getElem?_drop->yV,length_drop->Cf,map->Cj,getElem?_range->Ep,take_of_length_le->Jt,length_take->Mo,append_nil->Mq,drop_drop->QX,mem_of_find?_eq_some->Vu,getElem?_replicate->Vv,not_mem_nil->VF,all_cons->VJ,drop_of_length_le->acb,find?_some->ack,take_append_of_le_length->avL,drop_append_of_le_length->avM,getElem?_zip_eq_some->avN,length_range->aJd,length->Y
open Option renaming map_some->ga,isSome_iff_exists->jy,getD_some->yX,bind_eq_some_iff->aIR,some->U,none->Z
open Array renaming getElem?_eq_some_iff->lF,getElem?_setIfInBounds->QO,getElem?_modify->QP,getElem?_toList->acd,ext_getElem?->aJb
open Go.Region renaming wanted->lG
open Go.World renaming cell?->oD,putObj->Mt,frozen?->VK,setCell->acm,cells?_some->aJe
open Int renaming toNat_natCast->rM
open Go.Oper renaming semAt_none->awf,uponIn->aws
open Go.IntKind renaming i64->I
namespace Go.Proofs.YtjnmghiggfgjlaaGreatDoor.Y
open Go.RowKit
noncomputable section
variable{F:Ty}{X:World}{O:Value}{A:eL}{V:Nat}{G:Nat→Bool}{B:Bool}{M:Program}{y:Act}{N:TypeId}{L:List LK}{H:List XV}{D:RV}{R:List MemPlace}{Q:Array Value}
def ab5:CT->CT->Bool
 |.int k,.int X=>decide (k=X)|.bool,.bool=>J|.bw _ k,.bw _ X=>decide (k=X)|_,_=>E
def Ek:eL->eL->Bool
 |[],[]=>J|c::l,X::V=>ab5 c X&&Ek l V|_,_=>E
def ab6:∀{l V:eL},Ek l V=J->Y l=Y V/\∀(j:Nat)(c X:CT),l[j]?=U c->V[j]?=U X->ab5 c X=J
 |[],[],_=>⟨rfl,λj c X h _=>by simp at h⟩|[],_::_,h=>by cases h|_::_,[],h=>by cases h
 |a::l,b::V,h=>by
  simp only[Ek,aC] at h;obtain⟨O,N⟩:=ab6 h.2;refine⟨by simp[O],λj c X R Q=> ?_⟩;cases j with|zero=>simp at R Q;subst R;subst Q;exact h.1|succ j=>exact N j c X (by simpa using R) (by simpa using Q)
inductive rL:RV->Prop
 |mk (rv:RV) (h:Y rv.ah<=140737488355328) (h2:∀row∈rv.ah,∀c∈row,rL c):rL rv
def rL.ab7(v:Value):rL (.mk v []):=.mk _ (by simp[RV.mU]) (by simp[RV.mU])
def Ca(o:Ty)(W:World)(V:Option RV):CT->Value->Prop
 |.int k,v=>(∃n,v=.int k n/\(Lit.int k n).wf=J)/\∀r,V=U r->r=.mk v []|.bool,v=>(∃b,v=.bool b)/\∀r,V=U r->r=.mk v []|.bw _ k,v=>∃X:RV,X.val=v/\bG W o k X/\rL X/\∀r,V=U r->dL r X
def Ca.akK{V:Option RV}{a b:CT}(h:ab5 a b=J)(k:Ca F X V b O):Ca F X V a O:=by
 cases a<;>cases b<;>simp only[ab5,dD,jX] at h;subst h;exact k;exact k;subst h;exact k
def AF(P:Program)(o:Ty):Nat->TypeId->Bool
 |0,_=>E
 |n+1,t=>match o t with
  |none=>E
  |U X=>match P.underlying t with
   |U (.int k)=>Ek X.am [.int k]|U .bool=>Ek X.am [.bool]|U .string=>Ek X.am [.bw undef .str]|U (.slice e)=>Ek X.am [.bw undef (.sl e)]&&AF P o n e&&decide (P.cellsOf e=(bI o (.sl e)).length)&&decide (P.cellsOf e≠0)&&decide (P.bytesOf e≠0)
   |U (.struct Q)=>decide (P.cellsOf t=Y X.am)&&Q.toList.all (λf=>AF P o n f.type&&(match o f.type with|U R=>decide (P.cellsOf f.type=Y R.am)&&Ek ((X.am.drop f.offset).take (Y R.am)) R.am|none=>E))&&(di (Y X.am)).all λj=>Q.toList.any λf=>decide (f.offset<=j)&&decide (j<f.offset+P.cellsOf f.type)
   |U (.array k e)=>decide (P.cellsOf t=Y X.am)&&AF P o n e&&(match o e with|U V=>decide (P.cellsOf e=Y V.am)&&decide (Y X.am=k*Y V.am)&&(di k).all λi=>Ek ((X.am.drop (i*Y V.am)).take (Y V.am)) V.am|none=>E)
   |_=>E
def pI{H:Type}(P:Program):Nat->TypeId->DataW H->Nat->Option RV
 |0,_,_,_=>Z
 |n+1,t,d,j=>match P.underlying t,d with
  |U (.int _),.lit (.int k q)=>U (.mk (.int k q) [])|U .bool,.lit (.bool b)=>U (.mk (.bool b) [])|U (.slice e),.slice X _=>if(X.all λd=>(di (P.cellsOf e)).all λj=>(pI P n e d j).isSome) then U (.mk (.slice Z (Y X) (Y X)) (X.map λd=>(di (P.cellsOf e)).map λj=>(pI P n e d j).getD default)) else Z|U (.slice _),.nil=>U (.mk (.slice Z 0 0) [])
  |U (.struct R),.agg V=>match(R.toList.zip V).find? λf=>decide (f.1.offset<=j)&&decide (j<f.1.offset+P.cellsOf f.1.type) with|U f=>pI P n f.1.type f.2 (j-f.1.offset)|none=>Z
  |U (.array _ e),.agg V=>match V[j/P.cellsOf e]? with|U d=>pI P n e d (j%P.cellsOf e)|none=>Z
  |_,_=>Z
section
variable{P:Program}{o:Ty}{W:World}
def Vo{R:Nat->Option RV}{c:CT}(h:Ek A [c]=J)(k:Ca o W (R 0) c O):[O].length=Y A/\∀(j:Nat)(X:CT)(u:Value),A[j]?=U X->[O][j]?=U u->Ca o W (R j) X u:=by
 obtain⟨Q,N⟩:=ab6 h;refine⟨by simp[Q],λj X u M V=> ?_⟩;cases j with|zero=>simp at V;subst V;exact Ca.akK (N 0 X c M rfl) k|succ j=>simp at V
def akL:∀{Ecel:Nat->Option RV}{am:eL}{cs:fy},Y cs=Y am->(∀(j:Nat)(O:CT)(v:Value),am[j]?=U O->cs[j]?=U v->Ca o W (Ecel j) O v)->
  ∃N:aE,N.map RV.val=cs/\(∀(j:Nat)(c:RV)(k:IntKind),N[j]?=U c->am[j]?=U (.int k)->∃n,c.val=.int k n)/\(∀(j:Nat)(c:RV),N[j]?=U c->am[j]?=U .bool->∃x,c.val=.bool x)/\(∀(j:Nat)(c:RV)(z:Value)(k:RK),N[j]?=U c->am[j]?=U (.bw z k)->bG W o k c)/\(∀c∈N,rL c)/\∀(j:Nat)(c r:RV),N[j]?=U c->Ecel j=U r->dL r c
 |_,[],[],_,_=>⟨[],rfl,λj c k h=>by simp at h,λj c h=>by simp at h,λj c z k h=>by simp at h,aw,λj c r h=>by simp at h⟩|_,[],_::_,h,_=>by simp at h|_,_::_,[],h,_=>by simp at h
 |Ecel,O::am,v::cs,F,h=>by
  obtain⟨N,D,B,A,y,w,t⟩:=akL (Ecel:=λj=>Ecel (j+1)) (am:=am) (cs:=cs) (by simpa using F) (λj c u s M=>h (j+1) c u (by simpa using s) (by simpa using M));obtain⟨r,L,M,q,p,m,l⟩:∃r:RV,r.val=v/\(∀k,O=.int k->∃n,r.val=.int k n)/\(O=.bool->∃x,r.val=.bool x)/\(∀z k,O=.bw z k->bG W o k r)/\rL r/\∀R,Ecel 0=U R->dL R r:=by
   have Q:=h 0 O v rfl rfl;cases O with
   |int k=>exact⟨.mk v [],rfl,λH e=>(by cases e;obtain⟨⟨n,i,_⟩,_⟩:=Q;exact⟨n,i⟩),λe=>(by cases e),λz k e=>(by cases e),rL.ab7 v,λR G=>by rw[Q.2 R G];exact dL.refl _⟩
   |bool=>exact⟨.mk v [],rfl,λH e=>(by cases e),λ_=>Q.1,λz k e=>(by cases e),rL.ab7 v,λR G=>by rw[Q.2 R G];exact dL.refl _⟩
   |bw z k=>
    obtain⟨r,L,g,ce,f⟩:=Q;exact⟨r,L,λH e=>(by cases e),λe=>(by cases e),λd H e=>(by cases e;exact g),ce,f⟩
  refine⟨r::N,by simp[L,D],λj c k X V=> ?_,λj c X V=> ?_,λj c z k X V=> ?_,λc Q=>(fh.1 Q).elim (λe=>e▸m) (λQ=>w c Q),λj c R X V=> ?_⟩;cases j with|zero=>simp at X V;subst X;exact M k V|succ j=>exact B j c k (by simpa using X) (by simpa using V)
  cases j with|zero=>simp at X V;subst X;exact q V|succ j=>exact A j c (by simpa using X) (by simpa using V)
  cases j with|zero=>simp at X V;subst X;exact p z k V|succ j=>exact y j c z k (by simpa using X) (by simpa using V)
  cases j with|zero=>simp at X;subst X;exact l R V|succ j=>exact t j c R (by simpa using X) V
def avr{α:Type}{R:Nat->α->Prop}:∀(n:Nat),(∀i,i<n->∃x,R i x)->∃l:List α,Y l=n/\∀(i:Nat)(x:α),l[i]?=U x->R i x
 |0,_=>⟨[],rfl,λi x h=>by simp at h⟩
 |n+1,h=>by
  obtain⟨l,V,Q⟩:=avr n (λi O=>h i ae);obtain⟨x,N⟩:=h n ae;refine⟨l++[x],by simp[V],λi y X=> ?_⟩;by_cases O:i<n;rw[f8 ae] at X;exact Q i y X;rw[ji ae] at X;have:i=n:=by
   cases M:i-Y l with|zero=>omega|succ q=>rw[M] at X;simp at X
  subst this;rw[V,acn] at X;simp at X;subst X;exact N
def akM{H:Type}{P:Program}{e:TypeId}{q:Nat}:∀{l:List (DataW H)}{d:DataW H},d∈l->q∈DataW.weights P e d->q∈DataW.weightsAll P e l
 |[],_,h,_=>by simp at h
 |x::l,d,h,X=>by
  simp only[DataW.weightsAll,fg];rcases fh.1 h with rfl|h;exact .inl X;exact .inr (akM h X)
def avs{H:Type}{P:Program}{q:Nat}:∀{X:iW}{l:List (DataW H)}{i:Nat}{t:TypeId}{d:DataW H},X[i]?=U t->l[i]?=U d->q∈DataW.weights P t d->q∈DataW.weightsEach P X l
 |[],_,_,_,_,h,_,_=>by simp at h|_::_,[],_,_,_,_,h,_=>by simp at h
 |O::X,N::l,i,t,d,V,R,Q=>by
  simp only[DataW.weightsEach,fg];cases i with|zero=>simp at V R;subst V;subst R;exact .inl Q|succ i=>exact .inr (avs (i:=i) (by simpa using V) (by simpa using R) Q)
def avt{R:Nat}(h:W.cell? ⟨V,R,Z⟩=U O):∃Q t X,W.heap[V]?=U (.cells Q t X):=by
 unfold oD at h;split at h;rename_i c t X N;exact⟨c,t,X,N⟩;cases h
structure avu{H:Type}(P:Program)(o:Ty)(W:World)(n:Nat)(e:TypeId)(am:eL)(a:Addr)(elems:List (DataW H×List MemPlace))(i:Nat)(row:aE):Prop where
 len:Y row=Y am
 sp:a.spot=Z
 lq:∃cs t fr,W.heap[a.block]?=U (.cells cs t fr)
 cell:∀(j:Nat)(c:RV),row[j]?=U c->W.cell? ⟨a.block,a.off+i*Y am+j,Z⟩=U c.val
 hi:∀(j:Nat)(c:RV)(k:IntKind),row[j]?=U c->am[j]?=U (.int k)->∃n,c.val=.int k n
 hb:∀(j:Nat)(c:RV),row[j]?=U c->am[j]?=U .bool->∃x,c.val=.bool x
 ho:∀(j:Nat)(c:RV)(z:Value)(k:RK),row[j]?=U c->am[j]?=U (.bw z k)->bG W o k c
 bnd:∀c∈row,rL c
 eq:∀(j:Nat)(c r:RV)(x:DataW H×List MemPlace),row[j]?=U c->elems[i]?=U x->pI P n e x.1 j=U r->dL r c
def Vp{H:Type}{b1:TypeId×Value->H}{b2:Nat}{spare:Nat->Bool}{b3:Bool}:∀(b4 m:Nat)(t:TypeId)(ti:TI)(cs:fy)(x:DataW H×List MemPlace),o t=U ti->AF P o m t=J->DataW.trod b1 P W b2 spare b3 b4 t cs=U x->(∀q∈DataW.weights P t x.1,q<=reachBytes)->
  Y cs=Y ti.am/\∀(j:Nat)(ct:CT)(v:Value),ti.am[j]?=U ct->cs[j]?=U v->Ca o W (pI P m t x.1 j) ct v
 |0,_,_,_,_,_,_,_,h,_=>by simp[DataW.trod] at h|_+1,0,_,_,_,_,_,M,_,_=>by simp[AF] at M
 |n+1,m+1,t,ti,cs,x,ht,M,h,aa=>by
  simp only[AF,ht] at M;cases N:P.underlying t with
  |none=>rw[N] at M;cases M
  |some d=>
   rw[N] at M;cases d<;>simp only[jX] at M
   case int k=>
    obtain⟨q,rfl,rfl,b5⟩:=DataW.trod_int N h;exact Vo M ⟨⟨q,rfl,b5⟩,λr X=>by simp only[pI,N,dW] at X;exact X.symm⟩
   case bool=>
    obtain⟨q,rfl,rfl⟩:=DataW.trod_bool N h;exact Vo M ⟨⟨q,rfl⟩,λr X=>by simp only[pI,N,dW] at X;exact X.symm⟩
   case string=>
    obtain⟨q,rfl,_⟩:=DataW.trod_string N h;exact Vo M ⟨.mk (.string q) [],rfl,.str q,rL.ab7 _,λr X=>by simp[pI,N] at X⟩
   case slice e=>
    simp only[aC,dD] at M;obtain⟨⟨⟨⟨g1,A⟩,G⟩,g4⟩,g6⟩:=M;rcases DataW.trod_slice N h with⟨rfl,F⟩|⟨a,ab,ba,s,bb,n',hn,rfl,F,hb,b6,cv,bc,bd,_,_⟩;exact Vo g1 ⟨.mk (.slice Z 0 0) [],rfl,.sl e Z 0 0 [] rfl (cd _) (λi V X=>by simp at X) (λi j V c k X=>by simp at X) (λi j V c X=>by simp at X) (λi j V c z k X=>by simp at X),rL.ab7 _,λr X=>by
     simp only[pI,N,F,dW] at X;subst X;exact dL.refl _⟩
    cases hn;subst F;simp only[DataW.weights,N,fh,fg] at aa;have cx:ab<=140737488355328:=by
     have y:=aa _ (.inl rfl);have Q:(s.map (·.1)).length+(bb.map (·.1)).length<=((s.map (·.1)).length+(bb.map (·.1)).length)*P.bytesOf e:=aIQ _ ae;simp only[oW] at y Q;have w:reachBytes<=140737488355328:=ew;omega
    have ag:∃L,o e=U L:=by
     cases m with
     |zero=>simp[AF] at A
     |succ m=>
      cases D:o e with|none=>simp[AF,D] at A|some L=>exact⟨L,rfl⟩
    obtain⟨L,ag⟩:=ag;have af:bI o (.sl e)=L.am:=by simp[bI,ag]
    rw[af] at G;have b7:∀i,i<ab->∃V:aE,avu P o W m e L.am a s i V:=by
     intro i l;have Q:=bd i l;have ac:i<Y s:=ae;rw[dG ac,aIR] at Q;obtain⟨ci,Q,w⟩:=Q;obtain⟨q1,q2⟩:=Vp n m e L ci _ ag A w (λq D=>aa q (.inr (.inl (akM (fw.2 ⟨_,ul ac,rfl⟩) D))));obtain⟨_,c1,c2⟩:=aJe Q;obtain⟨V,r1,r2,r3,r4,r5,r6⟩:=akL q1 q2;have bf:Y V=Y L.am:=by rw[<-oW (f:=RV.val),r1,q1]
     have al:a.spot=none:=by
      have y:=bd 0 ae;rw[dG ae,aIR] at y;obtain⟨c0,y,_⟩:=y;obtain⟨_,d1,d2⟩:=aJe y;have d3:=d2 0 ae;rw[Nat.zero_mul,dG ae] at d3;simp only[Addr.add,dO] at d3;unfold oD at d3;split at d3;split at d3;cases d3;rename_i hs;simpa using hs;cases d3
     have bg:∀(j:Nat)(c:RV),V[j]?=U c->W.cell? ⟨a.block,a.off+i*Y L.am+j,Z⟩=U c.val:=by
      intro j c B;have cy:j<Y L.am:=by rw[<-bf];exact(dq.1 B).1
      have c3:=c2 j ae;have c4:ci[j]?=U c.val:=by rw[<-r1,et,B];rfl
      rw[c4] at c3;have ha:(a.add (i*P.cellsOf e)).add j=⟨a.block,a.off+i*Y L.am+j,Z⟩:=by
       rw[G];unfold Addr.add;cases a with
       |mk lq cA sp=>
        simp only at al;subst al;by_cases q5:i*Y L.am=0<;>by_cases q6:j=0<;>simp[q5,q6]
      rw[ha] at c3;exact c3
     refine⟨V,bf,al, ?_,bg,r2,r3,r4,r5,λj c r x g1 A G=>r6 j c r g1 (by rw[dG ac] at A;cases A;exact G)⟩;have bk:0<Y L.am:=ae;obtain⟨c,g⟩:∃c,V[0]?=U c:=⟨_,dG ae⟩;exact avt (bg 0 c g)
    obtain⟨bl,l1,l2⟩:=avr (α:=aE) (R:=avu P o W m e L.am a s) ab b7;refine Vo g1 ⟨.mk (.slice (U a) ab ba) bl,rfl,.sl e (U a) ab ba bl l1 b6 (λi V X=> ?_) (λi j V c k X g hk=> ?_) (λi j V c X g hk=> ?_) (λi j V c z k X g hk=> ?_),.mk _ (by rw[RV.mU];omega) (λV X c g=> ?_),λr X=> ?_⟩;have p:=l2 i V X;rw[af];refine⟨p.len,a.block,a.off, ?_,p.lq,p.cell⟩;have p2:=p.sp;cases a;simp only at p2;subst p2;rfl;rw[af] at hk;exact(l2 i V X).hi j c k g hk;rw[af] at hk;exact(l2 i V X).hb j c g hk;rw[af] at hk;exact(l2 i V X).ho j c z k g hk;rw[RV.mU] at X;obtain⟨i,l⟩:=sK X;exact(l2 i V l).bnd c g;simp only[pI,N] at X;split at X;rename_i b8;cases X;have br:Y s=ab:=ae;rw[oW,br];have get:∀(i:Nat)(V:aE),(Cj (λd=>Cj (λj=>(pI P m e d j).getD default) (di (P.cellsOf e))) (s.map (·.1)))[i]?=U V->∃x,s[i]?=U x/\V=(di (P.cellsOf e)).map λj=>(pI P m e x.1 j).getD default:=by
     intro i V Q;rw[et,et] at Q;cases F:s[i]? with|none=>rw[F] at Q;cases Q|some x=>rw[F] at Q;simp only[ga,dW] at Q;exact⟨x,rfl,Q.symm⟩
    refine dL.sl _ _ _ _ _ _ _ (by simp[l1,br]) (λi V an Q w=> ?_) (λi j V an c c' Q w h3 h4=> ?_);obtain⟨x,_,rfl⟩:=get i V Q;rw[(l2 i an w).len];simp[G];obtain⟨x,F,rfl⟩:=get i V Q;rw[et] at h3;cases B:(di (P.cellsOf e))[j]? with
    |none=>rw[B] at h3;cases h3
    |some j'=>
     have a0:j<P.cellsOf e:=by have:=(dq.1 B).1;simpa using this
     rw[Ep a0] at B;cases B;rw[Ep a0] at h3;simp only[ga,dW] at h3;have:=gz.1 (gz.1 b8 x.1 (fw.2 ⟨x,jz F,rfl⟩)) j (sL.2 a0);obtain⟨r,X⟩:=jy.1 this;rw[X] at h3;simp only[yX] at h3;subst h3;exact(l2 i an w).eq j c' r x h4 F X
    cases X
   case struct b=>
    simp only[aC,dD,gz,nA,sL] at M;obtain⟨⟨g1,A⟩,G⟩:=M;obtain⟨u,n',hn,F,ca,cc,hf⟩:=DataW.trod_struct N h;cases hn;subst F;simp only[DataW.weights,N] at aa;refine⟨ae,λj ct v Q w=> ?_⟩;have B:j<Y ti.am:=(dq.1 Q).1;obtain⟨f0,cf,ch,cl⟩:=G j B;have cB:(b.toList.zip (u.map (·.1))).length=b.size:=bY;obtain⟨fd,a1⟩:∃fd,(b.toList.zip (u.map (·.1))).find? (λf=>decide (f.1.offset<=j)&&decide (j<f.1.offset+P.cellsOf f.1.type))=U fd:=by
     obtain⟨i0,a3⟩:=sK cf;have cn:i0<b.size:=by have:=(dq.1 a3).1;simpa using this
     refine jy.1 (List.find?_isSome.2 ⟨((b.toList.zip (u.map (·.1)))[i0]' ae),ul _, ?_⟩);have:f0=b.toList[i0]:=by rw[dG (by simpa using cn)] at a3;exact(nE a3).symm
     simp only[List.getElem_zip,<-this,aC,dD];exact⟨ch,cl⟩
    have bs:=ack a1;simp only[aC,dD] at bs;obtain⟨bt,bx⟩:=bs;obtain⟨iz,co⟩:=sK (Vu a1);obtain⟨f,dd⟩:=fd;have a4:=avN.1 co;have bt:f.offset<=j:=bt;have bx:j<f.offset+P.cellsOf f.type:=bx;have cp:f∈b.toList:=jz a4.1;obtain⟨k1,k2⟩:=A f cp;cases D:o f.type with
    |none=>rw[D] at k2;cases k2
    |some fi=>
     rw[D] at k2;simp only[aC,dD] at k2;obtain⟨k3,k4⟩:=k2;have l:=a4.1;have ac:b[iz]?=U f:=by simpa using l
     have cC:iz<b.size:=(lF.1 ac).1;have e1:=hf iz f ac;rw[dG ae] at e1;obtain⟨q1,q2⟩:=Vp n m f.type fi _ _ D k1 e1 (λq a9=>aa q (avs (i:=iz) (by simp[l]) (by simp[show iz<Y u from ae]) a9));obtain⟨_,q4⟩:=ab6 k4;have b0:j-f.offset<Y fi.am:=ae;have ej:f.offset+(j-f.offset)=j:=ae;have v1:((cs.drop f.offset).take (P.cellsOf f.type))[j-f.offset]?=U v:=by
      rw[qg,aH ae,yV,ej];exact w
     have v2:((ti.am.drop f.offset).take (Y fi.am))[j-f.offset]?=U ct:=by
      rw[qg,aH b0,yV,ej];exact Q
     have v3:fi.am[j-f.offset]?=U fi.am[j-f.offset]:=dG b0;have cu:dd=(u[iz]' ae).1:=by
      have:=a4.2;rw[et,dG ae] at this;exact(nE this).symm
     have hE:pI P (m+1) t (.agg (u.map (·.1))) j=pI P m f.type (u[iz]' ae).1 (j-f.offset):=by
      simp only[pI,N,a1,cu]
     rw[hE];exact Ca.akK (q4 _ _ _ v2 v3) (q2 _ _ _ v3 v1)
   case array k e=>
    simp only[aC,dD] at M;obtain⟨⟨g1,A⟩,G⟩:=M;cases D:o e with
    |none=>rw[D] at G;cases G
    |some O=>
     rw[D] at G;simp only[aC,dD,gz,sL] at G;obtain⟨⟨g4,g5⟩,g6⟩:=G;obtain⟨u,n',hn,F,ca,cc,bc⟩:=DataW.trod_array N h;cases hn;subst F;simp only[DataW.weights,N] at aa;refine⟨ae,λj ct v Q w=> ?_⟩;have B:j<Y ti.am:=(dq.1 Q).1;have bk:0<Y O.am:=by
      rcases Mj (Y O.am) with y|y;rw[g5,y] at B;omega;exact y
     have l:j/Y O.am<k:=avT (by rw[VM];omega);have X:j%Y O.am<Y O.am:=Q0 _ bk;have ej:j/Y O.am*Y O.am+j%Y O.am=j:=by have:=awb j (Y O.am);rw[VM] at this;exact this
     have e1:=bc (j/Y O.am) l;rw[dG ae] at e1;obtain⟨q1,q2⟩:=Vp n m e O _ _ D A e1 (λq a9=>aa q (akM (fw.2 ⟨_,ul _,rfl⟩) a9));obtain⟨_,q4⟩:=ab6 (g6 _ l);have v1:((cs.drop (j/Y O.am*P.cellsOf e)).take (P.cellsOf e))[j%Y O.am]?=U v:=by
      rw[g4,qg,aH X,yV,ej];exact w
     have v2:((ti.am.drop (j/Y O.am*Y O.am)).take (Y O.am))[j%Y O.am]?=U ct:=by
      rw[qg,aH X,yV,ej];exact Q
     have v3:O.am[j%Y O.am]?=U O.am[j%Y O.am]:=dG X;have hE:pI P (m+1) t (.agg (u.map (·.1))) j=pI P m e (u[j/Y O.am]' ae).1 (j%Y O.am):=by
      simp only[pI,N,g4,et];rw[dG ae];rfl
     rw[hE];exact Ca.akK (q4 _ _ _ v2 v3) (q2 _ _ _ v3 v1)

def Vr(X:aL)(V:aZ):Prop:=∀(q:Nat)(k:IntKind)(n:Int),X[q]?=U (.int k)->V[q]?=U (.i n)->(Lit.int k n).wf=J
def avv:∀{Ecel:Nat->Option RV}{am:eL}{cs:fy},Y cs=Y am->(∀(j:Nat)(V:CT)(v:Value),am[j]?=U V->cs[j]?=U v->Ca o W (Ecel j) V v)->
  ∃Q:aZ,dJ (am.map vG) Q/\nQ (am.map vG) Q=cs/\xS o W (am.map vG) Q/\(∀X,XV.r X∈Q->rL X)/\Vr (am.map vG) Q
 |_,[],[],_,_=>⟨[],trivial,rfl,λq e X h=>by simp at h,aw,λq k n h=>by simp at h⟩|_,[],_::_,h,_=>by simp at h|_,_::_,[],h,_=>by simp at h
 |Ecel,V::am,v::cs,A,h=>by
  obtain⟨Q,R,O,y,w,t⟩:=avv (Ecel:=λj=>Ecel (j+1)) (am:=am) (cs:=cs) (by simpa using A) (λj c u H G=>h (j+1) c u (by simpa using H) (by simpa using G));obtain⟨x,H,G,s,p,m⟩:∃x:XV,qy (vG V) x/\x.at (vG V)=v/\(∀e X,vG V=.ak e->x=.r X->bG W o e X)/\(∀X,x=.r X->rL X)/\∀k n,vG V=.int k->x=.i n->(Lit.int k n).wf=true:=by
   have F:=h 0 V v rfl rfl;cases V with
   |int k=>
    obtain⟨⟨n,rfl,l⟩,_⟩:=F;exact⟨.i n,trivial,rfl,λe X h=>(by cases h),λX h=>(by cases h),λD B R O=>(by cases R;cases O;exact l)⟩
   |bool=>
    obtain⟨⟨n,rfl⟩,_⟩:=F;exact⟨.b n,trivial,rfl,λe X h=>(by cases h),λX h=>(by cases h),λD B R O=>(by cases R)⟩
   |bw z k=>
    obtain⟨X,rfl,g,f,_⟩:=F;exact⟨.r X,trivial,rfl,λe d R O=>(by cases R;cases O;exact g),λd h=>(by cases h;exact f),λD B R O=>(by cases R)⟩
  refine⟨x::Q,⟨H,R⟩, ?_,λq e X N M=> ?_,λX L=> ?_,λq k n N M=> ?_⟩;show x.at (vG V)::nQ (am.map vG) Q=_;rw[G,O];cases q with|zero=>simp at N M;exact s e X N M|succ q=>exact y q e X (by simpa using N) (by simpa using M)
  rcases fh.1 L with L|L;exact p X L.symm;exact w X L;cases q with|zero=>simp at N M;exact m k n N M|succ q=>exact t q k n (by simpa using N) (by simpa using M)
def avw:∀{X V:aL}{R Q:aZ},dJ X R->dJ V Q->dJ (X++V) (R++Q)/\nQ (X++V) (R++Q)=nQ X R++nQ V Q
 |[],_,[],_,_,h=>⟨h,rfl⟩|[],_,_::_,_,h,_=>h.elim|_::_,_,[],_,h,_=>h.elim
 |k::X,V,x::R,Q,h,O=>by
  obtain⟨N,M⟩:=avw h.2 O;exact⟨⟨h.1,N⟩,by simp[nQ,M]⟩
def akN:∀{X:aL}{V:aZ},dJ X V->Y X=Y V
 |[],[],_=>rfl|[],_::_,h=>h.elim|_::_,[],h=>h.elim|k::X,x::V,h=>by simp[akN h.2]
def aG5{X O:aL}{Q N:aZ}(L:dJ X Q)(h:xS o W X Q)(H:xS o W O N):xS o W (X++O) (Q++N):=by
 intro q e M V R;have G:=akN L;by_cases F:q<Y X;rw[f8 F] at V;rw[f8 ae] at R;exact h q e M V R;rw[ji ae] at V;rw[ji ae,<-G] at R;exact H _ e M V R
def aG6{X O:aL}{Q N:aZ}(M:dJ X Q)(h:Vr X Q)(L:Vr O N):Vr (X++O) (Q++N):=by
 intro q k n V R;have H:=akN M;by_cases G:q<Y X;rw[f8 G] at V;rw[f8 ae] at R;exact h q k n V R;rw[ji ae] at V;rw[ji ae,<-H] at R;exact L _ k n V R
def aG7{H:Type}{l:TypeId×Value->H}(kK:jq P o):∀{R:iW}{Q:fy}{L:List (DataW H)}{y:List MemPlace},R.all (AF P o 9)=J->DataW.TrodAll l P W V G B R Q L y->(∀q∈DataW.weightsEach P R L,q<=reachBytes)->
  (∀(j:Nat)(t:TypeId)(v:Value)(X:TI),R[j]?=U t->Q[j]?=U v->o t=U X->(X.d.isAgg=J/\v=.agg v.cells)\/(X.d.isAgg=E/\v.cells.toList=[v]))->
  ∃(F:aL)(O:aZ),fH o R=U F/\dJ F O/\qE o R (nQ F O)=Q/\xS o W F O/\(∀M,XV.r M∈O->rL M)/\Vr F O:=by
 intro R;induction R with
 |nil=>
  intro Q L y _ h _ _;have:Q=[]:=by
   cases Q with|nil=>rfl|cons v Q=>cases L<;>simp[DataW.TrodAll] at h
  subst this;exact⟨[],[],rfl,trivial,rfl,λq e M h=>by simp at h,aw,λq k n h=>by simp at h⟩
 |cons t R i=>
  intro Q L y A h g u;obtain⟨v,af,d,f,p,q,rfl,rfl,rfl,⟨c,b⟩,a⟩:=Go.ChangeShapes.trodAll_cons h;simp only[VJ,aC] at A;obtain⟨X,z⟩:∃X,o t=U X:=by
   cases N:o t with|none=>have:=A.1;simp[AF,N] at this|some X=>exact⟨X,rfl⟩
  have s:∀q,q∈DataW.weights P t d\/q∈DataW.weightsEach P R f->q<=reachBytes:=λq N=>g q (by simp only[DataW.weightsEach,fg];exact N)
  obtain⟨m,c2⟩:=Vp c 9 t X _ _ z A.1 b (λq N=>s q (.inl N));obtain⟨O,x,x2,x3,x4,x5⟩:=avv m c2;obtain⟨aa,ab,y1,y2,y3,y4,y5,y6⟩:=i A.2 a (λq N=>s q (.inr N)) (λj t' v' ac q1 q2 q3=>u (j+1) t' v' ac (by simpa using q1) (by simpa using q2) q3);obtain⟨z1,z2⟩:=avw x y2;refine⟨X.am.map vG++aa,O++ab,by simp[fH,z,y1],z1, ?_,aG5 x x3 y4,λM D=> ?_,aG6 x x5 y6⟩;rw[z2,x2];simp only[qE,z];have hl:Y v.cells.toList=Y X.am:=m;rw[avL ae,Jt ae,avM ae,acb ae,da,y3];have e:=u 0 t v X rfl rfl z;congr 1;rcases e with⟨w,e⟩|⟨w,e⟩;rw[aH w];exact e.symm;rw[w,e];rfl;rcases fg.1 D with D|D;exact x4 M D;exact y5 M D
end
def aG8{W R:Oper}{Q:Exit->Act->List Frame->World->Prop}{L H:List Frame}(A:(execOp y.eval W).run M X=.ok .recover X)(u:W.guard=Z)
  (N:recoverD L=U (O,H)\/(recoverD L=Z/\O=.nilIface/\H=L))
  (h:wpOpsIn Fence.wide 0 M #[W,R] (λe G F=>Q e G H F) [1] (y.put W.dst O) X):(Code.region V #[W,R] E).wpSIn Fence.wide 0 M Q y L X:=by
 intro b k t D s j;have r:Y H=Y L:=by
  rcases N with N|⟨_,_,rfl⟩;exact recoverD_length N;rfl
 obtain⟨e,G,F,q,p⟩:=wp_opsIn [1] _ X h b k H (D.trans rfl) s (room_wide _);refine⟨e,G,H,F,r,q,.of_steps (.one (fenced_wide _ _) stepR_region) ?_⟩;have z:(#[W,R]:dC)[0]?=U W:=rfl;have o:lG W (yielded #[W,R] y.tmps)=true:=by simp[lG,u]
 have x:=stepGR_op (P:=M) (b:=b) (k:=k) (cs:=L) (w:=X) (rest:=[1]) z o;rw[D,awf] at x;have n:(b.atR y (.inRegion #[W,R] [0,1]::k)).kind=.deferred:=t;have B:=tryRecover_deferred n L;have m:(b.atR y (.inRegion #[W,R] [0,1]::k)).finish O=b.atR (y.put W.dst O) (.inRegion #[W,R] [1]::k):=by
  rw[Frame.finish_atR,z];rfl
 refine .of_steps (.one (fenced_wide _ _) (step_lone_go ?_)) p;rw[show di (#[W,R]:dC).size=[0,1] from rfl,x,<-m];simp only[Frame.atR,D] at B⊢;rcases N with N|⟨N,l,rfl⟩;simp[stepG.apply,A,B,N];subst l;simp[stepG.apply,A,B,N]
def avx{R W:Oper}{Q:Exit->Act->List Frame->World->Prop}{O cs':List Frame}{v:Value}{f:FuncId}{args:mO}(L:(execOp y.eval R).run M X=.ok .recover X)(H:R.guard=Z)
  (G:recoverD O=U (v,cs')\/(recoverD O=Z/\v=.nilIface/\cs'=O))(F:W.guard=Z)(D:(W.semAt Z (y.put R.dst v).eval).run M X=.ok (.enter f args) X)
  (h:Calls M f args X λe N=>∃u,e=.returned u/\Q .normal ((y.put R.dst v).put W.dst u) cs' N):(Code.region V #[R,W] E).wpSIn Fence.wide 0 M Q y O X:=by
 refine aG8 L H G ?_;show(if lG W _ then _ else _);rw[aH (by simp[lG,F])];refine⟨λ_ _=>trivial, ?_⟩;show aws Fence.wide 0 M W _ _ _ ((W.semAt Z (y.put R.dst v).eval).run M X);rw[D];refine⟨λh=>by simp[Fence.wide] at h,callsIn_wide.2 (h.mono ?_)⟩;rintro e N ⟨u,rfl,B⟩;exact B
@[local go_sem] def aJU (v:Value) (w:World):(Instr.typeAssert (.iface 47 v) 20 47 J).run Tryz.prog w=.ok (.tuple #[v,.bool J]) w:=aT
def aG9(b:Nat)(W:World):Calls Tryz.prog 79 #[.nilIface,.pointer (U ⟨b,0,Z⟩)] W λe X=>e=.returned (.tuple #[])/\X=W:=by
 go_enter Tryz.func79,Tryz.ntmps79;go_wp2
 (try simp only[Exit.inBlock,Exit.then]);refine bodyPost_ret (results_none rfl _ _ _) rfl ?_;exact⟨rfl,rfl⟩
def aHa(b:Nat)(X k:Int)(W:World)(R:W.cell? ⟨b,0,Z⟩=U (.int I X))(Q:W.frozen? ⟨b,0,Z⟩=E):Calls Tryz.prog 79 #[.iface 47 (.int I k),.pointer (U ⟨b,0,Z⟩)] W λe V=>e=.returned (.tuple #[])/\V=W.setCell ⟨b,0,Z⟩ (.int I k):=by
 go_enter Tryz.func79,Tryz.ntmps79;go_wp2
 go_end0
 exact⟨rfl,rfl⟩
def avy{u:Value}(h:X.heap[V]?=U (.cells #[u] N (0,0))):X.setCell ⟨V,0,Z⟩ O=X.putObj V (.cells #[O] N (0,0)):=by
 unfold acm Mt;congr 1;apply aJb;intro i;rw[QP,QO];by_cases R:V=i;subst R;have Q:V<X.heap.size:=(lF.1 h).1;rw[aH rfl,aH rfl,h,aH Q];rfl;rw[aS R,aS R]
def avz{g:FuncId}{X:Func}{D:TypeId}{B A:String}{z y:Array Edge}(M:Tryz.prog.funcs[g]?=U X)(x:uJ Tryz.prog g=J)(L:X.ntmps=3)(bZ:X.results= #[])
  (H:X.body=U (.region V #[⟨U 1,.call {callee:=.builtin .recover,args:= #[],argTypes:= #[]},N,B,z,Z⟩,⟨U 2,.call {callee:=.value (.func 79),args:= #[.tmp 1,.tmp 0],argTypes:= #[20,119]},D,A,y,Z⟩] E)):zF Tryz.prog g 47:=by
 have G:∀F W,(callFunc 79 F).run Tryz.prog W=.ok (.enter 79 F) W:=xO aT;refine⟨xO x,λW b=> ?_,λW b w k Q=> ?_⟩;refine callsDIn_of_wpSIn M H (by simp[Fence.wide]) λP O R=> ?_
 rw[L];refine avx (v:=.nilIface) (cs':=P::O) (f:=79) (args:= #[.nilIface,.pointer (U ⟨b,0,Z⟩)]) rfl rfl (.inr ⟨by simp[recoverD,R],rfl,rfl⟩) rfl (by simp[Oper.semAt,go_sem,Act.put,G]) ?_;refine(aG9 b W).mono ?_;rintro e u ⟨rfl,rfl⟩;refine⟨_,rfl,rfl,.returning,by rw[<-R],.tuple #[], ?_,⟨_,rfl⟩,rfl,rfl⟩;simp[results,bZ];refine callsDIn_of_wpSIn M H (by simp[Fence.wide]) λP O R=> ?_
 rw[L];refine avx (v:=.iface 47 (.int I k)) (cs':={P with mode:=.panicking [{v:=.iface 47 (.int I k),recovered:=J}]}::O) (f:=79) (args:= #[.iface 47 (.int I k),.pointer (U ⟨b,0,Z⟩)]) rfl rfl (.inl (by simp[recoverD,R])) rfl (by simp[Oper.semAt,go_sem,Act.put,G]) ?_;refine(aHa b w k W (by simp[oD,Q]) (by simp[VK,Q])).mono ?_;rintro e u ⟨rfl,rfl⟩;refine⟨_,rfl,rfl,_,rfl,.tuple #[], ?_,⟨_,rfl⟩,rfl,avy Q⟩;simp[results,bZ]
def aHb:zF Tryz.prog 78 47:=avz Tryz.func78 aT rfl rfl rfl
def aHc:zF Tryz.prog 116 47:=avz Tryz.func116 aT rfl rfl rfl
def aHd(W:World)(b:Nat):CallsDIn Fence.wide 0 Tryz.prog 85 #[.pointer (U ⟨b,0,Z⟩)] .returning W λR u Q=>(∃v,R=.returned v)/\u=.returning/\Q=W:=by
 refine callsDIn_of_wpSIn Tryz.func85 rfl (by simp[Fence.wide]) λV P X=> ?_
 have O:V={V with mode:=.returning}:=by rw[<-X]
 rw[Tryz.ntmps85];apply wpSIn_seq;apply wpSIn_region;simp[wpOpsSIn,go_sem,recoverD,X,Exit.thenS];refine wpSIn_of_wpIn rfl (wpIn_wide.2 ?_);go_wp2;refine⟨rfl,.returning,by rw[<-X],.tuple #[], ?_,⟨_,rfl⟩,rfl,rfl⟩;simp[results,Tryz.results85]
def aHe(W:World)(b:Nat)(V k:Int)(X:W.heap[b]?=U (.cells #[.int I V] 47 (0,0))):CallsDIn Fence.wide 0 Tryz.prog 85 #[.pointer (U ⟨b,0,Z⟩)] (.panicking [{v:=.iface 47 (.int I k),recovered:=E}]) W λR u Q=>(∃v,R=.returned v)/\u=.panicking [{v:=.iface 47 (.int I k),recovered:=J}]/\Q=W.putObj b (.cells #[.int I k] 47 (0,0)):=by
 have bq:W.cell? ⟨b,0,Z⟩=U (.int I V):=by simp[oD,X]
 have O:W.frozen? ⟨b,0,Z⟩=false:=by simp[VK,X]
 refine callsDIn_of_wpSIn Tryz.func85 rfl (by simp[Fence.wide]) λN M P=> ?_
 rw[Tryz.ntmps85];apply wpSIn_seq;apply wpSIn_region;simp[wpOpsSIn,go_sem,recoverD,P,Exit.thenS];refine wpSIn_of_wpIn rfl (wpIn_wide.2 ?_);go_wp2;refine⟨rfl,_,rfl,.tuple #[], ?_,⟨_,rfl⟩,rfl,avy X⟩;simp[results,Tryz.results85]
def aHf:zF Tryz.prog 85 47:=⟨xO aT,aHd,aHe⟩
section
open Go.Shelf
def Tryz.indexB_ren:Go.Shelf.Ren:=⟨λ|137=>128|217=>158|266=>195|n=>n,λ|9=>9|5=>5|3=>3|n=>n,λ|n=>n⟩
def Tryz.indexB:Go.Proofs.Lays.n137 Tryz.prog Tryz.indexB_ren:={mixed:=aT,f137:=ez Tryz.func128 aT,f217:=ez Tryz.func158 aT,f266:=ez Tryz.func195 aT,t3:=Tryz.underlying3,a3:=Tryz.isAgg3,z3:=Tryz.sizeOf3,v3:=Tryz.zeroValue3,t5:=Tryz.underlying5,a5:=Tryz.isAgg5,z5:=Tryz.sizeOf5,v5:=Tryz.zeroValue5,t9:=Tryz.underlying9,a9:=Tryz.isAgg9,z9:=Tryz.sizeOf9,v9:=Tryz.zeroValue9}
def aHg:look PT 128=U [9,5]:=aT
def aHh:look SG 128=U [3]:=aT
def aHi:fH (look TT) [9,5]=U [.ak .str,.int .u8]:=aT
def aHj:fH (look TT) [3]=U [.int I]:=aT
def avA:∀(l:List UInt8)(b:UInt8),-1<=Lib.indexByte l b
 |[],_=>by simp[Lib.indexByte]
 |x::l,b=>by
  have:=avA l b;simp only[Lib.indexByte];split;omega;split<;>omega
def avB:∀(l:List UInt8)(b:UInt8)(k:Nat),I2 k l b=if Lib.indexByte l b=-1 then-1 else Lib.indexByte l b+k
 |[],_,_=>by simp[I2,Lib.indexByte]
 |x::l,b,k=>by
  have V:=avB l b (k+1);have R:=avA l b;simp only[I2,Lib.indexByte,gc];by_cases X:x=b;simp[X];rw[aS X,aS X,V];by_cases W:Lib.indexByte l b=-1;simp[W];rw[aS W,aS W,aS ae];omega
def aHk(l:List UInt8)(b:UInt8):I2 0 l b=Lib.indexByte l b:=by
 rw[avB];split;rename_i h;rw[h];simp
def aHl{z:Bool}:qX z 128 aa9:=by
 refine⟨λ_=> ?_,λg L h=>by rw[show oK 128=Z from rfl] at h;cases h⟩;intro m l k j N M H G F D out O Q P W f w;rw[aHg] at N;cases N;rw[aHh] at M;cases M;rw[aHi] at H;cases H;rw[aHj] at G;cases G;rcases D with _|⟨x,_|⟨y,_|⟨z,D⟩⟩⟩;exact P.elim;exact P.2.elim
 ·obtain⟨B,A,_⟩:=P;cases x with
  |i n=>exact B.elim|b n=>exact B.elim
  |r v=>
  cases y with
  |b n=>exact A.elim|r n=>exact A.elim
  |i c=>
  have u:=w 0 .str v rfl rfl;cases u with
  |str t=>
  rcases F with _|⟨s,_|⟨q,_|⟨d,F⟩⟩⟩;exact Q.elim;exact Q.2.elim
  ·obtain⟨V,R,_⟩:=Q;cases s with
   |i n=>exact V.elim|b n=>exact V.elim
   |r p=>
   cases q with
   |b n=>exact R.elim|r n=>exact R.elim
   |i X=>
   have R:X=c:=R;subst R;have V:dL p (.mk (.string t) []):=V;cases V with
   |val=>
   have O:U (aX.ret [.i (I2 0 t.toList (UInt8.ofNat X.toNat))])=U out:=O;cases O;have h:=Any.strings_IndexByte Tryz.indexB t X W;refine Calls.mono (show Calls Tryz.prog 128 #[.string t,.int .u8 X] W _ from h) ?_;rintro e a ⟨rfl,rfl⟩;refine⟨_,[.i (Lib.indexByte t.data.toList X.toNat.toUInt8)],rfl,⟨?_,trivial⟩,⟨trivial,trivial⟩,rfl,Below.refl _ _,abO aw,λb o=>(auB aw o).elim⟩;show I2 0 t.toList (UInt8.ofNat X.toNat)=_;rw[aHk,ByteArray.toList_eq]
  exact Q.2.2.elim
 exact P.2.2.elim
def avC:∀{n:Nat}{R X:aZ},xP R X->dJ (eu n (.int I)) X->∃l:bA,Y l=n/\R=l.map XV.i/\X=l.map XV.i
 |0,R,X,W,V=>by
  cases X with
  |cons _ _=>exact V.elim
  |nil=>
   cases R with|cons _ _=>exact W.elim|nil=>exact⟨[],rfl,rfl,rfl⟩
 |n+1,R,[],W,V=>V.elim|n+1,[],x::X,W,V=>W.elim
 |n+1,y::R,x::X,W,V=>by
  obtain⟨l,P,O,N⟩:=avC (n:=n) W.2 V.2;have e:=W.1;have f:=V.1;cases x with
  |b q=>exact f.elim|r q=>exact f.elim
  |i m=>
   cases y with
   |b q=>exact e.elim|r q=>exact e.elim
   |i Q=>
    have e:Q=m:=e;subst e;exact⟨Q::l,by simp[P],by simp[O],by simp[N]⟩
def avD(a b c d:Int):eQ a b c d=K.mb.valid ⟨⟨a,b⟩,⟨c,d⟩⟩:=by
 rw[Jy];simp[eQ,K.mb.valid,K.B6];omega
def aHm(a b c d X W V R:Int):BM a b c d X W V R= !(K.mb.vy ⟨⟨a,b⟩,⟨c,d⟩⟩ ⟨⟨X,W⟩,⟨V,R⟩⟩):=by
 simp only[BM,K.mb.vy,K.Range.vy,awi]
def aHn:look PT 151=U [139,139]:=aT
def aHo:look SG 151=U [4,47]:=aT
def k26:fH (look TT) [139,139]=U (eu 8 (.int I)):=aT
def q26:fH (look TT) [4,47]=U [.bool,.int I]:=aT
def aHr(a b c d X W V R:Int):(qE (look TT) [139,139] (nQ (eu 8 (.int I)) [.i a,.i b,.i c,.i d,.i X,.i W,.i V,.i R])).toArray= #[K.mb.v ⟨⟨a,b⟩,⟨c,d⟩⟩,K.mb.v ⟨⟨X,W⟩,⟨V,R⟩⟩]:=aT
def aHs(x:Bool)(e:Int):xR (qE (look TT) [4,47] (nQ [.bool,.int I] [.b x,.i e]))=.tuple #[.bool x,.int I e]:=aT
def aHt{l:bA}(h:Y l=8):∃a b c d X W V R,l=[a,b,c,d,X,W,V,R]:=by
 match l,h with|[a,b,c,d,X,W,V,R],_=>exact⟨a,b,c,d,X,W,V,R,rfl⟩
def aHu{z:Bool}:qX z 151 aa8:=by
 refine⟨λ_=> ?_,λg L h=>by rw[show oK 151=Z from rfl] at h;cases h⟩;intro t s r q X V F D p o out M A y W m k;rw[aHn] at X;cases X;rw[aHo] at V;cases V;rw[k26] at F;cases F;rw[q26] at D;cases D;obtain⟨l,w,rfl,rfl⟩:=avC (n:=8) A y;obtain⟨a,b,c,d,Q,P,O,N,rfl⟩:=aHt w;have v:=aHr a b c d Q P O N;simp only[dH,oC] at M⊢;rw[v];simp only[aa8,dW] at M;subst M;have H:∀(x:Bool)(e:Int)(G:World),Below W.heap.size W G->SY (look TT) [4,47] [.bool,.int I] W (eu 8 (.int I)) [.i a,.i b,.i c,.i d,.i Q,.i P,.i O,.i N] (.ret [.b x,.i e]) (.returned (.tuple #[.bool x,.int I e])) G:=λx e G R=>
  ⟨_,[.b x,.i e],rfl,⟨rfl,rfl,trivial⟩,⟨trivial,trivial,trivial⟩,(aHs x e).symm,R,abO aw,λb u=>(auB aw u).elim⟩
 rw[avD,avD];by_cases X:K.mb.valid ⟨⟨a,b⟩,⟨c,d⟩⟩=J;by_cases V:K.mb.valid ⟨⟨Q,P⟩,⟨O,N⟩⟩=J;rw[X,V];refine(aEy _ _ X V (BM a b c d Q P O N) (by rw[aHm];simp) W).mono ?_;rintro e B ⟨rfl,R⟩;exact H _ _ _ R;have V:K.mb.valid ⟨⟨Q,P⟩,⟨O,N⟩⟩=false:=by simpa using V
 rw[X,V];refine(aEA _ _ X V W).mono ?_;rintro e B ⟨rfl,R⟩;exact H _ _ _ R;have X:K.mb.valid ⟨⟨a,b⟩,⟨c,d⟩⟩=false:=by simpa using X
 rw[X];refine(aEz _ _ X W).mono ?_;rintro e B ⟨rfl,R⟩;exact H _ _ _ R
def aHv{z:Bool}(f:FuncId):qX z f (LR f):=by
 unfold LR;by_cases X:f=151;subst X;exact aHu;by_cases W:f=128;subst W;exact aHl;simp only[X,W,ku];exact akf f
end
theorem aHw(f:FuncId)(X:Fn)(h:TB.tree f=U X):cg f X.g X.d X.t:=by
 have h:I3 f=U X:=h;unfold I3 at h;split at h;cases h;exact aEY;cases h;exact aEZ;cases h;exact aE0;cases h;exact aE1;cases h;exact aE2;cases h;exact aE3;cases h;exact au1;cases h;exact au2;cases h;exact au3;cases h;exact aE4;cases h;exact aE5;cases h;exact au4;cases h;exact au5;cases h;exact au6;cases h;exact aE6;cases h;exact aE7;cases h;exact aE8;cases h;exact aE9;cases h;exact aFa;cases h;exact aFb;cases h;exact aFc;cases h;exact aFd;cases h;exact aFe;cases h;exact aFf;cases h;exact aFg;cases h;exact aFh;cases h;exact aFi;cases h;exact aFj;cases h;exact aFk;cases h;exact aFT;cases h;exact aFU;cases h;exact aFV;cases h;exact aFW;cases h;exact aFX;cases h;exact aFY;cases h;exact aFZ;cases h;exact aF0;cases h;exact aF1;cases h;exact aF2;cases h;exact aF3 Mg;cases h;exact aF4;cases h;exact aF5;cases h;exact aF6;cases h;exact aF7;cases h;exact aF8 Mg;cases h;exact aGa;cases h;exact aGb;cases h;exact aGc;cases h;exact aGd;cases h;exact aGe;cases h;exact aGf;cases h;exact aGg Mg;cases h;exact aGh;cases h;exact aGi;cases h;exact aGj aHf;cases h;exact aGk aHb;cases h;exact aGl Mg aHc;cases h;exact aGm;cases h;exact aGn Mg;cases h;exact aGo;cases h;exact aGp Mg;cases h;exact aF9;cases h;exact aGq Mg;cases h;exact aGr;cases h;exact aGw;cases h;exact aGA avq;cases h;exact aGx;cases h;exact aGC;cases h;exact aGy;cases h;exact aGD;cases h;exact aGE;cases h;exact aGB avq;cases h;exact aGs;cases h;exact aGt;cases h;exact aGz;cases h;exact aGF;cases h;exact aGG;cases h;exact aGH;cases h;exact aGI;cases h;exact aGv;cases h;exact aGu;cases h;exact aGO;cases h;exact aGJ;cases h;exact aGK;cases h;exact aGP;cases h;exact aGV;cases h;exact aGR;cases h;exact aGL;cases h;exact aGM;cases h;exact aGN;cases h;exact aGQ;cases h;exact aGS;cases h;exact aGU;cases h;exact aGY;cases h;exact aGX;cases h;exact aGW;cases h
theorem aHx:akh TB true:=⟨aHw,λ_ _ _ _=>rfl,aHv⟩
def aHy:([41,44,3,39]:List TypeId).all (AF Tryz.prog (look TT) 9)=true:=aT
def Hnq:look PT 4=U [41,44,3,39]:=aT
def aHz:look SG 4=U [4]:=aT
def qkV:fH (look TT) [4]=U [.bool]:=aT
def kkV:fH (look TT) [41,44,3,39]=U [.int I,.int I,.int I,.int I,.int I,.ak (.sl 92),.int I,.ak (.sl 94),.ak (.sl 255),.ak (.sl 257),.ak (.sl 89),.ak (.sl 141),.ak (.sl 85),.ak (.sl 39),.ak (.sl 63),.ak (.sl 3),.ak (.sl 3),.int I,.ak (.sl 111),.ak (.sl 3),.bool,.int I,.ak (.sl 3)]:=aT
def r82:bI (look TT) (.sl 101)=[.bw (.slice Z 0 0) (.sl 96)]:=aT
def aHC:bI (look TT) (.sl 39)=[.bw (.slice Z 0 0) (.sl 3)]:=aT
def aHD:bI (look TT) (.sl 63)=[.bw (.slice Z 0 0) (.sl 100)]:=aT
def avF:bI (look TT) (.sl 100)=[.bw (.slice Z 0 0) (.sl 4),.bw (.slice Z 0 0) (.sl 101)]:=aT
def r38:bI (look TT) (.sl 111)=[.bw (.slice Z 0 0) (.sl 108)]:=aT
def r3':bI (look TT) (.sl 3)=[.int I]:=aT
def Js{k:IntKind}(h:dJ (.int k::L) H):∃n X,H=.i n::X/\dJ L X:=by
 cases H with
 |nil=>exact h.elim
 |cons x H=>
  cases x with|i n=>exact⟨n,H,rfl,h.2⟩|b n=>exact h.1.elim|r n=>exact h.1.elim
def xl{k:RK}(h:dJ (.ak k::L) H):∃n X,H=.r n::X/\dJ L X:=by
 cases H with
 |nil=>exact h.elim
 |cons x H=>
  cases x with|r n=>exact⟨n,H,rfl,h.2⟩|b n=>exact h.1.elim|i n=>exact h.1.elim
def pJ(h:bG X F (.sl N) D)(V:rL D):Sl D:=by
 cases V with
 |mk D R P=>
 cases h with
 |sl N A O M L Q H G B z y=>
  refine⟨⟨_,_,_,rfl⟩, ?_,R⟩;simp only[RV.pe,RV.mU,lenOf,Q]
def aHF(h:dJ (.bool::L) H):∃n X,H=.b n::X/\dJ L X:=by
 cases H with
 |nil=>exact h.elim
 |cons x H=>
  cases x with|b n=>exact⟨n,H,rfl,h.2⟩|i n=>exact h.1.elim|r n=>exact h.1.elim
def avH(h:bG X F (.sl N) D)(Q:(bI F (.sl N)).length=V):∀R∈D.ah,Y R=V:=by
 intro R P;cases h with
 |sl N A L H G B z O y x w=>
  obtain⟨i,M⟩:=sK P;rw[<-Q];exact(O i R M).1
def QM{f:TypeId}(j:Nat){z:Value}(O:bI (look TT) (.sl N)=A)(M:A[j]?=U (.bw z (.sl f)))(h:bG X (look TT) (.sl N) D)(B:rL D):∀i<Y D.ah,bG X (look TT) (.sl f) (cH (.sl f) (aN D.ah i j))/\rL (cH (.sl f) (aN D.ah i j)):=by
 intro i Q;have s:j<Y A:=(dq.1 M).1;cases B with
 |mk r q L=>
 cases h with
 |sl N V y x R p o w m l v=>
  rw[RV.mU] at Q L;have P:R[i]?=U R[i]:=dG Q;have k:(R[i]).length=Y A:=by have:=(w i _ P).1;rw[O] at this;exact this
  have H:(R[i])[j]?=U (R[i])[j]:=dG ae;have G:=v i j _ _ _ _ P H (by rw[O];exact M);have F:=L _ (ul Q) _ (ul (ae:j<(R[i]).length));have u:=pJ G F;have N:cH (.sl f) (aN (RV.mk (.slice V y x) R).ah i j)=(R[i])[j]:=by
   unfold aN;simp only[RV.mU,rM,dM,P,H,yX];obtain⟨a,n,c,t⟩:=u.sl;simp[cH,t]
  rw[N];exact⟨G,F⟩
def aHG(hS:TB.Ev 6 [] (.ret [.b J])){H:Type}{ag:TypeId×Value->H}{w:List Value}{ds:List (DataW H)}(hG:GW X)(hT:DataW.TrodAll ag Tryz.prog X V G B [41,44,3,39] w ds R)(hw:∀q∈DataW.weightsEach Tryz.prog [41,44,3,39] ds,q<=reachBytes)
  (hv:∀(j:Nat)(t:TypeId)(v:Value)(m:TI),([41,44,3,39]:List TypeId)[j]?=U t->w[j]?=U v->look TT t=U m->(m.d.isAgg=J/\v=.agg v.cells)\/(m.d.isAgg=E/\v.cells.toList=[v])):
  Calls Tryz.prog 4 w.toArray X λe W'=>e=.returned (.bool J)/\Below X.heap.size X W':=by
 obtain⟨ks,xs,L,F,h3,O,N,h6⟩:=aG7 Jo aHy hT hw hv;rw[kkV] at L;cases L;have hf:=F;obtain⟨Wd,cv,rfl,al⟩:=Js hf;obtain⟨D,cx,rfl,an⟩:=Js al;obtain⟨A,cy,rfl,a0⟩:=Js an;obtain⟨Q,cA,rfl,a1⟩:=Js a0;obtain⟨P,cB,rfl,a3⟩:=Js a1;obtain⟨rl,cC,rfl,a4⟩:=xl a3;obtain⟨a9,cD,rfl,ba⟩:=Js a4;obtain⟨tp,cO,rfl,bb⟩:=xl ba;obtain⟨pq,cW,rfl,bc⟩:=xl bb;obtain⟨sp,c0,rfl,bf⟩:=xl bc;obtain⟨sg,c1,rfl,bg⟩:=xl bf;obtain⟨l,c2,rfl,bk⟩:=xl bg;obtain⟨g,c3,rfl,bl⟩:=xl bk;obtain⟨u,c4,rfl,bs⟩:=xl bl;obtain⟨s,c5,rfl,bt⟩:=xl bs;obtain⟨f,c6,rfl,bx⟩:=xl bt;obtain⟨c,c7,rfl,b0⟩:=xl bx;obtain⟨aG,c8,rfl,b1⟩:=Js b0;obtain⟨z,c9,rfl,b2⟩:=xl b1;obtain⟨p,dc,rfl,b3⟩:=xl b2;obtain⟨cl,dd,rfl,b4⟩:=aHF b3;obtain⟨kx,df,rfl,b5⟩:=Js b4;obtain⟨a,b6,rfl,b7⟩:=xl b5;cases b6 with
 |cons _ _=>exact b7.elim
 |nil=>
 have b8:=pJ (O 5 _ rl rfl rfl) (N _ aw);have cc:=pJ (O 7 _ tp rfl rfl) (N _ aw);have cf:=pJ (O 8 _ pq rfl rfl) (N _ aw);have cn:=pJ (O 9 _ sp rfl rfl) (N _ aw);have cp:=pJ (O 10 _ sg rfl rfl) (N _ aw)
 letI:Inhabited cm:=⟨⟨Wd,D,A,Q,P,a9,rl,tp,pq,sp,sg⟩⟩
 have s1:dS:=⟨b8,cc,cf,cn,cp⟩;have ab:=QM 0 aHC rfl (O 13 _ u rfl rfl) (N _ aw);have aa:=QM 0 aHD rfl (O 14 _ s rfl rfl) (N _ aw);have ac:=QM 0 r38 rfl (O 18 _ z rfl rfl) (N _ aw);have S:jN l g u s f:=⟨(pJ (O 11 _ l rfl rfl) (N _ aw)),(pJ (O 12 _ g rfl rfl) (N _ aw)),(pJ (O 13 _ u rfl rfl) (N _ aw)),(pJ (O 14 _ s rfl rfl) (N _ aw)),(pJ (O 15 _ f rfl rfl) (N _ aw)),λi M=>pJ (ab i M).1 (ab i M).2,λi M=>pJ (aa i M).1 (aa i M).2,λk hk i M=>by
  have o:=aa k hk;have h0:=QM 0 avF rfl o.1 o.2 i M;have L:=QM 1 avF rfl o.1 o.2 i M;refine⟨pJ h0.1 h0.2,pJ L.1 L.2,λj hj=> ?_⟩;have F:=QM 0 r82 rfl L.1 L.2 j hj;exact pJ F.1 F.2⟩
 have D:Dk c z p:=⟨(pJ (O 16 _ c rfl rfl) (N _ aw)),(pJ (O 18 _ z rfl rfl) (N _ aw)),(pJ (O 19 _ p rfl rfl) (N _ aw)),λi M=>pJ (ac i M).1 (ac i M).2,avH (O 18 _ z rfl rfl) (by rw[r38];rfl),avH (O 19 _ p rfl rfl) (by rw[r3'];rfl)⟩;have ct:Sl a:=(pJ (O 22 _ a rfl rfl) (N _ aw));obtain⟨n,hn⟩:=aEa (aG:=aG) (cl:=cl) hS s1 S D kx ct;have af:=(abM aHx n 4).1 rfl _ _ _ _ Hnq aHz kkV qkV _ _ _ hn (abN _) F X (λ_=>hG) O;have cu:qE (look TT) [41,44,3,39] (nQ _ (bJ l g u s f++[.r c,.i aG,.r z,.r p,.b cl,.i kx,.r a]))=w:=h3;rw[cu] at af;refine af.mono ?_;intro e W' h;cases e with
 |returned v=>
  obtain⟨yh,ys,e1,x,e3,rfl,hB,_,_⟩:=h;cases e1;cases ys with
  |nil=>exact x.elim
  |cons y ys=>
   cases ys with
   |cons _ _=>exact x.2.elim
   |nil=>
    cases y with
    |b q=>
     have:J=q:=x.1;subst this;exact⟨rfl,hB⟩
    |i q=>exact x.1.elim|r q=>exact x.1.elim
 |panicked ch=>obtain⟨_,v,e1,_⟩:=h;cases e1
 |outgrown=>exact h.elim
section
open Go.ChangeShapes Go.RowKit
def aHH{H:Type}{G:TypeId×Value->H}(B:laidOutB M=J){F:World}(A:Below X.heap.size X F):∀{V:List TypeId}{Q:List Value}{O:List (DataW H)}{R:List MemPlace},V.all (λt=>M.readableRec t&&decide (t<M.types.size))=J->DataW.TrodAll G M X 0 (λ_=>J) J V Q O R->(∀x∈R,x.block<X.heap.size)->DataW.TrodAll G M F 0 (λb=>decide (b<X.heap.size)) J V Q O R:=by
 intro V;induction V with
 |nil=>
  intro Q O R _ h _;obtain⟨rfl,rfl,rfl⟩:=trodAll_nil h;exact rfl
 |cons t V z=>
  intro Q O R N h D;obtain⟨v,u,d,s,p,q,rfl,rfl,rfl,y,w⟩:=trodAll_cons h;simp only[VJ,aC,dD] at N;exact⟨p,q,Go.RowKit.Below.trod B N.1.1 N.1.2 y A (λx L=>D x (by simp[L])),z (by simpa using N.2) w (λx L=>D x (by simp[L])),rfl⟩
def aHI:laidOutB Tryz.prog=true:=aT
def rdV:([41,44,3,39]:List TypeId).all (λt=>Tryz.prog.readableRec t&&decide (t<Tryz.prog.types.size))=true:=aT
def aHK{H:Type}{O:TypeId×Value->H}{N:World}{D B:List (DataW H)}(V:DataW.Whole O Tryz.prog Tryz.f4.params.toList [] E X Q.toList D B R)(M:Below X.heap.size X N):
  Rows.replanMostSpec.post O Tryz.prog Tryz.f4 E J E E X Q (.bool J) N:=by
 have A:=V.lt;have z:=V;obtain⟨p,q,L,y,rfl,_,_⟩:=V;obtain⟨rfl,rfl⟩:=trodVars_none y;have P:Tryz.f4.params.toList=[41,44,3,39]:=by rw[Tryz.params4]
 have G:=L;rw[P] at G;obtain⟨r,o,n,m,l,k,_,rfl,rfl,_,w⟩:=trodAll_cons G;obtain⟨j,i,g,f,e,d,_,rfl,rfl,_,v⟩:=trodAll_cons w;obtain⟨c,b,a,e3,p3,q3,_,rfl,rfl,_,u⟩:=trodAll_cons v;obtain⟨v4,r4,d4,e4,p4,q4,_,rfl,rfl,_,t⟩:=trodAll_cons u;obtain⟨_,rfl,rfl⟩:=trodAll_nil t;have F:=aHH aHI M rdV (by rw[<-P];exact L) (λx s=>A x (by simpa using s));rw[<-P] at F;exact⟨_,_,_,[],_,[],z,trodAll_mk1 (shut_bool Tryz.underlying4 _),F,rfl,Below.frame M _,λh=>(by cases h)⟩
end
section
open Go.ChangeShapes Go.RowKit Go.ChangeAt
abbrev gn(k:Nat):String:=Rows.replanMostRow.named.getD k ""
abbrev L3{H:Type}:List (String×DataW H):=[(gn 1,Rows.laid_kinesphere_space_flat),(gn 0,Rows.laid_kinesphere_expand_kinds),(gn 2,Rows.laid_kinesphere_motion_kinds)]
def aHL(kK:jq M F){D:TI}(h:F N=U D)(L:Value.okWide M X .any V N O):(D.d.isAgg=J/\O=.agg O.cells)\/(D.d.isAgg=E/\O.cells.toList=[O]):=by
 have Q:=(kK N D h).desc;have B:∀d,M.underlying N=U d->(∀R,d≠ .struct R)->(∀n e,d≠ .array n e)->O.cells.toList=[O]:=by
  intro d G y x;cases O<;>try rfl
  case agg A=>
   exfalso;unfold Value.okWide at L;rw[G] at L;cases d<;>first|exact y _ rfl|exact x _ _ rfl|simp[Cell.okWide,Cell.ok,G] at L
 cases w:D.d<;>rw[w] at Q
 case one=>
  obtain⟨d,G,⟨z,_⟩,_⟩:=Q;exact .inr ⟨rfl,B d G (λR e=>by subst e;exact z) (λn e H=>by subst H;exact z)⟩
 case gH=>obtain⟨m,G⟩:=Q;exact .inr ⟨rfl,B _ G (λR e=>by cases e) (λn e H=>by cases H)⟩
 case str=>exact .inr ⟨rfl,B _ Q (λR e=>by cases e) (λn e H=>by cases H)⟩
 case slice e=>exact .inr ⟨rfl,B _ Q (λR e=>by cases e) (λn e H=>by cases H)⟩
 case map k e n u=>exact .inr ⟨rfl,B _ Q (λR e=>by cases e) (λn e H=>by cases H)⟩
 case arr n e=>
  have Q:M.underlying N=U (.array n e):=Q;unfold Value.okWide at L;rw[Q] at L;obtain⟨A,rfl,_⟩:=L;exact .inl ⟨rfl,rfl⟩
 case struct s=>
  obtain⟨R,G,_⟩:=Q;unfold Value.okWide at L;rw[G] at L;obtain⟨A,rfl,_⟩:=L;exact .inl ⟨rfl,rfl⟩
def aHM:ownKnob Tryz.prog.godebug=none:=aT
def aHN(B:TB.Ev 6 [] (.ret [.b J])){H:Type}{O:TypeId×Value->H}{N M:List (DataW H)}(A:GW X)
  (z:∀(j:Nat) t v,Tryz.f4.params[j]?=U t->Q[j]?=U v->Value.okWide Tryz.prog X .any V t v)(L:DataW.Whole O Tryz.prog Tryz.f4.params.toList [] E X Q.toList N M R)
  (P:(DataW.weightsEach Tryz.prog (Tryz.f4.params.toList++[]) (N++M)).all (·<=reachBytes)=J):
  Calls Tryz.prog 4 Q X λe G=>∃v,e=.returned v/\Rows.replanMostSpec.post O Tryz.prog Tryz.f4 E J E E X Q v G:=by
 have y:=L;obtain⟨p,q,F,x,rfl,_,_⟩:=L;obtain⟨rfl,rfl⟩:=trodVars_none x;have D:Tryz.f4.params.toList=[41,44,3,39]:=by rw[Tryz.params4]
 rw[D] at F P;simp only[Mq,gz,dD] at P;have w:=aHG B A F P (λj t v l u s r=>by
  have o:Tryz.f4.params[j]?=U t:=by rw[<-acd,D];exact u
  have n:=z j t v o (by rw[<-acd];exact s);exact aHL Jo r n)
 refine w.mono ?_;rintro e G ⟨rfl,m⟩;exact⟨_,rfl,aHK y m⟩

def aHO(X:Os)(W:Array Value):laidMetH Tryz.prog L3 ((World.doorLaid Tryz.prog 400 X).forCall (λ_ _=>0) ⟨#[],W,[]⟩).memory:=
 laidMetH_of_parts3 (fuel:=8) (laidMet_of_run' 8 aT aT) aT aT
def aHP(P:TB.Ev 6 [] (.ret [.b J]))(O:∀W,laidMetH Tryz.prog L3 W->GW W)(V:Os)(started:V.Started)(H:Type)(R:TypeId×Value->H):
  ReturnsInHanded {} Tryz.checked V 4 .any (λw Q=>(Rows.replanMostSpec.pre R Tryz.prog Tryz.f4 [] E w Q/\laidMetH Tryz.prog L3 w)/\sizedMet R Tryz.prog Tryz.f4 (OpenSpec.ofChange Rows.replanMostSpec) E w Q)
   (Rows.replanMostSpec.post R Tryz.prog Tryz.f4 E J E E):=by
 refine returnsInHanded_of_change_and (C:=Tryz.checked) (X:=λw _=>laidMetH Tryz.prog L3 w) (λ_ _ _ N h=>h.of_heap N) aHM started aT Tryz.func4
  (ChangeSpec.witness_shaped (enc:=R) (C:=Tryz.checked) (os:=V) (X:=λw _=>laidMetH Tryz.prog L3 w) E (World.doorLaid Tryz.prog 400 V) #[.agg #[.int I 0,.int I 0,.int I 0,.int I 0,.int I 0,.slice Z 0 0,.int I 0,.slice Z 0 0,.slice Z 0 0,.slice Z 0 0,.slice Z 0 0,.slice Z 0 0,.slice Z 0 0,.slice Z 0 0,.slice Z 0 0,.slice Z 0 0],.agg #[.slice Z 0 0,.int I 0,.slice Z 0 0,.slice Z 0 0,.bool E],.int I 0,.slice Z 0 0] 8 rfl (World.shaped_of_RefB aT aT) aT aT aT (aHO V _)) ?_
 intro W D Q B A before M L _ G F _;exact aHN P (O W F) M L G
end
section
variable{P:Program}{ty:Ty}{W:World}
def AG{X:Type}(w:Nat):Nat->List X->List (List X)
 |0,_=>[]|n+1,l=>l.take w::AG w n (l.drop w)
def Vs{X:Type}{w:Nat}:∀{n:Nat}{l:List X},(AG w n l).length=n
 |0,_=>rfl|n+1,l=>by simp[AG,Vs (n:=n)]
def ab8{X:Type}{w:Nat}:∀{n:Nat}{l r:List X}{i:Nat},(AG w n l)[i]?=U r->i<n/\r=(l.drop (i*w)).take w
 |0,l,r,i,h=>by simp[AG] at h|n+1,l,r,0,h=>by simp[AG] at h;exact⟨ae,by simp[h]⟩
 |n+1,l,r,i+1,h=>by
  simp only[AG,vC] at h;obtain⟨R,V⟩:=ab8 h;refine⟨ae, ?_⟩;rw[V,QX];congr 2;rw[sM];omega
def QN{R:Type}{n:Nat}{l r:List R}{i j:Nat}{c:R}(h:(AG V n l)[i]?=U r)(X:r[j]?=U c):i<n/\j<V/\l[i*V+j]?=U c:=by
 obtain⟨Q,rfl⟩:=ab8 h;rw[qg] at X;split at X;rename_i O;rw[yV] at X;exact⟨Q,O,X⟩;cases X
def Vt{H:Type}(P:Program)(t:TypeId)(d:DataW H)(w n:Nat):List (List RV):=AG w n ((di (n*w)).map λj=>(pI P 9 t d j).getD default)
def akO{g n w:Nat}{e t:TypeId}{G F:TI}{d:DataW Unit}(aa:ty e=U G)(ab:ty t=U F)(hw:Y G.am=w)(A:Y F.am=n*w)(ac:(di n).map (λi=>(F.am.drop (i*w)).take w)=eu n G.am)(af:AF P ty 9 t=J)
  (ag:DataW.trod (λ_=>()) P W 0 (λ_=>J) E V t Q.toList=U (d,R))(al:(DataW.weights P t d).all (·<=reachBytes)=J)(an:∀i,W.cell? ⟨g,i,Z⟩=Q[i]?)(hE:((di (n*w)).all λj=>(pI P 9 t d j).isSome)=J)(a1:0<w):
  ∃u,bG W ty (.sl e) (.mk (.slice (U ⟨g,0,Z⟩) n n) u)/\dL (Bj g (Vt P t d w n)) (.mk (.slice (U ⟨g,0,Z⟩) n n) u):=by
 obtain⟨s,h2⟩:=Vp V 9 t F _ _ ab af ag (λq hq=>GK (gz.1 al q hq));obtain⟨D,o,r2,r3,r4,r5,r6⟩:=akL s h2;have a0:Y D=n*w:=by rw[<-oW (f:=RV.val),o,s,A]
 have y:∀i j,i<n->j<w->F.am[i*w+j]?=G.am[j]?:=λi j m hj=>by
  have h:=jY (·[i]?) ac;simp only[et,Ep m,Vv,aH m,ga,dW] at h;rw[<-h,qg,aH hj,yV]
 have B:bI ty (.sl e)=G.am:=by simp[bI,aa]
 have bq:∀(i j:Nat)(r:List RV)(c:RV),(AG w n D)[i]?=U r->r[j]?=U c->W.cell? ⟨g,0+i*w+j,Z⟩=U c.val:=λi j r c X O=>by
  obtain⟨_,_,N⟩:=QN X O;have v:Q.toList[i*w+j]?=U c.val:=by rw[<-o,et,N];rfl
  rw[jk,an,<-acd];exact v
 have l:∀(i:Nat)(r:List RV),(AG w n D)[i]?=U r->Y r=w:=λi r X=>by
  obtain⟨O,rfl⟩:=ab8 X;have:(i+1)*w<=n*w:=GC w O;rw[sM] at this;rw[Mo,Cf,a0];omega
 refine⟨AG w n D,.sl e _ n n _ Vs (cd _) (λi r X=> ?_) (λi j r c k X O N=> ?_) (λi j r c X O N=> ?_) (λi j r c z k X O N=> ?_), ?_⟩;rw[B,hw];have A:=l i r X;refine⟨A,g,0,rfl, ?_,λj c O=>bq i j r c X O⟩;obtain⟨c,hc⟩:∃c,r[0]?=U c:=⟨_,dG ae⟩;exact avt (bq i 0 r c X hc);rw[B] at N;obtain⟨L,H,M⟩:=QN X O;exact r2 _ c k M (by rw[y i j L H];exact N);rw[B] at N;obtain⟨L,H,M⟩:=QN X O;exact r3 _ c M (by rw[y i j L H];exact N);rw[B] at N;obtain⟨L,H,M⟩:=QN X O;exact r4 _ c z k M (by rw[y i j L H];exact N);unfold Bj Vt;rw[Vs];refine dL.sl _ _ _ _ _ _ _ (by rw[Vs,Vs]) (λi r b X O=> ?_) (λi j r b c c' X O N v=> ?_);obtain⟨L,rfl⟩:=ab8 X;have:(i+1)*w<=n*w:=GC w L;rw[sM] at this;rw[l i b O,Mo,Cf,oW,aJd];omega;obtain⟨L,H,M⟩:=QN X N;obtain⟨_,_,q4⟩:=QN O v;rw[et] at M;have a:i*w+j<n*w:=by
  have:(i+1)*w<=n*w:=GC w L;rw[sM] at this;omega
 rw[Ep a] at M;simp only[ga,dW] at M;obtain⟨x,hx⟩:=jy.1 (gz.1 hE _ (sL.2 a));rw[hx,yX] at M;subst M;exact r6 _ c' x q4 hx
end
def aHQ:Tryz.prog.globalNamed (gn 1)=U 2:=aT
def aHR:Tryz.prog.globalNamed (gn 0)=U 0:=aT
def aHS:Tryz.prog.globalNamed (gn 2)=U 1:=aT
def aHT:(Tryz.prog.globals[2]?).map (·.type)=U 316:=aT
def aHU:(Tryz.prog.globals[0]?).map (·.type)=U 209:=aT
def aHV:(Tryz.prog.globals[1]?).map (·.type)=U 271:=aT
def akP{n:String}(R:Tryz.prog.globalNamed n=U V)(O:X.var? Tryz.prog n=U Q)(i:Nat):X.cell? ⟨V,i,Z⟩=Q[i]?:=World.var?_cell R O i
def avI:∀(X:List XV)(O:aj),∃l,(O.ext X).r=O.r++l
 |[],O=>⟨[],by simp[aj.ext]⟩
 |x::X,O=>by
  obtain⟨l,h⟩:=avI X (O.add x);simp only[aj.ext,h];cases x<;>simp[aj.add]
def avJ:wn=[Bj 0 (Vt Tryz.prog 209 (Rows.laid_kinesphere_expand_kinds:DataW Unit) 6 10),Bj 1 (Vt Tryz.prog 271 (Rows.laid_kinesphere_motion_kinds:DataW Unit) 2 10),Bj 2 (Vt Tryz.prog 316 (Rows.laid_kinesphere_space_flat:DataW Unit) 2 8)]:=aT
def avK{X:Type}{p:Nat->X->Prop}{a b c:X}(V:p 0 a)(R:p 1 b)(Q:p 2 c):∀(k:Nat)(x:X),[a,b,c][k]?=U x->p k x
 |0,_,h=>nE h▸V|1,_,h=>nE h▸R|2,_,h=>nE h▸Q|k+3,_,h=>(by simp at h)
def aHW(h:laidMetH Tryz.prog L3 X):GW X:=by
 rw[MakeChecks.laidMetH_plain _ _ _ aT] at h;obtain⟨ps,⟨g0,t0,gJ,f0,p0,q0,H,B,A,z,⟨g1,t1,aa,f1,p1,q1,G,y,u,s,⟨g2,t2,ab,f2,p2,q2,F,r,q,o,_,_⟩,_⟩,_⟩,_,_⟩:=h;obtain rfl:=nE (aHQ.symm.trans H);obtain rfl:=nE (aHR.symm.trans G);obtain rfl:=nE (aHS.symm.trans F);obtain rfl:=nE (aHT.symm.trans B);obtain rfl:=nE (aHU.symm.trans y);obtain rfl:=nE (aHV.symm.trans r);obtain⟨R,m,j⟩:=akO (P:=Tryz.prog) (ty:=look TT) (W:=X) (g:=0) (n:=10) (w:=6) (e:=208) (t:=209) rfl rfl rfl rfl rfl aT s aT (akP G u) aT ew;obtain⟨Q,i,f⟩:=akO (P:=Tryz.prog) (ty:=look TT) (W:=X) (g:=1) (n:=10) (w:=2) (e:=270) (t:=271) rfl rfl rfl rfl rfl aT o aT (akP F q) aT ew;obtain⟨O,d,c⟩:=akO (P:=Tryz.prog) (ty:=look TT) (W:=X) (g:=2) (n:=8) (w:=2) (e:=188) (t:=316) rfl rfl rfl rfl rfl aT z aT (akP H A) aT ew;refine⟨[.mk (.slice (U ⟨0,0,Z⟩) 10 10) R,.mk (.slice (U ⟨1,0,Z⟩) 10 10) Q,.mk (.slice (U ⟨2,0,Z⟩) 8 8) O],by rw[avJ];rfl,λk v V N L=> ?_,λk e M N L=> ?_,λb x D=> ?_⟩;rw[avJ] at N;exact avK (p:=λk v=>∀V,[RV.mk (.slice (U ⟨0,0,Z⟩) 10 10) R,.mk (.slice (U ⟨1,0,Z⟩) 10 10) Q,.mk (.slice (U ⟨2,0,Z⟩) 8 8) O][k]?=U V->dL v V) (λV h=>nE h▸j) (λV h=>nE h▸f) (λV h=>nE h▸c) k v N V L;exact avK (p:=λk e=>∀M,[RV.mk (.slice (U ⟨0,0,Z⟩) 10 10) R,.mk (.slice (U ⟨1,0,Z⟩) 10 10) Q,.mk (.slice (U ⟨2,0,Z⟩) 8 8) O][k]?=U M->bG X (look TT) e M) (λV h=>nE h▸m) (λV h=>nE h▸i) (λV h=>nE h▸d) k e N M L;obtain⟨l,a⟩:=avI b ⟨[],[],[RV.mk (.slice (U ⟨0,0,Z⟩) 10 10) R,.mk (.slice (U ⟨1,0,Z⟩) 10 10) Q,.mk (.slice (U ⟨2,0,Z⟩) 8 8) O],[]⟩;simp only[GL,fh,VF,or_false] at D;unfold dF aj.rv;rw[a];rcases D with rfl|rfl|rfl;exact⟨aw,10,10,rfl⟩;exact⟨aw,10,10,rfl⟩;exact⟨aw,8,8,rfl⟩
