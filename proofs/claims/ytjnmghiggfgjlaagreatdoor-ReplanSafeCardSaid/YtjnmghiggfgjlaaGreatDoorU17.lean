/- Part 17. -/
import Derived.Test.YtjnmghiggfgjlaaGreatDoorU6
import Derived.Test.YtjnmghiggfgjlaaGreatDoorU9
import Derived.Test.YtjnmghiggfgjlaaGreatDoorU10
import Derived.Test.YtjnmghiggfgjlaaGreatDoorU11
import Derived.Test.YtjnmghiggfgjlaaGreatDoorU12
import Derived.Test.YtjnmghiggfgjlaaGreatDoorU13
import Derived.Test.YtjnmghiggfgjlaaGreatDoorU14
import Derived.Test.YtjnmghiggfgjlaaGreatDoorU15
import Derived.Test.YtjnmghiggfgjlaaGreatDoorU16
import Derived.Test.YtjnmghiggfgjlaaGreatDoorRows
import Derived.ChangeArms
import Derived.DataReads
import Derived.OpenShut
import Derived.RecoverIn
import Derived.Shelf.Small.Strs
import Derived.Carry
import Derived.ProofKit
import Derived.LaidMore
import Derived.Stop.Joined
import Derived.Handed
set_option linter.all false
set_option maxRecDepth 100000
set_option maxHeartbeats 100000000
open Bool renaming and_eq_true->aC,false_eq_true->iZ,eq_iff_iff->JB,and_assoc->awq,true->J,false->E
open Nat renaming le_refl->cd,zero_add->jp,add_mul->sT,mul_le_mul_right->GG,eq_zero_or_pos->Jz,mod_lt->Ra,mul_comm->VO,sub_self->acw,div_lt_of_lt_mul->av0,div_add_mod->awj,le_mul_of_pos_right->aI1
open List renaming nil_append->cX,getD_eq_getElem?_getD->di,range->dj,getElem?_eq_some_iff->du,getElem?_eq_getElem->dv,map_cons->dH,getElem?_map->ep,replicate->ew,mem_cons->ey,mem_append->fc,mem_map->fo,getElem?_append_left->fO,all_eq_true->gC,getElem?_append_right->jo,mem_of_getElem?->jD,any_eq_true->nF,map_nil->oE,length_map->oW,getElem?_take->pJ,mem_range->rO,getElem?_of_mem->sP,getElem_mem->sQ,getElem?_cons_succ->vw,getElem?_drop->xj,length_drop->Cj,map->Co,getElem?_range->Ep,take_of_length_le->Jv,append_nil->JC,length_take->Mr,drop_drop->Q7,mem_of_find?_eq_some->Vu,getElem?_replicate->Vv,not_mem_nil->VH,all_cons->VL,drop_of_length_le->acj,find?_some->acs,take_append_of_le_length->avS,drop_append_of_le_length->avT,getElem?_zip_eq_some->avU,length_range->aJo,length->Y
open Option renaming map_some->ga,isSome_iff_exists->jC,getD_some->yV,bind_eq_some_iff->aI2,some->U,none->Z
open Array renaming getElem?_eq_some_iff->lL,getElem?_setIfInBounds->QS,getElem?_modify->QT,getElem?_toList->acl,ext_getElem?->aJm
open Go.Region renaming wanted->lM
open Go.World renaming cell?->oF,putObj->Mv,frozen?->VM,setCell->acv,cells?_some->aJp
open Int renaming toNat_natCast->rN
open Go.Oper renaming semAt_none->awn,uponIn->awB
open Go.IntKind renaming i64->I
namespace Go.Proofs.YtjnmghiggfgjlaaGreatDoor.Y
open Go.RowKit
noncomputable section
variable{F:Ty}{X:World}{O:Value}{A:eN}{V:Nat}{G:Nat→Bool}{B:Bool}{M:Program}{y:Act}{N:TypeId}{L:List LK}{H:List XV}{D:RV}{R:List MemPlace}{Q:Array Value}
def acd:CT->CT->Bool
 |.int k,.int X=>decide (k=X)|.bool,.bool=>J|.bz _ k,.bz _ X=>decide (k=X)|_,_=>E
def El:eN->eN->Bool
 |[],[]=>J|c::l,X::V=>acd c X&&El l V|_,_=>E
def ace:∀{l V:eN},El l V=J->Y l=Y V/\∀(j:Nat)(c X:CT),l[j]?=U c->V[j]?=U X->acd c X=J
 |[],[],_=>⟨rfl,λj c X h _=>by simp at h⟩|[],_::_,h=>by cases h|_::_,[],h=>by cases h
 |a::l,b::V,h=>by
  simp only[El,aC] at h;obtain⟨O,N⟩:=ace h.2;refine⟨by simp[O],λj c X R Q=> ?_⟩;cases j with|zero=>simp at R Q;subst R;subst Q;exact h.1|succ j=>exact N j c X (by simpa using R) (by simpa using Q)
inductive rM:RV->Prop
 |mk (rv:RV) (h:Y rv.ah<=140737488355328) (h2:∀row∈rv.ah,∀c∈row,rM c):rM rv
def rM.acf(v:Value):rM (.mk v []):=.mk _ (by simp[RV.mX]) (by simp[RV.mX])
def Cf(o:Ty)(W:World)(V:Option RV):CT->Value->Prop
 |.int k,v=>(∃n,v=.int k n/\(Lit.int k n).wf=J)/\∀r,V=U r->r=.mk v []|.bool,v=>(∃b,v=.bool b)/\∀r,V=U r->r=.mk v []|.bz _ k,v=>∃X:RV,X.val=v/\bG W o k X/\rM X/\∀r,V=U r->dN r X
def Cf.akR{V:Option RV}{a b:CT}(h:acd a b=J)(k:Cf F X V b O):Cf F X V a O:=by
 cases a<;>cases b<;>simp only[acd,dq,iZ] at h;subst h;exact k;exact k;subst h;exact k
def AG(P:Program)(o:Ty):Nat->TypeId->Bool
 |0,_=>E
 |n+1,t=>match o t with
  |none=>E
  |U X=>match P.underlying t with
   |U (.int k)=>El X.am [.int k]|U .bool=>El X.am [.bool]|U .string=>El X.am [.bz undef .str]|U (.slice e)=>El X.am [.bz undef (.sl e)]&&AG P o n e&&decide (P.cellsOf e=(bJ o (.sl e)).length)&&decide (P.cellsOf e≠0)&&decide (P.bytesOf e≠0)
   |U (.struct Q)=>decide (P.cellsOf t=Y X.am)&&Q.toList.all (λf=>AG P o n f.type&&(match o f.type with|U R=>decide (P.cellsOf f.type=Y R.am)&&El ((X.am.drop f.offset).take (Y R.am)) R.am|none=>E))&&(dj (Y X.am)).all λj=>Q.toList.any λf=>decide (f.offset<=j)&&decide (j<f.offset+P.cellsOf f.type)
   |U (.array k e)=>decide (P.cellsOf t=Y X.am)&&AG P o n e&&(match o e with|U V=>decide (P.cellsOf e=Y V.am)&&decide (Y X.am=k*Y V.am)&&(dj k).all λi=>El ((X.am.drop (i*Y V.am)).take (Y V.am)) V.am|none=>E)
   |_=>E
def pH{H:Type}(P:Program):Nat->TypeId->DataW H->Nat->Option RV
 |0,_,_,_=>Z
 |n+1,t,d,j=>match P.underlying t,d with
  |U (.int _),.lit (.int k q)=>U (.mk (.int k q) [])|U .bool,.lit (.bool b)=>U (.mk (.bool b) [])|U (.slice e),.slice X _=>if(X.all λd=>(dj (P.cellsOf e)).all λj=>(pH P n e d j).isSome) then U (.mk (.slice Z (Y X) (Y X)) (X.map λd=>(dj (P.cellsOf e)).map λj=>(pH P n e d j).getD default)) else Z|U (.slice _),.nil=>U (.mk (.slice Z 0 0) [])
  |U (.struct R),.agg V=>match(R.toList.zip V).find? λf=>decide (f.1.offset<=j)&&decide (j<f.1.offset+P.cellsOf f.1.type) with|U f=>pH P n f.1.type f.2 (j-f.1.offset)|none=>Z
  |U (.array _ e),.agg V=>match V[j/P.cellsOf e]? with|U d=>pH P n e d (j%P.cellsOf e)|none=>Z
  |_,_=>Z
section
variable{P:Program}{o:Ty}{W:World}
def Vo{R:Nat->Option RV}{c:CT}(h:El A [c]=J)(k:Cf o W (R 0) c O):[O].length=Y A/\∀(j:Nat)(X:CT)(u:Value),A[j]?=U X->[O][j]?=U u->Cf o W (R j) X u:=by
 obtain⟨Q,N⟩:=ace h;refine⟨by simp[Q],λj X u M V=> ?_⟩;cases j with|zero=>simp at V;subst V;exact Cf.akR (N 0 X c M rfl) k|succ j=>simp at V
def akS:∀{Ecel:Nat->Option RV}{am:eN}{cs:fz},Y cs=Y am->(∀(j:Nat)(O:CT)(v:Value),am[j]?=U O->cs[j]?=U v->Cf o W (Ecel j) O v)->
  ∃N:aE,N.map RV.val=cs/\(∀(j:Nat)(c:RV)(k:IntKind),N[j]?=U c->am[j]?=U (.int k)->∃n,c.val=.int k n)/\(∀(j:Nat)(c:RV),N[j]?=U c->am[j]?=U .bool->∃x,c.val=.bool x)/\(∀(j:Nat)(c:RV)(z:Value)(k:RK),N[j]?=U c->am[j]?=U (.bz z k)->bG W o k c)/\(∀c∈N,rM c)/\∀(j:Nat)(c r:RV),N[j]?=U c->Ecel j=U r->dN r c
 |_,[],[],_,_=>⟨[],rfl,λj c k h=>by simp at h,λj c h=>by simp at h,λj c z k h=>by simp at h,aw,λj c r h=>by simp at h⟩|_,[],_::_,h,_=>by simp at h|_,_::_,[],h,_=>by simp at h
 |Ecel,O::am,v::cs,F,h=>by
  obtain⟨N,D,B,A,y,w,t⟩:=akS (Ecel:=λj=>Ecel (j+1)) (am:=am) (cs:=cs) (by simpa using F) (λj c u s M=>h (j+1) c u (by simpa using s) (by simpa using M));obtain⟨r,L,M,q,p,m,l⟩:∃r:RV,r.val=v/\(∀k,O=.int k->∃n,r.val=.int k n)/\(O=.bool->∃x,r.val=.bool x)/\(∀z k,O=.bz z k->bG W o k r)/\rM r/\∀R,Ecel 0=U R->dN R r:=by
   have Q:=h 0 O v rfl rfl;cases O with
   |int k=>exact⟨.mk v [],rfl,λH e=>(by cases e;obtain⟨⟨n,i,_⟩,_⟩:=Q;exact⟨n,i⟩),λe=>(by cases e),λz k e=>(by cases e),rM.acf v,λR G=>by rw[Q.2 R G];exact dN.refl _⟩
   |bool=>exact⟨.mk v [],rfl,λH e=>(by cases e),λ_=>Q.1,λz k e=>(by cases e),rM.acf v,λR G=>by rw[Q.2 R G];exact dN.refl _⟩
   |bz z k=>
    obtain⟨r,L,g,ce,f⟩:=Q;exact⟨r,L,λH e=>(by cases e),λe=>(by cases e),λd H e=>(by cases e;exact g),ce,f⟩
  refine⟨r::N,by simp[L,D],λj c k X V=> ?_,λj c X V=> ?_,λj c z k X V=> ?_,λc Q=>(ey.1 Q).elim (λe=>e▸m) (λQ=>w c Q),λj c R X V=> ?_⟩;cases j with|zero=>simp at X V;subst X;exact M k V|succ j=>exact B j c k (by simpa using X) (by simpa using V)
  cases j with|zero=>simp at X V;subst X;exact q V|succ j=>exact A j c (by simpa using X) (by simpa using V)
  cases j with|zero=>simp at X V;subst X;exact p z k V|succ j=>exact y j c z k (by simpa using X) (by simpa using V)
  cases j with|zero=>simp at X;subst X;exact l R V|succ j=>exact t j c R (by simpa using X) V
def avy{α:Type}{R:Nat->α->Prop}:∀(n:Nat),(∀i,i<n->∃x,R i x)->∃l:List α,Y l=n/\∀(i:Nat)(x:α),l[i]?=U x->R i x
 |0,_=>⟨[],rfl,λi x h=>by simp at h⟩
 |n+1,h=>by
  obtain⟨l,V,Q⟩:=avy n (λi O=>h i ae);obtain⟨x,N⟩:=h n ae;refine⟨l++[x],by simp[V],λi y X=> ?_⟩;by_cases O:i<n;rw[fO ae] at X;exact Q i y X;rw[jo ae] at X;have:i=n:=by
   cases M:i-Y l with|zero=>omega|succ q=>rw[M] at X;simp at X
  subst this;rw[V,acw] at X;simp at X;subst X;exact N
def akT{H:Type}{P:Program}{e:TypeId}{q:Nat}:∀{l:List (DataW H)}{d:DataW H},d∈l->q∈DataW.weights P e d->q∈DataW.weightsAll P e l
 |[],_,h,_=>by simp at h
 |x::l,d,h,X=>by
  simp only[DataW.weightsAll,fc];rcases ey.1 h with rfl|h;exact .inl X;exact .inr (akT h X)
def avz{H:Type}{P:Program}{q:Nat}:∀{X:i7}{l:List (DataW H)}{i:Nat}{t:TypeId}{d:DataW H},X[i]?=U t->l[i]?=U d->q∈DataW.weights P t d->q∈DataW.weightsEach P X l
 |[],_,_,_,_,h,_,_=>by simp at h|_::_,[],_,_,_,_,h,_=>by simp at h
 |O::X,N::l,i,t,d,V,R,Q=>by
  simp only[DataW.weightsEach,fc];cases i with|zero=>simp at V R;subst V;subst R;exact .inl Q|succ i=>exact .inr (avz (i:=i) (by simpa using V) (by simpa using R) Q)
def avA{R:Nat}(h:W.cell? ⟨V,R,Z⟩=U O):∃Q t X,W.heap[V]?=U (.cells Q t X):=by
 unfold oF at h;split at h;rename_i c t X N;exact⟨c,t,X,N⟩;cases h
structure avB{H:Type}(P:Program)(o:Ty)(W:World)(n:Nat)(e:TypeId)(am:eN)(a:Addr)(elems:List (DataW H×List MemPlace))(i:Nat)(row:aE):Prop where
 len:Y row=Y am
 sp:a.spot=Z
 lx:∃cs t fr,W.heap[a.block]?=U (.cells cs t fr)
 cell:∀(j:Nat)(c:RV),row[j]?=U c->W.cell? ⟨a.block,a.off+i*Y am+j,Z⟩=U c.val
 hi:∀(j:Nat)(c:RV)(k:IntKind),row[j]?=U c->am[j]?=U (.int k)->∃n,c.val=.int k n
 hb:∀(j:Nat)(c:RV),row[j]?=U c->am[j]?=U .bool->∃x,c.val=.bool x
 ho:∀(j:Nat)(c:RV)(z:Value)(k:RK),row[j]?=U c->am[j]?=U (.bz z k)->bG W o k c
 bnd:∀c∈row,rM c
 eq:∀(j:Nat)(c r:RV)(x:DataW H×List MemPlace),row[j]?=U c->elems[i]?=U x->pH P n e x.1 j=U r->dN r c
def Vp{H:Type}{b1:TypeId×Value->H}{b2:Nat}{spare:Nat->Bool}{b3:Bool}:∀(b4 m:Nat)(t:TypeId)(ti:TI)(cs:fz)(x:DataW H×List MemPlace),o t=U ti->AG P o m t=J->DataW.trod b1 P W b2 spare b3 b4 t cs=U x->(∀q∈DataW.weights P t x.1,q<=reachBytes)->
  Y cs=Y ti.am/\∀(j:Nat)(ct:CT)(v:Value),ti.am[j]?=U ct->cs[j]?=U v->Cf o W (pH P m t x.1 j) ct v
 |0,_,_,_,_,_,_,_,h,_=>by simp[DataW.trod] at h|_+1,0,_,_,_,_,_,M,_,_=>by simp[AG] at M
 |n+1,m+1,t,ti,cs,x,ht,M,h,aa=>by
  simp only[AG,ht] at M;cases N:P.underlying t with
  |none=>rw[N] at M;cases M
  |some d=>
   rw[N] at M;cases d<;>simp only[iZ] at M
   case int k=>
    obtain⟨q,rfl,rfl,b5⟩:=DataW.trod_int N h;exact Vo M ⟨⟨q,rfl,b5⟩,λr X=>by simp only[pH,N,dX] at X;exact X.symm⟩
   case bool=>
    obtain⟨q,rfl,rfl⟩:=DataW.trod_bool N h;exact Vo M ⟨⟨q,rfl⟩,λr X=>by simp only[pH,N,dX] at X;exact X.symm⟩
   case string=>
    obtain⟨q,rfl,_⟩:=DataW.trod_string N h;exact Vo M ⟨.mk (.string q) [],rfl,.str q,rM.acf _,λr X=>by simp[pH,N] at X⟩
   case slice e=>
    simp only[aC,dq] at M;obtain⟨⟨⟨⟨g1,A⟩,G⟩,g4⟩,g6⟩:=M;rcases DataW.trod_slice N h with⟨rfl,F⟩|⟨a,ab,ba,s,bb,n',hn,rfl,F,hb,b6,cv,bc,bd,_,_⟩;exact Vo g1 ⟨.mk (.slice Z 0 0) [],rfl,.sl e Z 0 0 [] rfl (cd _) (λi V X=>by simp at X) (λi j V c k X=>by simp at X) (λi j V c X=>by simp at X) (λi j V c z k X=>by simp at X),rM.acf _,λr X=>by
     simp only[pH,N,F,dX] at X;subst X;exact dN.refl _⟩
    cases hn;subst F;simp only[DataW.weights,N,ey,fc] at aa;have cx:ab<=140737488355328:=by
     have y:=aa _ (.inl rfl);have Q:(s.map (·.1)).length+(bb.map (·.1)).length<=((s.map (·.1)).length+(bb.map (·.1)).length)*P.bytesOf e:=aI1 _ ae;simp only[oW] at y Q;have w:reachBytes<=140737488355328:=ez;omega
    have ag:∃L,o e=U L:=by
     cases m with
     |zero=>simp[AG] at A
     |succ m=>
      cases D:o e with|none=>simp[AG,D] at A|some L=>exact⟨L,rfl⟩
    obtain⟨L,ag⟩:=ag;have af:bJ o (.sl e)=L.am:=by simp[bJ,ag]
    rw[af] at G;have b7:∀i,i<ab->∃V:aE,avB P o W m e L.am a s i V:=by
     intro i l;have Q:=bd i l;have ac:i<Y s:=ae;rw[dv ac,aI2] at Q;obtain⟨ci,Q,w⟩:=Q;obtain⟨q1,q2⟩:=Vp n m e L ci _ ag A w (λq D=>aa q (.inr (.inl (akT (fo.2 ⟨_,sQ ac,rfl⟩) D))));obtain⟨_,c1,c2⟩:=aJp Q;obtain⟨V,r1,r2,r3,r4,r5,r6⟩:=akS q1 q2;have bf:Y V=Y L.am:=by rw[<-oW (f:=RV.val),r1,q1]
     have al:a.spot=none:=by
      have y:=bd 0 ae;rw[dv ae,aI2] at y;obtain⟨c0,y,_⟩:=y;obtain⟨_,d1,d2⟩:=aJp y;have d3:=d2 0 ae;rw[Nat.zero_mul,dv ae] at d3;simp only[Addr.add,dP] at d3;unfold oF at d3;split at d3;split at d3;cases d3;rename_i hs;simpa using hs;cases d3
     have bg:∀(j:Nat)(c:RV),V[j]?=U c->W.cell? ⟨a.block,a.off+i*Y L.am+j,Z⟩=U c.val:=by
      intro j c B;have cy:j<Y L.am:=by rw[<-bf];exact(du.1 B).1
      have c3:=c2 j ae;have c4:ci[j]?=U c.val:=by rw[<-r1,ep,B];rfl
      rw[c4] at c3;have ha:(a.add (i*P.cellsOf e)).add j=⟨a.block,a.off+i*Y L.am+j,Z⟩:=by
       rw[G];unfold Addr.add;cases a with
       |mk lx cA sp=>
        simp only at al;subst al;by_cases q5:i*Y L.am=0<;>by_cases q6:j=0<;>simp[q5,q6]
      rw[ha] at c3;exact c3
     refine⟨V,bf,al, ?_,bg,r2,r3,r4,r5,λj c r x g1 A G=>r6 j c r g1 (by rw[dv ac] at A;cases A;exact G)⟩;have bk:0<Y L.am:=ae;obtain⟨c,g⟩:∃c,V[0]?=U c:=⟨_,dv ae⟩;exact avA (bg 0 c g)
    obtain⟨bl,l1,l2⟩:=avy (α:=aE) (R:=avB P o W m e L.am a s) ab b7;refine Vo g1 ⟨.mk (.slice (U a) ab ba) bl,rfl,.sl e (U a) ab ba bl l1 b6 (λi V X=> ?_) (λi j V c k X g hk=> ?_) (λi j V c X g hk=> ?_) (λi j V c z k X g hk=> ?_),.mk _ (by rw[RV.mX];omega) (λV X c g=> ?_),λr X=> ?_⟩;have p:=l2 i V X;rw[af];refine⟨p.len,a.block,a.off, ?_,p.lx,p.cell⟩;have p2:=p.sp;cases a;simp only at p2;subst p2;rfl;rw[af] at hk;exact(l2 i V X).hi j c k g hk;rw[af] at hk;exact(l2 i V X).hb j c g hk;rw[af] at hk;exact(l2 i V X).ho j c z k g hk;rw[RV.mX] at X;obtain⟨i,l⟩:=sP X;exact(l2 i V l).bnd c g;simp only[pH,N] at X;split at X;rename_i b8;cases X;have br:Y s=ab:=ae;rw[oW,br];have get:∀(i:Nat)(V:aE),(Co (λd=>Co (λj=>(pH P m e d j).getD default) (dj (P.cellsOf e))) (s.map (·.1)))[i]?=U V->∃x,s[i]?=U x/\V=(dj (P.cellsOf e)).map λj=>(pH P m e x.1 j).getD default:=by
     intro i V Q;rw[ep,ep] at Q;cases F:s[i]? with|none=>rw[F] at Q;cases Q|some x=>rw[F] at Q;simp only[ga,dX] at Q;exact⟨x,rfl,Q.symm⟩
    refine dN.sl _ _ _ _ _ _ _ (by simp[l1,br]) (λi V an Q w=> ?_) (λi j V an c c' Q w h3 h4=> ?_);obtain⟨x,_,rfl⟩:=get i V Q;rw[(l2 i an w).len];simp[G];obtain⟨x,F,rfl⟩:=get i V Q;rw[ep] at h3;cases B:(dj (P.cellsOf e))[j]? with
    |none=>rw[B] at h3;cases h3
    |some j'=>
     have a0:j<P.cellsOf e:=by have:=(du.1 B).1;simpa using this
     rw[Ep a0] at B;cases B;rw[Ep a0] at h3;simp only[ga,dX] at h3;have:=gC.1 (gC.1 b8 x.1 (fo.2 ⟨x,jD F,rfl⟩)) j (rO.2 a0);obtain⟨r,X⟩:=jC.1 this;rw[X] at h3;simp only[yV] at h3;subst h3;exact(l2 i an w).eq j c' r x h4 F X
    cases X
   case struct b=>
    simp only[aC,dq,gC,nF,rO] at M;obtain⟨⟨g1,A⟩,G⟩:=M;obtain⟨u,n',hn,F,ca,cc,hf⟩:=DataW.trod_struct N h;cases hn;subst F;simp only[DataW.weights,N] at aa;refine⟨ae,λj ct v Q w=> ?_⟩;have B:j<Y ti.am:=(du.1 Q).1;obtain⟨f0,cf,ch,cl⟩:=G j B;have cB:(b.toList.zip (u.map (·.1))).length=b.size:=bS;obtain⟨fd,a1⟩:∃fd,(b.toList.zip (u.map (·.1))).find? (λf=>decide (f.1.offset<=j)&&decide (j<f.1.offset+P.cellsOf f.1.type))=U fd:=by
     obtain⟨i0,a3⟩:=sP cf;have cn:i0<b.size:=by have:=(du.1 a3).1;simpa using this
     refine jC.1 (List.find?_isSome.2 ⟨((b.toList.zip (u.map (·.1)))[i0]' ae),sQ _, ?_⟩);have:f0=b.toList[i0]:=by rw[dv (by simpa using cn)] at a3;exact(nJ a3).symm
     simp only[List.getElem_zip,<-this,aC,dq];exact⟨ch,cl⟩
    have bs:=acs a1;simp only[aC,dq] at bs;obtain⟨bt,bx⟩:=bs;obtain⟨iz,co⟩:=sP (Vu a1);obtain⟨f,dd⟩:=fd;have a4:=avU.1 co;have bt:f.offset<=j:=bt;have bx:j<f.offset+P.cellsOf f.type:=bx;have cp:f∈b.toList:=jD a4.1;obtain⟨k1,k2⟩:=A f cp;cases D:o f.type with
    |none=>rw[D] at k2;cases k2
    |some fi=>
     rw[D] at k2;simp only[aC,dq] at k2;obtain⟨k3,k4⟩:=k2;have l:=a4.1;have ac:b[iz]?=U f:=by simpa using l
     have cC:iz<b.size:=(lL.1 ac).1;have e1:=hf iz f ac;rw[dv ae] at e1;obtain⟨q1,q2⟩:=Vp n m f.type fi _ _ D k1 e1 (λq a9=>aa q (avz (i:=iz) (by simp[l]) (by simp[show iz<Y u from ae]) a9));obtain⟨_,q4⟩:=ace k4;have b0:j-f.offset<Y fi.am:=ae;have ej:f.offset+(j-f.offset)=j:=ae;have v1:((cs.drop f.offset).take (P.cellsOf f.type))[j-f.offset]?=U v:=by
      rw[pJ,aH ae,xj,ej];exact w
     have v2:((ti.am.drop f.offset).take (Y fi.am))[j-f.offset]?=U ct:=by
      rw[pJ,aH b0,xj,ej];exact Q
     have v3:fi.am[j-f.offset]?=U fi.am[j-f.offset]:=dv b0;have cu:dd=(u[iz]' ae).1:=by
      have:=a4.2;rw[ep,dv ae] at this;exact(nJ this).symm
     have hE:pH P (m+1) t (.agg (u.map (·.1))) j=pH P m f.type (u[iz]' ae).1 (j-f.offset):=by
      simp only[pH,N,a1,cu]
     rw[hE];exact Cf.akR (q4 _ _ _ v2 v3) (q2 _ _ _ v3 v1)
   case array k e=>
    simp only[aC,dq] at M;obtain⟨⟨g1,A⟩,G⟩:=M;cases D:o e with
    |none=>rw[D] at G;cases G
    |some O=>
     rw[D] at G;simp only[aC,dq,gC,rO] at G;obtain⟨⟨g4,g5⟩,g6⟩:=G;obtain⟨u,n',hn,F,ca,cc,bc⟩:=DataW.trod_array N h;cases hn;subst F;simp only[DataW.weights,N] at aa;refine⟨ae,λj ct v Q w=> ?_⟩;have B:j<Y ti.am:=(du.1 Q).1;have bk:0<Y O.am:=by
      rcases Jz (Y O.am) with y|y;rw[g5,y] at B;omega;exact y
     have l:j/Y O.am<k:=av0 (by rw[VO];omega);have X:j%Y O.am<Y O.am:=Ra _ bk;have ej:j/Y O.am*Y O.am+j%Y O.am=j:=by have:=awj j (Y O.am);rw[VO] at this;exact this
     have e1:=bc (j/Y O.am) l;rw[dv ae] at e1;obtain⟨q1,q2⟩:=Vp n m e O _ _ D A e1 (λq a9=>aa q (akT (fo.2 ⟨_,sQ _,rfl⟩) a9));obtain⟨_,q4⟩:=ace (g6 _ l);have v1:((cs.drop (j/Y O.am*P.cellsOf e)).take (P.cellsOf e))[j%Y O.am]?=U v:=by
      rw[g4,pJ,aH X,xj,ej];exact w
     have v2:((ti.am.drop (j/Y O.am*Y O.am)).take (Y O.am))[j%Y O.am]?=U ct:=by
      rw[pJ,aH X,xj,ej];exact Q
     have v3:O.am[j%Y O.am]?=U O.am[j%Y O.am]:=dv X;have hE:pH P (m+1) t (.agg (u.map (·.1))) j=pH P m e (u[j/Y O.am]' ae).1 (j%Y O.am):=by
      simp only[pH,N,g4,ep];rw[dv ae];rfl
     rw[hE];exact Cf.akR (q4 _ _ _ v2 v3) (q2 _ _ _ v3 v1)

def Vr(X:aN)(V:aZ):Prop:=∀(q:Nat)(k:IntKind)(n:Int),X[q]?=U (.int k)->V[q]?=U (.i n)->(Lit.int k n).wf=J
def avC:∀{Ecel:Nat->Option RV}{am:eN}{cs:fz},Y cs=Y am->(∀(j:Nat)(V:CT)(v:Value),am[j]?=U V->cs[j]?=U v->Cf o W (Ecel j) V v)->
  ∃Q:aZ,dL (am.map vD) Q/\nU (am.map vD) Q=cs/\xP o W (am.map vD) Q/\(∀X,XV.r X∈Q->rM X)/\Vr (am.map vD) Q
 |_,[],[],_,_=>⟨[],trivial,rfl,λq e X h=>by simp at h,aw,λq k n h=>by simp at h⟩|_,[],_::_,h,_=>by simp at h|_,_::_,[],h,_=>by simp at h
 |Ecel,V::am,v::cs,A,h=>by
  obtain⟨Q,R,O,y,w,t⟩:=avC (Ecel:=λj=>Ecel (j+1)) (am:=am) (cs:=cs) (by simpa using A) (λj c u H G=>h (j+1) c u (by simpa using H) (by simpa using G));obtain⟨x,H,G,s,p,m⟩:∃x:XV,qA (vD V) x/\x.at (vD V)=v/\(∀e X,vD V=.ak e->x=.r X->bG W o e X)/\(∀X,x=.r X->rM X)/\∀k n,vD V=.int k->x=.i n->(Lit.int k n).wf=true:=by
   have F:=h 0 V v rfl rfl;cases V with
   |int k=>
    obtain⟨⟨n,rfl,l⟩,_⟩:=F;exact⟨.i n,trivial,rfl,λe X h=>(by cases h),λX h=>(by cases h),λD B R O=>(by cases R;cases O;exact l)⟩
   |bool=>
    obtain⟨⟨n,rfl⟩,_⟩:=F;exact⟨.b n,trivial,rfl,λe X h=>(by cases h),λX h=>(by cases h),λD B R O=>(by cases R)⟩
   |bz z k=>
    obtain⟨X,rfl,g,f,_⟩:=F;exact⟨.r X,trivial,rfl,λe d R O=>(by cases R;cases O;exact g),λd h=>(by cases h;exact f),λD B R O=>(by cases R)⟩
  refine⟨x::Q,⟨H,R⟩, ?_,λq e X N M=> ?_,λX L=> ?_,λq k n N M=> ?_⟩;show x.at (vD V)::nU (am.map vD) Q=_;rw[G,O];cases q with|zero=>simp at N M;exact s e X N M|succ q=>exact y q e X (by simpa using N) (by simpa using M)
  rcases ey.1 L with L|L;exact p X L.symm;exact w X L;cases q with|zero=>simp at N M;exact m k n N M|succ q=>exact t q k n (by simpa using N) (by simpa using M)
def avD:∀{X V:aN}{R Q:aZ},dL X R->dL V Q->dL (X++V) (R++Q)/\nU (X++V) (R++Q)=nU X R++nU V Q
 |[],_,[],_,_,h=>⟨h,rfl⟩|[],_,_::_,_,h,_=>h.elim|_::_,_,[],_,h,_=>h.elim
 |k::X,V,x::R,Q,h,O=>by
  obtain⟨N,M⟩:=avD h.2 O;exact⟨⟨h.1,N⟩,by simp[nU,M]⟩
def akU:∀{X:aN}{V:aZ},dL X V->Y X=Y V
 |[],[],_=>rfl|[],_::_,h=>h.elim|_::_,[],h=>h.elim|k::X,x::V,h=>by simp[akU h.2]
def aHc{X O:aN}{Q N:aZ}(L:dL X Q)(h:xP o W X Q)(H:xP o W O N):xP o W (X++O) (Q++N):=by
 intro q e M V R;have G:=akU L;by_cases F:q<Y X;rw[fO F] at V;rw[fO ae] at R;exact h q e M V R;rw[jo ae] at V;rw[jo ae,<-G] at R;exact H _ e M V R
def aHd{X O:aN}{Q N:aZ}(M:dL X Q)(h:Vr X Q)(L:Vr O N):Vr (X++O) (Q++N):=by
 intro q k n V R;have H:=akU M;by_cases G:q<Y X;rw[fO G] at V;rw[fO ae] at R;exact h q k n V R;rw[jo ae] at V;rw[jo ae,<-H] at R;exact L _ k n V R
def aHe{H:Type}{l:TypeId×Value->H}(kM:jx P o):∀{R:i7}{Q:fz}{L:List (DataW H)}{y:List MemPlace},R.all (AG P o 9)=J->DataW.TrodAll l P W V G B R Q L y->(∀q∈DataW.weightsEach P R L,q<=reachBytes)->
  (∀(j:Nat)(t:TypeId)(v:Value)(X:TI),R[j]?=U t->Q[j]?=U v->o t=U X->(X.d.isAgg=J/\v=.agg v.cells)\/(X.d.isAgg=E/\v.cells.toList=[v]))->
  ∃(F:aN)(O:aZ),fJ o R=U F/\dL F O/\qG o R (nU F O)=Q/\xP o W F O/\(∀M,XV.r M∈O->rM M)/\Vr F O:=by
 intro R;induction R with
 |nil=>
  intro Q L y _ h _ _;have:Q=[]:=by
   cases Q with|nil=>rfl|cons v Q=>cases L<;>simp[DataW.TrodAll] at h
  subst this;exact⟨[],[],rfl,trivial,rfl,λq e M h=>by simp at h,aw,λq k n h=>by simp at h⟩
 |cons t R i=>
  intro Q L y A h g u;obtain⟨v,af,d,f,p,q,rfl,rfl,rfl,⟨c,b⟩,a⟩:=Go.ChangeShapes.trodAll_cons h;simp only[VL,aC] at A;obtain⟨X,z⟩:∃X,o t=U X:=by
   cases N:o t with|none=>have:=A.1;simp[AG,N] at this|some X=>exact⟨X,rfl⟩
  have s:∀q,q∈DataW.weights P t d\/q∈DataW.weightsEach P R f->q<=reachBytes:=λq N=>g q (by simp only[DataW.weightsEach,fc];exact N)
  obtain⟨m,c2⟩:=Vp c 9 t X _ _ z A.1 b (λq N=>s q (.inl N));obtain⟨O,x,x2,x3,x4,x5⟩:=avC m c2;obtain⟨aa,ab,y1,y2,y3,y4,y5,y6⟩:=i A.2 a (λq N=>s q (.inr N)) (λj t' v' ac q1 q2 q3=>u (j+1) t' v' ac (by simpa using q1) (by simpa using q2) q3);obtain⟨z1,z2⟩:=avD x y2;refine⟨X.am.map vD++aa,O++ab,by simp[fJ,z,y1],z1, ?_,aHc x x3 y4,λM D=> ?_,aHd x x5 y6⟩;rw[z2,x2];simp only[qG,z];have hl:Y v.cells.toList=Y X.am:=m;rw[avS ae,Jv ae,avT ae,acj ae,cX,y3];have e:=u 0 t v X rfl rfl z;congr 1;rcases e with⟨w,e⟩|⟨w,e⟩;rw[aH w];exact e.symm;rw[w,e];rfl;rcases fc.1 D with D|D;exact x4 M D;exact y5 M D
end
def aHf{W R:Oper}{Q:Exit->Act->List Frame->World->Prop}{L H:List Frame}(A:(execOp y.eval W).run M X=.ok .recover X)(u:W.guard=Z)
  (N:recoverD L=U (O,H)\/(recoverD L=Z/\O=.nilIface/\H=L))
  (h:wpOpsIn Fence.wide 0 M #[W,R] (λe G F=>Q e G H F) [1] (y.put W.dst O) X):(Code.region V #[W,R] E).wpSIn Fence.wide 0 M Q y L X:=by
 intro b k t D s j;have r:Y H=Y L:=by
  rcases N with N|⟨_,_,rfl⟩;exact recoverD_length N;rfl
 obtain⟨e,G,F,q,p⟩:=wp_opsIn [1] _ X h b k H (D.trans rfl) s (room_wide _);refine⟨e,G,H,F,r,q,.of_steps (.one (fenced_wide _ _) stepR_region) ?_⟩;have z:(#[W,R]:dG)[0]?=U W:=rfl;have o:lM W (yielded #[W,R] y.tmps)=true:=by simp[lM,u]
 have x:=stepGR_op (P:=M) (b:=b) (k:=k) (cs:=L) (w:=X) (rest:=[1]) z o;rw[D,awn] at x;have n:(b.atR y (.inRegion #[W,R] [0,1]::k)).kind=.deferred:=t;have B:=tryRecover_deferred n L;have m:(b.atR y (.inRegion #[W,R] [0,1]::k)).finish O=b.atR (y.put W.dst O) (.inRegion #[W,R] [1]::k):=by
  rw[Frame.finish_atR,z];rfl
 refine .of_steps (.one (fenced_wide _ _) (step_lone_go ?_)) p;rw[show dj (#[W,R]:dG).size=[0,1] from rfl,x,<-m];simp only[Frame.atR,D] at B⊢;rcases N with N|⟨N,l,rfl⟩;simp[stepG.apply,A,B,N];subst l;simp[stepG.apply,A,B,N]
def avE{R W:Oper}{Q:Exit->Act->List Frame->World->Prop}{O cs':List Frame}{v:Value}{f:FuncId}{args:mR}(L:(execOp y.eval R).run M X=.ok .recover X)(H:R.guard=Z)
  (G:recoverD O=U (v,cs')\/(recoverD O=Z/\v=.nilIface/\cs'=O))(F:W.guard=Z)(D:(W.semAt Z (y.put R.dst v).eval).run M X=.ok (.enter f args) X)
  (h:Calls M f args X λe N=>∃u,e=.returned u/\Q .normal ((y.put R.dst v).put W.dst u) cs' N):(Code.region V #[R,W] E).wpSIn Fence.wide 0 M Q y O X:=by
 refine aHf L H G ?_;show(if lM W _ then _ else _);rw[aH (by simp[lM,F])];refine⟨λ_ _=>trivial, ?_⟩;show awB Fence.wide 0 M W _ _ _ ((W.semAt Z (y.put R.dst v).eval).run M X);rw[D];refine⟨λh=>by simp[Fence.wide] at h,callsIn_wide.2 (h.mono ?_)⟩;rintro e N ⟨u,rfl,B⟩;exact B
@[local go_sem] def aJ5 (v:Value) (w:World):(Instr.typeAssert (.iface 47 v) 20 47 J).run Tryz.prog w=.ok (.tuple #[v,.bool J]) w:=aV
def aHg(b:Nat)(W:World):Calls Tryz.prog 79 #[.nilIface,.pointer (U ⟨b,0,Z⟩)] W λe X=>e=.returned (.tuple #[])/\X=W:=by
 go_enter Tryz.func79,Tryz.ntmps79;go_wp2
 (try simp only[Exit.inBlock,Exit.then]);refine bodyPost_ret (results_none rfl _ _ _) rfl ?_;exact⟨rfl,rfl⟩
def aHh(b:Nat)(X k:Int)(W:World)(R:W.cell? ⟨b,0,Z⟩=U (.int I X))(Q:W.frozen? ⟨b,0,Z⟩=E):Calls Tryz.prog 79 #[.iface 47 (.int I k),.pointer (U ⟨b,0,Z⟩)] W λe V=>e=.returned (.tuple #[])/\V=W.setCell ⟨b,0,Z⟩ (.int I k):=by
 go_enter Tryz.func79,Tryz.ntmps79;go_wp2
 go_end0
 exact⟨rfl,rfl⟩
def avF{u:Value}(h:X.heap[V]?=U (.cells #[u] N (0,0))):X.setCell ⟨V,0,Z⟩ O=X.putObj V (.cells #[O] N (0,0)):=by
 unfold acv Mv;congr 1;apply aJm;intro i;rw[QT,QS];by_cases R:V=i;subst R;have Q:V<X.heap.size:=(lL.1 h).1;rw[aH rfl,aH rfl,h,aH Q];rfl;rw[aJ R,aJ R]
def avG{g:FuncId}{X:Func}{D:TypeId}{B A:String}{z y:Array Edge}(M:Tryz.prog.funcs[g]?=U X)(x:uI Tryz.prog g=J)(L:X.ntmps=3)(bZ:X.results= #[])
  (H:X.body=U (.region V #[⟨U 1,.call {callee:=.builtin .recover,args:= #[],argTypes:= #[]},N,B,z,Z⟩,⟨U 2,.call {callee:=.value (.func 79),args:= #[.tmp 1,.tmp 0],argTypes:= #[20,119]},D,A,y,Z⟩] E)):zE Tryz.prog g 47:=by
 have G:∀F W,(callFunc 79 F).run Tryz.prog W=.ok (.enter 79 F) W:=xL aV;refine⟨xL x,λW b=> ?_,λW b w k Q=> ?_⟩;refine callsDIn_of_wpSIn M H (by simp[Fence.wide]) λP O R=> ?_
 rw[L];refine avE (v:=.nilIface) (cs':=P::O) (f:=79) (args:= #[.nilIface,.pointer (U ⟨b,0,Z⟩)]) rfl rfl (.inr ⟨by simp[recoverD,R],rfl,rfl⟩) rfl (by simp[Oper.semAt,go_sem,Act.put,G]) ?_;refine(aHg b W).mono ?_;rintro e u ⟨rfl,rfl⟩;refine⟨_,rfl,rfl,.returning,by rw[<-R],.tuple #[], ?_,⟨_,rfl⟩,rfl,rfl⟩;simp[results,bZ];refine callsDIn_of_wpSIn M H (by simp[Fence.wide]) λP O R=> ?_
 rw[L];refine avE (v:=.iface 47 (.int I k)) (cs':={P with mode:=.panicking [{v:=.iface 47 (.int I k),recovered:=J}]}::O) (f:=79) (args:= #[.iface 47 (.int I k),.pointer (U ⟨b,0,Z⟩)]) rfl rfl (.inl (by simp[recoverD,R])) rfl (by simp[Oper.semAt,go_sem,Act.put,G]) ?_;refine(aHh b w k W (by simp[oF,Q]) (by simp[VM,Q])).mono ?_;rintro e u ⟨rfl,rfl⟩;refine⟨_,rfl,rfl,_,rfl,.tuple #[], ?_,⟨_,rfl⟩,rfl,avF Q⟩;simp[results,bZ]
def aHi:zE Tryz.prog 78 47:=avG Tryz.func78 aV rfl rfl rfl
def aHj:zE Tryz.prog 116 47:=avG Tryz.func116 aV rfl rfl rfl
def aHk(W:World)(b:Nat):CallsDIn Fence.wide 0 Tryz.prog 85 #[.pointer (U ⟨b,0,Z⟩)] .returning W λR u Q=>(∃v,R=.returned v)/\u=.returning/\Q=W:=by
 refine callsDIn_of_wpSIn Tryz.func85 rfl (by simp[Fence.wide]) λV P X=> ?_
 have O:V={V with mode:=.returning}:=by rw[<-X]
 rw[Tryz.ntmps85];apply wpSIn_seq;apply wpSIn_region;simp[wpOpsSIn,go_sem,recoverD,X,Exit.thenS];refine wpSIn_of_wpIn rfl (wpIn_wide.2 ?_);go_wp2;refine⟨rfl,.returning,by rw[<-X],.tuple #[], ?_,⟨_,rfl⟩,rfl,rfl⟩;simp[results,Tryz.results85]
def aHl(W:World)(b:Nat)(V k:Int)(X:W.heap[b]?=U (.cells #[.int I V] 47 (0,0))):CallsDIn Fence.wide 0 Tryz.prog 85 #[.pointer (U ⟨b,0,Z⟩)] (.panicking [{v:=.iface 47 (.int I k),recovered:=E}]) W λR u Q=>(∃v,R=.returned v)/\u=.panicking [{v:=.iface 47 (.int I k),recovered:=J}]/\Q=W.putObj b (.cells #[.int I k] 47 (0,0)):=by
 have bq:W.cell? ⟨b,0,Z⟩=U (.int I V):=by simp[oF,X]
 have O:W.frozen? ⟨b,0,Z⟩=false:=by simp[VM,X]
 refine callsDIn_of_wpSIn Tryz.func85 rfl (by simp[Fence.wide]) λN M P=> ?_
 rw[Tryz.ntmps85];apply wpSIn_seq;apply wpSIn_region;simp[wpOpsSIn,go_sem,recoverD,P,Exit.thenS];refine wpSIn_of_wpIn rfl (wpIn_wide.2 ?_);go_wp2;refine⟨rfl,_,rfl,.tuple #[], ?_,⟨_,rfl⟩,rfl,avF X⟩;simp[results,Tryz.results85]
def aHm:zE Tryz.prog 85 47:=⟨xL aV,aHk,aHl⟩
section
open Go.Shelf
def Tryz.indexB_ren:Go.Shelf.Ren:=⟨λ|137=>128|217=>158|266=>195|n=>n,λ|9=>9|5=>5|3=>3|n=>n,λ|n=>n⟩
def Tryz.indexB:Go.Proofs.Lays.n137 Tryz.prog Tryz.indexB_ren:={mixed:=aV,f137:=eB Tryz.func128 aV,f217:=eB Tryz.func158 aV,f266:=eB Tryz.func195 aV,t3:=Tryz.underlying3,a3:=Tryz.isAgg3,z3:=Tryz.sizeOf3,v3:=Tryz.zeroValue3,t5:=Tryz.underlying5,a5:=Tryz.isAgg5,z5:=Tryz.sizeOf5,v5:=Tryz.zeroValue5,t9:=Tryz.underlying9,a9:=Tryz.isAgg9,z9:=Tryz.sizeOf9,v9:=Tryz.zeroValue9}
def aHn:look PT 128=U [9,5]:=aV
def aHo:look SG 128=U [3]:=aV
def aHp:fJ (look TT) [9,5]=U [.ak .str,.int .u8]:=aV
def aHq:fJ (look TT) [3]=U [.int I]:=aV
def avH:∀(l:List UInt8)(b:UInt8),-1<=Lib.indexByte l b
 |[],_=>by simp[Lib.indexByte]
 |x::l,b=>by
  have:=avH l b;simp only[Lib.indexByte];split;omega;split<;>omega
def avI:∀(l:List UInt8)(b:UInt8)(k:Nat),I3 k l b=if Lib.indexByte l b=-1 then-1 else Lib.indexByte l b+k
 |[],_,_=>by simp[I3,Lib.indexByte]
 |x::l,b,k=>by
  have V:=avI l b (k+1);have R:=avH l b;simp only[I3,Lib.indexByte,gc];by_cases X:x=b;simp[X];rw[aJ X,aJ X,V];by_cases W:Lib.indexByte l b=-1;simp[W];rw[aJ W,aJ W,aJ ae];omega
def aHr(l:List UInt8)(b:UInt8):I3 0 l b=Lib.indexByte l b:=by
 rw[avI];split;rename_i h;rw[h];simp
def aHs{z:Bool}:qY z 128 abb:=by
 refine⟨λ_=> ?_,λg L h=>by rw[show oM 128=Z from rfl] at h;cases h⟩;intro m l k j N M H G F D out O Q P W f w;rw[aHn] at N;cases N;rw[aHo] at M;cases M;rw[aHp] at H;cases H;rw[aHq] at G;cases G;rcases D with _|⟨x,_|⟨y,_|⟨z,D⟩⟩⟩;exact P.elim;exact P.2.elim
 ·obtain⟨B,A,_⟩:=P;cases x with
  |i n=>exact B.elim|b n=>exact B.elim
  |r v=>
  cases y with
  |b n=>exact A.elim|r n=>exact A.elim
  |i c=>
  have u:=w 0 .str v rfl rfl;cases u with
  |str t=>
  rcases F with _|⟨s,_|⟨q,_|⟨d,F⟩⟩⟩;exact Q.elim;exact Q.2.elim
  ·obtain⟨V,R,_⟩:=Q;cases s with
   |i n=>exact V.elim|b n=>exact V.elim
   |r p=>
   cases q with
   |b n=>exact R.elim|r n=>exact R.elim
   |i X=>
   have R:X=c:=R;subst R;have V:dN p (.mk (.string t) []):=V;cases V with
   |val=>
   have O:U (aX.ret [.i (I3 0 t.toList (UInt8.ofNat X.toNat))])=U out:=O;cases O;have h:=Any.strings_IndexByte Tryz.indexB t X W;refine Calls.mono (show Calls Tryz.prog 128 #[.string t,.int .u8 X] W _ from h) ?_;rintro e a ⟨rfl,rfl⟩;refine⟨_,[.i (Lib.indexByte t.data.toList X.toNat.toUInt8)],rfl,⟨?_,trivial⟩,⟨trivial,trivial⟩,rfl,Below.refl _ _,abV aw,λb o=>(auI aw o).elim⟩;show I3 0 t.toList (UInt8.ofNat X.toNat)=_;rw[aHr,ByteArray.toList_eq]
  exact Q.2.2.elim
 exact P.2.2.elim
def avJ:∀{n:Nat}{R X:aZ},xM R X->dL (ew n (.int I)) X->∃l:bA,Y l=n/\R=l.map XV.i/\X=l.map XV.i
 |0,R,X,W,V=>by
  cases X with
  |cons _ _=>exact V.elim
  |nil=>
   cases R with|cons _ _=>exact W.elim|nil=>exact⟨[],rfl,rfl,rfl⟩
 |n+1,R,[],W,V=>V.elim|n+1,[],x::X,W,V=>W.elim
 |n+1,y::R,x::X,W,V=>by
  obtain⟨l,P,O,N⟩:=avJ (n:=n) W.2 V.2;have e:=W.1;have f:=V.1;cases x with
  |b q=>exact f.elim|r q=>exact f.elim
  |i m=>
   cases y with
   |b q=>exact e.elim|r q=>exact e.elim
   |i Q=>
    have e:Q=m:=e;subst e;exact⟨Q::l,by simp[P],by simp[O],by simp[N]⟩
def avK(a b c d:Int):eF a b c d=K.me.valid ⟨⟨a,b⟩,⟨c,d⟩⟩:=by
 rw[JB];simp[eF,K.me.valid,K.Cb];omega
def aHt(a b c d X W V R:Int):BQ a b c d X W V R= !(K.me.vq ⟨⟨a,b⟩,⟨c,d⟩⟩ ⟨⟨X,W⟩,⟨V,R⟩⟩):=by
 simp only[BQ,K.me.vq,K.Range.vq,awq]
def aHu:look PT 151=U [139,139]:=aV
def aHv:look SG 151=U [4,47]:=aV
def k26:fJ (look TT) [139,139]=U (ew 8 (.int I)):=aV
def q26:fJ (look TT) [4,47]=U [.bool,.int I]:=aV
def aHy(a b c d X W V R:Int):(qG (look TT) [139,139] (nU (ew 8 (.int I)) [.i a,.i b,.i c,.i d,.i X,.i W,.i V,.i R])).toArray= #[K.me.v ⟨⟨a,b⟩,⟨c,d⟩⟩,K.me.v ⟨⟨X,W⟩,⟨V,R⟩⟩]:=aV
def aHz(x:Bool)(e:Int):xO (qG (look TT) [4,47] (nU [.bool,.int I] [.b x,.i e]))=.tuple #[.bool x,.int I e]:=aV
def aHA{l:bA}(h:Y l=8):∃a b c d X W V R,l=[a,b,c,d,X,W,V,R]:=by
 match l,h with|[a,b,c,d,X,W,V,R],_=>exact⟨a,b,c,d,X,W,V,R,rfl⟩
def aHB{z:Bool}:qY z 151 aba:=by
 refine⟨λ_=> ?_,λg L h=>by rw[show oM 151=Z from rfl] at h;cases h⟩;intro t s r q X V F D p o out M A y W m k;rw[aHu] at X;cases X;rw[aHv] at V;cases V;rw[k26] at F;cases F;rw[q26] at D;cases D;obtain⟨l,w,rfl,rfl⟩:=avJ (n:=8) A y;obtain⟨a,b,c,d,Q,P,O,N,rfl⟩:=aHA w;have v:=aHy a b c d Q P O N;simp only[dH,oE] at M⊢;rw[v];simp only[aba,dX] at M;subst M;have H:∀(x:Bool)(e:Int)(G:World),Below W.heap.size W G->S4 (look TT) [4,47] [.bool,.int I] W (ew 8 (.int I)) [.i a,.i b,.i c,.i d,.i Q,.i P,.i O,.i N] (.ret [.b x,.i e]) (.returned (.tuple #[.bool x,.int I e])) G:=λx e G R=>
  ⟨_,[.b x,.i e],rfl,⟨rfl,rfl,trivial⟩,⟨trivial,trivial,trivial⟩,(aHz x e).symm,R,abV aw,λb u=>(auI aw u).elim⟩
 rw[avK,avK];by_cases X:K.me.valid ⟨⟨a,b⟩,⟨c,d⟩⟩=J;by_cases V:K.me.valid ⟨⟨Q,P⟩,⟨O,N⟩⟩=J;rw[X,V];refine(aEF _ _ X V (BQ a b c d Q P O N) (by rw[aHt];simp) W).mono ?_;rintro e B ⟨rfl,R⟩;exact H _ _ _ R;have V:K.me.valid ⟨⟨Q,P⟩,⟨O,N⟩⟩=false:=by simpa using V
 rw[X,V];refine(aEH _ _ X V W).mono ?_;rintro e B ⟨rfl,R⟩;exact H _ _ _ R;have X:K.me.valid ⟨⟨a,b⟩,⟨c,d⟩⟩=false:=by simpa using X
 rw[X];refine(aEG _ _ X W).mono ?_;rintro e B ⟨rfl,R⟩;exact H _ _ _ R
def aHC{z:Bool}(f:FuncId):qY z f (LX f):=by
 unfold LX;by_cases X:f=151;subst X;exact aHB;by_cases W:f=128;subst W;exact aHs;simp only[X,W,jE];exact akm f
end
theorem aHD(f:FuncId)(X:Fn)(h:TB.tree f=U X):cg f X.g X.d X.t:=by
 have h:I4 f=U X:=h;unfold I4 at h;split at h;cases h;exact aE5;cases h;exact aE6;cases h;exact aE7;cases h;exact aE8;cases h;exact aE9;cases h;exact aFa;cases h;exact au8;cases h;exact au9;cases h;exact ava;cases h;exact aFb;cases h;exact aFc;cases h;exact avb;cases h;exact avc;cases h;exact avd;cases h;exact aFd;cases h;exact aFe;cases h;exact aFf;cases h;exact aFg;cases h;exact aFh;cases h;exact aFi;cases h;exact aFj;cases h;exact aFk;cases h;exact aFl;cases h;exact aFm;cases h;exact aFn;cases h;exact aFo;cases h;exact aFp;cases h;exact aFq;cases h;exact aFr;cases h;exact aF0;cases h;exact aF1;cases h;exact aF2;cases h;exact aF3;cases h;exact aF4;cases h;exact aF5;cases h;exact aF6;cases h;exact aF7;cases h;exact aF8;cases h;exact aF9;cases h;exact aGa Ml;cases h;exact aGb;cases h;exact aGc;cases h;exact aGd;cases h;exact aGe;cases h;exact aGf Ml;cases h;exact aGh;cases h;exact aGi;cases h;exact aGj;cases h;exact aGk;cases h;exact aGl;cases h;exact aGm;cases h;exact aGn Ml;cases h;exact aGo;cases h;exact aGp;cases h;exact aGq aHm;cases h;exact aGr aHi;cases h;exact aGs Ml aHj;cases h;exact aGt;cases h;exact aGu Ml;cases h;exact aGv;cases h;exact aGw Ml;cases h;exact aGg;cases h;exact aGx Ml;cases h;exact aGy;cases h;exact aGD;cases h;exact aGH avx;cases h;exact aGE;cases h;exact aGJ;cases h;exact aGF;cases h;exact aGK;cases h;exact aGL;cases h;exact aGI avx;cases h;exact aGz;cases h;exact aGA;cases h;exact aGG;cases h;exact aGM;cases h;exact aGN;cases h;exact aGO;cases h;exact aGP;cases h;exact aGC;cases h;exact aGB;cases h;exact aGV;cases h;exact aGQ;cases h;exact aGR;cases h;exact aGW;cases h;exact aG2;cases h;exact aGY;cases h;exact aGS;cases h;exact aGT;cases h;exact aGU;cases h;exact aGX;cases h;exact aGZ;cases h;exact aG1;cases h;exact aG5;cases h;exact aG4;cases h;exact aG3;cases h
theorem aHE:ako TB true:=⟨aHD,λ_ _ _ _=>rfl,aHC⟩
def aHF:([41,44,3]:List TypeId).all (AG Tryz.prog (look TT) 9)=true:=aV
def ptU:look PT 3=U [41,44,3]:=aV
def aHH:look SG 3=U [4]:=aV
def qkU:fJ (look TT) [4]=U [.bool]:=aV
def kkU:fJ (look TT) [41,44,3]=U [.int I,.int I,.int I,.int I,.int I,.ak (.sl 92),.int I,.ak (.sl 94),.ak (.sl 255),.ak (.sl 257),.ak (.sl 89),.ak (.sl 141),.ak (.sl 85),.ak (.sl 39),.ak (.sl 63),.ak (.sl 3),.ak (.sl 3),.int I,.ak (.sl 111),.ak (.sl 3),.bool,.int I]:=aV
def r82:bJ (look TT) (.sl 101)=[.bz (.slice Z 0 0) (.sl 96)]:=aV
def aHK:bJ (look TT) (.sl 39)=[.bz (.slice Z 0 0) (.sl 3)]:=aV
def aHL:bJ (look TT) (.sl 63)=[.bz (.slice Z 0 0) (.sl 100)]:=aV
def avM:bJ (look TT) (.sl 100)=[.bz (.slice Z 0 0) (.sl 4),.bz (.slice Z 0 0) (.sl 101)]:=aV
def r38:bJ (look TT) (.sl 111)=[.bz (.slice Z 0 0) (.sl 108)]:=aV
def r3':bJ (look TT) (.sl 3)=[.int I]:=aV
def Ju{k:IntKind}(h:dL (.int k::L) H):∃n X,H=.i n::X/\dL L X:=by
 cases H with
 |nil=>exact h.elim
 |cons x H=>
  cases x with|i n=>exact⟨n,H,rfl,h.2⟩|b n=>exact h.1.elim|r n=>exact h.1.elim
def yR{k:RK}(h:dL (.ak k::L) H):∃n X,H=.r n::X/\dL L X:=by
 cases H with
 |nil=>exact h.elim
 |cons x H=>
  cases x with|r n=>exact⟨n,H,rfl,h.2⟩|b n=>exact h.1.elim|i n=>exact h.1.elim
def qi(h:bG X F (.sl N) D)(V:rM D):Sl D:=by
 cases V with
 |mk D R P=>
 cases h with
 |sl N A O M L Q H G B z y=>
  refine⟨⟨_,_,_,rfl⟩, ?_,R⟩;simp only[RV.pe,RV.mX,lenOf,Q]
def aHN(h:dL (.bool::L) H):∃n X,H=.b n::X/\dL L X:=by
 cases H with
 |nil=>exact h.elim
 |cons x H=>
  cases x with|b n=>exact⟨n,H,rfl,h.2⟩|i n=>exact h.1.elim|r n=>exact h.1.elim
def avO(h:bG X F (.sl N) D)(Q:(bJ F (.sl N)).length=V):∀R∈D.ah,Y R=V:=by
 intro R P;cases h with
 |sl N A L H G B z O y x w=>
  obtain⟨i,M⟩:=sP P;rw[<-Q];exact(O i R M).1
def QQ{f:TypeId}(j:Nat){z:Value}(O:bJ (look TT) (.sl N)=A)(M:A[j]?=U (.bz z (.sl f)))(h:bG X (look TT) (.sl N) D)(B:rM D):∀i<Y D.ah,bG X (look TT) (.sl f) (cJ (.sl f) (aQ D.ah i j))/\rM (cJ (.sl f) (aQ D.ah i j)):=by
 intro i Q;have s:j<Y A:=(du.1 M).1;cases B with
 |mk r q L=>
 cases h with
 |sl N V y x R p o w m l v=>
  rw[RV.mX] at Q L;have P:R[i]?=U R[i]:=dv Q;have k:(R[i]).length=Y A:=by have:=(w i _ P).1;rw[O] at this;exact this
  have H:(R[i])[j]?=U (R[i])[j]:=dv ae;have G:=v i j _ _ _ _ P H (by rw[O];exact M);have F:=L _ (sQ Q) _ (sQ (ae:j<(R[i]).length));have u:=qi G F;have N:cJ (.sl f) (aQ (RV.mk (.slice V y x) R).ah i j)=(R[i])[j]:=by
   unfold aQ;simp only[RV.mX,rN,di,P,H,yV];obtain⟨a,n,c,t⟩:=u.sl;simp[cJ,t]
  rw[N];exact⟨G,F⟩
def aHO(hS:TB.Ev 6 [] (.ret [.b J])){H:Type}{af:TypeId×Value->H}{w:List Value}{ds:List (DataW H)}(hG:GW X)(hT:DataW.TrodAll af Tryz.prog X V G B [41,44,3] w ds R)(hw:∀q∈DataW.weightsEach Tryz.prog [41,44,3] ds,q<=reachBytes)
  (hv:∀(j:Nat)(t:TypeId)(v:Value)(m:TI),([41,44,3]:List TypeId)[j]?=U t->w[j]?=U v->look TT t=U m->(m.d.isAgg=J/\v=.agg v.cells)\/(m.d.isAgg=E/\v.cells.toList=[v])):
  Calls Tryz.prog 3 w.toArray X λe W'=>e=.returned (.bool J)/\Below X.heap.size X W':=by
 obtain⟨ks,xs,L,F,h3,O,N,h6⟩:=aHe Jq aHF hT hw hv;rw[kkU] at L;cases L;have hf:=F;obtain⟨Wd,cp,rfl,ag⟩:=Ju hf;obtain⟨D,ct,rfl,al⟩:=Ju ag;obtain⟨A,cu,rfl,an⟩:=Ju al;obtain⟨Q,cv,rfl,a0⟩:=Ju an;obtain⟨P,cx,rfl,a1⟩:=Ju a0;obtain⟨rl,cy,rfl,a3⟩:=yR a1;obtain⟨a4,cA,rfl,a9⟩:=Ju a3;obtain⟨tp,cB,rfl,ba⟩:=yR a9;obtain⟨pq,cC,rfl,bb⟩:=yR ba;obtain⟨sp,cD,rfl,bc⟩:=yR bb;obtain⟨sg,cO,rfl,bf⟩:=yR bc;obtain⟨l,cW,rfl,bg⟩:=yR bf;obtain⟨g,c0,rfl,bk⟩:=yR bg;obtain⟨u,c1,rfl,bl⟩:=yR bk;obtain⟨s,c2,rfl,bs⟩:=yR bl;obtain⟨f,c3,rfl,bt⟩:=yR bs;obtain⟨c,c4,rfl,bx⟩:=yR bt;obtain⟨aG,c5,rfl,b0⟩:=Ju bx;obtain⟨z,c6,rfl,b1⟩:=yR b0;obtain⟨p,c7,rfl,b2⟩:=yR b1;obtain⟨cl,c8,rfl,b3⟩:=aHN b2;obtain⟨kx,b4,rfl,b5⟩:=Ju b3;cases b4 with
 |cons _ _=>exact b5.elim
 |nil=>
 have b6:=qi (O 5 _ rl rfl rfl) (N _ aw);have b7:=qi (O 7 _ tp rfl rfl) (N _ aw);have b8:=qi (O 8 _ pq rfl rfl) (N _ aw);have cc:=qi (O 9 _ sp rfl rfl) (N _ aw);have cf:=qi (O 10 _ sg rfl rfl) (N _ aw)
 letI:Inhabited cm:=⟨⟨Wd,D,A,Q,P,a4,rl,tp,pq,sp,sg⟩⟩
 have s1:dU:=⟨b6,b7,b8,cc,cf⟩;have aa:=QQ 0 aHK rfl (O 13 _ u rfl rfl) (N _ aw);have a:=QQ 0 aHL rfl (O 14 _ s rfl rfl) (N _ aw);have ab:=QQ 0 r38 rfl (O 18 _ z rfl rfl) (N _ aw);have S:jR l g u s f:=⟨(qi (O 11 _ l rfl rfl) (N _ aw)),(qi (O 12 _ g rfl rfl) (N _ aw)),(qi (O 13 _ u rfl rfl) (N _ aw)),(qi (O 14 _ s rfl rfl) (N _ aw)),(qi (O 15 _ f rfl rfl) (N _ aw)),λi M=>qi (aa i M).1 (aa i M).2,λi M=>qi (a i M).1 (a i M).2,λk hk i M=>by
  have o:=a k hk;have h0:=QQ 0 avM rfl o.1 o.2 i M;have L:=QQ 1 avM rfl o.1 o.2 i M;refine⟨qi h0.1 h0.2,qi L.1 L.2,λj hj=> ?_⟩;have F:=QQ 0 r82 rfl L.1 L.2 j hj;exact qi F.1 F.2⟩
 have D:Dk c z p:=⟨(qi (O 16 _ c rfl rfl) (N _ aw)),(qi (O 18 _ z rfl rfl) (N _ aw)),(qi (O 19 _ p rfl rfl) (N _ aw)),λi M=>qi (ab i M).1 (ab i M).2,avO (O 18 _ z rfl rfl) (by rw[r38];rfl),avO (O 19 _ p rfl rfl) (by rw[r3'];rfl)⟩;obtain⟨n,hn⟩:=aEh (aG:=aG) (cl:=cl) hS s1 S D kx;have ac:=(abT aHE n 3).1 rfl _ _ _ _ ptU aHH kkU qkU _ _ _ hn (abU _) F X (λ_=>hG) O;have cn:qG (look TT) [41,44,3] (nU _ (bH l g u s f++[.r c,.i aG,.r z,.r p,.b cl,.i kx]))=w:=h3;rw[cn] at ac;refine ac.mono ?_;intro e W' h;cases e with
 |returned v=>
  obtain⟨yh,ys,e1,x,e3,rfl,hB,_,_⟩:=h;cases e1;cases ys with
  |nil=>exact x.elim
  |cons y ys=>
   cases ys with
   |cons _ _=>exact x.2.elim
   |nil=>
    cases y with
    |b q=>
     have:J=q:=x.1;subst this;exact⟨rfl,hB⟩
    |i q=>exact x.1.elim|r q=>exact x.1.elim
 |panicked ch=>obtain⟨_,v,e1,_⟩:=h;cases e1
 |outgrown=>exact h.elim
section
open Go.ChangeShapes Go.RowKit
def aHP{H:Type}{G:TypeId×Value->H}(B:laidOutB M=J){F:World}(A:Below X.heap.size X F):∀{V:List TypeId}{Q:List Value}{O:List (DataW H)}{R:List MemPlace},V.all (λt=>M.readableRec t&&decide (t<M.types.size))=J->DataW.TrodAll G M X 0 (λ_=>J) J V Q O R->(∀x∈R,x.block<X.heap.size)->DataW.TrodAll G M F 0 (λb=>decide (b<X.heap.size)) J V Q O R:=by
 intro V;induction V with
 |nil=>
  intro Q O R _ h _;obtain⟨rfl,rfl,rfl⟩:=trodAll_nil h;exact rfl
 |cons t V z=>
  intro Q O R N h D;obtain⟨v,u,d,s,p,q,rfl,rfl,rfl,y,w⟩:=trodAll_cons h;simp only[VL,aC,dq] at N;exact⟨p,q,Go.RowKit.Below.trod B N.1.1 N.1.2 y A (λx L=>D x (by simp[L])),z (by simpa using N.2) w (λx L=>D x (by simp[L])),rfl⟩
def aHQ:laidOutB Tryz.prog=true:=aV
def rdU:([41,44,3]:List TypeId).all (λt=>Tryz.prog.readableRec t&&decide (t<Tryz.prog.types.size))=true:=aV
def aHS{H:Type}{O:TypeId×Value->H}{N:World}{D B:List (DataW H)}(V:DataW.Whole O Tryz.prog Tryz.f3.params.toList [] E X Q.toList D B R)(M:Below X.heap.size X N):
  Rows.replanSafeSpec.post O Tryz.prog Tryz.f3 E J E E X Q (.bool J) N:=by
 have A:=V.lt;have z:=V;obtain⟨p,q,L,y,rfl,_,_⟩:=V;obtain⟨rfl,rfl⟩:=trodVars_none y;have P:Tryz.f3.params.toList=[41,44,3]:=by rw[Tryz.params3]
 have G:=L;rw[P] at G;obtain⟨s,r,o,n,m,l,_,rfl,rfl,_,w⟩:=trodAll_cons G;obtain⟨k,j,i,g,f,e,_,rfl,rfl,_,v⟩:=trodAll_cons w;obtain⟨d,c,b,a,p3,q3,_,rfl,rfl,_,u⟩:=trodAll_cons v;obtain⟨_,rfl,rfl⟩:=trodAll_nil u;have F:=aHP aHQ M rdU (by rw[<-P];exact L) (λx t=>A x (by simpa using t));rw[<-P] at F;exact⟨_,_,_,[],_,[],z,trodAll_mk1 (shut_bool Tryz.underlying4 _),F,rfl,Below.frame M _,λh=>(by cases h)⟩
end
section
open Go.ChangeShapes Go.RowKit Go.ChangeAt
abbrev gn(k:Nat):String:=Rows.replanSafeRow.named.getD k ""
abbrev L3{H:Type}:List (String×DataW H):=[(gn 1,Rows.laid_kinesphere_space_flat),(gn 0,Rows.laid_kinesphere_expand_kinds),(gn 2,Rows.laid_kinesphere_motion_kinds)]
def aHT(kM:jx M F){D:TI}(h:F N=U D)(L:Value.okWide M X .any V N O):(D.d.isAgg=J/\O=.agg O.cells)\/(D.d.isAgg=E/\O.cells.toList=[O]):=by
 have Q:=(kM N D h).desc;have B:∀d,M.underlying N=U d->(∀R,d≠ .struct R)->(∀n e,d≠ .array n e)->O.cells.toList=[O]:=by
  intro d G y x;cases O<;>try rfl
  case agg A=>
   exfalso;unfold Value.okWide at L;rw[G] at L;cases d<;>first|exact y _ rfl|exact x _ _ rfl|simp[Cell.okWide,Cell.ok,G] at L
 cases w:D.d<;>rw[w] at Q
 case one=>
  obtain⟨d,G,⟨z,_⟩,_⟩:=Q;exact .inr ⟨rfl,B d G (λR e=>by subst e;exact z) (λn e H=>by subst H;exact z)⟩
 case gI=>obtain⟨m,G⟩:=Q;exact .inr ⟨rfl,B _ G (λR e=>by cases e) (λn e H=>by cases H)⟩
 case str=>exact .inr ⟨rfl,B _ Q (λR e=>by cases e) (λn e H=>by cases H)⟩
 case slice e=>exact .inr ⟨rfl,B _ Q (λR e=>by cases e) (λn e H=>by cases H)⟩
 case map k e n u=>exact .inr ⟨rfl,B _ Q (λR e=>by cases e) (λn e H=>by cases H)⟩
 case arr n e=>
  have Q:M.underlying N=U (.array n e):=Q;unfold Value.okWide at L;rw[Q] at L;obtain⟨A,rfl,_⟩:=L;exact .inl ⟨rfl,rfl⟩
 case struct s=>
  obtain⟨R,G,_⟩:=Q;unfold Value.okWide at L;rw[G] at L;obtain⟨A,rfl,_⟩:=L;exact .inl ⟨rfl,rfl⟩
def aHU:ownKnob Tryz.prog.godebug=none:=aV
def aHV(B:TB.Ev 6 [] (.ret [.b J])){H:Type}{O:TypeId×Value->H}{N M:List (DataW H)}(A:GW X)
  (z:∀(j:Nat) t v,Tryz.f3.params[j]?=U t->Q[j]?=U v->Value.okWide Tryz.prog X .any V t v)(L:DataW.Whole O Tryz.prog Tryz.f3.params.toList [] E X Q.toList N M R)
  (P:(DataW.weightsEach Tryz.prog (Tryz.f3.params.toList++[]) (N++M)).all (·<=reachBytes)=J):
  Calls Tryz.prog 3 Q X λe G=>∃v,e=.returned v/\Rows.replanSafeSpec.post O Tryz.prog Tryz.f3 E J E E X Q v G:=by
 have y:=L;obtain⟨p,q,F,x,rfl,_,_⟩:=L;obtain⟨rfl,rfl⟩:=trodVars_none x;have D:Tryz.f3.params.toList=[41,44,3]:=by rw[Tryz.params3]
 rw[D] at F P;simp only[JC,gC,dq] at P;have w:=aHO B A F P (λj t v l u s r=>by
  have o:Tryz.f3.params[j]?=U t:=by rw[<-acl,D];exact u
  have n:=z j t v o (by rw[<-acl];exact s);exact aHT Jq r n)
 refine w.mono ?_;rintro e G ⟨rfl,m⟩;exact⟨_,rfl,aHS y m⟩

def aHW(X:Os)(W:Array Value):laidMetH Tryz.prog L3 ((World.doorLaid Tryz.prog 400 X).forCall (λ_ _=>0) ⟨#[],W,[]⟩).memory:=
 laidMetH_of_parts3 (fuel:=8) (laidMet_of_run' 8 aV aV) aV aV
def aHX(P:TB.Ev 6 [] (.ret [.b J]))(O:∀W,laidMetH Tryz.prog L3 W->GW W)(V:Os)(started:V.Started)(H:Type)(R:TypeId×Value->H):
  ReturnsInHanded {} Tryz.checked V 3 .any (λw Q=>(Rows.replanSafeSpec.pre R Tryz.prog Tryz.f3 [] E w Q/\laidMetH Tryz.prog L3 w)/\sizedMet R Tryz.prog Tryz.f3 (OpenSpec.ofChange Rows.replanSafeSpec) E w Q)
   (Rows.replanSafeSpec.post R Tryz.prog Tryz.f3 E J E E):=by
 refine returnsInHanded_of_change_and (C:=Tryz.checked) (X:=λw _=>laidMetH Tryz.prog L3 w) (λ_ _ _ N h=>h.of_heap N) aHU started aV Tryz.func3
  (ChangeSpec.witness_shaped (enc:=R) (C:=Tryz.checked) (os:=V) (X:=λw _=>laidMetH Tryz.prog L3 w) E (World.doorLaid Tryz.prog 400 V) #[.agg #[.int I 0,.int I 0,.int I 0,.int I 0,.int I 0,.slice Z 0 0,.int I 0,.slice Z 0 0,.slice Z 0 0,.slice Z 0 0,.slice Z 0 0,.slice Z 0 0,.slice Z 0 0,.slice Z 0 0,.slice Z 0 0,.slice Z 0 0],.agg #[.slice Z 0 0,.int I 0,.slice Z 0 0,.slice Z 0 0,.bool E],.int I 0] 8 rfl (World.shaped_of_RefB aV aV) aV aV aV (aHW V _)) ?_
 intro W D Q B A before M L _ G F _;exact aHV P (O W F) M L G
end
section
variable{P:Program}{ty:Ty}{W:World}
def AH{X:Type}(w:Nat):Nat->List X->List (List X)
 |0,_=>[]|n+1,l=>l.take w::AH w n (l.drop w)
def Vs{X:Type}{w:Nat}:∀{n:Nat}{l:List X},(AH w n l).length=n
 |0,_=>rfl|n+1,l=>by simp[AH,Vs (n:=n)]
def acg{X:Type}{w:Nat}:∀{n:Nat}{l r:List X}{i:Nat},(AH w n l)[i]?=U r->i<n/\r=(l.drop (i*w)).take w
 |0,l,r,i,h=>by simp[AH] at h|n+1,l,r,0,h=>by simp[AH] at h;exact⟨ae,by simp[h]⟩
 |n+1,l,r,i+1,h=>by
  simp only[AH,vw] at h;obtain⟨R,V⟩:=acg h;refine⟨ae, ?_⟩;rw[V,Q7];congr 2;rw[sT];omega
def QR{R:Type}{n:Nat}{l r:List R}{i j:Nat}{c:R}(h:(AH V n l)[i]?=U r)(X:r[j]?=U c):i<n/\j<V/\l[i*V+j]?=U c:=by
 obtain⟨Q,rfl⟩:=acg h;rw[pJ] at X;split at X;rename_i O;rw[xj] at X;exact⟨Q,O,X⟩;cases X
def Vt{H:Type}(P:Program)(t:TypeId)(d:DataW H)(w n:Nat):List (List RV):=AH w n ((dj (n*w)).map λj=>(pH P 9 t d j).getD default)
def akV{g n w:Nat}{e t:TypeId}{G F:TI}{d:DataW Unit}(aa:ty e=U G)(ab:ty t=U F)(hw:Y G.am=w)(A:Y F.am=n*w)(ac:(dj n).map (λi=>(F.am.drop (i*w)).take w)=ew n G.am)(af:AG P ty 9 t=J)
  (ag:DataW.trod (λ_=>()) P W 0 (λ_=>J) E V t Q.toList=U (d,R))(al:(DataW.weights P t d).all (·<=reachBytes)=J)(an:∀i,W.cell? ⟨g,i,Z⟩=Q[i]?)(hE:((dj (n*w)).all λj=>(pH P 9 t d j).isSome)=J)(a1:0<w):
  ∃u,bG W ty (.sl e) (.mk (.slice (U ⟨g,0,Z⟩) n n) u)/\dN (Bl g (Vt P t d w n)) (.mk (.slice (U ⟨g,0,Z⟩) n n) u):=by
 obtain⟨s,h2⟩:=Vp V 9 t F _ _ ab af ag (λq hq=>GN (gC.1 al q hq));obtain⟨D,o,r2,r3,r4,r5,r6⟩:=akS s h2;have a0:Y D=n*w:=by rw[<-oW (f:=RV.val),o,s,A]
 have y:∀i j,i<n->j<w->F.am[i*w+j]?=G.am[j]?:=λi j m hj=>by
  have h:=j7 (·[i]?) ac;simp only[ep,Ep m,Vv,aH m,ga,dX] at h;rw[<-h,pJ,aH hj,xj]
 have B:bJ ty (.sl e)=G.am:=by simp[bJ,aa]
 have bq:∀(i j:Nat)(r:List RV)(c:RV),(AH w n D)[i]?=U r->r[j]?=U c->W.cell? ⟨g,0+i*w+j,Z⟩=U c.val:=λi j r c X O=>by
  obtain⟨_,_,N⟩:=QR X O;have v:Q.toList[i*w+j]?=U c.val:=by rw[<-o,ep,N];rfl
  rw[jp,an,<-acl];exact v
 have l:∀(i:Nat)(r:List RV),(AH w n D)[i]?=U r->Y r=w:=λi r X=>by
  obtain⟨O,rfl⟩:=acg X;have:(i+1)*w<=n*w:=GG w O;rw[sT] at this;rw[Mr,Cj,a0];omega
 refine⟨AH w n D,.sl e _ n n _ Vs (cd _) (λi r X=> ?_) (λi j r c k X O N=> ?_) (λi j r c X O N=> ?_) (λi j r c z k X O N=> ?_), ?_⟩;rw[B,hw];have A:=l i r X;refine⟨A,g,0,rfl, ?_,λj c O=>bq i j r c X O⟩;obtain⟨c,hc⟩:∃c,r[0]?=U c:=⟨_,dv ae⟩;exact avA (bq i 0 r c X hc);rw[B] at N;obtain⟨L,H,M⟩:=QR X O;exact r2 _ c k M (by rw[y i j L H];exact N);rw[B] at N;obtain⟨L,H,M⟩:=QR X O;exact r3 _ c M (by rw[y i j L H];exact N);rw[B] at N;obtain⟨L,H,M⟩:=QR X O;exact r4 _ c z k M (by rw[y i j L H];exact N);unfold Bl Vt;rw[Vs];refine dN.sl _ _ _ _ _ _ _ (by rw[Vs,Vs]) (λi r b X O=> ?_) (λi j r b c c' X O N v=> ?_);obtain⟨L,rfl⟩:=acg X;have:(i+1)*w<=n*w:=GG w L;rw[sT] at this;rw[l i b O,Mr,Cj,oW,aJo];omega;obtain⟨L,H,M⟩:=QR X N;obtain⟨_,_,q4⟩:=QR O v;rw[ep] at M;have a:i*w+j<n*w:=by
  have:(i+1)*w<=n*w:=GG w L;rw[sT] at this;omega
 rw[Ep a] at M;simp only[ga,dX] at M;obtain⟨x,hx⟩:=jC.1 (gC.1 hE _ (rO.2 a));rw[hx,yV] at M;subst M;exact r6 _ c' x q4 hx
end
def aHY:Tryz.prog.globalNamed (gn 1)=U 2:=aV
def aHZ:Tryz.prog.globalNamed (gn 0)=U 0:=aV
def aH0:Tryz.prog.globalNamed (gn 2)=U 1:=aV
def aH1:(Tryz.prog.globals[2]?).map (·.type)=U 316:=aV
def aH2:(Tryz.prog.globals[0]?).map (·.type)=U 209:=aV
def aH3:(Tryz.prog.globals[1]?).map (·.type)=U 271:=aV
def akW{n:String}(R:Tryz.prog.globalNamed n=U V)(O:X.var? Tryz.prog n=U Q)(i:Nat):X.cell? ⟨V,i,Z⟩=Q[i]?:=World.var?_cell R O i
def avP:∀(X:List XV)(O:aj),∃l,(O.ext X).r=O.r++l
 |[],O=>⟨[],by simp[aj.ext]⟩
 |x::X,O=>by
  obtain⟨l,h⟩:=avP X (O.add x);simp only[aj.ext,h];cases x<;>simp[aj.add]
def avQ:wh=[Bl 0 (Vt Tryz.prog 209 (Rows.laid_kinesphere_expand_kinds:DataW Unit) 6 10),Bl 1 (Vt Tryz.prog 271 (Rows.laid_kinesphere_motion_kinds:DataW Unit) 2 10),Bl 2 (Vt Tryz.prog 316 (Rows.laid_kinesphere_space_flat:DataW Unit) 2 8)]:=aV
def avR{X:Type}{p:Nat->X->Prop}{a b c:X}(V:p 0 a)(R:p 1 b)(Q:p 2 c):∀(k:Nat)(x:X),[a,b,c][k]?=U x->p k x
 |0,_,h=>nJ h▸V|1,_,h=>nJ h▸R|2,_,h=>nJ h▸Q|k+3,_,h=>(by simp at h)
def aH4(h:laidMetH Tryz.prog L3 X):GW X:=by
 rw[MakeChecks.laidMetH_plain _ _ _ aV] at h;obtain⟨ps,⟨g0,t0,gK,f0,p0,q0,H,B,A,z,⟨g1,t1,aa,f1,p1,q1,G,y,u,s,⟨g2,t2,ab,f2,p2,q2,F,r,q,o,_,_⟩,_⟩,_⟩,_,_⟩:=h;obtain rfl:=nJ (aHY.symm.trans H);obtain rfl:=nJ (aHZ.symm.trans G);obtain rfl:=nJ (aH0.symm.trans F);obtain rfl:=nJ (aH1.symm.trans B);obtain rfl:=nJ (aH2.symm.trans y);obtain rfl:=nJ (aH3.symm.trans r);obtain⟨R,m,j⟩:=akV (P:=Tryz.prog) (ty:=look TT) (W:=X) (g:=0) (n:=10) (w:=6) (e:=208) (t:=209) rfl rfl rfl rfl rfl aV s aV (akW G u) aV ez;obtain⟨Q,i,f⟩:=akV (P:=Tryz.prog) (ty:=look TT) (W:=X) (g:=1) (n:=10) (w:=2) (e:=270) (t:=271) rfl rfl rfl rfl rfl aV o aV (akW F q) aV ez;obtain⟨O,d,c⟩:=akV (P:=Tryz.prog) (ty:=look TT) (W:=X) (g:=2) (n:=8) (w:=2) (e:=188) (t:=316) rfl rfl rfl rfl rfl aV z aV (akW H A) aV ez;refine⟨[.mk (.slice (U ⟨0,0,Z⟩) 10 10) R,.mk (.slice (U ⟨1,0,Z⟩) 10 10) Q,.mk (.slice (U ⟨2,0,Z⟩) 8 8) O],by rw[avQ];rfl,λk v V N L=> ?_,λk e M N L=> ?_,λb x D=> ?_⟩;rw[avQ] at N;exact avR (p:=λk v=>∀V,[RV.mk (.slice (U ⟨0,0,Z⟩) 10 10) R,.mk (.slice (U ⟨1,0,Z⟩) 10 10) Q,.mk (.slice (U ⟨2,0,Z⟩) 8 8) O][k]?=U V->dN v V) (λV h=>nJ h▸j) (λV h=>nJ h▸f) (λV h=>nJ h▸c) k v N V L;exact avR (p:=λk e=>∀M,[RV.mk (.slice (U ⟨0,0,Z⟩) 10 10) R,.mk (.slice (U ⟨1,0,Z⟩) 10 10) Q,.mk (.slice (U ⟨2,0,Z⟩) 8 8) O][k]?=U M->bG X (look TT) e M) (λV h=>nJ h▸m) (λV h=>nJ h▸i) (λV h=>nJ h▸d) k e N M L;obtain⟨l,a⟩:=avP b ⟨[],[],[RV.mk (.slice (U ⟨0,0,Z⟩) 10 10) R,.mk (.slice (U ⟨1,0,Z⟩) 10 10) Q,.mk (.slice (U ⟨2,0,Z⟩) 8 8) O],[]⟩;simp only[GL,ey,VH,or_false] at D;unfold dJ aj.rv;rw[a];rcases D with rfl|rfl|rfl;exact⟨aw,10,10,rfl⟩;exact⟨aw,10,10,rfl⟩;exact⟨aw,8,8,rfl⟩
