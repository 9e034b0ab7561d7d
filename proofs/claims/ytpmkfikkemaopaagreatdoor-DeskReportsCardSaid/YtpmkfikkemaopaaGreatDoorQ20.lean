/- Part 20 of the proof. -/
import Derived.Test.YtpmkfikkemaopaaGreatDoorQ8
import Derived.Test.YtpmkfikkemaopaaGreatDoorQ11
import Derived.Test.YtpmkfikkemaopaaGreatDoorQ12
import Derived.Test.YtpmkfikkemaopaaGreatDoorQ13
import Derived.Test.YtpmkfikkemaopaaGreatDoorQ14
import Derived.Test.YtpmkfikkemaopaaGreatDoorQ15
import Derived.Test.YtpmkfikkemaopaaGreatDoorQ16
import Derived.Test.YtpmkfikkemaopaaGreatDoorQ17
import Derived.Test.YtpmkfikkemaopaaGreatDoorQ18
import Derived.Test.YtpmkfikkemaopaaGreatDoorQ19
import Derived.Test.YtpmkfikkemaopaaGreatDoorRows
import Derived.ChangeArms
import Derived.DataReads
import Derived.OpenShut
import Derived.RecoverIn
import Derived.Shelf.Small.Strs
import Derived.Carry
import Derived.ProofKit
import Derived.LaidMore
import Derived.Stop.Joined
import Derived.Handed
set_option linter.all false
set_option maxRecDepth 100000
set_option maxHeartbeats 100000000
open Bool renaming and_eq_true->az,false_eq_true->iW,eq_iff_iff->tG,and_assoc->aqD,true->J,false->E
open List renaming getElem?_eq_some_iff->bZ,getElem?_eq_getElem->cK,getD_eq_getElem?_getD->dB,getElem?_append_left->dU,getElem?_map->dN,getElem?_append_right->iC,mem_cons->dP,mem_append->eP,all_eq_true->fp,replicate->eI,map_cons->eE,nil_append->gr,mem_of_getElem?->jm,mem_map->hJ,range->fU,getElem?_take->mB,any_eq_true->kS,getElem?_cons_succ->sa,getElem?_of_mem->qW,getElem_mem->pA,getElem?_drop->tF,length_map->qY,getElem?_replicate->E9,take_of_length_le->Fb,getElem?_range->Dd,mem_range->zv,length_take->De,length_drop->Df,mem_of_find?_eq_some->P1,map_nil->Bi,append_nil->H9,drop_drop->LS,map->zx,not_mem_nil->Qb,all_cons->LU,find?_some->Qc,take_append_of_le_length->aqh,getElem?_zip_eq_some->aqk,drop_append_of_le_length->aC8,drop_of_length_le->aDk,length_range->aDE,length->Y
open Nat renaming le_refl->cd,zero_add->iJ,eq_zero_or_pos->zt,add_mul->qf,mul_le_mul_right->Fe,mod_lt->Fo,mul_comm->Qg,div_lt_of_lt_mul->aqo,div_add_mod->aeZ,sub_self->Wv
open Option renaming map_some->dV,isSome_iff_exists->kD,getD_some->oJ,bind_eq_some_iff->aDh,some->U,none->Z
open Array renaming getElem?_eq_some_iff->n9,getElem?_modify->P4,getElem?_toList->We
open Go.World renaming cell?->nF,putObj->Fm,setCell->Ws,frozen?->Wt,cells?_some->aDF
open Go.Region renaming wanted->lz
open Int renaming toNat_natCast->zu
open Go.Oper renaming semAt_none->aqB
open Go.IntKind renaming i64->I
namespace Go.Proofs.YtpmkfikkemaopaaGreatDoor.Y
open Go.RowKit
noncomputable section
variable{D:Ty}{X:World}{Q:Value}{A:eQ}{V:Nat}{F:Nat→Bool}{L:Bool}{M:Program}{z:Act}{N:TypeId}{H:List LK}{G:List XV}{B:RV}{R:List MemPlace}{O:Array Value}
def V6:CT->CT->Bool
 |.int k,.int X=>decide (k=X)
 |.bool,.bool=>J
 |.ai _ k,.ai _ X=>decide (k=X)
 |_,_=>E
def Bc:eQ->eQ->Bool
 |[],[]=>J
 |c::l,X::V=>V6 c X&&Bc l V
 |_,_=>E
def V7:∀{l V:eQ},Bc l V=J->Y l=Y V/\∀(j:Nat)(c X:CT),l[j]?=U c->V[j]?=U X->V6 c X=J
 |[],[],_=>⟨rfl,λj c X h _=>by simp at h⟩
 |[],_::_,h=>by cases h
 |_::_,[],h=>by cases h
 |a::l,b::V,h=>by
  simp only[Bc,az] at h;obtain⟨O,N⟩:=V7 h.2;refine⟨by simp[O],λj c X R Q=> ?_⟩;cases j with
  |zero=>simp at R Q;subst R;subst Q;exact h.1
  |succ j=>exact N j c X (by simpa using R) (by simpa using Q)
inductive qe:RV->Prop
 |mk (rv:RV) (h:Y rv.aj<=140737488355328) (h2:∀row∈rv.aj,∀c∈row,qe c):qe rv
def qe.V9(v:Value):qe (.mk v []):=.mk _ (by simp[RV.jD]) (by simp[RV.jD])
def zq(o:Ty)(W:World)(V:Option RV):CT->Value->Prop
 |.int k,v=>(∃n,v=.int k n/\(Lit.int k n).wf=J)/\∀r,V=U r->r=.mk v []
 |.bool,v=>(∃b,v=.bool b)/\∀r,V=U r->r=.mk v []
 |.ai _ k,v=>∃X:RV,X.val=v/\bJ W o k X/\qe X/\∀r,V=U r->dA r X
def zq.aeG{V:Option RV}{a b:CT}(h:V6 a b=J)(k:zq D X V b Q):zq D X V a Q:=by
 cases a<;>cases b<;>simp only[V6,cF,iW] at h;subst h;exact k;exact k;subst h;exact k
def xI(P:Program)(o:Ty):Nat->TypeId->Bool
 |0,_=>E
 |n+1,t=>match o t with
  |none=>E
  |U X=>match P.underlying t with
   |U (.int k)=>Bc X.ao [.int k]
   |U .bool=>Bc X.ao [.bool]
   |U .string=>Bc X.ao [.ai undef .str]
   |U (.slice e)=>Bc X.ao [.ai undef (.sl e)]&&xI P o n e&&decide (P.cellsOf e=(bD o (.sl e)).length)&&decide (P.cellsOf e≠0)&&decide (P.bytesOf e≠0)
   |U (.struct Q)=>decide (P.cellsOf t=Y X.ao)&&Q.toList.all (λf=>xI P o n f.type&&(match o f.type with
     |U R=>decide (P.cellsOf f.type=Y R.ao)&&Bc ((X.ao.drop f.offset).take (Y R.ao)) R.ao
     |none=>E))&&(fU (Y X.ao)).all λj=>Q.toList.any λf=>decide (f.offset<=j)&&decide (j<f.offset+P.cellsOf f.type)
   |U (.array k e)=>decide (P.cellsOf t=Y X.ao)&&xI P o n e&&(match o e with
     |U V=>decide (P.cellsOf e=Y V.ao)&&decide (Y X.ao=k*Y V.ao)&&(fU k).all λi=>Bc ((X.ao.drop (i*Y V.ao)).take (Y V.ao)) V.ao
     |none=>E)
   |_=>E
def n8{H:Type}(P:Program):Nat->TypeId->DataW H->Nat->Option RV
 |0,_,_,_=>Z
 |n+1,t,d,j=>match P.underlying t,d with
  |U (.int _),.lit (.int k q)=>U (.mk (.int k q) [])
  |U .bool,.lit (.bool b)=>U (.mk (.bool b) [])
  |U (.slice e),.slice X _=>if(X.all λd=>(fU (P.cellsOf e)).all λj=>(n8 P n e d j).isSome) then U (.mk (.slice Z (Y X) (Y X)) (X.map λd=>(fU (P.cellsOf e)).map λj=>(n8 P n e d j).getD default)) else Z
  |U (.slice _),.nil=>U (.mk (.slice Z 0 0) [])
  |U (.struct R),.agg V=>match(R.toList.zip V).find? λf=>decide (f.1.offset<=j)&&decide (j<f.1.offset+P.cellsOf f.1.type) with
   |U f=>n8 P n f.1.type f.2 (j-f.1.offset)
   |none=>Z
  |U (.array _ e),.agg V=>match V[j/P.cellsOf e]? with
   |U d=>n8 P n e d (j%P.cellsOf e)
   |none=>Z
  |_,_=>Z
section
variable{P:Program}{o:Ty}{W:World}
def PV{R:Nat->Option RV}{c:CT}(h:Bc A [c]=J)(k:zq o W (R 0) c Q):[Q].length=Y A/\∀(j:Nat)(X:CT)(u:Value),A[j]?=U X->[Q][j]?=U u->zq o W (R j) X u:=by
 obtain⟨O,N⟩:=V7 h;refine⟨by simp[O],λj X u M V=> ?_⟩;cases j with
 |zero=>simp at V;subst V;exact zq.aeG (N 0 X c M rfl) k
 |succ j=>simp at V
def aeH:∀{Ecel:Nat->Option RV}{ao:eQ}{cs:gc},Y cs=Y ao->(∀(j:Nat)(O:CT)(v:Value),ao[j]?=U O->cs[j]?=U v->zq o W (Ecel j) O v)->
  ∃N:aH,N.map RV.val=cs/\(∀(j:Nat)(c:RV)(k:IntKind),N[j]?=U c->ao[j]?=U (.int k)->∃n,c.val=.int k n)/\(∀(j:Nat)(c:RV),N[j]?=U c->ao[j]?=U .bool->∃x,c.val=.bool x)/\(∀(j:Nat)(c:RV)(z:Value)(k:RK),N[j]?=U c->ao[j]?=U (.ai z k)->bJ W o k c)/\(∀c∈N,qe c)/\∀(j:Nat)(c r:RV),N[j]?=U c->Ecel j=U r->dA r c
 |_,[],[],_,_=>⟨[],rfl,λj c k h=>by simp at h,λj c h=>by simp at h,λj c z k h=>by simp at h,ay,λj c r h=>by simp at h⟩
 |_,[],_::_,h,_=>by simp at h
 |_,_::_,[],h,_=>by simp at h
 |Ecel,O::ao,v::cs,F,h=>by
  obtain⟨N,D,B,A,y,w,t⟩:=aeH (Ecel:=λj=>Ecel (j+1)) (ao:=ao) (cs:=cs) (by simpa using F) (λj c u s M=>h (j+1) c u (by simpa using s) (by simpa using M));obtain⟨r,L,M,q,p,m,l⟩:∃r:RV,r.val=v/\(∀k,O=.int k->∃n,r.val=.int k n)/\(O=.bool->∃x,r.val=.bool x)/\(∀z k,O=.ai z k->bJ W o k r)/\qe r/\∀R,Ecel 0=U R->dA R r:=by
   have Q:=h 0 O v rfl rfl;cases O with
   |int k=>exact⟨.mk v [],rfl,λH e=>(by cases e;obtain⟨⟨n,i,_⟩,_⟩:=Q;exact⟨n,i⟩),λe=>(by cases e),λz k e=>(by cases e),qe.V9 v,λR G=>by rw[Q.2 R G];exact dA.refl _⟩
   |bool=>exact⟨.mk v [],rfl,λH e=>(by cases e),λ_=>Q.1,λz k e=>(by cases e),qe.V9 v,λR G=>by rw[Q.2 R G];exact dA.refl _⟩
   |ai z k=>
    obtain⟨r,L,g,f,d⟩:=Q;exact⟨r,L,λH e=>(by cases e),λe=>(by cases e),λb H e=>(by cases e;exact g),f,d⟩
  refine⟨r::N,by simp[L,D],λj c k X V=> ?_,λj c X V=> ?_,λj c z k X V=> ?_,λc Q=>(dP.1 Q).elim (λe=>e▸m) (λQ=>w c Q),λj c R X V=> ?_⟩;cases j with
  |zero=>simp at X V;subst X;exact M k V
  |succ j=>exact B j c k (by simpa using X) (by simpa using V)
  cases j with
  |zero=>simp at X V;subst X;exact q V
  |succ j=>exact A j c (by simpa using X) (by simpa using V)
  cases j with
  |zero=>simp at X V;subst X;exact p z k V
  |succ j=>exact y j c z k (by simpa using X) (by simpa using V)
  cases j with
  |zero=>simp at X;subst X;exact l R V
  |succ j=>exact t j c R (by simpa using X) V
def apX{α:Type}{R:Nat->α->Prop}:∀(n:Nat),(∀i,i<n->∃x,R i x)->∃l:List α,Y l=n/\∀(i:Nat)(x:α),l[i]?=U x->R i x
 |0,_=>⟨[],rfl,λi x h=>by simp at h⟩
 |n+1,h=>by
  obtain⟨l,V,Q⟩:=apX n (λi O=>h i ae);obtain⟨x,N⟩:=h n ae;refine⟨l++[x],by simp[V],λi y X=> ?_⟩;by_cases O:i<n;rw[dU ae] at X;exact Q i y X;rw[iC ae] at X;have:i=n:=by
   cases M:i-Y l with
   |zero=>omega
   |succ q=>rw[M] at X;simp at X
  subst this;rw[V,Wv] at X;simp at X;subst X;exact N
def aeI{H:Type}{P:Program}{e:TypeId}{q:Nat}:∀{l:List (DataW H)}{d:DataW H},d∈l->q∈DataW.weights P e d->q∈DataW.weightsAll P e l
 |[],_,h,_=>by simp at h
 |x::l,d,h,X=>by
  simp only[DataW.weightsAll,eP];rcases dP.1 h with rfl|h;exact .inl X;exact .inr (aeI h X)
def apY{H:Type}{P:Program}{q:Nat}:∀{X:jC}{l:List (DataW H)}{i:Nat}{t:TypeId}{d:DataW H},X[i]?=U t->l[i]?=U d->q∈DataW.weights P t d->q∈DataW.weightsEach P X l
 |[],_,_,_,_,h,_,_=>by simp at h
 |_::_,[],_,_,_,_,h,_=>by simp at h
 |O::X,N::l,i,t,d,V,R,Q=>by
  simp only[DataW.weightsEach,eP];cases i with
  |zero=>simp at V R;subst V;subst R;exact .inl Q
  |succ i=>exact .inr (apY (i:=i) (by simpa using V) (by simpa using R) Q)
def apZ{R:Nat}(h:W.cell? ⟨V,R,Z⟩=U Q):∃O t X,W.heap[V]?=U (.cells O t X):=by
 unfold nF at h;split at h;rename_i c t X N;exact⟨c,t,X,N⟩;cases h
structure ap0{H:Type}(P:Program)(o:Ty)(W:World)(n:Nat)(e:TypeId)(ao:eQ)(a:Addr)(elems:List (DataW H×List MemPlace))(i:Nat)(row:aH):Prop where
 len:Y row=Y ao
 sp:a.spot=Z
 kF:∃cs t fr,W.heap[a.block]?=U (.cells cs t fr)
 cell:∀(j:Nat)(c:RV),row[j]?=U c->W.cell? ⟨a.block,a.off+i*Y ao+j,Z⟩=U c.val
 hi:∀(j:Nat)(c:RV)(k:IntKind),row[j]?=U c->ao[j]?=U (.int k)->∃n,c.val=.int k n
 hb:∀(j:Nat)(c:RV),row[j]?=U c->ao[j]?=U .bool->∃x,c.val=.bool x
 ho:∀(j:Nat)(c:RV)(z:Value)(k:RK),row[j]?=U c->ao[j]?=U (.ai z k)->bJ W o k c
 bnd:∀c∈row,qe c
 eq:∀(j:Nat)(c r:RV)(x:DataW H×List MemPlace),row[j]?=U c->elems[i]?=U x->n8 P n e x.1 j=U r->dA r c
def PW{H:Type}{b2:TypeId×Value->H}{b3:Nat}{spare:Nat->Bool}{b4:Bool}:∀(b5 m:Nat)(t:TypeId)(ti:TI)(cs:gc)(x:DataW H×List MemPlace),o t=U ti->xI P o m t=J->DataW.trod b2 P W b3 spare b4 b5 t cs=U x->(∀q∈DataW.weights P t x.1,q<=reachBytes)->
  Y cs=Y ti.ao/\∀(j:Nat)(ct:CT)(v:Value),ti.ao[j]?=U ct->cs[j]?=U v->zq o W (n8 P m t x.1 j) ct v
 |0,_,_,_,_,_,_,_,h,_=>by simp[DataW.trod] at h
 |_+1,0,_,_,_,_,_,M,_,_=>by simp[xI] at M
 |n+1,m+1,t,ti,cs,x,ht,M,h,aa=>by
  simp only[xI,ht] at M;cases N:P.underlying t with
  |none=>rw[N] at M;cases M
  |some d=>
   rw[N] at M;cases d<;>simp only[iW] at M
   case int k=>
    obtain⟨q,rfl,rfl,b6⟩:=DataW.trod_int N h;exact PV M ⟨⟨q,rfl,b6⟩,λr X=>by simp only[n8,N,cG] at X;exact X.symm⟩
   case bool=>
    obtain⟨q,rfl,rfl⟩:=DataW.trod_bool N h;exact PV M ⟨⟨q,rfl⟩,λr X=>by simp only[n8,N,cG] at X;exact X.symm⟩
   case string=>
    obtain⟨q,rfl,_⟩:=DataW.trod_string N h;exact PV M ⟨.mk (.string q) [],rfl,.str q,qe.V9 _,λr X=>by simp[n8,N] at X⟩
   case slice e=>
    simp only[az,cF] at M;obtain⟨⟨⟨⟨g1,A⟩,G⟩,g4⟩,g6⟩:=M;rcases DataW.trod_slice N h with⟨rfl,F⟩|⟨a,ab,ba,s,bb,n',hn,rfl,F,hb,b7,cx,bd,bf,_,_⟩;exact PV g1 ⟨.mk (.slice Z 0 0) [],rfl,.sl e Z 0 0 [] rfl (cd _) (λi V X=>by simp at X) (λi j V c k X=>by simp at X) (λi j V c X=>by simp at X) (λi j V c z k X=>by simp at X),qe.V9 _,λr X=>by
     simp only[n8,N,F,cG] at X;subst X;exact dA.refl _⟩
    cases hn;subst F;simp only[DataW.weights,N,dP,eP] at aa;have cy:ab<=140737488355328:=by
     have y:=aa _ (.inl rfl);have Q:(s.map (·.1)).length+(bb.map (·.1)).length<=((s.map (·.1)).length+(bb.map (·.1)).length)*P.bytesOf e:=Nat.le_mul_of_pos_right _ ae;simp only[qY] at y Q;have w:reachBytes<=140737488355328:=eY;omega
    have ag:∃L,o e=U L:=by
     cases m with
     |zero=>simp[xI] at A
     |succ m=>
      cases D:o e with
      |none=>simp[xI,D] at A
      |some L=>exact⟨L,rfl⟩
    obtain⟨L,ag⟩:=ag;have af:bD o (.sl e)=L.ao:=by simp[bD,ag]
    rw[af] at G;have b8:∀i,i<ab->∃V:aH,ap0 P o W m e L.ao a s i V:=by
     intro i l;have Q:=bf i l;have ac:i<Y s:=ae;rw[cK ac,aDh] at Q;obtain⟨ci,Q,w⟩:=Q;obtain⟨q1,q2⟩:=PW n m e L ci _ ag A w (λq D=>aa q (.inr (.inl (aeI (hJ.2 ⟨_,pA ac,rfl⟩) D))));obtain⟨_,c1,c2⟩:=aDF Q;obtain⟨V,r1,r2,r3,r4,r5,r6⟩:=aeH q1 q2;have bg:Y V=Y L.ao:=by rw[<-qY (f:=RV.val),r1,q1]
     have al:a.spot=none:=by
      have y:=bf 0 ae;rw[cK ae,aDh] at y;obtain⟨c0,y,_⟩:=y;obtain⟨_,d1,d2⟩:=aDF y;have d3:=d2 0 ae;rw[Nat.zero_mul,cK ae] at d3;simp only[Addr.add,cS] at d3;unfold nF at d3;split at d3;split at d3;cases d3;rename_i hs;simpa using hs;cases d3
     have bk:∀(j:Nat)(c:RV),V[j]?=U c->W.cell? ⟨a.block,a.off+i*Y L.ao+j,Z⟩=U c.val:=by
      intro j c B;have cA:j<Y L.ao:=by rw[<-bg];exact(bZ.1 B).1
      have c3:=c2 j ae;have c4:ci[j]?=U c.val:=by rw[<-r1,dN,B];rfl
      rw[c4] at c3;have ha:(a.add (i*P.cellsOf e)).add j=⟨a.block,a.off+i*Y L.ao+j,Z⟩:=by
       rw[G];unfold Addr.add;cases a with
       |mk kF cB sp=>
        simp only at al;subst al;by_cases q5:i*Y L.ao=0<;>by_cases q6:j=0<;>simp[q5,q6]
      rw[ha] at c3;exact c3
     refine⟨V,bg,al, ?_,bk,r2,r3,r4,r5,λj c r x g1 A G=>r6 j c r g1 (by rw[cK ac] at A;cases A;exact G)⟩;have bl:0<Y L.ao:=ae;obtain⟨c,g⟩:∃c,V[0]?=U c:=⟨_,cK ae⟩;exact apZ (bk 0 c g)
    obtain⟨br,l1,l2⟩:=apX (α:=aH) (R:=ap0 P o W m e L.ao a s) ab b8;refine PV g1 ⟨.mk (.slice (U a) ab ba) br,rfl,.sl e (U a) ab ba br l1 b7 (λi V X=> ?_) (λi j V c k X g hk=> ?_) (λi j V c X g hk=> ?_) (λi j V c z k X g hk=> ?_),.mk _ (by rw[RV.jD];omega) (λV X c g=> ?_),λr X=> ?_⟩;have p:=l2 i V X;rw[af];refine⟨p.len,a.block,a.off, ?_,p.kF,p.cell⟩;have p2:=p.sp;cases a;simp only at p2;subst p2;rfl;rw[af] at hk;exact(l2 i V X).hi j c k g hk;rw[af] at hk;exact(l2 i V X).hb j c g hk;rw[af] at hk;exact(l2 i V X).ho j c z k g hk;rw[RV.jD] at X;obtain⟨i,l⟩:=qW X;exact(l2 i V l).bnd c g;simp only[n8,N] at X;split at X;rename_i ca;cases X;have bs:Y s=ab:=ae;rw[qY,bs];have get:∀(i:Nat)(V:aH),(zx (λd=>zx (λj=>(n8 P m e d j).getD default) (fU (P.cellsOf e))) (s.map (·.1)))[i]?=U V->∃x,s[i]?=U x/\V=(fU (P.cellsOf e)).map λj=>(n8 P m e x.1 j).getD default:=by
     intro i V Q;rw[dN,dN] at Q;cases F:s[i]? with
     |none=>rw[F] at Q;cases Q
     |some x=>rw[F] at Q;simp only[dV,cG] at Q;exact⟨x,rfl,Q.symm⟩
    refine dA.sl _ _ _ _ _ _ _ (by simp[l1,bs]) (λi V an Q w=> ?_) (λi j V an c c' Q w h3 h4=> ?_);obtain⟨x,_,rfl⟩:=get i V Q;rw[(l2 i an w).len];simp[G];obtain⟨x,F,rfl⟩:=get i V Q;rw[dN] at h3;cases B:(fU (P.cellsOf e))[j]? with
    |none=>rw[B] at h3;cases h3
    |some j'=>
     have a0:j<P.cellsOf e:=by have:=(bZ.1 B).1;simpa using this
     rw[Dd a0] at B;cases B;rw[Dd a0] at h3;simp only[dV,cG] at h3;have:=fp.1 (fp.1 ca x.1 (hJ.2 ⟨x,jm F,rfl⟩)) j (zv.2 a0);obtain⟨r,X⟩:=kD.1 this;rw[X] at h3;simp only[oJ] at h3;subst h3;exact(l2 i an w).eq j c' r x h4 F X
    cases X
   case struct b=>
    simp only[az,cF,fp,kS,zv] at M;obtain⟨⟨g1,A⟩,G⟩:=M;obtain⟨u,n',hn,F,cc,cf,hf⟩:=DataW.trod_struct N h;cases hn;subst F;simp only[DataW.weights,N] at aa;refine⟨ae,λj ct v Q w=> ?_⟩;have B:j<Y ti.ao:=(bZ.1 Q).1;obtain⟨f0,ch,cl,cm⟩:=G j B;have cC:(b.toList.zip (u.map (·.1))).length=b.size:=dF;obtain⟨fd,a1⟩:∃fd,(b.toList.zip (u.map (·.1))).find? (λf=>decide (f.1.offset<=j)&&decide (j<f.1.offset+P.cellsOf f.1.type))=U fd:=by
     obtain⟨i0,a3⟩:=qW ch;have cn:i0<b.size:=by have:=(bZ.1 a3).1;simpa using this
     refine kD.1 (List.find?_isSome.2 ⟨((b.toList.zip (u.map (·.1)))[i0]' ae),pA _, ?_⟩);have:f0=b.toList[i0]:=by rw[cK (by simpa using cn)] at a3;exact(lT a3).symm
     simp only[List.getElem_zip,<-this,az,cF];exact⟨cl,cm⟩
    have bt:=Qc a1;simp only[az,cF] at bt;obtain⟨bx,b0⟩:=bt;obtain⟨iz,co⟩:=qW (P1 a1);obtain⟨f,dd⟩:=fd;have a4:=aqk.1 co;have bx:f.offset<=j:=bx;have b0:j<f.offset+P.cellsOf f.type:=b0;have cp:f∈b.toList:=jm a4.1;obtain⟨k1,k2⟩:=A f cp;cases D:o f.type with
    |none=>rw[D] at k2;cases k2
    |some fi=>
     rw[D] at k2;simp only[az,cF] at k2;obtain⟨k3,k4⟩:=k2;have l:=a4.1;have ac:b[iz]?=U f:=by simpa using l
     have cD:iz<b.size:=(n9.1 ac).1;have e1:=hf iz f ac;rw[cK ae] at e1;obtain⟨q1,q2⟩:=PW n m f.type fi _ _ D k1 e1 (λq a9=>aa q (apY (i:=iz) (by simp[l]) (by simp[show iz<Y u from ae]) a9));obtain⟨_,q4⟩:=V7 k4;have b1:j-f.offset<Y fi.ao:=ae;have ej:f.offset+(j-f.offset)=j:=ae;have v1:((cs.drop f.offset).take (P.cellsOf f.type))[j-f.offset]?=U v:=by
      rw[mB,aI ae,tF,ej];exact w
     have v2:((ti.ao.drop f.offset).take (Y fi.ao))[j-f.offset]?=U ct:=by
      rw[mB,aI b1,tF,ej];exact Q
     have v3:fi.ao[j-f.offset]?=U fi.ao[j-f.offset]:=cK b1;have cv:dd=(u[iz]' ae).1:=by
      have:=a4.2;rw[dN,cK ae] at this;exact(lT this).symm
     have hE:n8 P (m+1) t (.agg (u.map (·.1))) j=n8 P m f.type (u[iz]' ae).1 (j-f.offset):=by
      simp only[n8,N,a1,cv]
     rw[hE];exact zq.aeG (q4 _ _ _ v2 v3) (q2 _ _ _ v3 v1)
   case array k e=>
    simp only[az,cF] at M;obtain⟨⟨g1,A⟩,G⟩:=M;cases D:o e with
    |none=>rw[D] at G;cases G
    |some O=>
     rw[D] at G;simp only[az,cF,fp,zv] at G;obtain⟨⟨g4,g5⟩,g6⟩:=G;obtain⟨u,n',hn,F,cc,cf,bd⟩:=DataW.trod_array N h;cases hn;subst F;simp only[DataW.weights,N] at aa;refine⟨ae,λj ct v Q w=> ?_⟩;have B:j<Y ti.ao:=(bZ.1 Q).1;have bl:0<Y O.ao:=by
      rcases zt (Y O.ao) with y|y;rw[g5,y] at B;omega;exact y
     have l:j/Y O.ao<k:=aqo (by rw[Qg];omega);have X:j%Y O.ao<Y O.ao:=Fo _ bl;have ej:j/Y O.ao*Y O.ao+j%Y O.ao=j:=by have:=aeZ j (Y O.ao);rw[Qg] at this;exact this
     have e1:=bd (j/Y O.ao) l;rw[cK ae] at e1;obtain⟨q1,q2⟩:=PW n m e O _ _ D A e1 (λq a9=>aa q (aeI (hJ.2 ⟨_,pA _,rfl⟩) a9));obtain⟨_,q4⟩:=V7 (g6 _ l);have v1:((cs.drop (j/Y O.ao*P.cellsOf e)).take (P.cellsOf e))[j%Y O.ao]?=U v:=by
      rw[g4,mB,aI X,tF,ej];exact w
     have v2:((ti.ao.drop (j/Y O.ao*Y O.ao)).take (Y O.ao))[j%Y O.ao]?=U ct:=by
      rw[mB,aI X,tF,ej];exact Q
     have v3:O.ao[j%Y O.ao]?=U O.ao[j%Y O.ao]:=cK X;have hE:n8 P (m+1) t (.agg (u.map (·.1))) j=n8 P m e (u[j/Y O.ao]' ae).1 (j%Y O.ao):=by
      simp only[n8,N,g4,dN];rw[cK ae];rfl
     rw[hE];exact zq.aeG (q4 _ _ _ v2 v3) (q2 _ _ _ v3 v1)

def PY(X:aQ)(V:bn):Prop:=∀(q:Nat)(k:IntKind)(n:Int),X[q]?=U (.int k)->V[q]?=U (.i n)->(Lit.int k n).wf=J
def ap1:∀{Ecel:Nat->Option RV}{ao:eQ}{cs:gc},Y cs=Y ao->(∀(j:Nat)(V:CT)(v:Value),ao[j]?=U V->cs[j]?=U v->zq o W (Ecel j) V v)->
  ∃Q:bn,ez (ao.map tJ) Q/\oZ (ao.map tJ) Q=cs/\yA o W (ao.map tJ) Q/\(∀X,XV.r X∈Q->qe X)/\PY (ao.map tJ) Q
 |_,[],[],_,_=>⟨[],trivial,rfl,λq e X h=>by simp at h,ay,λq k n h=>by simp at h⟩
 |_,[],_::_,h,_=>by simp at h
 |_,_::_,[],h,_=>by simp at h
 |Ecel,V::ao,v::cs,A,h=>by
  obtain⟨Q,R,O,y,w,t⟩:=ap1 (Ecel:=λj=>Ecel (j+1)) (ao:=ao) (cs:=cs) (by simpa using A) (λj c u H G=>h (j+1) c u (by simpa using H) (by simpa using G));obtain⟨x,H,G,s,p,m⟩:∃x:XV,rj (tJ V) x/\x.at (tJ V)=v/\(∀e X,tJ V=.am e->x=.r X->bJ W o e X)/\(∀X,x=.r X->qe X)/\∀k n,tJ V=.int k->x=.i n->(Lit.int k n).wf=true:=by
   have F:=h 0 V v rfl rfl;cases V with
   |int k=>
    obtain⟨⟨n,rfl,l⟩,_⟩:=F;exact⟨.i n,trivial,rfl,λe X h=>(by cases h),λX h=>(by cases h),λD B R O=>(by cases R;cases O;exact l)⟩
   |bool=>
    obtain⟨⟨n,rfl⟩,_⟩:=F;exact⟨.b n,trivial,rfl,λe X h=>(by cases h),λX h=>(by cases h),λD B R O=>(by cases R)⟩
   |ai z k=>
    obtain⟨X,rfl,g,f,_⟩:=F;exact⟨.r X,trivial,rfl,λe d R O=>(by cases R;cases O;exact g),λd h=>(by cases h;exact f),λD B R O=>(by cases R)⟩
  refine⟨x::Q,⟨H,R⟩, ?_,λq e X N M=> ?_,λX L=> ?_,λq k n N M=> ?_⟩;show x.at (tJ V)::oZ (ao.map tJ) Q=_;rw[G,O];cases q with
  |zero=>simp at N M;exact s e X N M
  |succ q=>exact y q e X (by simpa using N) (by simpa using M)
  rcases dP.1 L with L|L;exact p X L.symm;exact w X L;cases q with
  |zero=>simp at N M;exact m k n N M
  |succ q=>exact t q k n (by simpa using N) (by simpa using M)
def ap2:∀{X V:aQ}{R Q:bn},ez X R->ez V Q->ez (X++V) (R++Q)/\oZ (X++V) (R++Q)=oZ X R++oZ V Q
 |[],_,[],_,_,h=>⟨h,rfl⟩
 |[],_,_::_,_,h,_=>h.elim
 |_::_,_,[],_,h,_=>h.elim
 |k::X,V,x::R,Q,h,O=>by
  obtain⟨N,M⟩:=ap2 h.2 O;exact⟨⟨h.1,N⟩,by simp[oZ,M]⟩
def aeJ:∀{X:aQ}{V:bn},ez X V->Y X=Y V
 |[],[],_=>rfl
 |[],_::_,h=>h.elim
 |_::_,[],h=>h.elim
 |k::X,x::V,h=>by simp[aeJ h.2]
def aBt{X O:aQ}{Q N:bn}(L:ez X Q)(h:yA o W X Q)(H:yA o W O N):yA o W (X++O) (Q++N):=by
 intro q e M V R;have G:=aeJ L;by_cases F:q<Y X;rw[dU F] at V;rw[dU ae] at R;exact h q e M V R;rw[iC ae] at V;rw[iC ae,<-G] at R;exact H _ e M V R
def aBu{X O:aQ}{Q N:bn}(M:ez X Q)(h:PY X Q)(L:PY O N):PY (X++O) (Q++N):=by
 intro q k n V R;have H:=aeJ M;by_cases G:q<Y X;rw[dU G] at V;rw[dU ae] at R;exact h q k n V R;rw[iC ae] at V;rw[iC ae,<-H] at R;exact L _ k n V R
def aBv{H:Type}{l:TypeId×Value->H}(kZ:i7 P o):∀{R:jC}{Q:gc}{G:List (DataW H)}{y:List MemPlace},R.all (xI P o 9)=J->DataW.TrodAll l P W V F L R Q G y->(∀q∈DataW.weightsEach P R G,q<=reachBytes)->
  (∀(j:Nat)(t:TypeId)(v:Value)(X:TI),R[j]?=U t->Q[j]?=U v->o t=U X->(X.d.isAgg=J/\v=.agg v.cells)\/(X.d.isAgg=E/\v.cells.toList=[v]))->
  ∃(D:aQ)(O:bn),ip o R=U D/\ez D O/\u9 o R (oZ D O)=Q/\yA o W D O/\(∀M,XV.r M∈O->qe M)/\PY D O:=by
 intro R;induction R with
 |nil=>
  intro Q G y _ h _ _;have:Q=[]:=by
   cases Q with
   |nil=>rfl
   |cons v Q=>cases G<;>simp[DataW.TrodAll] at h
  subst this;exact⟨[],[],rfl,trivial,rfl,λq e M h=>by simp at h,ay,λq k n h=>by simp at h⟩
 |cons t R i=>
  intro Q G y A h g u;obtain⟨v,af,d,f,p,q,rfl,rfl,rfl,⟨c,b⟩,a⟩:=Go.ChangeShapes.trodAll_cons h;simp only[LU,az] at A;obtain⟨X,z⟩:∃X,o t=U X:=by
   cases N:o t with
   |none=>have:=A.1;simp[xI,N] at this
   |some X=>exact⟨X,rfl⟩
  have s:∀q,q∈DataW.weights P t d\/q∈DataW.weightsEach P R f->q<=reachBytes:=λq N=>g q (by simp only[DataW.weightsEach,eP];exact N)
  obtain⟨m,c2⟩:=PW c 9 t X _ _ z A.1 b (λq N=>s q (.inl N));obtain⟨O,x,x2,x3,x4,x5⟩:=ap1 m c2;obtain⟨aa,ab,y1,y2,y3,y4,y5,y6⟩:=i A.2 a (λq N=>s q (.inr N)) (λj t' v' ac q1 q2 q3=>u (j+1) t' v' ac (by simpa using q1) (by simpa using q2) q3);obtain⟨z1,z2⟩:=ap2 x y2;refine⟨X.ao.map tJ++aa,O++ab,by simp[ip,z,y1],z1, ?_,aBt x x3 y4,λM B=> ?_,aBu x x5 y6⟩;rw[z2,x2];simp only[u9,z];have hl:Y v.cells.toList=Y X.ao:=m;rw[aqh ae,Fb ae,aC8 ae,aDk ae,gr,y3];have e:=u 0 t v X rfl rfl z;congr 1;rcases e with⟨w,e⟩|⟨w,e⟩;rw[aI w];exact e.symm;rw[w,e];rfl;rcases eP.1 B with B|B;exact x4 M B;exact y5 M B
end
def aBw{R O:Oper}{W:Exit->Act->List Frame->World->Prop}{L H:List Frame}(A:(execOp z.eval R).run M X=.ok .recover X)(u:R.guard=Z)
  (N:recoverD L=U (Q,H)\/(recoverD L=Z/\Q=.nilIface/\H=L))
  (h:wpOpsIn Fence.wide 0 M #[R,O] (λe G F=>W e G H F) [1] (z.put R.dst Q) X):(Code.region V #[R,O] E).wpSIn Fence.wide 0 M W z L X:=by
 intro b k t D s j;have r:Y H=Y L:=by
  rcases N with N|⟨_,_,rfl⟩;exact recoverD_length N;rfl
 obtain⟨e,G,F,q,p⟩:=wp_opsIn [1] _ X h b k H (D.trans rfl) s (room_wide _);refine⟨e,G,H,F,r,q,.of_steps (.one (fenced_wide _ _) stepR_region) ?_⟩;have y:(#[R,O]:dI)[0]?=U R:=rfl;have o:lz R (yielded #[R,O] z.tmps)=true:=by simp[lz,u]
 have x:=stepGR_op (P:=M) (b:=b) (k:=k) (cs:=L) (w:=X) (rest:=[1]) y o;rw[D,aqB] at x;have n:(b.atR z (.inRegion #[R,O] [0,1]::k)).kind=.deferred:=t;have B:=tryRecover_deferred n L;have m:(b.atR z (.inRegion #[R,O] [0,1]::k)).finish Q=b.atR (z.put R.dst Q) (.inRegion #[R,O] [1]::k):=by
  rw[Frame.finish_atR,y];rfl
 refine .of_steps (.one (fenced_wide _ _) (step_lone_go ?_)) p;rw[show fU (#[R,O]:dI).size=[0,1] from rfl,x,<-m];simp only[Frame.atR,D] at B⊢;rcases N with N|⟨N,l,rfl⟩;simp[stepG.apply,A,B,N];subst l;simp[stepG.apply,A,B,N]
def ap3{R W:Oper}{Q:Exit->Act->List Frame->World->Prop}{O cs':List Frame}{v:Value}{f:FuncId}{args:lW}(L:(execOp z.eval R).run M X=.ok .recover X)(H:R.guard=Z)
  (G:recoverD O=U (v,cs')\/(recoverD O=Z/\v=.nilIface/\cs'=O))(F:W.guard=Z)(D:(W.semAt Z (z.put R.dst v).eval).run M X=.ok (.enter f args) X)
  (h:Calls M f args X λe N=>∃u,e=.returned u/\Q .normal ((z.put R.dst v).put W.dst u) cs' N):(Code.region V #[R,W] E).wpSIn Fence.wide 0 M Q z O X:=by
 refine aBw L H G ?_;show(if lz W _ then _ else _);rw[aI (by simp[lz,F])];refine⟨λ_ _=>trivial, ?_⟩;show Oper.uponIn Fence.wide 0 M W _ _ _ ((W.semAt Z (z.put R.dst v).eval).run M X);rw[D];refine⟨λh=>by simp[Fence.wide] at h,callsIn_wide.2 (h.mono ?_)⟩;rintro e N ⟨u,rfl,B⟩;exact B
@[local go_sem] def aED (v:Value) (w:World):(Instr.typeAssert (.iface 50 v) 20 50 J).run Tryz.prog w=.ok (.tuple #[v,.bool J]) w:=aT
def aBx(b:Nat)(W:World):Calls Tryz.prog 64 #[.nilIface,.pointer (U ⟨b,0,Z⟩)] W λe X=>e=.returned (.tuple #[])/\X=W:=by
 go_enter Tryz.func64,Tryz.ntmps64;go_wp2
 (try simp only[Exit.inBlock,Exit.then]);refine bodyPost_ret (results_none rfl _ _ _) rfl ?_;exact⟨rfl,rfl⟩
def aBy(b:Nat)(X k:Int)(W:World)(R:W.cell? ⟨b,0,Z⟩=U (.int I X))(Q:W.frozen? ⟨b,0,Z⟩=E):Calls Tryz.prog 64 #[.iface 50 (.int I k),.pointer (U ⟨b,0,Z⟩)] W λe V=>e=.returned (.tuple #[])/\V=W.setCell ⟨b,0,Z⟩ (.int I k):=by
 go_enter Tryz.func64,Tryz.ntmps64;go_wp2
 go_end0
 exact⟨rfl,rfl⟩
def ap4{u:Value}(h:X.heap[V]?=U (.cells #[u] N (0,0))):X.setCell ⟨V,0,Z⟩ Q=X.putObj V (.cells #[Q] N (0,0)):=by
 unfold Ws Fm;congr 1;apply Array.ext_getElem?;intro i;rw[P4,Array.getElem?_setIfInBounds];by_cases R:V=i;subst R;have P:V<X.heap.size:=(n9.1 h).1;rw[aI rfl,aI rfl,h,aI P];rfl;rw[aK R,aK R]
def ap5{g:FuncId}{X:Func}{B:TypeId}{A z:String}{y x:Array Edge}(M:Tryz.prog.funcs[g]?=U X)(w:u6 Tryz.prog g=J)(L:X.ntmps=3)(H:X.results= #[])
  (G:X.body=U (.region V #[⟨U 1,.call {callee:=.builtin .recover,args:= #[],argTypes:= #[]},N,A,y,Z⟩,⟨U 2,.call {callee:=.value (.func 64),args:= #[.tmp 1,.tmp 0],argTypes:= #[20,91]},B,z,x,Z⟩] E)):wO Tryz.prog g 50:=by
 have F:∀D W,(callFunc 64 D).run Tryz.prog W=.ok (.enter 64 D) W:=u7 aT;refine⟨u7 w,λW b=> ?_,λW b u k Q=> ?_⟩;refine callsDIn_of_wpSIn M G (by simp[Fence.wide]) λP O R=> ?_
 rw[L];refine ap3 (v:=.nilIface) (cs':=P::O) (f:=64) (args:= #[.nilIface,.pointer (U ⟨b,0,Z⟩)]) rfl rfl (.inr ⟨by simp[recoverD,R],rfl,rfl⟩) rfl (by simp[Oper.semAt,go_sem,Act.put,F]) ?_;refine(aBx b W).mono ?_;rintro e t ⟨rfl,rfl⟩;refine⟨_,rfl,rfl,.returning,by rw[<-R],.tuple #[], ?_,⟨_,rfl⟩,rfl,rfl⟩;simp[results,H];refine callsDIn_of_wpSIn M G (by simp[Fence.wide]) λP O R=> ?_
 rw[L];refine ap3 (v:=.iface 50 (.int I k)) (cs':={P with mode:=.panicking [{v:=.iface 50 (.int I k),recovered:=J}]}::O) (f:=64) (args:= #[.iface 50 (.int I k),.pointer (U ⟨b,0,Z⟩)]) rfl rfl (.inl (by simp[recoverD,R])) rfl (by simp[Oper.semAt,go_sem,Act.put,F]) ?_;refine(aBy b u k W (by simp[nF,Q]) (by simp[Wt,Q])).mono ?_;rintro e t ⟨rfl,rfl⟩;refine⟨_,rfl,rfl,_,rfl,.tuple #[], ?_,⟨_,rfl⟩,rfl,ap4 Q⟩;simp[results,H]
def aBz:wO Tryz.prog 63 50:=ap5 Tryz.func63 aT rfl rfl rfl
def aBA:wO Tryz.prog 143 50:=ap5 Tryz.func143 aT rfl rfl rfl
def aBB(W:World)(b:Nat):CallsDIn Fence.wide 0 Tryz.prog 79 #[.pointer (U ⟨b,0,Z⟩)] .returning W λR u Q=>(∃v,R=.returned v)/\u=.returning/\Q=W:=by
 refine callsDIn_of_wpSIn Tryz.func79 rfl (by simp[Fence.wide]) λV P X=> ?_
 have O:V={V with mode:=.returning}:=by rw[<-X]
 rw[Tryz.ntmps79];apply wpSIn_seq;apply wpSIn_region;simp[wpOpsSIn,go_sem,recoverD,X,Exit.thenS];refine wpSIn_of_wpIn rfl (wpIn_wide.2 ?_);go_wp2;refine⟨rfl,.returning,by rw[<-X],.tuple #[], ?_,⟨_,rfl⟩,rfl,rfl⟩;simp[results,Tryz.results79]
def aBC(W:World)(b:Nat)(V k:Int)(X:W.heap[b]?=U (.cells #[.int I V] 50 (0,0))):CallsDIn Fence.wide 0 Tryz.prog 79 #[.pointer (U ⟨b,0,Z⟩)] (.panicking [{v:=.iface 50 (.int I k),recovered:=E}]) W λR u Q=>(∃v,R=.returned v)/\u=.panicking [{v:=.iface 50 (.int I k),recovered:=J}]/\Q=W.putObj b (.cells #[.int I k] 50 (0,0)):=by
 have O:W.cell? ⟨b,0,Z⟩=U (.int I V):=by simp[nF,X]
 have N:W.frozen? ⟨b,0,Z⟩=false:=by simp[Wt,X]
 refine callsDIn_of_wpSIn Tryz.func79 rfl (by simp[Fence.wide]) λM L P=> ?_
 rw[Tryz.ntmps79];apply wpSIn_seq;apply wpSIn_region;simp[wpOpsSIn,go_sem,recoverD,P,Exit.thenS];refine wpSIn_of_wpIn rfl (wpIn_wide.2 ?_);go_wp2;refine⟨rfl,_,rfl,.tuple #[], ?_,⟨_,rfl⟩,rfl,ap4 X⟩;simp[results,Tryz.results79]
def aBD:wO Tryz.prog 79 50:=⟨u7 aT,aBB,aBC⟩
section
open Go.Shelf
def Tryz.indexB_ren:Go.Shelf.Ren:=⟨λ|137=>157|217=>198|266=>242|n=>n,λ|9=>9|5=>5|3=>3|n=>n,λ|n=>n⟩
def Tryz.indexB:Go.Proofs.Lays.n137 Tryz.prog Tryz.indexB_ren:={mixed:=aT,f137:=ey Tryz.func157 aT,f217:=ey Tryz.func198 aT,f266:=ey Tryz.func242 aT,t3:=Tryz.underlying3,a3:=Tryz.isAgg3,z3:=Tryz.sizeOf3,v3:=Tryz.zeroValue3,t5:=Tryz.underlying5,a5:=Tryz.isAgg5,z5:=Tryz.sizeOf5,v5:=Tryz.zeroValue5,t9:=Tryz.underlying9,a9:=Tryz.isAgg9,z9:=Tryz.sizeOf9,v9:=Tryz.zeroValue9}
def aBE:look PT 157=U [9,5]:=aT
def aBF:look SG 157=U [3]:=aT
def aBG:ip (look TT) [9,5]=U [.am .str,.int .u8]:=aT
def aBH:ip (look TT) [3]=U [.int I]:=aT
def ap6:∀(l:List UInt8)(b:UInt8),-1<=Lib.indexByte l b
 |[],_=>by simp[Lib.indexByte]
 |x::l,b=>by
  have:=ap6 l b;simp only[Lib.indexByte];split;omega;split<;>omega
def ap7:∀(l:List UInt8)(b:UInt8)(k:Nat),EP k l b=if Lib.indexByte l b=-1 then-1 else Lib.indexByte l b+k
 |[],_,_=>by simp[EP,Lib.indexByte]
 |x::l,b,k=>by
  have V:=ap7 l b (k+1);have R:=ap6 l b;simp only[EP,Lib.indexByte,dv];by_cases X:x=b;simp[X];rw[aK X,aK X,V];by_cases W:Lib.indexByte l b=-1;simp[W];rw[aK W,aK W,aK ae];omega
def aBI(l:List UInt8)(b:UInt8):EP 0 l b=Lib.indexByte l b:=by
 rw[ap7];split;rename_i h;rw[h];simp
def aBJ:rV L 157 Ve:=by
 intro m l k j N M H G F D out O Q P W g w;rw[aBE] at N;cases N;rw[aBF] at M;cases M;rw[aBG] at H;cases H;rw[aBH] at G;cases G;rcases D with _|⟨x,_|⟨y,_|⟨L,D⟩⟩⟩;exact P.elim;exact P.2.elim
 ·obtain⟨B,A,_⟩:=P;cases x with
  |i n=>exact B.elim
  |b n=>exact B.elim
  |r v=>
  cases y with
  |b n=>exact A.elim
  |r n=>exact A.elim
  |i c=>
  have u:=w 0 .str v rfl rfl;cases u with
  |str t=>
  rcases F with _|⟨s,_|⟨q,_|⟨f,F⟩⟩⟩;exact Q.elim;exact Q.2.elim
  ·obtain⟨V,R,_⟩:=Q;cases s with
   |i n=>exact V.elim
   |b n=>exact V.elim
   |r p=>
   cases q with
   |b n=>exact R.elim
   |r n=>exact R.elim
   |i X=>
   have R:X=c:=R;subst R;have V:dA p (.mk (.string t) []):=V;cases V with
   |val=>
   have O:U (bo.ret [.i (EP 0 t.toList (UInt8.ofNat X.toNat))])=U out:=O;cases O;have h:=Any.strings_IndexByte Tryz.indexB t X W;refine Calls.mono (show Calls Tryz.prog 157 #[.string t,.int .u8 X] W _ from h) ?_;rintro e d ⟨rfl,rfl⟩;refine⟨_,[.i (Lib.indexByte t.data.toList X.toNat.toUInt8)],rfl,⟨?_,trivial⟩,⟨trivial,trivial⟩,rfl,Below.refl _ _,VL ay,λb o=>(ao5 ay o).elim⟩;show EP 0 t.toList (UInt8.ofNat X.toNat)=_;rw[aBI,ByteArray.toList_eq]
  exact Q.2.2.elim
 exact P.2.2.elim
def ap8:∀{n:Nat}{R X:bn},Ad R X->ez (eI n (.int I)) X->∃l:bq,Y l=n/\R=l.map XV.i/\X=l.map XV.i
 |0,R,X,W,V=>by
  cases X with
  |cons _ _=>exact V.elim
  |nil=>
   cases R with
   |cons _ _=>exact W.elim
   |nil=>exact⟨[],rfl,rfl,rfl⟩
 |n+1,R,[],W,V=>V.elim
 |n+1,[],x::X,W,V=>W.elim
 |n+1,y::R,x::X,W,V=>by
  obtain⟨l,P,O,N⟩:=ap8 (n:=n) W.2 V.2;have e:=W.1;have f:=V.1;cases x with
  |b q=>exact f.elim
  |r q=>exact f.elim
  |i m=>
   cases y with
   |b q=>exact e.elim
   |r q=>exact e.elim
   |i Q=>
    have e:Q=m:=e;subst e;exact⟨Q::l,by simp[P],by simp[O],by simp[N]⟩
def ap9(a b c d:Int):dL a b c d=K.lR.valid ⟨⟨a,b⟩,⟨c,d⟩⟩:=by
 rw[tG];simp[dL,K.lR.valid,K.zm];omega
def aBK(a b c d X W V R:Int):HG a b c d X W V R= !(K.lR.tC ⟨⟨a,b⟩,⟨c,d⟩⟩ ⟨⟨X,W⟩,⟨V,R⟩⟩):=by
 simp only[HG,K.lR.tC,K.Range.tC,aqD]
def aBL:look PT 191=U [129,129]:=aT
def aBM:look SG 191=U [4,50]:=aT
def k26:ip (look TT) [129,129]=U (eI 8 (.int I)):=aT
def q26:ip (look TT) [4,50]=U [.bool,.int I]:=aT
def aBP(a b c d X W V R:Int):(u9 (look TT) [129,129] (oZ (eI 8 (.int I)) [.i a,.i b,.i c,.i d,.i X,.i W,.i V,.i R])).toArray= #[K.lR.v ⟨⟨a,b⟩,⟨c,d⟩⟩,K.lR.v ⟨⟨X,W⟩,⟨V,R⟩⟩]:=aT
def aBQ(x:Bool)(e:Int):Gs (u9 (look TT) [4,50] (oZ [.bool,.int I] [.b x,.i e]))=.tuple #[.bool x,.int I e]:=aT
def aBR{l:bq}(h:Y l=8):∃a b c d X W V R,l=[a,b,c,d,X,W,V,R]:=by
 match l,h with
 |[a,b,c,d,X,W,V,R],_=>exact⟨a,b,c,d,X,W,V,R,rfl⟩
def aBS:rV L 191 ada:=by
 intro t s r q X V F D p o out M A y W m k;rw[aBL] at X;cases X;rw[aBM] at V;cases V;rw[k26] at F;cases F;rw[q26] at D;cases D;obtain⟨l,w,rfl,rfl⟩:=ap8 (n:=8) A y;obtain⟨a,b,c,d,Q,P,O,N,rfl⟩:=aBR w;have v:=aBP a b c d Q P O N;simp only[eE,Bi] at M⊢;rw[v];simp only[ada,cG] at M;subst M;have H:∀(x:Bool)(e:Int)(G:World),Below W.heap.size W G->Nw (look TT) [4,50] [.bool,.int I] W (eI 8 (.int I)) [.i a,.i b,.i c,.i d,.i Q,.i P,.i O,.i N] (.ret [.b x,.i e]) (.returned (.tuple #[.bool x,.int I e])) G:=λx e G R=>
  ⟨_,[.b x,.i e],rfl,⟨rfl,rfl,trivial⟩,⟨trivial,trivial,trivial⟩,(aBQ x e).symm,R,VL ay,λb u=>(ao5 ay u).elim⟩
 rw[ap9,ap9];by_cases X:K.lR.valid ⟨⟨a,b⟩,⟨c,d⟩⟩=J;by_cases V:K.lR.valid ⟨⟨Q,P⟩,⟨O,N⟩⟩=J;rw[X,V];refine(ayy _ _ X V (HG a b c d Q P O N) (by rw[aBK];simp) W).mono ?_;rintro e B ⟨rfl,R⟩;exact H _ _ _ R;have V:K.lR.valid ⟨⟨Q,P⟩,⟨O,N⟩⟩=false:=by simpa using V
 rw[X,V];refine(ayA _ _ X V W).mono ?_;rintro e B ⟨rfl,R⟩;exact H _ _ _ R;have X:K.lR.valid ⟨⟨a,b⟩,⟨c,d⟩⟩=false:=by simpa using X
 rw[X];refine(ayz _ _ X W).mono ?_;rintro e B ⟨rfl,R⟩;exact H _ _ _ R
def aBT(f:FuncId):rV L f (Lk f):=by
 unfold Lk;by_cases X:f=191;subst X;exact aBS;by_cases W:f=157;subst W;exact aBJ;simp only[X,W,ga];exact aeb f
end
theorem aBU(f:FuncId)(X:Fn)(h:TB.tree f=U X):bG f X.g X.d X.t:=by
 have h:EQ f=U X:=h;unfold EQ at h;split at h;cases h;exact ayY;cases h;exact ayZ;cases h;exact ay0;cases h;exact ay1;cases h;exact ay2;cases h;exact apx;cases h;exact apy;cases h;exact apz;cases h;exact apA;cases h;exact apB;cases h;exact apC;cases h;exact ay3;cases h;exact ay4;cases h;exact ay5;cases h;exact ay6;cases h;exact ay7;cases h;exact ay8;cases h;exact ay9;cases h;exact aza;cases h;exact azb;cases h;exact azL;cases h;exact azM;cases h;exact azN;cases h;exact azO;cases h;exact azP;cases h;exact azQ;cases h;exact azR;cases h;exact azS;cases h;exact azT H5;cases h;exact azU;cases h;exact azV;cases h;exact azW;cases h;exact azX;cases h;exact azY H5;cases h;exact az0;cases h;exact az1;cases h;exact az2;cases h;exact az3;cases h;exact az4;cases h;exact az5;cases h;exact az6 H5;cases h;exact az7;cases h;exact az8;cases h;exact az9 aBD;cases h;exact aAa aBz;cases h;exact aAb H5 aBA;cases h;exact aAc;cases h;exact aAd H5;cases h;exact aAe;cases h;exact aAf H5;cases h;exact azZ;cases h;exact aAg H5;cases h;exact aAh;cases h;exact aAi;cases h;exact aAj;cases h;exact aAk;cases h;exact aAl;cases h;exact aAm;cases h;exact aAn;cases h;exact aAo;cases h;exact aAp;cases h;exact aAq;cases h;exact aAr;cases h;exact aAs;cases h;exact aAt;cases h;exact aAu;cases h;exact aAv;cases h;exact aAw;cases h;exact aAx;cases h;exact aAy;cases h;exact aAz;cases h;exact aAA;cases h;exact aAB;cases h;exact aAC;cases h;exact aAD;cases h;exact aAE;cases h;exact aAF;cases h;exact aAG;cases h;exact aAH;cases h;exact aAI;cases h;exact aAJ;cases h;exact aAK;cases h;exact aAL;cases h;exact aAM;cases h;exact aAN;cases h;exact aAO;cases h;exact aBa;cases h;exact aBb;cases h;exact aAP;cases h;exact aAQ;cases h;exact aA6;cases h;exact aA8;cases h;exact aAR;cases h;exact aBp apW;cases h;exact aBc;cases h;exact aBd;cases h;exact aBe;cases h;exact aBf;cases h;exact aBg;cases h;exact aBh;cases h;exact aBi;cases h;exact aBq apW;cases h;exact aAS;cases h;exact aAT;cases h;exact aAU;cases h;exact aAV;cases h;exact aAW;cases h;exact aA9;cases h;exact aBj;cases h;exact aBk;cases h;exact aBl;cases h;exact aBm;cases h;exact aBn;cases h;exact aBo;cases h;exact aA7;cases h;exact aAX;cases h;exact aAY;cases h;exact aAZ;cases h;exact aA0;cases h;exact aA1;cases h;exact aA2;cases h;exact aA3;cases h;exact aA4;cases h;exact aA5;cases h
theorem aBV:aed TB true:=⟨aBU,λ_ _ _ _=>rfl,aBT⟩
def aBW:([41,44,46,46]:List TypeId).all (xI Tryz.prog (look TT) 9)=true:=aT
def ptD:look PT 3=U [41,44,46,46]:=aT
def aBY:look SG 3=U [4]:=aT
def qkD:ip (look TT) [4]=U [.bool]:=aT
def kkD:ip (look TT) [41,44,46,46]=U [.int I,.int I,.int I,.int I,.int I,.am (.sl 99),.int I,.am (.sl 101),.am (.sl 229),.am (.sl 231),.am (.sl 97),.am (.sl 131),.am (.sl 78),.am (.sl 39),.am (.sl 84),.am (.sl 3),.am (.sl 3),.int I,.am (.sl 75),.am (.sl 3),.bool,.int I,.int I,.int I,.int I,.int I,.int I]:=aT
def r82:bD (look TT) (.sl 105)=[.ai (.slice Z 0 0) (.sl 104)]:=aT
def aB1:bD (look TT) (.sl 39)=[.ai (.slice Z 0 0) (.sl 3)]:=aT
def aB2:bD (look TT) (.sl 84)=[.ai (.slice Z 0 0) (.sl 108)]:=aT
def aqb:bD (look TT) (.sl 108)=[.ai (.slice Z 0 0) (.sl 4),.ai (.slice Z 0 0) (.sl 105)]:=aT
def r38:bD (look TT) (.sl 75)=[.ai (.slice Z 0 0) (.sl 74)]:=aT
def r3':bD (look TT) (.sl 3)=[.int I]:=aT
def wb{k:IntKind}(h:ez (.int k::H) G):∃n X,G=.i n::X/\ez H X:=by
 cases G with
 |nil=>exact h.elim
 |cons x G=>
  cases x with
  |i n=>exact⟨n,G,rfl,h.2⟩
  |b n=>exact h.1.elim
  |r n=>exact h.1.elim
def wc{k:RK}(h:ez (.am k::H) G):∃n X,G=.r n::X/\ez H X:=by
 cases G with
 |nil=>exact h.elim
 |cons x G=>
  cases x with
  |r n=>exact⟨n,G,rfl,h.2⟩
  |b n=>exact h.1.elim
  |i n=>exact h.1.elim
def oI(h:bJ X D (.sl N) B)(V:qe B):Sl B:=by
 cases V with
 |mk B R P=>
 cases h with
 |sl N A O M L Q H G F z y=>
  refine⟨⟨_,_,_,rfl⟩, ?_,R⟩;simp only[RV.mH,RV.jD,lenOf,Q]
def aB4(h:ez (.bool::H) G):∃n X,G=.b n::X/\ez H X:=by
 cases G with
 |nil=>exact h.elim
 |cons x G=>
  cases x with
  |b n=>exact⟨n,G,rfl,h.2⟩
  |i n=>exact h.1.elim
  |r n=>exact h.1.elim
def avO(h:bJ X D (.sl N) B)(Q:(bD D (.sl N)).length=V):∀R∈B.aj,Y R=V:=by
 intro R P;cases h with
 |sl N A L H G F z O y x w=>
  obtain⟨i,M⟩:=qW P;rw[<-Q];exact(O i R M).1
def LM{f:TypeId}(j:Nat)(M:bD (look TT) (.sl N)=A)(L:A[j]?=U (.ai Q (.sl f)))(h:bJ X (look TT) (.sl N) B)(y:qe B):∀i<Y B.aj,bJ X (look TT) (.sl f) (ee (.sl f) (bQ B.aj i j))/\qe (ee (.sl f) (bQ B.aj i j)):=by
 intro i P;have r:j<Y A:=(bZ.1 L).1;cases y with
 |mk q p H=>
 cases h with
 |sl N V x w R o m v l k u=>
  rw[RV.jD] at P H;have O:R[i]?=U R[i]:=cK P;have g:(R[i]).length=Y A:=by have:=(v i _ O).1;rw[M] at this;exact this
  have G:(R[i])[j]?=U (R[i])[j]:=cK ae;have F:=u i j _ _ _ _ O G (by rw[M];exact L);have D:=H _ (pA P) _ (pA (ae:j<(R[i]).length));have t:=oI F D;have N:ee (.sl f) (bQ (RV.mk (.slice V x w) R).aj i j)=(R[i])[j]:=by
   unfold bQ;simp only[RV.jD,zu,dB,O,G,oJ];obtain⟨a,n,c,s⟩:=t.sl;simp[ee,s]
  rw[N];exact⟨F,D⟩
def aB5(hS:TB.Ev 4 [] (.ret [.b J])){H:Type}{af:TypeId×Value->H}{w:List Value}{ds:List (DataW H)}(hG:GW X)(hT:DataW.TrodAll af Tryz.prog X V F L [41,44,46,46] w ds R)(hw:∀q∈DataW.weightsEach Tryz.prog [41,44,46,46] ds,q<=reachBytes)
  (hv:∀(j:Nat)(t:TypeId)(v:Value)(m:TI),([41,44,46,46]:List TypeId)[j]?=U t->w[j]?=U v->look TT t=U m->(m.d.isAgg=J/\v=.agg v.cells)\/(m.d.isAgg=E/\v.cells.toList=[v])):
  Calls Tryz.prog 3 w.toArray X λe W'=>e=.returned (.bool J)/\Below X.heap.size X W':=by
 obtain⟨ks,xs,M,G,h3,P,O,h6⟩:=aBv HT aBW hT hw hv;rw[kkD] at M;cases M;have hf:=G;obtain⟨Wd,cC,rfl,ag⟩:=wb hf;obtain⟨D,cD,rfl,al⟩:=wb ag;obtain⟨A,cI,rfl,an⟩:=wb al;obtain⟨B,cO,rfl,a0⟩:=wb an;obtain⟨Q,cR,rfl,a1⟩:=wb a0;obtain⟨rl,cW,rfl,a3⟩:=wc a1;obtain⟨a4,c0,rfl,a9⟩:=wb a3;obtain⟨tp,c1,rfl,ba⟩:=wc a9;obtain⟨pq,c2,rfl,bb⟩:=wc ba;obtain⟨sp,c3,rfl,bf⟩:=wc bb;obtain⟨sg,c4,rfl,bg⟩:=wc bf;obtain⟨l,c5,rfl,bk⟩:=wc bg;obtain⟨g,c6,rfl,bl⟩:=wc bk;obtain⟨u,c7,rfl,bs⟩:=wc bl;obtain⟨s,c8,rfl,bt⟩:=wc bs;obtain⟨f,c9,rfl,bx⟩:=wc bt;obtain⟨c,dc,rfl,b0⟩:=wc bx;obtain⟨dX,dd,rfl,b3⟩:=wb b0;obtain⟨z,df,rfl,b4⟩:=wc b3;obtain⟨p,dk,rfl,b5⟩:=wc b4;obtain⟨cl,dn,rfl,b6⟩:=aB4 b5;obtain⟨r1,dr,rfl,b7⟩:=wb b6;obtain⟨b1,dx,rfl,b8⟩:=wb b7;obtain⟨p1,dy,rfl,cc⟩:=wb b8;obtain⟨r2,dz,rfl,cf⟩:=wb cc;obtain⟨b2,dT,rfl,cm⟩:=wb cf;obtain⟨p2,cn,rfl,cp⟩:=wb cm;cases cn with
 |cons _ _=>exact cp.elim
 |nil=>
 have ct:=oI (P 5 _ rl rfl rfl) (O _ ay);have cv:=oI (P 7 _ tp rfl rfl) (O _ ay);have cx:=oI (P 8 _ pq rfl rfl) (O _ ay);have cy:=oI (P 9 _ sp rfl rfl) (O _ ay);have cA:=oI (P 10 _ sg rfl rfl) (O _ ay)
 letI:Inhabited cX:=⟨⟨Wd,D,A,B,Q,a4,rl,tp,pq,sp,sg⟩⟩
 have s1:gU:=⟨ct,cv,cx,cy,cA⟩;have aa:=LM 0 aB1 rfl (P 13 _ u rfl rfl) (O _ ay);have a:=LM 0 aB2 rfl (P 14 _ s rfl rfl) (O _ ay);have ab:=LM 0 r38 rfl (P 18 _ z rfl rfl) (O _ ay);have S:uE l g u s f:=⟨(oI (P 11 _ l rfl rfl) (O _ ay)),(oI (P 12 _ g rfl rfl) (O _ ay)),(oI (P 13 _ u rfl rfl) (O _ ay)),(oI (P 14 _ s rfl rfl) (O _ ay)),(oI (P 15 _ f rfl rfl) (O _ ay)),λi N=>oI (aa i N).1 (aa i N).2,λi N=>oI (a i N).1 (a i N).2,λk hk i N=>by
  have o:=a k hk;have h0:=LM 0 aqb rfl o.1 o.2 i N;have M:=LM 1 aqb rfl o.1 o.2 i N;refine⟨oI h0.1 h0.2,oI M.1 M.2,λj hj=> ?_⟩;have G:=LM 0 r82 rfl M.1 M.2 j hj;exact oI G.1 G.2⟩
 have D:Dk c z p:=⟨(oI (P 16 _ c rfl rfl) (O _ ay)),(oI (P 18 _ z rfl rfl) (O _ ay)),(oI (P 19 _ p rfl rfl) (O _ ay)),λi N=>oI (ab i N).1 (ab i N).2,avO (P 18 _ z rfl rfl) (by rw[r38];rfl),avO (P 19 _ p rfl rfl) (by rw[r3'];rfl)⟩;obtain⟨n,hn⟩:=ayc (dX:=dX) (cl:=cl) hS s1 S D r1 b1 p1 r2 b2 p2;have ac:=VJ aBV n 3 _ _ _ _ ptD aBY kkD qkD _ _ _ hn (VK _) G X (λ_=>hG) P;have cB:u9 (look TT) [41,44,46,46] (oZ _ (gI l g u s f++[.r c,.i dX,.r z,.r p,.b cl,.i r1,.i b1,.i p1,.i r2,.i b2,.i p2]))=w:=h3;rw[cB] at ac;refine ac.mono ?_;intro e W' h;cases e with
 |returned v=>
  obtain⟨yh,ys,e1,x,e3,rfl,hB,_,_⟩:=h;cases e1;cases ys with
  |nil=>exact x.elim
  |cons y ys=>
   cases ys with
   |cons _ _=>exact x.2.elim
   |nil=>
    cases y with
    |b q=>
     have:J=q:=x.1;subst this;exact⟨rfl,hB⟩
    |i q=>exact x.1.elim
    |r q=>exact x.1.elim
 |panicked ch=>obtain⟨_,v,e1,_⟩:=h;cases e1
 |outgrown=>exact h.elim
section
open Go.ChangeShapes Go.RowKit
def aB6{H:Type}{G:TypeId×Value->H}(B:laidOutB M=J){F:World}(A:Below X.heap.size X F):∀{V:List TypeId}{Q:List Value}{O:List (DataW H)}{R:List MemPlace},V.all (λt=>M.readableRec t&&decide (t<M.types.size))=J->DataW.TrodAll G M X 0 (λ_=>J) J V Q O R->(∀x∈R,x.block<X.heap.size)->DataW.TrodAll G M F 0 (λb=>decide (b<X.heap.size)) J V Q O R:=by
 intro V;induction V with
 |nil=>
  intro Q O R _ h _;obtain⟨rfl,rfl,rfl⟩:=trodAll_nil h;exact rfl
 |cons t V z=>
  intro Q O R N h D;obtain⟨v,u,d,s,p,q,rfl,rfl,rfl,y,w⟩:=trodAll_cons h;simp only[LU,az,cF] at N;exact⟨p,q,Go.RowKit.Below.trod B N.1.1 N.1.2 y A (λx L=>D x (by simp[L])),z (by simpa using N.2) w (λx L=>D x (by simp[L])),rfl⟩
def aB7:laidOutB Tryz.prog=true:=aT
def rdD:([41,44,46,46]:List TypeId).all (λt=>Tryz.prog.readableRec t&&decide (t<Tryz.prog.types.size))=true:=aT
def aB9{H:Type}{P:TypeId×Value->H}{N:World}{D B:List (DataW H)}(V:DataW.Whole P Tryz.prog Tryz.f3.params.toList [] E X O.toList D B R)(M:Below X.heap.size X N):
  Rows.deskReportsSpec.post P Tryz.prog Tryz.f3 E J E E X O (.bool J) N:=by
 have A:=V.lt;have z:=V;obtain⟨p,q,L,y,rfl,_,_⟩:=V;obtain⟨rfl,rfl⟩:=trodVars_none y;have Q:Tryz.f3.params.toList=[41,44,46,46]:=by rw[Tryz.params3]
 have G:=L;rw[Q] at G;obtain⟨r,o,n,m,l,k,_,rfl,rfl,_,w⟩:=trodAll_cons G;obtain⟨j,i,g,f,e,d,_,rfl,rfl,_,v⟩:=trodAll_cons w;obtain⟨c,b,a,e3,p3,q3,_,rfl,rfl,_,u⟩:=trodAll_cons v;obtain⟨v4,r4,d4,e4,p4,q4,_,rfl,rfl,_,t⟩:=trodAll_cons u;obtain⟨_,rfl,rfl⟩:=trodAll_nil t;have F:=aB6 aB7 M rdD (by rw[<-Q];exact L) (λx s=>A x (by simpa using s));rw[<-Q] at F;exact⟨_,_,_,[],_,[],z,trodAll_mk1 (shut_bool Tryz.underlying4 _),F,rfl,Below.frame M _,λh=>(by cases h)⟩
end
section
open Go.ChangeShapes Go.RowKit Go.ChangeAt
abbrev gn(k:Nat):String:=Rows.deskReportsRow.named.getD k ""
abbrev L3{H:Type}:List (String×DataW H):=[(gn 1,Rows.laid_kinesphere_space_flat),(gn 0,Rows.laid_kinesphere_expand_kinds),(gn 2,Rows.laid_kinesphere_motion_kinds)]
def aCa(kZ:i7 M D){G:TI}(h:D N=U G)(O:Value.okWide M X .any V N Q):(G.d.isAgg=J/\Q=.agg Q.cells)\/(G.d.isAgg=E/\Q.cells.toList=[Q]):=by
 have R:=(kZ N G h).desc;have B:∀d,M.underlying N=U d->(∀F,d≠ .struct F)->(∀n e,d≠ .array n e)->Q.cells.toList=[Q]:=by
  intro d H y x;cases Q<;>try rfl
  case agg A=>
   exfalso;unfold Value.okWide at O;rw[H] at O;cases d<;>first|exact y _ rfl|exact x _ _ rfl|simp[Cell.okWide,Cell.ok,H] at O
 cases w:G.d<;>rw[w] at R
 case one=>
  obtain⟨d,H,⟨z,_⟩,_⟩:=R;exact .inr ⟨rfl,B d H (λF e=>by subst e;exact z) (λn e L=>by subst L;exact z)⟩
 case gJ=>obtain⟨m,H⟩:=R;exact .inr ⟨rfl,B _ H (λF e=>by cases e) (λn e L=>by cases L)⟩
 case str=>exact .inr ⟨rfl,B _ R (λF e=>by cases e) (λn e L=>by cases L)⟩
 case slice e=>exact .inr ⟨rfl,B _ R (λF e=>by cases e) (λn e L=>by cases L)⟩
 case map k e n u=>exact .inr ⟨rfl,B _ R (λF e=>by cases e) (λn e L=>by cases L)⟩
 case arr n e=>
  have R:M.underlying N=U (.array n e):=R;unfold Value.okWide at O;rw[R] at O;obtain⟨A,rfl,_⟩:=O;exact .inl ⟨rfl,rfl⟩
 case struct s=>
  obtain⟨F,H,_⟩:=R;unfold Value.okWide at O;rw[H] at O;obtain⟨A,rfl,_⟩:=O;exact .inl ⟨rfl,rfl⟩
def aCb:ownKnob Tryz.prog.godebug=none:=aT
def aCc(B:TB.Ev 4 [] (.ret [.b J])){H:Type}{P:TypeId×Value->H}{N M:List (DataW H)}(A:GW X)
  (z:∀(j:Nat) t v,Tryz.f3.params[j]?=U t->O[j]?=U v->Value.okWide Tryz.prog X .any V t v)(L:DataW.Whole P Tryz.prog Tryz.f3.params.toList [] E X O.toList N M R)
  (Q:(DataW.weightsEach Tryz.prog (Tryz.f3.params.toList++[]) (N++M)).all (·<=reachBytes)=J):
  Calls Tryz.prog 3 O X λe G=>∃v,e=.returned v/\Rows.deskReportsSpec.post P Tryz.prog Tryz.f3 E J E E X O v G:=by
 have y:=L;obtain⟨p,q,F,x,rfl,_,_⟩:=L;obtain⟨rfl,rfl⟩:=trodVars_none x;have D:Tryz.f3.params.toList=[41,44,46,46]:=by rw[Tryz.params3]
 rw[D] at F Q;simp only[H9,fp,cF] at Q;have w:=aB5 B A F Q (λj t v l u s r=>by
  have o:Tryz.f3.params[j]?=U t:=by rw[<-We,D];exact u
  have n:=z j t v o (by rw[<-We];exact s);exact aCa HT r n)
 refine w.mono ?_;rintro e G ⟨rfl,m⟩;exact⟨_,rfl,aB9 y m⟩

def aCd(X:Os)(W:Array Value):laidMetH Tryz.prog L3 ((World.doorLaid Tryz.prog 400 X).forCall (λ_ _=>0) ⟨#[],W,[]⟩).memory:=
 laidMetH_of_parts3 (fuel:=8) (laidMet_of_run' 8 aT aT) aT aT
def aCe(P:TB.Ev 4 [] (.ret [.b J]))(O:∀W,laidMetH Tryz.prog L3 W->GW W)(V:Os)(started:V.Started)(H:Type)(R:TypeId×Value->H):
  ReturnsInHanded {} Tryz.checked V 3 .any (λw Q=>(Rows.deskReportsSpec.pre R Tryz.prog Tryz.f3 [] E w Q/\laidMetH Tryz.prog L3 w)/\sizedMet R Tryz.prog Tryz.f3 (OpenSpec.ofChange Rows.deskReportsSpec) E w Q)
   (Rows.deskReportsSpec.post R Tryz.prog Tryz.f3 E J E E):=by
 refine returnsInHanded_of_change_and (C:=Tryz.checked) (X:=λw _=>laidMetH Tryz.prog L3 w) (λ_ _ _ N h=>h.of_heap N) aCb started aT Tryz.func3
  (ChangeSpec.witness_shaped (enc:=R) (C:=Tryz.checked) (os:=V) (X:=λw _=>laidMetH Tryz.prog L3 w) E (World.doorLaid Tryz.prog 400 V) #[.agg #[.int I 0,.int I 0,.int I 0,.int I 0,.int I 0,.slice Z 0 0,.int I 0,.slice Z 0 0,.slice Z 0 0,.slice Z 0 0,.slice Z 0 0,.slice Z 0 0,.slice Z 0 0,.slice Z 0 0,.slice Z 0 0,.slice Z 0 0],.agg #[.slice Z 0 0,.int I 0,.slice Z 0 0,.slice Z 0 0,.bool E],.agg #[.int I 0,.int I 0,.int I 0],.agg #[.int I 0,.int I 0,.int I 0]] 8 rfl (World.shaped_of_RefB aT aT) aT aT aT (aCd V _)) ?_
 intro W D Q B A before M L _ G F _;exact aCc P (O W F) M L G
end
section
variable{P:Program}{ty:Ty}{W:World}
def xJ{X:Type}(w:Nat):Nat->List X->List (List X)
 |0,_=>[]
 |n+1,l=>l.take w::xJ w n (l.drop w)
def PZ{X:Type}{w:Nat}:∀{n:Nat}{l:List X},(xJ w n l).length=n
 |0,_=>rfl
 |n+1,l=>by simp[xJ,PZ (n:=n)]
def Wa{X:Type}{w:Nat}:∀{n:Nat}{l r:List X}{i:Nat},(xJ w n l)[i]?=U r->i<n/\r=(l.drop (i*w)).take w
 |0,l,r,i,h=>by simp[xJ] at h
 |n+1,l,r,0,h=>by simp[xJ] at h;exact⟨ae,by simp[h]⟩
 |n+1,l,r,i+1,h=>by
  simp only[xJ,sa] at h;obtain⟨R,V⟩:=Wa h;refine⟨ae, ?_⟩;rw[V,LS];congr 2;rw[qf];omega
def LN{R:Type}{n:Nat}{l r:List R}{i j:Nat}{c:R}(h:(xJ V n l)[i]?=U r)(X:r[j]?=U c):i<n/\j<V/\l[i*V+j]?=U c:=by
 obtain⟨Q,rfl⟩:=Wa h;rw[mB] at X;split at X;rename_i O;rw[tF] at X;exact⟨Q,O,X⟩;cases X
def P0{H:Type}(P:Program)(t:TypeId)(d:DataW H)(w n:Nat):List (List RV):=xJ w n ((fU (n*w)).map λj=>(n8 P 9 t d j).getD default)
def aeK{g n w:Nat}{e t:TypeId}{G F:TI}{d:DataW Unit}(ab:ty e=U G)(ac:ty t=U F)(hw:Y G.ao=w)(A:Y F.ao=n*w)(af:(fU n).map (λi=>(F.ao.drop (i*w)).take w)=eI n G.ao)(ag:xI P ty 9 t=J)
  (al:DataW.trod (λ_=>()) P W 0 (λ_=>J) E V t O.toList=U (d,R))(an:(DataW.weights P t d).all (·<=reachBytes)=J)(a0:∀i,W.cell? ⟨g,i,Z⟩=O[i]?)(hE:((fU (n*w)).all λj=>(n8 P 9 t d j).isSome)=J)(a3:0<w):
  ∃u,bJ W ty (.sl e) (.mk (.slice (U ⟨g,0,Z⟩) n n) u)/\dA (Ai g (P0 P t d w n)) (.mk (.slice (U ⟨g,0,Z⟩) n n) u):=by
 obtain⟨s,h2⟩:=PW V 9 t F _ _ ac ag al (λq hq=>tH (fp.1 an q hq));obtain⟨D,o,r2,r3,r4,r5,r6⟩:=aeH s h2;have a1:Y D=n*w:=by rw[<-qY (f:=RV.val),o,s,A]
 have y:∀i j,i<n->j<w->F.ao[i*w+j]?=G.ao[j]?:=λi j m hj=>by
  have h:=jW (·[i]?) af;simp only[dN,Dd m,E9,aI m,dV,cG] at h;rw[<-h,mB,aI hj,tF]
 have B:bD ty (.sl e)=G.ao:=by simp[bD,ab]
 have l:∀(i j:Nat)(r:List RV)(c:RV),(xJ w n D)[i]?=U r->r[j]?=U c->W.cell? ⟨g,0+i*w+j,Z⟩=U c.val:=λi j r c X Q=>by
  obtain⟨_,_,N⟩:=LN X Q;have v:O.toList[i*w+j]?=U c.val:=by rw[<-o,dN,N];rfl
  rw[iJ,a0,<-We];exact v
 have b:∀(i:Nat)(r:List RV),(xJ w n D)[i]?=U r->Y r=w:=λi r X=>by
  obtain⟨Q,rfl⟩:=Wa X;have:(i+1)*w<=n*w:=Fe w Q;rw[qf] at this;rw[De,Df,a1];omega
 refine⟨xJ w n D,.sl e _ n n _ PZ (cd _) (λi r X=> ?_) (λi j r c k X Q N=> ?_) (λi j r c X Q N=> ?_) (λi j r c z k X Q N=> ?_), ?_⟩;rw[B,hw];have A:=b i r X;refine⟨A,g,0,rfl, ?_,λj c Q=>l i j r c X Q⟩;obtain⟨c,hc⟩:∃c,r[0]?=U c:=⟨_,cK ae⟩;exact apZ (l i 0 r c X hc);rw[B] at N;obtain⟨L,H,M⟩:=LN X Q;exact r2 _ c k M (by rw[y i j L H];exact N);rw[B] at N;obtain⟨L,H,M⟩:=LN X Q;exact r3 _ c M (by rw[y i j L H];exact N);rw[B] at N;obtain⟨L,H,M⟩:=LN X Q;exact r4 _ c z k M (by rw[y i j L H];exact N);unfold Ai P0;rw[PZ];refine dA.sl _ _ _ _ _ _ _ (by rw[PZ,PZ]) (λi r a X Q=> ?_) (λi j r a c c' X Q N v=> ?_);obtain⟨L,rfl⟩:=Wa X;have:(i+1)*w<=n*w:=Fe w L;rw[qf] at this;rw[b i a Q,De,Df,qY,aDE];omega;obtain⟨L,H,M⟩:=LN X N;obtain⟨_,_,q4⟩:=LN Q v;rw[dN] at M;have aa:i*w+j<n*w:=by
  have:(i+1)*w<=n*w:=Fe w L;rw[qf] at this;omega
 rw[Dd aa] at M;simp only[dV,cG] at M;obtain⟨x,hx⟩:=kD.1 (fp.1 hE _ (zv.2 aa));rw[hx,oJ] at M;subst M;exact r6 _ c' x q4 hx
end
def aCf:Tryz.prog.globalNamed (gn 1)=U 2:=aT
def aCg:Tryz.prog.globalNamed (gn 0)=U 0:=aT
def aCh:Tryz.prog.globalNamed (gn 2)=U 1:=aT
def aCi:(Tryz.prog.globals[2]?).map (·.type)=U 305:=aT
def aCj:(Tryz.prog.globals[0]?).map (·.type)=U 187:=aT
def aCk:(Tryz.prog.globals[1]?).map (·.type)=U 258:=aT
def aeL{n:String}(R:Tryz.prog.globalNamed n=U V)(Q:X.var? Tryz.prog n=U O)(i:Nat):X.cell? ⟨V,i,Z⟩=O[i]?:=World.var?_cell R Q i
def aqd:∀(X:List XV)(O:ak),∃l,(O.ext X).r=O.r++l
 |[],O=>⟨[],by simp[ak.ext]⟩
 |x::X,O=>by
  obtain⟨l,h⟩:=aqd X (O.add x);simp only[ak.ext,h];cases x<;>simp[ak.add]
def aqe:DW=[Ai 0 (P0 Tryz.prog 187 (Rows.laid_kinesphere_expand_kinds:DataW Unit) 6 10),Ai 1 (P0 Tryz.prog 258 (Rows.laid_kinesphere_motion_kinds:DataW Unit) 2 10),Ai 2 (P0 Tryz.prog 305 (Rows.laid_kinesphere_space_flat:DataW Unit) 2 8)]:=aT
def aqf{X:Type}{p:Nat->X->Prop}{a b c:X}(V:p 0 a)(R:p 1 b)(Q:p 2 c):∀(k:Nat)(x:X),[a,b,c][k]?=U x->p k x
 |0,_,h=>lT h▸V
 |1,_,h=>lT h▸R
 |2,_,h=>lT h▸Q
 |k+3,_,h=>(by simp at h)
def aCl(h:laidMetH Tryz.prog L3 X):GW X:=by
 rw[MakeChecks.laidMetH_plain _ _ _ aT] at h;obtain⟨ps,⟨g0,t0,kj,f0,p0,q0,H,B,A,z,⟨g1,t1,aa,f1,p1,q1,G,y,u,s,⟨g2,t2,ab,f2,p2,q2,F,r,q,o,_,_⟩,_⟩,_⟩,_,_⟩:=h;obtain rfl:=lT (aCf.symm.trans H);obtain rfl:=lT (aCg.symm.trans G);obtain rfl:=lT (aCh.symm.trans F);obtain rfl:=lT (aCi.symm.trans B);obtain rfl:=lT (aCj.symm.trans y);obtain rfl:=lT (aCk.symm.trans r);obtain⟨R,m,j⟩:=aeK (P:=Tryz.prog) (ty:=look TT) (W:=X) (g:=0) (n:=10) (w:=6) (e:=186) (t:=187) rfl rfl rfl rfl rfl aT s aT (aeL G u) aT eY;obtain⟨Q,i,f⟩:=aeK (P:=Tryz.prog) (ty:=look TT) (W:=X) (g:=1) (n:=10) (w:=2) (e:=257) (t:=258) rfl rfl rfl rfl rfl aT o aT (aeL F q) aT eY;obtain⟨O,d,c⟩:=aeK (P:=Tryz.prog) (ty:=look TT) (W:=X) (g:=2) (n:=8) (w:=2) (e:=177) (t:=305) rfl rfl rfl rfl rfl aT z aT (aeL H A) aT eY;refine⟨[.mk (.slice (U ⟨0,0,Z⟩) 10 10) R,.mk (.slice (U ⟨1,0,Z⟩) 10 10) Q,.mk (.slice (U ⟨2,0,Z⟩) 8 8) O],by rw[aqe];rfl,λk v V N L=> ?_,λk e M N L=> ?_,λb x D=> ?_⟩;rw[aqe] at N;exact aqf (p:=λk v=>∀V,[RV.mk (.slice (U ⟨0,0,Z⟩) 10 10) R,.mk (.slice (U ⟨1,0,Z⟩) 10 10) Q,.mk (.slice (U ⟨2,0,Z⟩) 8 8) O][k]?=U V->dA v V) (λV h=>lT h▸j) (λV h=>lT h▸f) (λV h=>lT h▸c) k v N V L;exact aqf (p:=λk e=>∀M,[RV.mk (.slice (U ⟨0,0,Z⟩) 10 10) R,.mk (.slice (U ⟨1,0,Z⟩) 10 10) Q,.mk (.slice (U ⟨2,0,Z⟩) 8 8) O][k]?=U M->bJ X (look TT) e M) (λV h=>lT h▸m) (λV h=>lT h▸i) (λV h=>lT h▸d) k e N M L;obtain⟨l,a⟩:=aqd b ⟨[],[],[RV.mk (.slice (U ⟨0,0,Z⟩) 10 10) R,.mk (.slice (U ⟨1,0,Z⟩) 10 10) Q,.mk (.slice (U ⟨2,0,Z⟩) 8 8) O],[]⟩;simp only[GL,dP,Qb,or_false] at D;unfold fM ak.rv;rw[a];rcases D with rfl|rfl|rfl;exact⟨ay,10,10,rfl⟩;exact⟨ay,10,10,rfl⟩;exact⟨ay,8,8,rfl⟩
