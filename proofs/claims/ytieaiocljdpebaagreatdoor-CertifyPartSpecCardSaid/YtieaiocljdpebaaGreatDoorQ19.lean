/- Part 19 of the proof. -/
import Derived.Test.YtieaiocljdpebaaGreatDoorQ9
import Derived.Test.YtieaiocljdpebaaGreatDoorQ11
import Derived.Test.YtieaiocljdpebaaGreatDoorQ12
import Derived.Test.YtieaiocljdpebaaGreatDoorQ13
import Derived.Test.YtieaiocljdpebaaGreatDoorQ14
import Derived.Test.YtieaiocljdpebaaGreatDoorQ15
import Derived.Test.YtieaiocljdpebaaGreatDoorQ16
import Derived.Test.YtieaiocljdpebaaGreatDoorQ17
import Derived.Test.YtieaiocljdpebaaGreatDoorQ18
import Derived.Test.YtieaiocljdpebaaGreatDoorRows
import Derived.ChangeArms
import Derived.DataReads
import Derived.OpenShut
import Derived.RecoverIn
import Derived.Shelf.Small.Strs
import Derived.Carry
import Derived.ProofKit
import Derived.LaidMore
import Derived.Stop.Joined
import Derived.Handed
set_option linter.all false
set_option maxRecDepth 100000
set_option maxHeartbeats 100000000
open Bool renaming and_eq_true->aA,false_eq_true->jR,eq_iff_iff->vx,and_assoc->axg,true->J,false->E
open Nat renaming le_refl->cg,zero_add->jz,add_mul->rI,eq_zero_or_pos->BG,mul_le_mul_right->H3,mod_lt->Ia,mul_comm->Uc,sub_self->abd,div_add_mod->ajS,div_lt_of_lt_mul->aw2
open List renaming getElem?_eq_some_iff->cj,getElem?_eq_getElem->cL,nil_append->di,getD_eq_getElem?_getD->dL,mem_cons->dS,getElem?_map->dX,getElem?_append_left->dZ,replicate->eH,map_cons->eW,mem_append->fh,range->fj,all_eq_true->f9,mem_map->iL,getElem?_append_right->jd,mem_of_getElem?->ki,any_eq_true->lT,getElem?_take->nA,getElem_mem->pl,length_map->qJ,getElem?_cons_succ->ud,getElem?_of_mem->ue,getElem?_drop->vw,mem_range->wV,map->BK,map_nil->Dv,getElem?_replicate->Fw,getElem?_range->FB,length_take->FD,length_drop->FE,take_of_length_le->KM,append_nil->KQ,drop_drop->OH,all_cons->OI,not_mem_nil->T7,mem_of_find?_eq_some->aaU,find?_some->aa7,length_range->ajO,take_append_of_le_length->awV,getElem?_zip_eq_some->awX,drop_append_of_le_length->aKi,drop_of_length_le->aKw,length->Y
open Option renaming map_some->eo,isSome_iff_exists->lB,getD_some->pZ,bind_eq_some_iff->aKt,some->U,none->Z
open Go.Region renaming wanted->nC
open Go.World renaming cell?->oC,putObj->H9,setCell->abb,frozen?->abc,cells?_some->aKQ
open Array renaming getElem?_eq_some_iff->pi,getElem?_modify->TY,getElem?_toList->aaW
open Int renaming toNat_natCast->zR
open Go.IntKind renaming i64->I
namespace Go.Proofs.YtieaiocljdpebaaGreatDoor.Y
open Go.RowKit
noncomputable section
variable{B:Ty}{X:World}{O:Value}{V:Nat}{H:Nat→Bool}{M:Bool}{N:Program}{A:Act}{L:TypeId}{F:List LK}{D:List XV}{z:RV}{R:List MemPlace}{Q:Array Value}
def aaQ:CT->CT->Bool
 |.int k,.int X=>decide (k=X)
 |.bool,.bool=>J
 |.aS _ k,.aS _ X=>decide (k=X)
 |_,_=>E
def Dq:fp->fp->Bool
 |[],[]=>J
 |c::l,X::V=>aaQ c X&&Dq l V
 |_,_=>E
def aaR:∀{l V:fp},Dq l V=J->Y l=Y V/\∀(j:Nat)(c X:CT),l[j]?=U c->V[j]?=U X->aaQ c X=J
 |[],[],_=>⟨rfl,λj c X h _=>by simp at h⟩
 |[],_::_,h=>by cases h
 |_::_,[],h=>by cases h
 |a::l,b::V,h=>by
  simp only[Dq,aA] at h;obtain⟨O,N⟩:=aaR h.2;refine⟨by simp[O],λj c X R Q=> ?_⟩;cases j with
  |zero=>simp at R Q;subst R;subst Q;exact h.1
  |succ j=>exact N j c X (by simpa using R) (by simpa using Q)
inductive sH:RV->Prop
 |mk (rv:RV) (h:Y rv.ae<=140737488355328) (h2:∀row∈rv.ae,∀c∈row,sH c):sH rv
def sH.aaS(v:Value):sH (.mk v []):=.mk _ (by simp[RV.nK]) (by simp[RV.nK])
def BF(o:Ty)(W:World)(V:Option RV):CT->Value->Prop
 |.int k,v=>(∃n,v=.int k n/\(Lit.int k n).wf=J)/\∀r,V=U r->r=.mk v []
 |.bool,v=>(∃b,v=.bool b)/\∀r,V=U r->r=.mk v []
 |.aS _ k,v=>∃X:RV,X.val=v/\bI W o k X/\sH X/\∀r,V=U r->dD r X
def BF.ajx{V:Option RV}{a b:CT}(h:aaQ a b=J)(k:BF B X V b O):BF B X V a O:=by
 cases a<;>cases b<;>simp only[aaQ,cz,jR] at h;subst h;exact k;exact k;subst h;exact k
def zO(P:Program)(o:Ty):Nat->TypeId->Bool
 |0,_=>E
 |n+1,t=>match o t with
  |none=>E
  |U X=>match P.underlying t with
   |U (.int k)=>Dq X.ak [.int k]
   |U .bool=>Dq X.ak [.bool]
   |U .string=>Dq X.ak [.aS undef .str]
   |U (.slice e)=>Dq X.ak [.aS undef (.sl e)]&&zO P o n e&&decide (P.cellsOf e=(bH o (.sl e)).length)&&decide (P.cellsOf e≠0)&&decide (P.bytesOf e≠0)
   |U (.struct Q)=>decide (P.cellsOf t=Y X.ak)&&Q.toList.all (λf=>zO P o n f.type&&(match o f.type with
     |U R=>decide (P.cellsOf f.type=Y R.ak)&&Dq ((X.ak.drop f.offset).take (Y R.ak)) R.ak
     |none=>E))&&(fj (Y X.ak)).all λj=>Q.toList.any λf=>decide (f.offset<=j)&&decide (j<f.offset+P.cellsOf f.type)
   |U (.array k e)=>decide (P.cellsOf t=Y X.ak)&&zO P o n e&&(match o e with
     |U V=>decide (P.cellsOf e=Y V.ak)&&decide (Y X.ak=k*Y V.ak)&&(fj k).all λi=>Dq ((X.ak.drop (i*Y V.ak)).take (Y V.ak)) V.ak
     |none=>E)
   |_=>E
def ph{H:Type}(P:Program):Nat->TypeId->DataW H->Nat->Option RV
 |0,_,_,_=>Z
 |n+1,t,d,j=>match P.underlying t,d with
  |U (.int _),.lit (.int k q)=>U (.mk (.int k q) [])
  |U .bool,.lit (.bool b)=>U (.mk (.bool b) [])
  |U (.slice e),.slice X _=>if(X.all λd=>(fj (P.cellsOf e)).all λj=>(ph P n e d j).isSome) then U (.mk (.slice Z (Y X) (Y X)) (X.map λd=>(fj (P.cellsOf e)).map λj=>(ph P n e d j).getD default)) else Z
  |U (.slice _),.nil=>U (.mk (.slice Z 0 0) [])
  |U (.struct R),.agg V=>match(R.toList.zip V).find? λf=>decide (f.1.offset<=j)&&decide (j<f.1.offset+P.cellsOf f.1.type) with
   |U f=>ph P n f.1.type f.2 (j-f.1.offset)
   |none=>Z
  |U (.array _ e),.agg V=>match V[j/P.cellsOf e]? with
   |U d=>ph P n e d (j%P.cellsOf e)
   |none=>Z
  |_,_=>Z
section
variable{P:Program}{o:Ty}{W:World}
def TR{R:Nat->Option RV}{ak:fp}{c:CT}(h:Dq ak [c]=J)(k:BF o W (R 0) c O):[O].length=Y ak/\∀(j:Nat)(X:CT)(u:Value),ak[j]?=U X->[O][j]?=U u->BF o W (R j) X u:=by
 obtain⟨Q,N⟩:=aaR h;refine⟨by simp[Q],λj X u M V=> ?_⟩;cases j with
 |zero=>simp at V;subst V;exact BF.ajx (N 0 X c M rfl) k
 |succ j=>simp at V
def ajy:∀{Ecel:Nat->Option RV}{ak:fp}{cs:gE},Y cs=Y ak->(∀(j:Nat)(O:CT)(v:Value),ak[j]?=U O->cs[j]?=U v->BF o W (Ecel j) O v)->
  ∃N:aM,N.map RV.val=cs/\(∀(j:Nat)(c:RV)(k:IntKind),N[j]?=U c->ak[j]?=U (.int k)->∃n,c.val=.int k n)/\(∀(j:Nat)(c:RV),N[j]?=U c->ak[j]?=U .bool->∃x,c.val=.bool x)/\(∀(j:Nat)(c:RV)(z:Value)(k:RK),N[j]?=U c->ak[j]?=U (.aS z k)->bI W o k c)/\(∀c∈N,sH c)/\∀(j:Nat)(c r:RV),N[j]?=U c->Ecel j=U r->dD r c
 |_,[],[],_,_=>⟨[],rfl,λj c k h=>by simp at h,λj c h=>by simp at h,λj c z k h=>by simp at h,aw,λj c r h=>by simp at h⟩
 |_,[],_::_,h,_=>by simp at h
 |_,_::_,[],h,_=>by simp at h
 |Ecel,O::ak,v::cs,F,h=>by
  obtain⟨N,D,B,A,y,w,t⟩:=ajy (Ecel:=λj=>Ecel (j+1)) (ak:=ak) (cs:=cs) (by simpa using F) (λj c u s M=>h (j+1) c u (by simpa using s) (by simpa using M));obtain⟨r,L,M,q,p,m,l⟩:∃r:RV,r.val=v/\(∀k,O=.int k->∃n,r.val=.int k n)/\(O=.bool->∃x,r.val=.bool x)/\(∀z k,O=.aS z k->bI W o k r)/\sH r/\∀R,Ecel 0=U R->dD R r:=by
   have Q:=h 0 O v rfl rfl;cases O with
   |int k=>exact⟨.mk v [],rfl,λH e=>(by cases e;obtain⟨⟨n,i,_⟩,_⟩:=Q;exact⟨n,i⟩),λe=>(by cases e),λz k e=>(by cases e),sH.aaS v,λR G=>by rw[Q.2 R G];exact dD.refl _⟩
   |bool=>exact⟨.mk v [],rfl,λH e=>(by cases e),λ_=>Q.1,λz k e=>(by cases e),sH.aaS v,λR G=>by rw[Q.2 R G];exact dD.refl _⟩
   |aS z k=>
    obtain⟨r,L,g,cT,f⟩:=Q;exact⟨r,L,λH e=>(by cases e),λe=>(by cases e),λd H e=>(by cases e;exact g),cT,f⟩
  refine⟨r::N,by simp[L,D],λj c k X V=> ?_,λj c X V=> ?_,λj c z k X V=> ?_,λc Q=>(dS.1 Q).elim (λe=>e▸m) (λQ=>w c Q),λj c R X V=> ?_⟩;cases j with
  |zero=>simp at X V;subst X;exact M k V
  |succ j=>exact B j c k (by simpa using X) (by simpa using V)
  cases j with
  |zero=>simp at X V;subst X;exact q V
  |succ j=>exact A j c (by simpa using X) (by simpa using V)
  cases j with
  |zero=>simp at X V;subst X;exact p z k V
  |succ j=>exact y j c z k (by simpa using X) (by simpa using V)
  cases j with
  |zero=>simp at X;subst X;exact l R V
  |succ j=>exact t j c R (by simpa using X) V
def awD{α:Type}{R:Nat->α->Prop}:∀(n:Nat),(∀i,i<n->∃x,R i x)->∃l:List α,Y l=n/\∀(i:Nat)(x:α),l[i]?=U x->R i x
 |0,_=>⟨[],rfl,λi x h=>by simp at h⟩
 |n+1,h=>by
  obtain⟨l,V,Q⟩:=awD n (λi O=>h i aa);obtain⟨x,N⟩:=h n aa;refine⟨l++[x],by simp[V],λi y X=> ?_⟩;by_cases O:i<n;rw[dZ aa] at X;exact Q i y X;rw[jd aa] at X;have:i=n:=by
   cases M:i-Y l with
   |zero=>omega
   |succ q=>rw[M] at X;simp at X
  subst this;rw[V,abd] at X;simp at X;subst X;exact N
def ajz{H:Type}{P:Program}{e:TypeId}{q:Nat}:∀{l:List (DataW H)}{d:DataW H},d∈l->q∈DataW.weights P e d->q∈DataW.weightsAll P e l
 |[],_,h,_=>by simp at h
 |x::l,d,h,X=>by
  simp only[DataW.weightsAll,fh];rcases dS.1 h with rfl|h;exact .inl X;exact .inr (ajz h X)
def awE{H:Type}{P:Program}{q:Nat}:∀{X:kw}{l:List (DataW H)}{i:Nat}{t:TypeId}{d:DataW H},X[i]?=U t->l[i]?=U d->q∈DataW.weights P t d->q∈DataW.weightsEach P X l
 |[],_,_,_,_,h,_,_=>by simp at h
 |_::_,[],_,_,_,_,h,_=>by simp at h
 |O::X,N::l,i,t,d,V,R,Q=>by
  simp only[DataW.weightsEach,fh];cases i with
  |zero=>simp at V R;subst V;subst R;exact .inl Q
  |succ i=>exact .inr (awE (i:=i) (by simpa using V) (by simpa using R) Q)
def awF{R:Nat}(h:W.cell? ⟨V,R,Z⟩=U O):∃Q t X,W.heap[V]?=U (.cells Q t X):=by
 unfold oC at h;split at h;rename_i c t X N;exact⟨c,t,X,N⟩;cases h
structure awG{H:Type}(P:Program)(o:Ty)(W:World)(n:Nat)(e:TypeId)(ak:fp)(a:Addr)(elems:List (DataW H×List MemPlace))(i:Nat)(row:aM):Prop where
 len:Y row=Y ak
 sp:a.spot=Z
 lE:∃cs t fr,W.heap[a.block]?=U (.cells cs t fr)
 cell:∀(j:Nat)(c:RV),row[j]?=U c->W.cell? ⟨a.block,a.off+i*Y ak+j,Z⟩=U c.val
 hi:∀(j:Nat)(c:RV)(k:IntKind),row[j]?=U c->ak[j]?=U (.int k)->∃n,c.val=.int k n
 hb:∀(j:Nat)(c:RV),row[j]?=U c->ak[j]?=U .bool->∃x,c.val=.bool x
 ho:∀(j:Nat)(c:RV)(z:Value)(k:RK),row[j]?=U c->ak[j]?=U (.aS z k)->bI W o k c
 bnd:∀c∈row,sH c
 eq:∀(j:Nat)(c r:RV)(x:DataW H×List MemPlace),row[j]?=U c->elems[i]?=U x->ph P n e x.1 j=U r->dD r c
def TS{H:Type}{b5:TypeId×Value->H}{b6:Nat}{spare:Nat->Bool}{b7:Bool}:∀(b8 m:Nat)(t:TypeId)(ti:TI)(cs:gE)(x:DataW H×List MemPlace),o t=U ti->zO P o m t=J->DataW.trod b5 P W b6 spare b7 b8 t cs=U x->(∀q∈DataW.weights P t x.1,q<=reachBytes)->
  Y cs=Y ti.ak/\∀(j:Nat)(ct:CT)(v:Value),ti.ak[j]?=U ct->cs[j]?=U v->BF o W (ph P m t x.1 j) ct v
 |0,_,_,_,_,_,_,_,h,_=>by simp[DataW.trod] at h
 |_+1,0,_,_,_,_,_,M,_,_=>by simp[zO] at M
 |n+1,m+1,t,ti,cs,x,ht,M,h,ac=>by
  simp only[zO,ht] at M;cases N:P.underlying t with
  |none=>rw[N] at M;cases M
  |some d=>
   rw[N] at M;cases d<;>simp only[jR] at M
   case int k=>
    obtain⟨q,rfl,rfl,ca⟩:=DataW.trod_int N h;exact TR M ⟨⟨q,rfl,ca⟩,λr X=>by simp only[ph,N,cS] at X;exact X.symm⟩
   case bool=>
    obtain⟨q,rfl,rfl⟩:=DataW.trod_bool N h;exact TR M ⟨⟨q,rfl⟩,λr X=>by simp only[ph,N,cS] at X;exact X.symm⟩
   case string=>
    obtain⟨q,rfl,_⟩:=DataW.trod_string N h;exact TR M ⟨.mk (.string q) [],rfl,.str q,sH.aaS _,λr X=>by simp[ph,N] at X⟩
   case slice e=>
    simp only[aA,cz] at M;obtain⟨⟨⟨⟨g1,A⟩,G⟩,g4⟩,g6⟩:=M;rcases DataW.trod_slice N h with⟨rfl,F⟩|⟨a,af,bf,s,bg,n',hn,rfl,F,hb,cc,cD,bk,bl,_,_⟩;exact TR g1 ⟨.mk (.slice Z 0 0) [],rfl,.sl e Z 0 0 [] rfl (cg _) (λi V X=>by simp at X) (λi j V c k X=>by simp at X) (λi j V c X=>by simp at X) (λi j V c z k X=>by simp at X),sH.aaS _,λr X=>by
     simp only[ph,N,F,cS] at X;subst X;exact dD.refl _⟩
    cases hn;subst F;simp only[DataW.weights,N,dS,fh] at ac;have cI:af<=140737488355328:=by
     have y:=ac _ (.inl rfl);have Q:(s.map (·.1)).length+(bg.map (·.1)).length<=((s.map (·.1)).length+(bg.map (·.1)).length)*P.bytesOf e:=Nat.le_mul_of_pos_right _ aa;simp only[qJ] at y Q;have w:reachBytes<=140737488355328:=dM;omega
    have an:∃L,o e=U L:=by
     cases m with
     |zero=>simp[zO] at A
     |succ m=>
      cases D:o e with
      |none=>simp[zO,D] at A
      |some L=>exact⟨L,rfl⟩
    obtain⟨L,an⟩:=an;have al:bH o (.sl e)=L.ak:=by simp[bH,an]
    rw[al] at G;have cf:∀i,i<af->∃V:aM,awG P o W m e L.ak a s i V:=by
     intro i l;have Q:=bl i l;have ag:i<Y s:=aa;rw[cL ag,aKt] at Q;obtain⟨ci,Q,w⟩:=Q;obtain⟨q1,q2⟩:=TS n m e L ci _ an A w (λq D=>ac q (.inr (.inl (ajz (iL.2 ⟨_,pl ag,rfl⟩) D))));obtain⟨_,c1,c2⟩:=aKQ Q;obtain⟨V,r1,r2,r3,r4,r5,r6⟩:=ajy q1 q2;have br:Y V=Y L.ak:=by rw[<-qJ (f:=RV.val),r1,q1]
     have a0:a.spot=none:=by
      have y:=bl 0 aa;rw[cL aa,aKt] at y;obtain⟨c0,y,_⟩:=y;obtain⟨_,d1,d2⟩:=aKQ y;have d3:=d2 0 aa;rw[Nat.zero_mul,cL aa] at d3;simp only[Addr.add,cN] at d3;unfold oC at d3;split at d3;split at d3;cases d3;rename_i hs;simpa using hs;cases d3
     have bs:∀(j:Nat)(c:RV),V[j]?=U c->W.cell? ⟨a.block,a.off+i*Y L.ak+j,Z⟩=U c.val:=by
      intro j c B;have cO:j<Y L.ak:=by rw[<-br];exact(cj.1 B).1
      have c3:=c2 j aa;have c4:ci[j]?=U c.val:=by rw[<-r1,dX,B];rfl
      rw[c4] at c3;have ha:(a.add (i*P.cellsOf e)).add j=⟨a.block,a.off+i*Y L.ak+j,Z⟩:=by
       rw[G];unfold Addr.add;cases a with
       |mk lE cR sp=>
        simp only at a0;subst a0;by_cases q5:i*Y L.ak=0<;>by_cases q6:j=0<;>simp[q5,q6]
      rw[ha] at c3;exact c3
     refine⟨V,br,a0, ?_,bs,r2,r3,r4,r5,λj c r x g1 A G=>r6 j c r g1 (by rw[cL ag] at A;cases A;exact G)⟩;have bt:0<Y L.ak:=aa;obtain⟨c,g⟩:∃c,V[0]?=U c:=⟨_,cL aa⟩;exact awF (bs 0 c g)
    obtain⟨bx,l1,l2⟩:=awD (α:=aM) (R:=awG P o W m e L.ak a s) af cf;refine TR g1 ⟨.mk (.slice (U a) af bf) bx,rfl,.sl e (U a) af bf bx l1 cc (λi V X=> ?_) (λi j V c k X g hk=> ?_) (λi j V c X g hk=> ?_) (λi j V c z k X g hk=> ?_),.mk _ (by rw[RV.nK];omega) (λV X c g=> ?_),λr X=> ?_⟩;have p:=l2 i V X;rw[al];refine⟨p.len,a.block,a.off, ?_,p.lE,p.cell⟩;have p2:=p.sp;cases a;simp only at p2;subst p2;rfl;rw[al] at hk;exact(l2 i V X).hi j c k g hk;rw[al] at hk;exact(l2 i V X).hb j c g hk;rw[al] at hk;exact(l2 i V X).ho j c z k g hk;rw[RV.nK] at X;obtain⟨i,l⟩:=ue X;exact(l2 i V l).bnd c g;simp only[ph,N] at X;split at X;rename_i ch;cases X;have b0:Y s=af:=aa;rw[qJ,b0];have get:∀(i:Nat)(V:aM),(BK (λd=>BK (λj=>(ph P m e d j).getD default) (fj (P.cellsOf e))) (s.map (·.1)))[i]?=U V->∃x,s[i]?=U x/\V=(fj (P.cellsOf e)).map λj=>(ph P m e x.1 j).getD default:=by
     intro i V Q;rw[dX,dX] at Q;cases F:s[i]? with
     |none=>rw[F] at Q;cases Q
     |some x=>rw[F] at Q;simp only[eo,cS] at Q;exact⟨x,rfl,Q.symm⟩
    refine dD.sl _ _ _ _ _ _ _ (by simp[l1,b0]) (λi V a1 Q w=> ?_) (λi j V a1 c c' Q w h3 h4=> ?_);obtain⟨x,_,rfl⟩:=get i V Q;rw[(l2 i a1 w).len];simp[G];obtain⟨x,F,rfl⟩:=get i V Q;rw[dX] at h3;cases B:(fj (P.cellsOf e))[j]? with
    |none=>rw[B] at h3;cases h3
    |some j'=>
     have a3:j<P.cellsOf e:=by have:=(cj.1 B).1;simpa using this
     rw[FB a3] at B;cases B;rw[FB a3] at h3;simp only[eo,cS] at h3;have:=f9.1 (f9.1 ch x.1 (iL.2 ⟨x,ki F,rfl⟩)) j (wV.2 a3);obtain⟨r,X⟩:=lB.1 this;rw[X] at h3;simp only[pZ] at h3;subst h3;exact(l2 i a1 w).eq j c' r x h4 F X
    cases X
   case struct b=>
    simp only[aA,cz,f9,lT,wV] at M;obtain⟨⟨g1,A⟩,G⟩:=M;obtain⟨u,n',hn,F,cl,cn,hf⟩:=DataW.trod_struct N h;cases hn;subst F;simp only[DataW.weights,N] at ac;refine⟨aa,λj ct v Q w=> ?_⟩;have B:j<Y ti.ak:=(cj.1 Q).1;obtain⟨f0,cp,cv,cx⟩:=G j B;have cW:(b.toList.zip (u.map (·.1))).length=b.size:=dh;obtain⟨fd,a4⟩:∃fd,(b.toList.zip (u.map (·.1))).find? (λf=>decide (f.1.offset<=j)&&decide (j<f.1.offset+P.cellsOf f.1.type))=U fd:=by
     obtain⟨i0,a9⟩:=ue cp;have cy:i0<b.size:=by have:=(cj.1 a9).1;simpa using this
     refine lB.1 (List.find?_isSome.2 ⟨((b.toList.zip (u.map (·.1)))[i0]' aa),pl _, ?_⟩);have:f0=b.toList[i0]:=by rw[cL (by simpa using cy)] at a9;exact(me a9).symm
     simp only[List.getElem_zip,<-this,aA,cz];exact⟨cv,cx⟩
    have b1:=aa7 a4;simp only[aA,cz] at b1;obtain⟨b2,b3⟩:=b1;obtain⟨iz,cA⟩:=ue (aaU a4);obtain⟨f,dd⟩:=fd;have bb:=awX.1 cA;have b2:f.offset<=j:=b2;have b3:j<f.offset+P.cellsOf f.type:=b3;have cB:f∈b.toList:=ki bb.1;obtain⟨k1,k2⟩:=A f cB;cases D:o f.type with
    |none=>rw[D] at k2;cases k2
    |some fi=>
     rw[D] at k2;simp only[aA,cz] at k2;obtain⟨k3,k4⟩:=k2;have l:=bb.1;have ag:b[iz]?=U f:=by simpa using l
     have c5:iz<b.size:=(pi.1 ag).1;have e1:=hf iz f ag;rw[cL aa] at e1;obtain⟨q1,q2⟩:=TS n m f.type fi _ _ D k1 e1 (λq bd=>ac q (awE (i:=iz) (by simp[l]) (by simp[show iz<Y u from aa]) bd));obtain⟨_,q4⟩:=aaR k4;have b4:j-f.offset<Y fi.ak:=aa;have ej:f.offset+(j-f.offset)=j:=aa;have v1:((cs.drop f.offset).take (P.cellsOf f.type))[j-f.offset]?=U v:=by
      rw[nA,aL aa,vw,ej];exact w
     have v2:((ti.ak.drop f.offset).take (Y fi.ak))[j-f.offset]?=U ct:=by
      rw[nA,aL b4,vw,ej];exact Q
     have v3:fi.ak[j-f.offset]?=U fi.ak[j-f.offset]:=cL b4;have cC:dd=(u[iz]' aa).1:=by
      have:=bb.2;rw[dX,cL aa] at this;exact(me this).symm
     have hE:ph P (m+1) t (.agg (u.map (·.1))) j=ph P m f.type (u[iz]' aa).1 (j-f.offset):=by
      simp only[ph,N,a4,cC]
     rw[hE];exact BF.ajx (q4 _ _ _ v2 v3) (q2 _ _ _ v3 v1)
   case array k e=>
    simp only[aA,cz] at M;obtain⟨⟨g1,A⟩,G⟩:=M;cases D:o e with
    |none=>rw[D] at G;cases G
    |some O=>
     rw[D] at G;simp only[aA,cz,f9,wV] at G;obtain⟨⟨g4,g5⟩,g6⟩:=G;obtain⟨u,n',hn,F,cl,cn,bk⟩:=DataW.trod_array N h;cases hn;subst F;simp only[DataW.weights,N] at ac;refine⟨aa,λj ct v Q w=> ?_⟩;have B:j<Y ti.ak:=(cj.1 Q).1;have bt:0<Y O.ak:=by
      rcases BG (Y O.ak) with y|y;rw[g5,y] at B;omega;exact y
     have l:j/Y O.ak<k:=aw2 (by rw[Uc];omega);have X:j%Y O.ak<Y O.ak:=Ia _ bt;have ej:j/Y O.ak*Y O.ak+j%Y O.ak=j:=by have:=ajS j (Y O.ak);rw[Uc] at this;exact this
     have e1:=bk (j/Y O.ak) l;rw[cL aa] at e1;obtain⟨q1,q2⟩:=TS n m e O _ _ D A e1 (λq bd=>ac q (ajz (iL.2 ⟨_,pl _,rfl⟩) bd));obtain⟨_,q4⟩:=aaR (g6 _ l);have v1:((cs.drop (j/Y O.ak*P.cellsOf e)).take (P.cellsOf e))[j%Y O.ak]?=U v:=by
      rw[g4,nA,aL X,vw,ej];exact w
     have v2:((ti.ak.drop (j/Y O.ak*Y O.ak)).take (Y O.ak))[j%Y O.ak]?=U ct:=by
      rw[nA,aL X,vw,ej];exact Q
     have v3:O.ak[j%Y O.ak]?=U O.ak[j%Y O.ak]:=cL X;have hE:ph P (m+1) t (.agg (u.map (·.1))) j=ph P m e (u[j/Y O.ak]' aa).1 (j%Y O.ak):=by
      simp only[ph,N,g4,dX];rw[cL aa];rfl
     rw[hE];exact BF.ajx (q4 _ _ _ v2 v3) (q2 _ _ _ v3 v1)

def TU(X:aY)(V:bn):Prop:=∀(q:Nat)(k:IntKind)(n:Int),X[q]?=U (.int k)->V[q]?=U (.i n)->(Lit.int k n).wf=J
def awH:∀{Ecel:Nat->Option RV}{ak:fp}{cs:gE},Y cs=Y ak->(∀(j:Nat)(V:CT)(v:Value),ak[j]?=U V->cs[j]?=U v->BF o W (Ecel j) V v)->
  ∃Q:bn,fq (ak.map vA) Q/\qi (ak.map vA) Q=cs/\Av o W (ak.map vA) Q/\(∀X,XV.r X∈Q->sH X)/\TU (ak.map vA) Q
 |_,[],[],_,_=>⟨[],trivial,rfl,λq e X h=>by simp at h,aw,λq k n h=>by simp at h⟩
 |_,[],_::_,h,_=>by simp at h
 |_,_::_,[],h,_=>by simp at h
 |Ecel,V::ak,v::cs,A,h=>by
  obtain⟨Q,R,O,y,w,t⟩:=awH (Ecel:=λj=>Ecel (j+1)) (ak:=ak) (cs:=cs) (by simpa using A) (λj c u H G=>h (j+1) c u (by simpa using H) (by simpa using G));obtain⟨x,H,G,s,p,m⟩:∃x:XV,sP (vA V) x/\x.at (vA V)=v/\(∀e X,vA V=.aj e->x=.r X->bI W o e X)/\(∀X,x=.r X->sH X)/\∀k n,vA V=.int k->x=.i n->(Lit.int k n).wf=true:=by
   have F:=h 0 V v rfl rfl;cases V with
   |int k=>
    obtain⟨⟨n,rfl,l⟩,_⟩:=F;exact⟨.i n,trivial,rfl,λe X h=>(by cases h),λX h=>(by cases h),λD B R O=>(by cases R;cases O;exact l)⟩
   |bool=>
    obtain⟨⟨n,rfl⟩,_⟩:=F;exact⟨.b n,trivial,rfl,λe X h=>(by cases h),λX h=>(by cases h),λD B R O=>(by cases R)⟩
   |aS z k=>
    obtain⟨X,rfl,g,f,_⟩:=F;exact⟨.r X,trivial,rfl,λe d R O=>(by cases R;cases O;exact g),λd h=>(by cases h;exact f),λD B R O=>(by cases R)⟩
  refine⟨x::Q,⟨H,R⟩, ?_,λq e X N M=> ?_,λX L=> ?_,λq k n N M=> ?_⟩;show x.at (vA V)::qi (ak.map vA) Q=_;rw[G,O];cases q with
  |zero=>simp at N M;exact s e X N M
  |succ q=>exact y q e X (by simpa using N) (by simpa using M)
  rcases dS.1 L with L|L;exact p X L.symm;exact w X L;cases q with
  |zero=>simp at N M;exact m k n N M
  |succ q=>exact t q k n (by simpa using N) (by simpa using M)
def awI:∀{X V:aY}{R Q:bn},fq X R->fq V Q->fq (X++V) (R++Q)/\qi (X++V) (R++Q)=qi X R++qi V Q
 |[],_,[],_,_,h=>⟨h,rfl⟩
 |[],_,_::_,_,h,_=>h.elim
 |_::_,_,[],_,h,_=>h.elim
 |k::X,V,x::R,Q,h,O=>by
  obtain⟨N,M⟩:=awI h.2 O;exact⟨⟨h.1,N⟩,by simp[qi,M]⟩
def ajA:∀{X:aY}{V:bn},fq X V->Y X=Y V
 |[],[],_=>rfl
 |[],_::_,h=>h.elim
 |_::_,[],h=>h.elim
 |k::X,x::V,h=>by simp[ajA h.2]
def aIG{X O:aY}{Q N:bn}(L:fq X Q)(h:Av o W X Q)(H:Av o W O N):Av o W (X++O) (Q++N):=by
 intro q e M V R;have G:=ajA L;by_cases F:q<Y X;rw[dZ F] at V;rw[dZ aa] at R;exact h q e M V R;rw[jd aa] at V;rw[jd aa,<-G] at R;exact H _ e M V R
def aIH{X O:aY}{Q N:bn}(M:fq X Q)(h:TU X Q)(L:TU O N):TU (X++O) (Q++N):=by
 intro q k n V R;have H:=ajA M;by_cases G:q<Y X;rw[dZ G] at V;rw[dZ aa] at R;exact h q k n V R;rw[jd aa] at V;rw[jd aa,<-H] at R;exact L _ k n V R
def aII{X:Type}{l:TypeId×Value->X}(mN:jW P o):∀{Q:kw}{O:gE}{F:List (DataW X)}{y:List MemPlace},Q.all (zO P o 9)=J->DataW.TrodAll l P W V H M Q O F y->(∀q∈DataW.weightsEach P Q F,q<=reachBytes)->
  (∀(j:Nat)(t:TypeId)(v:Value)(R:TI),Q[j]?=U t->O[j]?=U v->o t=U R->(R.d.isAgg=J/\v=.agg v.cells)\/(R.d.isAgg=E/\v.cells.toList=[v]))->
  ∃(D:aY)(N:bn),jp o Q=U D/\fq D N/\xw o Q (qi D N)=O/\Av o W D N/\(∀G,XV.r G∈N->sH G)/\TU D N:=by
 intro Q;induction Q with
 |nil=>
  intro O F y _ h _ _;have:O=[]:=by
   cases O with
   |nil=>rfl
   |cons v O=>cases F<;>simp[DataW.TrodAll] at h
  subst this;exact⟨[],[],rfl,trivial,rfl,λq e G h=>by simp at h,aw,λq k n h=>by simp at h⟩
 |cons t Q i=>
  intro O F y A h g u;obtain⟨v,al,d,f,p,q,rfl,rfl,rfl,⟨c,b⟩,a⟩:=Go.ChangeShapes.trodAll_cons h;simp only[OI,aA] at A;obtain⟨R,z⟩:∃R,o t=U R:=by
   cases L:o t with
   |none=>have:=A.1;simp[zO,L] at this
   |some R=>exact⟨R,rfl⟩
  have s:∀q,q∈DataW.weights P t d\/q∈DataW.weightsEach P Q f->q<=reachBytes:=λq L=>g q (by simp only[DataW.weightsEach,fh];exact L)
  obtain⟨m,c2⟩:=TS c 9 t R _ _ z A.1 b (λq L=>s q (.inl L));obtain⟨N,x,x2,x3,x4,x5⟩:=awH m c2;obtain⟨ac,af,y1,y2,y3,y4,y5,y6⟩:=i A.2 a (λq L=>s q (.inr L)) (λj t' v' ag q1 q2 q3=>u (j+1) t' v' ag (by simpa using q1) (by simpa using q2) q3);obtain⟨z1,z2⟩:=awI x y2;refine⟨R.ak.map vA++ac,N++af,by simp[jp,z,y1],z1, ?_,aIG x x3 y4,λG B=> ?_,aIH x x5 y6⟩;rw[z2,x2];simp only[xw,z];have hl:Y v.cells.toList=Y R.ak:=m;rw[awV aa,KM aa,aKi aa,aKw aa,di,y3];have e:=u 0 t v R rfl rfl z;congr 1;rcases e with⟨w,e⟩|⟨w,e⟩;rw[aL w];exact e.symm;rw[w,e];rfl;rcases fh.1 B with B|B;exact x4 G B;exact y5 G B
end
def aIJ{W R:Oper}{Q:Exit->Act->List Frame->World->Prop}{L H:List Frame}(z:(execOp A.eval W).run N X=.ok .recover X)(u:W.guard=Z)
  (M:recoverD L=U (O,H)\/(recoverD L=Z/\O=.nilIface/\H=L))
  (h:wpOpsIn Fence.wide 0 N #[W,R] (λe G F=>Q e G H F) [1] (A.put W.dst O) X):(Code.region V #[W,R] E).wpSIn Fence.wide 0 N Q A L X:=by
 intro b k t D s j;have r:Y H=Y L:=by
  rcases M with M|⟨_,_,rfl⟩;exact recoverD_length M;rfl
 obtain⟨e,G,F,q,p⟩:=wp_opsIn [1] _ X h b k H (D.trans rfl) s (room_wide _);refine⟨e,G,H,F,r,q,.of_steps (.one (fenced_wide _ _) stepR_region) ?_⟩;have y:(#[W,R]:dU)[0]?=U W:=rfl;have o:nC W (yielded #[W,R] A.tmps)=true:=by simp[nC,u]
 have x:=stepGR_op (P:=N) (b:=b) (k:=k) (cs:=L) (w:=X) (rest:=[1]) y o;rw[D,Oper.semAt_none] at x;have n:(b.atR A (.inRegion #[W,R] [0,1]::k)).kind=.deferred:=t;have B:=tryRecover_deferred n L;have m:(b.atR A (.inRegion #[W,R] [0,1]::k)).finish O=b.atR (A.put W.dst O) (.inRegion #[W,R] [1]::k):=by
  rw[Frame.finish_atR,y];rfl
 refine .of_steps (.one (fenced_wide _ _) (step_lone_go ?_)) p;rw[show fj (#[W,R]:dU).size=[0,1] from rfl,x,<-m];simp only[Frame.atR,D] at B⊢;rcases M with M|⟨M,l,rfl⟩;simp[stepG.apply,z,B,M];subst l;simp[stepG.apply,z,B,M]
def awJ{R W:Oper}{Q:Exit->Act->List Frame->World->Prop}{O cs':List Frame}{v:Value}{f:FuncId}{args:mG}(L:(execOp A.eval R).run N X=.ok .recover X)(H:R.guard=Z)
  (G:recoverD O=U (v,cs')\/(recoverD O=Z/\v=.nilIface/\cs'=O))(F:W.guard=Z)(D:(W.semAt Z (A.put R.dst v).eval).run N X=.ok (.enter f args) X)
  (h:Calls N f args X λe M=>∃u,e=.returned u/\Q .normal ((A.put R.dst v).put W.dst u) cs' M):(Code.region V #[R,W] E).wpSIn Fence.wide 0 N Q A O X:=by
 refine aIJ L H G ?_;show(if nC W _ then _ else _);rw[aL (by simp[nC,F])];refine⟨λ_ _=>trivial, ?_⟩;show Oper.uponIn Fence.wide 0 N W _ _ _ ((W.semAt Z (A.put R.dst v).eval).run N X);rw[D];refine⟨λh=>by simp[Fence.wide] at h,callsIn_wide.2 (h.mono ?_)⟩;rintro e M ⟨u,rfl,B⟩;exact B
@[local go_sem] def aLP (v:Value) (w:World):(Instr.typeAssert (.iface 45 v) 20 45 J).run Tryz.prog w=.ok (.tuple #[v,.bool J]) w:=bh
def aIK(b:Nat)(W:World):Calls Tryz.prog 35 #[.nilIface,.pointer (U ⟨b,0,Z⟩)] W λe X=>e=.returned (.tuple #[])/\X=W:=by
 go_enter Tryz.func35,Tryz.ntmps35;go_wp2
 (try simp only[Exit.inBlock,Exit.then]);refine bodyPost_ret (results_none rfl _ _ _) rfl ?_;exact⟨rfl,rfl⟩
def aIL(b:Nat)(X k:Int)(W:World)(R:W.cell? ⟨b,0,Z⟩=U (.int I X))(Q:W.frozen? ⟨b,0,Z⟩=E):Calls Tryz.prog 35 #[.iface 45 (.int I k),.pointer (U ⟨b,0,Z⟩)] W λe V=>e=.returned (.tuple #[])/\V=W.setCell ⟨b,0,Z⟩ (.int I k):=by
 go_enter Tryz.func35,Tryz.ntmps35;go_wp2
 go_end0
 exact⟨rfl,rfl⟩
def awK{u:Value}(h:X.heap[V]?=U (.cells #[u] L (0,0))):X.setCell ⟨V,0,Z⟩ O=X.putObj V (.cells #[O] L (0,0)):=by
 unfold abb H9;congr 1;apply Array.ext_getElem?;intro i;rw[TY,Array.getElem?_setIfInBounds];by_cases R:V=i;subst R;have Q:V<X.heap.size:=(pi.1 h).1;rw[aL rfl,aL rfl,h,aL Q];rfl;rw[aP R,aP R]
def ajB{g:FuncId}{X:Func}{D:TypeId}{B A:String}{z y:Array Edge}(N:Tryz.prog.funcs[g]?=U X)(x:xu Tryz.prog g=J)(M:X.ntmps=3)(cG:X.results= #[])
  (H:X.body=U (.region V #[⟨U 1,.call {callee:=.builtin .recover,args:= #[],argTypes:= #[]},L,B,z,Z⟩,⟨U 2,.call {callee:=.value (.func 35),args:= #[.tmp 1,.tmp 0],argTypes:= #[20,101]},D,A,y,Z⟩] E)):s4 Tryz.prog g 45:=by
 have G:∀F W,(callFunc 35 F).run Tryz.prog W=.ok (.enter 35 F) W:=yR bh;refine⟨yR x,λW b=> ?_,λW b w k Q=> ?_⟩;refine callsDIn_of_wpSIn N H (by simp[Fence.wide]) λP O R=> ?_
 rw[M];refine awJ (v:=.nilIface) (cs':=P::O) (f:=35) (args:= #[.nilIface,.pointer (U ⟨b,0,Z⟩)]) rfl rfl (.inr ⟨by simp[recoverD,R],rfl,rfl⟩) rfl (by simp[Oper.semAt,go_sem,Act.put,G]) ?_;refine(aIK b W).mono ?_;rintro e u ⟨rfl,rfl⟩;refine⟨_,rfl,rfl,.returning,by rw[<-R],.tuple #[], ?_,⟨_,rfl⟩,rfl,rfl⟩;simp[results,cG];refine callsDIn_of_wpSIn N H (by simp[Fence.wide]) λP O R=> ?_
 rw[M];refine awJ (v:=.iface 45 (.int I k)) (cs':={P with mode:=.panicking [{v:=.iface 45 (.int I k),recovered:=J}]}::O) (f:=35) (args:= #[.iface 45 (.int I k),.pointer (U ⟨b,0,Z⟩)]) rfl rfl (.inl (by simp[recoverD,R])) rfl (by simp[Oper.semAt,go_sem,Act.put,G]) ?_;refine(aIL b w k W (by simp[oC,Q]) (by simp[abc,Q])).mono ?_;rintro e u ⟨rfl,rfl⟩;refine⟨_,rfl,rfl,_,rfl,.tuple #[], ?_,⟨_,rfl⟩,rfl,awK Q⟩;simp[results,cG]
def aIM:s4 Tryz.prog 34 45:=ajB Tryz.func34 bh rfl rfl rfl
def aIN:s4 Tryz.prog 46 45:=ajB Tryz.func46 bh rfl rfl rfl
def aIO:s4 Tryz.prog 61 45:=ajB Tryz.func61 bh rfl rfl rfl
def aIP(W:World)(b:Nat):CallsDIn Fence.wide 0 Tryz.prog 151 #[.pointer (U ⟨b,0,Z⟩)] .returning W λR u Q=>(∃v,R=.returned v)/\u=.returning/\Q=W:=by
 refine callsDIn_of_wpSIn Tryz.func151 rfl (by simp[Fence.wide]) λV P X=> ?_
 have O:V={V with mode:=.returning}:=by rw[<-X]
 rw[Tryz.ntmps151];apply wpSIn_seq;apply wpSIn_region;simp[wpOpsSIn,go_sem,recoverD,X,Exit.thenS];refine wpSIn_of_wpIn rfl (wpIn_wide.2 ?_);go_wp2;refine⟨rfl,.returning,by rw[<-X],.tuple #[], ?_,⟨_,rfl⟩,rfl,rfl⟩;simp[results,Tryz.results151]
def aIQ(W:World)(b:Nat)(V k:Int)(X:W.heap[b]?=U (.cells #[.int I V] 45 (0,0))):CallsDIn Fence.wide 0 Tryz.prog 151 #[.pointer (U ⟨b,0,Z⟩)] (.panicking [{v:=.iface 45 (.int I k),recovered:=E}]) W λR u Q=>(∃v,R=.returned v)/\u=.panicking [{v:=.iface 45 (.int I k),recovered:=J}]/\Q=W.putObj b (.cells #[.int I k] 45 (0,0)):=by
 have dH:W.cell? ⟨b,0,Z⟩=U (.int I V):=by simp[oC,X]
 have O:W.frozen? ⟨b,0,Z⟩=false:=by simp[abc,X]
 refine callsDIn_of_wpSIn Tryz.func151 rfl (by simp[Fence.wide]) λN M P=> ?_
 rw[Tryz.ntmps151];apply wpSIn_seq;apply wpSIn_region;simp[wpOpsSIn,go_sem,recoverD,P,Exit.thenS];refine wpSIn_of_wpIn rfl (wpIn_wide.2 ?_);go_wp2;refine⟨rfl,_,rfl,.tuple #[], ?_,⟨_,rfl⟩,rfl,awK X⟩;simp[results,Tryz.results151]
def aIR:s4 Tryz.prog 151 45:=⟨yR bh,aIP,aIQ⟩
section
open Go.Shelf
def Tryz.indexB_ren:Go.Shelf.Ren:=⟨λ|137=>272|217=>319|266=>357|n=>n,λ|9=>9|5=>5|3=>3|n=>n,λ|n=>n⟩
def Tryz.indexB:Go.Proofs.Lays.n137 Tryz.prog Tryz.indexB_ren:={mixed:=bh,f137:=eM Tryz.func272 bh,f217:=eM Tryz.func319 bh,f266:=eM Tryz.func357 bh,t3:=Tryz.underlying3,a3:=Tryz.isAgg3,z3:=Tryz.sizeOf3,v3:=Tryz.zeroValue3,t5:=Tryz.underlying5,a5:=Tryz.isAgg5,z5:=Tryz.sizeOf5,v5:=Tryz.zeroValue5,t9:=Tryz.underlying9,a9:=Tryz.isAgg9,z9:=Tryz.sizeOf9,v9:=Tryz.zeroValue9}
def aIS:look PT 272=U [9,5]:=bh
def aIT:look SG 272=U [3]:=bh
def aIU:jp (look TT) [9,5]=U [.aj .str,.int .u8]:=bh
def aIV:jp (look TT) [3]=U [.int I]:=bh
def awL:∀(l:List UInt8)(b:UInt8),-1<=Lib.indexByte l b
 |[],_=>by simp[Lib.indexByte]
 |x::l,b=>by
  have:=awL l b;simp only[Lib.indexByte];split;omega;split<;>omega
def awM:∀(l:List UInt8)(b:UInt8)(k:Nat),HC k l b=if Lib.indexByte l b=-1 then-1 else Lib.indexByte l b+k
 |[],_,_=>by simp[HC,Lib.indexByte]
 |x::l,b,k=>by
  have V:=awM l b (k+1);have R:=awL l b;simp only[HC,Lib.indexByte,du];by_cases X:x=b;simp[X];rw[aP X,aP X,V];by_cases W:Lib.indexByte l b=-1;simp[W];rw[aP W,aP W,aP aa];omega
def aIW(l:List UInt8)(b:UInt8):HC 0 l b=Lib.indexByte l b:=by
 rw[awM];split;rename_i h;rw[h];simp
def aIX:t6 M 272 ZK:=by
 intro m l k j N L H G F D out O Q P W g w;rw[aIS] at N;cases N;rw[aIT] at L;cases L;rw[aIU] at H;cases H;rw[aIV] at G;cases G;rcases D with _|⟨x,_|⟨y,_|⟨M,D⟩⟩⟩;exact P.elim;exact P.2.elim
 ·obtain⟨B,A,_⟩:=P;cases x with
  |i n=>exact B.elim
  |b n=>exact B.elim
  |r v=>
  cases y with
  |b n=>exact A.elim
  |r n=>exact A.elim
  |i c=>
  have u:=w 0 .str v rfl rfl;cases u with
  |str t=>
  rcases F with _|⟨s,_|⟨q,_|⟨f,F⟩⟩⟩;exact Q.elim;exact Q.2.elim
  ·obtain⟨V,R,_⟩:=Q;cases s with
   |i n=>exact V.elim
   |b n=>exact V.elim
   |r p=>
   cases q with
   |b n=>exact R.elim
   |r n=>exact R.elim
   |i X=>
   have R:X=c:=R;subst R;have V:dD p (.mk (.string t) []):=V;cases V with
   |val=>
   have O:U (bv.ret [.i (HC 0 t.toList (UInt8.ofNat X.toNat))])=U out:=O;cases O;have h:=Any.strings_IndexByte Tryz.indexB t X W;refine Calls.mono (show Calls Tryz.prog 272 #[.string t,.int .u8 X] W _ from h) ?_;rintro e d ⟨rfl,rfl⟩;refine⟨_,[.i (Lib.indexByte t.data.toList X.toNat.toUInt8)],rfl,⟨?_,trivial⟩,⟨trivial,trivial⟩,rfl,Below.refl _ _,aac aw,λb o=>(auC aw o).elim⟩;show HC 0 t.toList (UInt8.ofNat X.toNat)=_;rw[aIW,ByteArray.toList_eq]
  exact Q.2.2.elim
 exact P.2.2.elim
def awN:∀{n:Nat}{R X:bn},Cj R X->fq (eH n (.int I)) X->∃l:bw,Y l=n/\R=l.map XV.i/\X=l.map XV.i
 |0,R,X,W,V=>by
  cases X with
  |cons _ _=>exact V.elim
  |nil=>
   cases R with
   |cons _ _=>exact W.elim
   |nil=>exact⟨[],rfl,rfl,rfl⟩
 |n+1,R,[],W,V=>V.elim
 |n+1,[],x::X,W,V=>W.elim
 |n+1,y::R,x::X,W,V=>by
  obtain⟨l,P,O,N⟩:=awN (n:=n) W.2 V.2;have e:=W.1;have f:=V.1;cases x with
  |b q=>exact f.elim
  |r q=>exact f.elim
  |i m=>
   cases y with
   |b q=>exact e.elim
   |r q=>exact e.elim
   |i Q=>
    have e:Q=m:=e;subst e;exact⟨Q::l,by simp[P],by simp[O],by simp[N]⟩
def awO(a b c d:Int):bc a b c d=K.kS.valid ⟨⟨a,b⟩,⟨c,d⟩⟩:=by
 rw[vx];simp[bc,K.kS.valid,K.Bv];omega
def aIY(a b c d X W V R:Int):Bi a b c d X W V R= !(K.kS.vf ⟨⟨a,b⟩,⟨c,d⟩⟩ ⟨⟨X,W⟩,⟨V,R⟩⟩):=by
 simp only[Bi,K.kS.vf,K.Range.vf,axg]
def aIZ:look PT 26=U [65,65]:=bh
def aI0:look SG 26=U [4,45]:=bh
def k26:jp (look TT) [65,65]=U (eH 8 (.int I)):=bh
def q26:jp (look TT) [4,45]=U [.bool,.int I]:=bh
def aI3(a b c d X W V R:Int):(xw (look TT) [65,65] (qi (eH 8 (.int I)) [.i a,.i b,.i c,.i d,.i X,.i W,.i V,.i R])).toArray= #[K.kS.v ⟨⟨a,b⟩,⟨c,d⟩⟩,K.kS.v ⟨⟨X,W⟩,⟨V,R⟩⟩]:=bh
def aI4(x:Bool)(e:Int):Ja (xw (look TT) [4,45] (qi [.bool,.int I] [.b x,.i e]))=.tuple #[.bool x,.int I e]:=bh
def aI5{l:bw}(h:Y l=8):∃a b c d X W V R,l=[a,b,c,d,X,W,V,R]:=by
 match l,h with
 |[a,b,c,d,X,W,V,R],_=>exact⟨a,b,c,d,X,W,V,R,rfl⟩
def aI6:t6 M 26 ZJ:=by
 intro t s r q X V F D p o out L A y W m k;rw[aIZ] at X;cases X;rw[aI0] at V;cases V;rw[k26] at F;cases F;rw[q26] at D;cases D;obtain⟨l,w,rfl,rfl⟩:=awN (n:=8) A y;obtain⟨a,b,c,d,Q,P,O,N,rfl⟩:=aI5 w;have v:=aI3 a b c d Q P O N;simp only[eW,Dv] at L⊢;rw[v];simp only[ZJ,cS] at L;subst L;have H:∀(x:Bool)(e:Int)(G:World),Below W.heap.size W G->Qj (look TT) [4,45] [.bool,.int I] W (eH 8 (.int I)) [.i a,.i b,.i c,.i d,.i Q,.i P,.i O,.i N] (.ret [.b x,.i e]) (.returned (.tuple #[.bool x,.int I e])) G:=λx e G R=>
  ⟨_,[.b x,.i e],rfl,⟨rfl,rfl,trivial⟩,⟨trivial,trivial,trivial⟩,(aI4 x e).symm,R,aac aw,λb u=>(auC aw u).elim⟩
 rw[awO,awO];by_cases X:K.kS.valid ⟨⟨a,b⟩,⟨c,d⟩⟩=J;by_cases V:K.kS.valid ⟨⟨Q,P⟩,⟨O,N⟩⟩=J;rw[X,V];refine(aDf _ _ X V (Bi a b c d Q P O N) (by rw[aIY];simp) W).mono ?_;rintro e B ⟨rfl,R⟩;exact H _ _ _ R;have V:K.kS.valid ⟨⟨Q,P⟩,⟨O,N⟩⟩=false:=by simpa using V
 rw[X,V];refine(aDh _ _ X V W).mono ?_;rintro e B ⟨rfl,R⟩;exact H _ _ _ R;have X:K.kS.valid ⟨⟨a,b⟩,⟨c,d⟩⟩=false:=by simpa using X
 rw[X];refine(aDg _ _ X W).mono ?_;rintro e B ⟨rfl,R⟩;exact H _ _ _ R
def aI7(f:FuncId):t6 M f (Kc f):=by
 unfold Kc;by_cases X:f=26;subst X;exact aI6;by_cases W:f=272;subst W;exact aIX;simp only[X,W,gD];exact aig f
end
def aI8(f:FuncId)(X:Fn)(h:TB.tree f=U X):bB f X.g X.d X.t:=by
 have h:HD f=U X:=h;unfold HD at h;split at h;cases h;exact aF8;cases h;exact aF9;cases h;exact aGa;cases h;exact aGb;cases h;exact aGc;cases h;exact aGd;cases h;exact awe;cases h;exact awf;cases h;exact awg;cases h;exact aGe;cases h;exact aGf;cases h;exact awh;cases h;exact awi;cases h;exact awj;cases h;exact aGg;cases h;exact aGh;cases h;exact aGi;cases h;exact aGj;cases h;exact aGk;cases h;exact aGl;cases h;exact aGm;cases h;exact aGn;cases h;exact aGo;cases h;exact aGp;cases h;exact aGq;cases h;exact aGr;cases h;exact aGs;cases h;exact aGt;cases h;exact aGu;cases h;exact aG3;cases h;exact aG4;cases h;exact aG5;cases h;exact aG6;cases h;exact aG7;cases h;exact aG8;cases h;exact aG9;cases h;exact aHa;cases h;exact aHb;cases h;exact aHc;cases h;exact aHd;cases h;exact aHe;cases h;exact aHf KK;cases h;exact aHg;cases h;exact aHh;cases h;exact aHi;cases h;exact aHj;cases h;exact aHk KK;cases h;exact aHm;cases h;exact aHn;cases h;exact aHo;cases h;exact aHp;cases h;exact aHq;cases h;exact aHr;cases h;exact aHs KK;cases h;exact aHt;cases h;exact aHu;cases h;exact aHv aIR;cases h;exact aHw aIM;cases h;exact aHx KK aIN;cases h;exact aHy;cases h;exact aHz KK;cases h;exact aHA;cases h;exact aHB KK;cases h;exact aHl;cases h;exact aHC;cases h;exact aHD KK;cases h;exact aHE;cases h;exact aHF aIO;cases h;exact aHG;cases h;exact aHH;cases h;exact aHI;cases h;exact aHJ;cases h;exact aHK;cases h;exact aHL;cases h;exact aHM;cases h;exact aHN;cases h;exact aHO;cases h;exact aHP;cases h;exact aHQ;cases h;exact aHR;cases h;exact aHS;cases h;exact aHT;cases h;exact aHU;cases h;exact aHV;cases h;exact aHW;cases h;exact aHX;cases h;exact aHY;cases h;exact aHZ;cases h;exact aH0;cases h;exact aH1;cases h;exact aH2;cases h;exact aH3;cases h;exact aH4;cases h;exact aH5;cases h;exact aH6;cases h;exact aH7;cases h;exact aH8;cases h;exact aH9;cases h;exact aIa;cases h;exact aIb;cases h;exact aIc;cases h;exact aId;cases h;exact aIe;cases h;exact aIf;cases h;exact aIg;cases h;exact aIh;cases h;exact aIi;cases h;exact aIj;cases h;exact aIk;cases h;exact aIl;cases h;exact aIm;cases h;exact aIn;cases h;exact aIo;cases h;exact aIp;cases h;exact aIq;cases h;exact aIr;cases h;exact aIs;cases h;exact aIt;cases h;exact aIu;cases h;exact aIv;cases h;exact aIw;cases h;exact aIx;cases h;exact aIy;cases h;exact aIz;cases h;exact aIA;cases h;exact aIB;cases h;exact aIC;cases h;exact aID;cases h;exact ok5;cases h
def aI9:aii TB true:=⟨aI8,λ_ _ _ _=>rfl,aI7⟩
def aJa:([32,35,36,44,37]:List TypeId).all (zO Tryz.prog (look TT) 9)=true:=bh
def pt5:look PT 5=U [32,35,36,44,37]:=bh
def aJc:look SG 5=U [4]:=bh
def qk5:jp (look TT) [4]=U [.bool]:=bh
def kk5:jp (look TT) [32,35,36,44,37]=U [.int I,.int I,.int I,.int I,.int I,.aj (.sl 173),.int I,.aj (.sl 175),.aj (.sl 312),.aj (.sl 314),.aj (.sl 90),.aj (.sl 73),.aj (.sl 79),.int I,.aj (.sl 4),.aj (.sl 71),.aj (.sl 71),.aj (.sl 82),.aj (.sl 65),.aj (.sl 4)]:=bh
def r82:bH (look TT) (.sl 82)=[.aS (.slice Z 0 0) (.sl 96)]:=bh
def KL{k:IntKind}(h:fq (.int k::F) D):∃n X,D=.i n::X/\fq F X:=by
 cases D with
 |nil=>exact h.elim
 |cons x D=>
  cases x with
  |i n=>exact⟨n,D,rfl,h.2⟩
  |b n=>exact h.1.elim
  |r n=>exact h.1.elim
def yp{k:RK}(h:fq (.aj k::F) D):∃n X,D=.r n::X/\fq F X:=by
 cases D with
 |nil=>exact h.elim
 |cons x D=>
  cases x with
  |r n=>exact⟨n,D,rfl,h.2⟩
  |b n=>exact h.1.elim
  |i n=>exact h.1.elim
def wR(h:bI X B (.sl L) z)(V:sH z):Sl z:=by
 cases V with
 |mk z R P=>
 cases h with
 |sl L A O N M Q H G F D y=>
  refine⟨⟨_,_,_,rfl⟩, ?_,R⟩;simp only[RV.nJ,RV.nK,lenOf,Q]
def aJe(h:bI X (look TT) (.sl 82) z)(M:sH z):∀i<Y z.ae,Sl (cr 96 z i):=by
 intro i R;cases M with
 |mk x w P=>
 cases h with
 |sl e A L H V v u G t s F=>
  rw[RV.nK] at R P;have Q:V[i]?=U V[i]:=cL R;have r:(V[i]).length=1:=by have:=(G i _ Q).1;rw[r82] at this;exact this
  have O:(V[i])[0]?=U (V[i])[0]:=cL aa;have D:=F i 0 _ _ _ _ Q O (by rw[r82];rfl);have B:=P _ (pl R) _ (pl (aa:0<(V[i]).length));have N:=wR D B;have e:cr 96 (.mk (.slice A L H) V) i=(V[i])[0]:=by
   unfold cr aZ;simp only[RV.nK,zR,dL,Q,O,pZ];obtain⟨a,n,c,y⟩:=N.sl;simp[db,y]
  rw[e];exact N
def aJf(hS:TB.Ev 11 [] (.ret [.b J])){Q:Type}{ag:TypeId×Value->Q}{G:List Value}{g:List (DataW Q)}(hG:GW X)(hT:DataW.TrodAll ag Tryz.prog X V H M [32,35,36,44,37] G g R)(hw:∀q∈DataW.weightsEach Tryz.prog [32,35,36,44,37] g,q<=reachBytes)
  (hv:∀(j:Nat)(t:TypeId)(v:Value)(z:TI),([32,35,36,44,37]:List TypeId)[j]?=U t->G[j]?=U v->look TT t=U z->(z.d.isAgg=J/\v=.agg v.cells)\/(z.d.isAgg=E/\v.cells.toList=[v])):
  Calls Tryz.prog 5 G.toArray X λe f=>e=.returned (.bool J)/\Below X.heap.size X f:=by
 obtain⟨ks,xs,c,a,h3,O,N,h6⟩:=aII N3 aJa hT hw hv;rw[kk5] at c;cases c;have hf:=a;obtain⟨Wd,x1,rfl,al⟩:=KL hf;obtain⟨D,x2,rfl,an⟩:=KL al;obtain⟨A,x3,rfl,a0⟩:=KL an;obtain⟨B,x4,rfl,a1⟩:=KL a0;obtain⟨P,x5,rfl,a3⟩:=KL a1;obtain⟨rl,x6,rfl,a4⟩:=yp a3;obtain⟨a9,x7,rfl,bb⟩:=KL a4;obtain⟨tp,x8,rfl,bg⟩:=yp bb;obtain⟨pq,x9,rfl,bk⟩:=yp bg;obtain⟨sp,ca,rfl,bl⟩:=yp bk;obtain⟨sg,cc,rfl,br⟩:=yp bl;obtain⟨x,cf,rfl,bs⟩:=yp br;obtain⟨w,Ol,rfl,bt⟩:=yp bs;obtain⟨ah,cl,rfl,b0⟩:=KL bt;obtain⟨u,cn,rfl,b1⟩:=yp b0;obtain⟨s,cp,rfl,b2⟩:=yp b1;obtain⟨p,cs,rfl,b3⟩:=yp b2;obtain⟨F,ct,rfl,b4⟩:=yp b3;obtain⟨o,cv,rfl,b5⟩:=yp b4;obtain⟨m,b6,rfl,b7⟩:=yp b5;cases b6 with
 |cons _ _=>exact b7.elim
 |nil=>
 have q0:=wR (O 5 _ rl rfl rfl) (N _ aw);have q1:=wR (O 7 _ tp rfl rfl) (N _ aw);have q2:=wR (O 8 _ pq rfl rfl) (N _ aw);have q3:=wR (O 9 _ sp rfl rfl) (N _ aw);have q4:=wR (O 10 _ sg rfl rfl) (N _ aw)
 letI:Inhabited dB:=⟨⟨Wd,D,A,B,P,a9,rl,tp,pq,sp,sg⟩⟩
 have s1:gc:=⟨q0,q1,q2,q3,q4⟩;obtain⟨n,hn⟩:=t5 hS s1 ah x w u s p F o m (wR (O 11 _ x rfl rfl) (N _ aw)) (wR (O 12 _ w rfl rfl) (N _ aw)) (wR (O 14 _ u rfl rfl) (N _ aw)) (wR (O 15 _ s rfl rfl) (N _ aw)) (wR (O 16 _ p rfl rfl) (N _ aw)) (wR (O 17 _ F rfl rfl) (N _ aw)) (wR (O 18 _ o rfl rfl) (N _ aw)) (aJe (O 17 _ F rfl rfl) (N _ aw)) (wR (O 19 _ m rfl rfl) (N _ aw));have ac:=Z9 aI9 n 5 _ _ _ _ pt5 aJc kk5 qk5 _ _ _ hn (aab _) a X (λ_=>hG) O;have b8:xw (look TT) [32,35,36,44,37] (qi _ (wk++[.r x,.r w,.i ah,.r u,.r s,.r p,.r F,.r o,.r m]))=G:=h3;rw[b8] at ac;refine ac.mono ?_;intro e f h;cases e with
 |returned v=>
  obtain⟨yh,l,k,L,e3,rfl,hB,_,_⟩:=h;cases k;cases l with
  |nil=>exact L.elim
  |cons y l=>
   cases l with
   |cons _ _=>exact L.2.elim
   |nil=>
    cases y with
    |b q=>
     have:J=q:=L.1;subst this;exact⟨rfl,hB⟩
    |i q=>exact L.1.elim
    |r q=>exact L.1.elim
 |panicked ch=>obtain⟨_,v,k,_⟩:=h;cases k
 |outgrown=>exact h.elim
section
open Go.ChangeShapes Go.RowKit
def aJg{H:Type}{G:TypeId×Value->H}(B:laidOutB N=J){F:World}(A:Below X.heap.size X F):∀{V:List TypeId}{Q:List Value}{O:List (DataW H)}{R:List MemPlace},V.all (λt=>N.readableRec t&&decide (t<N.types.size))=J->DataW.TrodAll G N X 0 (λ_=>J) J V Q O R->(∀x∈R,x.block<X.heap.size)->DataW.TrodAll G N F 0 (λb=>decide (b<X.heap.size)) J V Q O R:=by
 intro V;induction V with
 |nil=>
  intro Q O R _ h _;obtain⟨rfl,rfl,rfl⟩:=trodAll_nil h;exact rfl
 |cons t V z=>
  intro Q O R M h D;obtain⟨v,u,d,s,p,q,rfl,rfl,rfl,y,w⟩:=trodAll_cons h;simp only[OI,aA,cz] at M;exact⟨p,q,Go.RowKit.Below.trod B M.1.1 M.1.2 y A (λx L=>D x (by simp[L])),z (by simpa using M.2) w (λx L=>D x (by simp[L])),rfl⟩
def aJh:laidOutB Tryz.prog=true:=bh
def rd5:([32,35,36,44,37]:List TypeId).all (λt=>Tryz.prog.readableRec t&&decide (t<Tryz.prog.types.size))=true:=bh
def aJj{H:Type}{O:TypeId×Value->H}{N:World}{D B:List (DataW H)}(V:DataW.Whole O Tryz.prog Tryz.f5.params.toList [] E X Q.toList D B R)(M:Below X.heap.size X N):
  Rows.certifyPartSpecSpec.post O Tryz.prog Tryz.f5 E J E E X Q (.bool J) N:=by
 have A:=V.lt;have z:=V;obtain⟨p,q,L,y,rfl,_,_⟩:=V;obtain⟨rfl,rfl⟩:=trodVars_none y;have P:Tryz.f5.params.toList=[32,35,36,44,37]:=by rw[Tryz.params5]
 have G:=L;rw[P] at G;obtain⟨o,n,m,l,k,j,_,rfl,rfl,_,w⟩:=trodAll_cons G;obtain⟨i,g,f,e,d,c,_,rfl,rfl,_,v⟩:=trodAll_cons w;obtain⟨b,a,d3,e3,p3,q3,_,rfl,rfl,_,u⟩:=trodAll_cons v;obtain⟨v4,r4,d4,e4,p4,q4,_,rfl,rfl,_,t⟩:=trodAll_cons u;obtain⟨v5,r5,d5,e5,p5,q5,_,rfl,rfl,_,s⟩:=trodAll_cons t;obtain⟨_,rfl,rfl⟩:=trodAll_nil s;have F:=aJg aJh M rd5 (by rw[<-P];exact L) (λx r=>A x (by simpa using r));rw[<-P] at F;exact⟨_,_,_,[],_,[],z,trodAll_mk1 (shut_bool Tryz.underlying4 _),F,rfl,Below.frame M _,λh=>(by cases h)⟩
end
section
open Go.ChangeShapes Go.RowKit Go.ChangeAt
abbrev gn(k:Nat):String:=Rows.certifyPartSpecRow.named.getD k ""
abbrev L3{H:Type}:List (String×DataW H):=[(gn 1,Rows.laid_kinesphere_space_flat),(gn 0,Rows.laid_kinesphere_expand_kinds),(gn 2,Rows.laid_kinesphere_motion_kinds)]
def aJk(mN:jW N B){G:TI}(h:B L=U G)(Q:Value.okWide N X .any V L O):(G.d.isAgg=J/\O=.agg O.cells)\/(G.d.isAgg=E/\O.cells.toList=[O]):=by
 have R:=(mN L G h).desc;have D:∀d,N.underlying L=U d->(∀F,d≠ .struct F)->(∀n e,d≠ .array n e)->O.cells.toList=[O]:=by
  intro d H y x;cases O<;>try rfl
  case agg A=>
   exfalso;unfold Value.okWide at Q;rw[H] at Q;cases d<;>first|exact y _ rfl|exact x _ _ rfl|simp[Cell.okWide,Cell.ok,H] at Q
 cases w:G.d<;>rw[w] at R
 case one=>
  obtain⟨d,H,⟨z,_⟩,_⟩:=R;exact .inr ⟨rfl,D d H (λF e=>by subst e;exact z) (λn e M=>by subst M;exact z)⟩
 case gF=>obtain⟨m,H⟩:=R;exact .inr ⟨rfl,D _ H (λF e=>by cases e) (λn e M=>by cases M)⟩
 case str=>exact .inr ⟨rfl,D _ R (λF e=>by cases e) (λn e M=>by cases M)⟩
 case slice e=>exact .inr ⟨rfl,D _ R (λF e=>by cases e) (λn e M=>by cases M)⟩
 case map k e n u=>exact .inr ⟨rfl,D _ R (λF e=>by cases e) (λn e M=>by cases M)⟩
 case arr n e=>
  have R:N.underlying L=U (.array n e):=R;unfold Value.okWide at Q;rw[R] at Q;obtain⟨A,rfl,_⟩:=Q;exact .inl ⟨rfl,rfl⟩
 case struct s=>
  obtain⟨F,H,_⟩:=R;unfold Value.okWide at Q;rw[H] at Q;obtain⟨A,rfl,_⟩:=Q;exact .inl ⟨rfl,rfl⟩
def aJl:ownKnob Tryz.prog.godebug=none:=bh
def aJm(B:TB.Ev 11 [] (.ret [.b J])){H:Type}{O:TypeId×Value->H}{N M:List (DataW H)}(A:GW X)
  (z:∀(j:Nat) t v,Tryz.f5.params[j]?=U t->Q[j]?=U v->Value.okWide Tryz.prog X .any V t v)(L:DataW.Whole O Tryz.prog Tryz.f5.params.toList [] E X Q.toList N M R)
  (P:(DataW.weightsEach Tryz.prog (Tryz.f5.params.toList++[]) (N++M)).all (·<=reachBytes)=J):
  Calls Tryz.prog 5 Q X λe G=>∃v,e=.returned v/\Rows.certifyPartSpecSpec.post O Tryz.prog Tryz.f5 E J E E X Q v G:=by
 have y:=L;obtain⟨p,q,F,x,rfl,_,_⟩:=L;obtain⟨rfl,rfl⟩:=trodVars_none x;have D:Tryz.f5.params.toList=[32,35,36,44,37]:=by rw[Tryz.params5]
 rw[D] at F P;simp only[KQ,f9,cz] at P;have w:=aJf B A F P (λj t v l u s r=>by
  have o:Tryz.f5.params[j]?=U t:=by rw[<-aaW,D];exact u
  have n:=z j t v o (by rw[<-aaW];exact s);exact aJk N3 r n)
 refine w.mono ?_;rintro e G ⟨rfl,m⟩;exact⟨_,rfl,aJj y m⟩

def aJn(X:Os)(W:Array Value):laidMetH Tryz.prog L3 ((World.doorLaid Tryz.prog 400 X).forCall (λ_ _=>0) ⟨#[],W,[]⟩).memory:=
 laidMetH_of_parts3 (fuel:=8) (laidMet_of_run' 8 bh bh) bh bh
def aJo(P:TB.Ev 11 [] (.ret [.b J]))(O:∀W,laidMetH Tryz.prog L3 W->GW W)(V:Os)(started:V.Started)(H:Type)(R:TypeId×Value->H):
  ReturnsInHanded {} Tryz.checked V 5 .any (λw Q=>(Rows.certifyPartSpecSpec.pre R Tryz.prog Tryz.f5 [] E w Q/\laidMetH Tryz.prog L3 w)/\sizedMet R Tryz.prog Tryz.f5 (OpenSpec.ofChange Rows.certifyPartSpecSpec) E w Q)
   (Rows.certifyPartSpecSpec.post R Tryz.prog Tryz.f5 E J E E):=by
 refine returnsInHanded_of_change_and (C:=Tryz.checked) (X:=λw _=>laidMetH Tryz.prog L3 w) (λ_ _ _ N h=>h.of_heap N) aJl started bh Tryz.func5
  (ChangeSpec.witness_shaped (enc:=R) (C:=Tryz.checked) (os:=V) (X:=λw _=>laidMetH Tryz.prog L3 w) E (World.doorLaid Tryz.prog 400 V) #[.agg #[.int I 0,.int I 0,.int I 0,.int I 0,.int I 0,.slice Z 0 0,.int I 0,.slice Z 0 0,.slice Z 0 0,.slice Z 0 0,.slice Z 0 0],.agg #[.slice Z 0 0],.slice Z 0 0,.agg #[.int I 0,.slice Z 0 0,.slice Z 0 0,.slice Z 0 0,.slice Z 0 0,.slice Z 0 0],.slice Z 0 0] 8 rfl (World.shaped_of_RefB bh bh) bh bh bh (aJn V _)) ?_
 intro W D Q B A before M L _ G F _;exact aJm P (O W F) M L G
end
section
variable{P:Program}{ty:Ty}{W:World}
def zP{X:Type}(w:Nat):Nat->List X->List (List X)
 |0,_=>[]
 |n+1,l=>l.take w::zP w n (l.drop w)
def TV{X:Type}{w:Nat}:∀{n:Nat}{l:List X},(zP w n l).length=n
 |0,_=>rfl
 |n+1,l=>by simp[zP,TV (n:=n)]
def aaT{X:Type}{w:Nat}:∀{n:Nat}{l r:List X}{i:Nat},(zP w n l)[i]?=U r->i<n/\r=(l.drop (i*w)).take w
 |0,l,r,i,h=>by simp[zP] at h
 |n+1,l,r,0,h=>by simp[zP] at h;exact⟨aa,by simp[h]⟩
 |n+1,l,r,i+1,h=>by
  simp only[zP,ud] at h;obtain⟨R,V⟩:=aaT h;refine⟨aa, ?_⟩;rw[V,OH];congr 2;rw[rI];omega
def Ox{R:Type}{n:Nat}{l r:List R}{i j:Nat}{c:R}(h:(zP V n l)[i]?=U r)(X:r[j]?=U c):i<n/\j<V/\l[i*V+j]?=U c:=by
 obtain⟨Q,rfl⟩:=aaT h;rw[nA] at X;split at X;rename_i O;rw[vw] at X;exact⟨Q,O,X⟩;cases X
def TW{H:Type}(P:Program)(t:TypeId)(d:DataW H)(w n:Nat):List (List RV):=zP w n ((fj (n*w)).map λj=>(ph P 9 t d j).getD default)
def ajC{g n w:Nat}{e t:TypeId}{G F:TI}{d:DataW Unit}(ac:ty e=U G)(af:ty t=U F)(hw:Y G.ak=w)(A:Y F.ak=n*w)(ag:(fj n).map (λi=>(F.ak.drop (i*w)).take w)=eH n G.ak)(al:zO P ty 9 t=J)
  (an:DataW.trod (λ_=>()) P W 0 (λ_=>J) E V t Q.toList=U (d,R))(a0:(DataW.weights P t d).all (·<=reachBytes)=J)(a1:∀i,W.cell? ⟨g,i,Z⟩=Q[i]?)(hE:((fj (n*w)).all λj=>(ph P 9 t d j).isSome)=J)(a4:0<w):
  ∃u,bI W ty (.sl e) (.mk (.slice (U ⟨g,0,Z⟩) n n) u)/\dD (lu g (TW P t d w n)) (.mk (.slice (U ⟨g,0,Z⟩) n n) u):=by
 obtain⟨s,h2⟩:=TS V 9 t F _ _ af al an (λq hq=>wX (f9.1 a0 q hq));obtain⟨D,o,r2,r3,r4,r5,r6⟩:=ajy s h2;have a3:Y D=n*w:=by rw[<-qJ (f:=RV.val),o,s,A]
 have y:∀i j,i<n->j<w->F.ak[i*w+j]?=G.ak[j]?:=λi j m hj=>by
  have h:=ku (·[i]?) ag;simp only[dX,FB m,Fw,aL m,eo,cS] at h;rw[<-h,nA,aL hj,vw]
 have B:bH ty (.sl e)=G.ak:=by simp[bH,ac]
 have dH:∀(i j:Nat)(r:List RV)(c:RV),(zP w n D)[i]?=U r->r[j]?=U c->W.cell? ⟨g,0+i*w+j,Z⟩=U c.val:=λi j r c X O=>by
  obtain⟨_,_,N⟩:=Ox X O;have v:Q.toList[i*w+j]?=U c.val:=by rw[<-o,dX,N];rfl
  rw[jz,a1,<-aaW];exact v
 have l:∀(i:Nat)(r:List RV),(zP w n D)[i]?=U r->Y r=w:=λi r X=>by
  obtain⟨O,rfl⟩:=aaT X;have:(i+1)*w<=n*w:=H3 w O;rw[rI] at this;rw[FD,FE,a3];omega
 refine⟨zP w n D,.sl e _ n n _ TV (cg _) (λi r X=> ?_) (λi j r c k X O N=> ?_) (λi j r c X O N=> ?_) (λi j r c z k X O N=> ?_), ?_⟩;rw[B,hw];have A:=l i r X;refine⟨A,g,0,rfl, ?_,λj c O=>dH i j r c X O⟩;obtain⟨c,hc⟩:∃c,r[0]?=U c:=⟨_,cL aa⟩;exact awF (dH i 0 r c X hc);rw[B] at N;obtain⟨L,H,M⟩:=Ox X O;exact r2 _ c k M (by rw[y i j L H];exact N);rw[B] at N;obtain⟨L,H,M⟩:=Ox X O;exact r3 _ c M (by rw[y i j L H];exact N);rw[B] at N;obtain⟨L,H,M⟩:=Ox X O;exact r4 _ c z k M (by rw[y i j L H];exact N);unfold lu TW;rw[TV];refine dD.sl _ _ _ _ _ _ _ (by rw[TV,TV]) (λi r b X O=> ?_) (λi j r b c c' X O N v=> ?_);obtain⟨L,rfl⟩:=aaT X;have:(i+1)*w<=n*w:=H3 w L;rw[rI] at this;rw[l i b O,FD,FE,qJ,ajO];omega;obtain⟨L,H,M⟩:=Ox X N;obtain⟨_,_,q4⟩:=Ox O v;rw[dX] at M;have a:i*w+j<n*w:=by
  have:(i+1)*w<=n*w:=H3 w L;rw[rI] at this;omega
 rw[FB a] at M;simp only[eo,cS] at M;obtain⟨x,hx⟩:=lB.1 (f9.1 hE _ (wV.2 a));rw[hx,pZ] at M;subst M;exact r6 _ c' x q4 hx
end
def aJp:Tryz.prog.globalNamed (gn 1)=U 2:=bh
def aJq:Tryz.prog.globalNamed (gn 0)=U 0:=bh
def aJr:Tryz.prog.globalNamed (gn 2)=U 1:=bh
def aJs:(Tryz.prog.globals[2]?).map (·.type)=U 301:=bh
def aJt:(Tryz.prog.globals[0]?).map (·.type)=U 246:=bh
def aJu:(Tryz.prog.globals[1]?).map (·.type)=U 260:=bh
def ajD{n:String}(R:Tryz.prog.globalNamed n=U V)(O:X.var? Tryz.prog n=U Q)(i:Nat):X.cell? ⟨V,i,Z⟩=Q[i]?:=World.var?_cell R O i
def awR:∀(X:List XV)(O:ai),∃l,(O.ext X).r=O.r++l
 |[],O=>⟨[],by simp[ai.ext]⟩
 |x::X,O=>by
  obtain⟨l,h⟩:=awR X (O.add x);simp only[ai.ext,h];cases x<;>simp[ai.add]
def awS:j7=[lu 0 (TW Tryz.prog 246 (Rows.laid_kinesphere_expand_kinds:DataW Unit) 6 10),lu 1 (TW Tryz.prog 260 (Rows.laid_kinesphere_motion_kinds:DataW Unit) 2 10),lu 2 (TW Tryz.prog 301 (Rows.laid_kinesphere_space_flat:DataW Unit) 2 8)]:=bh
def awT{X:Type}{p:Nat->X->Prop}{a b c:X}(V:p 0 a)(R:p 1 b)(Q:p 2 c):∀(k:Nat)(x:X),[a,b,c][k]?=U x->p k x
 |0,_,h=>me h▸V
 |1,_,h=>me h▸R
 |2,_,h=>me h▸Q
 |k+3,_,h=>(by simp at h)
def aJv(h:laidMetH Tryz.prog L3 X):GW X:=by
 rw[MakeChecks.laidMetH_plain _ _ _ bh] at h;obtain⟨ps,⟨g0,t0,lg,f0,p0,q0,H,B,A,z,⟨g1,t1,ac,f1,p1,q1,G,y,u,s,⟨g2,t2,af,f2,p2,q2,F,r,q,o,_,_⟩,_⟩,_⟩,_,_⟩:=h;obtain rfl:=me (aJp.symm.trans H);obtain rfl:=me (aJq.symm.trans G);obtain rfl:=me (aJr.symm.trans F);obtain rfl:=me (aJs.symm.trans B);obtain rfl:=me (aJt.symm.trans y);obtain rfl:=me (aJu.symm.trans r);obtain⟨R,m,j⟩:=ajC (P:=Tryz.prog) (ty:=look TT) (W:=X) (g:=0) (n:=10) (w:=6) (e:=245) (t:=246) rfl rfl rfl rfl rfl bh s bh (ajD G u) bh dM;obtain⟨Q,i,f⟩:=ajC (P:=Tryz.prog) (ty:=look TT) (W:=X) (g:=1) (n:=10) (w:=2) (e:=259) (t:=260) rfl rfl rfl rfl rfl bh o bh (ajD F q) bh dM;obtain⟨O,d,c⟩:=ajC (P:=Tryz.prog) (ty:=look TT) (W:=X) (g:=2) (n:=8) (w:=2) (e:=142) (t:=301) rfl rfl rfl rfl rfl bh z bh (ajD H A) bh dM;refine⟨[.mk (.slice (U ⟨0,0,Z⟩) 10 10) R,.mk (.slice (U ⟨1,0,Z⟩) 10 10) Q,.mk (.slice (U ⟨2,0,Z⟩) 8 8) O],by rw[awS];rfl,λk v V N L=> ?_,λk e M N L=> ?_,λb x D=> ?_⟩;rw[awS] at N;exact awT (p:=λk v=>∀V,[RV.mk (.slice (U ⟨0,0,Z⟩) 10 10) R,.mk (.slice (U ⟨1,0,Z⟩) 10 10) Q,.mk (.slice (U ⟨2,0,Z⟩) 8 8) O][k]?=U V->dD v V) (λV h=>me h▸j) (λV h=>me h▸f) (λV h=>me h▸c) k v N V L;exact awT (p:=λk e=>∀M,[RV.mk (.slice (U ⟨0,0,Z⟩) 10 10) R,.mk (.slice (U ⟨1,0,Z⟩) 10 10) Q,.mk (.slice (U ⟨2,0,Z⟩) 8 8) O][k]?=U M->bI X (look TT) e M) (λV h=>me h▸m) (λV h=>me h▸i) (λV h=>me h▸d) k e N M L;obtain⟨l,a⟩:=awR b ⟨[],[],[RV.mk (.slice (U ⟨0,0,Z⟩) 10 10) R,.mk (.slice (U ⟨1,0,Z⟩) 10 10) Q,.mk (.slice (U ⟨2,0,Z⟩) 8 8) O],[]⟩;simp only[GL,dS,T7,or_false] at D;unfold gI ai.rv;rw[a];rcases D with rfl|rfl|rfl;exact⟨aw,10,10,rfl⟩;exact⟨aw,10,10,rfl⟩;exact⟨aw,8,8,rfl⟩
