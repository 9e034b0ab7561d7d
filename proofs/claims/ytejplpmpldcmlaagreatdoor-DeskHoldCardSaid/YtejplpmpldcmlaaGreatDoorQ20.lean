/- Part 20 of the proof. -/
import Derived.Test.YtejplpmpldcmlaaGreatDoorQ8
import Derived.Test.YtejplpmpldcmlaaGreatDoorQ11
import Derived.Test.YtejplpmpldcmlaaGreatDoorQ12
import Derived.Test.YtejplpmpldcmlaaGreatDoorQ13
import Derived.Test.YtejplpmpldcmlaaGreatDoorQ14
import Derived.Test.YtejplpmpldcmlaaGreatDoorQ15
import Derived.Test.YtejplpmpldcmlaaGreatDoorQ16
import Derived.Test.YtejplpmpldcmlaaGreatDoorQ17
import Derived.Test.YtejplpmpldcmlaaGreatDoorQ18
import Derived.Test.YtejplpmpldcmlaaGreatDoorQ19
import Derived.Test.YtejplpmpldcmlaaGreatDoorRows
import Derived.ChangeArms
import Derived.DataReads
import Derived.OpenShut
import Derived.RecoverIn
import Derived.Shelf.Small.Strs
import Derived.Carry
import Derived.ProofKit
import Derived.LaidMore
import Derived.Stop.Joined
import Derived.Handed
set_option linter.all false
set_option maxRecDepth 100000
set_option maxHeartbeats 100000000
open Bool renaming and_eq_true->aw,false_eq_true->jp,eq_iff_iff->uD,and_assoc->avi,true->J,false->E
open Nat renaming le_refl->b9,zero_add->iX,add_mul->pz,eq_zero_or_pos->A5,mul_le_mul_right->EV,mod_lt->Hj,mul_comm->SR,sub_self->Zz,div_add_mod->aiY,div_lt_of_lt_mul->au0
open List renaming getElem?_eq_some_iff->ck,getD_eq_getElem?_getD->cz,getElem?_eq_getElem->cS,getElem?_append_left->dH,mem_cons->dP,map_cons->dU,getElem?_map->dW,replicate->eN,mem_append->eV,nil_append->eW,range->fw,all_eq_true->fO,mem_map->iq,getElem?_append_right->iE,mem_of_getElem?->jI,any_eq_true->kH,getElem?_take->nj,getElem_mem->ql,map_nil->qn,length_map->qX,getElem?_cons_succ->tA,getElem?_of_mem->tB,getElem?_drop->uC,mem_range->xI,map->A8,getElem?_range->CZ,length_drop->C1,length_take->EY,getElem?_replicate->G4,take_of_length_le->G5,append_nil->J3,drop_drop->N6,all_cons->N7,mem_of_find?_eq_some->SF,not_mem_nil->SN,find?_some->SO,drop_of_length_le->aiL,take_append_of_le_length->auS,drop_append_of_le_length->auT,getElem?_zip_eq_some->auW,length_range->aIG,length->Y
open Option renaming map_some->eh,isSome_iff_exists->ln,getD_some->pu,bind_eq_some_iff->aIj,some->U,none->Z
open Go.Region renaming wanted->l9
open Array renaming getElem?_eq_some_iff->oQ,getElem?_modify->SI,getElem?_toList->Zj
open Go.World renaming cell?->ow,putObj->Hg,setCell->Zw,frozen?->Zx,cells?_some->aIH
open Int renaming toNat_natCast->v7
open Go.Oper renaming semAt_none->avd
open Go.IntKind renaming i64->I
namespace Go.Proofs.YtejplpmpldcmlaaGreatDoor.Y
open Go.RowKit
noncomputable section
variable{D:Ty}{X:World}{Q:Value}{A:fj}{V:Nat}{F:Nat→Bool}{L:Bool}{M:Program}{z:Act}{N:TypeId}{H:List LK}{G:List XV}{B:RV}{R:List MemPlace}{O:Array Value}
def Zf:CT->CT->Bool
 |.int k,.int X=>decide (k=X)
 |.bool,.bool=>J
 |.ae _ k,.ae _ X=>decide (k=X)
 |_,_=>E
def CS:fj->fj->Bool
 |[],[]=>J
 |c::l,X::V=>Zf c X&&CS l V
 |_,_=>E
def Zg:∀{l V:fj},CS l V=J->Y l=Y V/\∀(j:Nat)(c X:CT),l[j]?=U c->V[j]?=U X->Zf c X=J
 |[],[],_=>⟨rfl,λj c X h _=>by simp at h⟩
 |[],_::_,h=>by cases h
 |_::_,[],h=>by cases h
 |a::l,b::V,h=>by
  simp only[CS,aw] at h;obtain⟨O,N⟩:=Zg h.2;refine⟨by simp[O],λj c X R Q=> ?_⟩;cases j with
  |zero=>simp at R Q;subst R;subst Q;exact h.1
  |succ j=>exact N j c X (by simpa using R) (by simpa using Q)
inductive qW:RV->Prop
 |mk (rv:RV) (h:Y rv.ac<=140737488355328) (h2:∀row∈rv.ac,∀c∈row,qW c):qW rv
def qW.Zh(v:Value):qW (.mk v []):=.mk _ (by simp[RV.nD]) (by simp[RV.nD])
def AZ(o:Ty)(W:World)(V:Option RV):CT->Value->Prop
 |.int k,v=>(∃n,v=.int k n/\(Lit.int k n).wf=J)/\∀r,V=U r->r=.mk v []
 |.bool,v=>(∃b,v=.bool b)/\∀r,V=U r->r=.mk v []
 |.ae _ k,v=>∃X:RV,X.val=v/\bJ W o k X/\qW X/\∀r,V=U r->dG r X
def AZ.aiB{V:Option RV}{a b:CT}(h:Zf a b=J)(k:AZ D X V b Q):AZ D X V a Q:=by
 cases a<;>cases b<;>simp only[Zf,cm,jp] at h;subst h;exact k;exact k;subst h;exact k
def zi(P:Program)(o:Ty):Nat->TypeId->Bool
 |0,_=>E
 |n+1,t=>match o t with
  |none=>E
  |U X=>match P.underlying t with
   |U (.int k)=>CS X.aj [.int k]
   |U .bool=>CS X.aj [.bool]
   |U .string=>CS X.aj [.ae undef .str]
   |U (.slice e)=>CS X.aj [.ae undef (.sl e)]&&zi P o n e&&decide (P.cellsOf e=(bD o (.sl e)).length)&&decide (P.cellsOf e≠0)&&decide (P.bytesOf e≠0)
   |U (.struct Q)=>decide (P.cellsOf t=Y X.aj)&&Q.toList.all (λf=>zi P o n f.type&&(match o f.type with
     |U R=>decide (P.cellsOf f.type=Y R.aj)&&CS ((X.aj.drop f.offset).take (Y R.aj)) R.aj
     |none=>E))&&(fw (Y X.aj)).all λj=>Q.toList.any λf=>decide (f.offset<=j)&&decide (j<f.offset+P.cellsOf f.type)
   |U (.array k e)=>decide (P.cellsOf t=Y X.aj)&&zi P o n e&&(match o e with
     |U V=>decide (P.cellsOf e=Y V.aj)&&decide (Y X.aj=k*Y V.aj)&&(fw k).all λi=>CS ((X.aj.drop (i*Y V.aj)).take (Y V.aj)) V.aj
     |none=>E)
   |_=>E
def oP{H:Type}(P:Program):Nat->TypeId->DataW H->Nat->Option RV
 |0,_,_,_=>Z
 |n+1,t,d,j=>match P.underlying t,d with
  |U (.int _),.lit (.int k q)=>U (.mk (.int k q) [])
  |U .bool,.lit (.bool b)=>U (.mk (.bool b) [])
  |U (.slice e),.slice X _=>if(X.all λd=>(fw (P.cellsOf e)).all λj=>(oP P n e d j).isSome) then U (.mk (.slice Z (Y X) (Y X)) (X.map λd=>(fw (P.cellsOf e)).map λj=>(oP P n e d j).getD default)) else Z
  |U (.slice _),.nil=>U (.mk (.slice Z 0 0) [])
  |U (.struct R),.agg V=>match(R.toList.zip V).find? λf=>decide (f.1.offset<=j)&&decide (j<f.1.offset+P.cellsOf f.1.type) with
   |U f=>oP P n f.1.type f.2 (j-f.1.offset)
   |none=>Z
  |U (.array _ e),.agg V=>match V[j/P.cellsOf e]? with
   |U d=>oP P n e d (j%P.cellsOf e)
   |none=>Z
  |_,_=>Z
section
variable{P:Program}{o:Ty}{W:World}
def Sz{R:Nat->Option RV}{c:CT}(h:CS A [c]=J)(k:AZ o W (R 0) c Q):[Q].length=Y A/\∀(j:Nat)(X:CT)(u:Value),A[j]?=U X->[Q][j]?=U u->AZ o W (R j) X u:=by
 obtain⟨O,N⟩:=Zg h;refine⟨by simp[O],λj X u M V=> ?_⟩;cases j with
 |zero=>simp at V;subst V;exact AZ.aiB (N 0 X c M rfl) k
 |succ j=>simp at V
def aiC:∀{Ecel:Nat->Option RV}{aj:fj}{cs:gt},Y cs=Y aj->(∀(j:Nat)(O:CT)(v:Value),aj[j]?=U O->cs[j]?=U v->AZ o W (Ecel j) O v)->
  ∃N:aC,N.map RV.val=cs/\(∀(j:Nat)(c:RV)(k:IntKind),N[j]?=U c->aj[j]?=U (.int k)->∃n,c.val=.int k n)/\(∀(j:Nat)(c:RV),N[j]?=U c->aj[j]?=U .bool->∃x,c.val=.bool x)/\(∀(j:Nat)(c:RV)(z:Value)(k:RK),N[j]?=U c->aj[j]?=U (.ae z k)->bJ W o k c)/\(∀c∈N,qW c)/\∀(j:Nat)(c r:RV),N[j]?=U c->Ecel j=U r->dG r c
 |_,[],[],_,_=>⟨[],rfl,λj c k h=>by simp at h,λj c h=>by simp at h,λj c z k h=>by simp at h,av,λj c r h=>by simp at h⟩
 |_,[],_::_,h,_=>by simp at h
 |_,_::_,[],h,_=>by simp at h
 |Ecel,O::aj,v::cs,F,h=>by
  obtain⟨N,D,B,A,y,w,t⟩:=aiC (Ecel:=λj=>Ecel (j+1)) (aj:=aj) (cs:=cs) (by simpa using F) (λj c u s M=>h (j+1) c u (by simpa using s) (by simpa using M));obtain⟨r,L,M,q,p,m,l⟩:∃r:RV,r.val=v/\(∀k,O=.int k->∃n,r.val=.int k n)/\(O=.bool->∃x,r.val=.bool x)/\(∀z k,O=.ae z k->bJ W o k r)/\qW r/\∀R,Ecel 0=U R->dG R r:=by
   have Q:=h 0 O v rfl rfl;cases O with
   |int k=>exact⟨.mk v [],rfl,λH e=>(by cases e;obtain⟨⟨n,i,_⟩,_⟩:=Q;exact⟨n,i⟩),λe=>(by cases e),λz k e=>(by cases e),qW.Zh v,λR G=>by rw[Q.2 R G];exact dG.refl _⟩
   |bool=>exact⟨.mk v [],rfl,λH e=>(by cases e),λ_=>Q.1,λz k e=>(by cases e),qW.Zh v,λR G=>by rw[Q.2 R G];exact dG.refl _⟩
   |ae z k=>
    obtain⟨r,L,g,f,d⟩:=Q;exact⟨r,L,λH e=>(by cases e),λe=>(by cases e),λb H e=>(by cases e;exact g),f,d⟩
  refine⟨r::N,by simp[L,D],λj c k X V=> ?_,λj c X V=> ?_,λj c z k X V=> ?_,λc Q=>(dP.1 Q).elim (λe=>e▸m) (λQ=>w c Q),λj c R X V=> ?_⟩;cases j with
  |zero=>simp at X V;subst X;exact M k V
  |succ j=>exact B j c k (by simpa using X) (by simpa using V)
  cases j with
  |zero=>simp at X V;subst X;exact q V
  |succ j=>exact A j c (by simpa using X) (by simpa using V)
  cases j with
  |zero=>simp at X V;subst X;exact p z k V
  |succ j=>exact y j c z k (by simpa using X) (by simpa using V)
  cases j with
  |zero=>simp at X;subst X;exact l R V
  |succ j=>exact t j c R (by simpa using X) V
def aux{α:Type}{R:Nat->α->Prop}:∀(n:Nat),(∀i,i<n->∃x,R i x)->∃l:List α,Y l=n/\∀(i:Nat)(x:α),l[i]?=U x->R i x
 |0,_=>⟨[],rfl,λi x h=>by simp at h⟩
 |n+1,h=>by
  obtain⟨l,V,Q⟩:=aux n (λi O=>h i aa);obtain⟨x,N⟩:=h n aa;refine⟨l++[x],by simp[V],λi y X=> ?_⟩;by_cases O:i<n;rw[dH aa] at X;exact Q i y X;rw[iE aa] at X;have:i=n:=by
   cases M:i-Y l with
   |zero=>omega
   |succ q=>rw[M] at X;simp at X
  subst this;rw[V,Zz] at X;simp at X;subst X;exact N
def aiD{H:Type}{P:Program}{e:TypeId}{q:Nat}:∀{l:List (DataW H)}{d:DataW H},d∈l->q∈DataW.weights P e d->q∈DataW.weightsAll P e l
 |[],_,h,_=>by simp at h
 |x::l,d,h,X=>by
  simp only[DataW.weightsAll,eV];rcases dP.1 h with rfl|h;exact .inl X;exact .inr (aiD h X)
def auy{H:Type}{P:Program}{q:Nat}:∀{X:jU}{l:List (DataW H)}{i:Nat}{t:TypeId}{d:DataW H},X[i]?=U t->l[i]?=U d->q∈DataW.weights P t d->q∈DataW.weightsEach P X l
 |[],_,_,_,_,h,_,_=>by simp at h
 |_::_,[],_,_,_,_,h,_=>by simp at h
 |O::X,N::l,i,t,d,V,R,Q=>by
  simp only[DataW.weightsEach,eV];cases i with
  |zero=>simp at V R;subst V;subst R;exact .inl Q
  |succ i=>exact .inr (auy (i:=i) (by simpa using V) (by simpa using R) Q)
def auz{R:Nat}(h:W.cell? ⟨V,R,Z⟩=U Q):∃O t X,W.heap[V]?=U (.cells O t X):=by
 unfold ow at h;split at h;rename_i c t X N;exact⟨c,t,X,N⟩;cases h
structure auA{H:Type}(P:Program)(o:Ty)(W:World)(n:Nat)(e:TypeId)(aj:fj)(a:Addr)(elems:List (DataW H×List MemPlace))(i:Nat)(row:aC):Prop where
 len:Y row=Y aj
 sp:a.spot=Z
 lu:∃cs t fr,W.heap[a.block]?=U (.cells cs t fr)
 cell:∀(j:Nat)(c:RV),row[j]?=U c->W.cell? ⟨a.block,a.off+i*Y aj+j,Z⟩=U c.val
 hi:∀(j:Nat)(c:RV)(k:IntKind),row[j]?=U c->aj[j]?=U (.int k)->∃n,c.val=.int k n
 hb:∀(j:Nat)(c:RV),row[j]?=U c->aj[j]?=U .bool->∃x,c.val=.bool x
 ho:∀(j:Nat)(c:RV)(z:Value)(k:RK),row[j]?=U c->aj[j]?=U (.ae z k)->bJ W o k c
 bnd:∀c∈row,qW c
 eq:∀(j:Nat)(c r:RV)(x:DataW H×List MemPlace),row[j]?=U c->elems[i]?=U x->oP P n e x.1 j=U r->dG r c
def SA{H:Type}{b4:TypeId×Value->H}{b5:Nat}{spare:Nat->Bool}{b6:Bool}:∀(b7 m:Nat)(t:TypeId)(ti:TI)(cs:gt)(x:DataW H×List MemPlace),o t=U ti->zi P o m t=J->DataW.trod b4 P W b5 spare b6 b7 t cs=U x->(∀q∈DataW.weights P t x.1,q<=reachBytes)->
  Y cs=Y ti.aj/\∀(j:Nat)(ct:CT)(v:Value),ti.aj[j]?=U ct->cs[j]?=U v->AZ o W (oP P m t x.1 j) ct v
 |0,_,_,_,_,_,_,_,h,_=>by simp[DataW.trod] at h
 |_+1,0,_,_,_,_,_,M,_,_=>by simp[zi] at M
 |n+1,m+1,t,ti,cs,x,ht,M,h,af=>by
  simp only[zi,ht] at M;cases N:P.underlying t with
  |none=>rw[N] at M;cases M
  |some d=>
   rw[N] at M;cases d<;>simp only[jp] at M
   case int k=>
    obtain⟨q,rfl,rfl,b8⟩:=DataW.trod_int N h;exact Sz M ⟨⟨q,rfl,b8⟩,λr X=>by simp only[oP,N,cU] at X;exact X.symm⟩
   case bool=>
    obtain⟨q,rfl,rfl⟩:=DataW.trod_bool N h;exact Sz M ⟨⟨q,rfl⟩,λr X=>by simp only[oP,N,cU] at X;exact X.symm⟩
   case string=>
    obtain⟨q,rfl,_⟩:=DataW.trod_string N h;exact Sz M ⟨.mk (.string q) [],rfl,.str q,qW.Zh _,λr X=>by simp[oP,N] at X⟩
   case slice e=>
    simp only[aw,cm] at M;obtain⟨⟨⟨⟨g1,A⟩,G⟩,g4⟩,g6⟩:=M;rcases DataW.trod_slice N h with⟨rfl,F⟩|⟨a,ag,bd,s,bf,n',hn,rfl,F,hb,ca,cB,bg,bk,_,_⟩;exact Sz g1 ⟨.mk (.slice Z 0 0) [],rfl,.sl e Z 0 0 [] rfl (b9 _) (λi V X=>by simp at X) (λi j V c k X=>by simp at X) (λi j V c X=>by simp at X) (λi j V c z k X=>by simp at X),qW.Zh _,λr X=>by
     simp only[oP,N,F,cU] at X;subst X;exact dG.refl _⟩
    cases hn;subst F;simp only[DataW.weights,N,dP,eV] at af;have cC:ag<=140737488355328:=by
     have y:=af _ (.inl rfl);have Q:(s.map (·.1)).length+(bf.map (·.1)).length<=((s.map (·.1)).length+(bf.map (·.1)).length)*P.bytesOf e:=Nat.le_mul_of_pos_right _ aa;simp only[qX] at y Q;have w:reachBytes<=140737488355328:=dQ;omega
    have a0:∃L,o e=U L:=by
     cases m with
     |zero=>simp[zi] at A
     |succ m=>
      cases D:o e with
      |none=>simp[zi,D] at A
      |some L=>exact⟨L,rfl⟩
    obtain⟨L,a0⟩:=a0;have an:bD o (.sl e)=L.aj:=by simp[bD,a0]
    rw[an] at G;have cc:∀i,i<ag->∃V:aC,auA P o W m e L.aj a s i V:=by
     intro i l;have Q:=bk i l;have al:i<Y s:=aa;rw[cS al,aIj] at Q;obtain⟨ci,Q,w⟩:=Q;obtain⟨q1,q2⟩:=SA n m e L ci _ a0 A w (λq D=>af q (.inr (.inl (aiD (iq.2 ⟨_,ql al,rfl⟩) D))));obtain⟨_,c1,c2⟩:=aIH Q;obtain⟨V,r1,r2,r3,r4,r5,r6⟩:=aiC q1 q2;have bl:Y V=Y L.aj:=by rw[<-qX (f:=RV.val),r1,q1]
     have a1:a.spot=none:=by
      have y:=bk 0 aa;rw[cS aa,aIj] at y;obtain⟨c0,y,_⟩:=y;obtain⟨_,d1,d2⟩:=aIH y;have d3:=d2 0 aa;rw[Nat.zero_mul,cS aa] at d3;simp only[Addr.add,cN] at d3;unfold ow at d3;split at d3;split at d3;cases d3;rename_i hs;simpa using hs;cases d3
     have br:∀(j:Nat)(c:RV),V[j]?=U c->W.cell? ⟨a.block,a.off+i*Y L.aj+j,Z⟩=U c.val:=by
      intro j c B;have cD:j<Y L.aj:=by rw[<-bl];exact(ck.1 B).1
      have c3:=c2 j aa;have c4:ci[j]?=U c.val:=by rw[<-r1,dW,B];rfl
      rw[c4] at c3;have ha:(a.add (i*P.cellsOf e)).add j=⟨a.block,a.off+i*Y L.aj+j,Z⟩:=by
       rw[G];unfold Addr.add;cases a with
       |mk lu cI sp=>
        simp only at a1;subst a1;by_cases q5:i*Y L.aj=0<;>by_cases q6:j=0<;>simp[q5,q6]
      rw[ha] at c3;exact c3
     refine⟨V,bl,a1, ?_,br,r2,r3,r4,r5,λj c r x g1 A G=>r6 j c r g1 (by rw[cS al] at A;cases A;exact G)⟩;have bs:0<Y L.aj:=aa;obtain⟨c,g⟩:∃c,V[0]?=U c:=⟨_,cS aa⟩;exact auz (br 0 c g)
    obtain⟨bt,l1,l2⟩:=aux (α:=aC) (R:=auA P o W m e L.aj a s) ag cc;refine Sz g1 ⟨.mk (.slice (U a) ag bd) bt,rfl,.sl e (U a) ag bd bt l1 ca (λi V X=> ?_) (λi j V c k X g hk=> ?_) (λi j V c X g hk=> ?_) (λi j V c z k X g hk=> ?_),.mk _ (by rw[RV.nD];omega) (λV X c g=> ?_),λr X=> ?_⟩;have p:=l2 i V X;rw[an];refine⟨p.len,a.block,a.off, ?_,p.lu,p.cell⟩;have p2:=p.sp;cases a;simp only at p2;subst p2;rfl;rw[an] at hk;exact(l2 i V X).hi j c k g hk;rw[an] at hk;exact(l2 i V X).hb j c g hk;rw[an] at hk;exact(l2 i V X).ho j c z k g hk;rw[RV.nD] at X;obtain⟨i,l⟩:=tB X;exact(l2 i V l).bnd c g;simp only[oP,N] at X;split at X;rename_i cf;cases X;have bx:Y s=ag:=aa;rw[qX,bx];have get:∀(i:Nat)(V:aC),(A8 (λd=>A8 (λj=>(oP P m e d j).getD default) (fw (P.cellsOf e))) (s.map (·.1)))[i]?=U V->∃x,s[i]?=U x/\V=(fw (P.cellsOf e)).map λj=>(oP P m e x.1 j).getD default:=by
     intro i V Q;rw[dW,dW] at Q;cases F:s[i]? with
     |none=>rw[F] at Q;cases Q
     |some x=>rw[F] at Q;simp only[eh,cU] at Q;exact⟨x,rfl,Q.symm⟩
    refine dG.sl _ _ _ _ _ _ _ (by simp[l1,bx]) (λi V a3 Q w=> ?_) (λi j V a3 c c' Q w h3 h4=> ?_);obtain⟨x,_,rfl⟩:=get i V Q;rw[(l2 i a3 w).len];simp[G];obtain⟨x,F,rfl⟩:=get i V Q;rw[dW] at h3;cases B:(fw (P.cellsOf e))[j]? with
    |none=>rw[B] at h3;cases h3
    |some j'=>
     have a4:j<P.cellsOf e:=by have:=(ck.1 B).1;simpa using this
     rw[CZ a4] at B;cases B;rw[CZ a4] at h3;simp only[eh,cU] at h3;have:=fO.1 (fO.1 cf x.1 (iq.2 ⟨x,jI F,rfl⟩)) j (xI.2 a4);obtain⟨r,X⟩:=ln.1 this;rw[X] at h3;simp only[pu] at h3;subst h3;exact(l2 i a3 w).eq j c' r x h4 F X
    cases X
   case struct b=>
    simp only[aw,cm,fO,kH,xI] at M;obtain⟨⟨g1,A⟩,G⟩:=M;obtain⟨u,n',hn,F,ch,cl,hf⟩:=DataW.trod_struct N h;cases hn;subst F;simp only[DataW.weights,N] at af;refine⟨aa,λj ct v Q w=> ?_⟩;have B:j<Y ti.aj:=(ck.1 Q).1;obtain⟨f0,cn,co,cp⟩:=G j B;have cO:(b.toList.zip (u.map (·.1))).length=b.size:=dh;obtain⟨fd,a9⟩:∃fd,(b.toList.zip (u.map (·.1))).find? (λf=>decide (f.1.offset<=j)&&decide (j<f.1.offset+P.cellsOf f.1.type))=U fd:=by
     obtain⟨i0,ba⟩:=tB cn;have cv:i0<b.size:=by have:=(ck.1 ba).1;simpa using this
     refine ln.1 (List.find?_isSome.2 ⟨((b.toList.zip (u.map (·.1)))[i0]' aa),ql _, ?_⟩);have:f0=b.toList[i0]:=by rw[cS (by simpa using cv)] at ba;exact(mH ba).symm
     simp only[List.getElem_zip,<-this,aw,cm];exact⟨co,cp⟩
    have b0:=SO a9;simp only[aw,cm] at b0;obtain⟨b1,b2⟩:=b0;obtain⟨iz,cx⟩:=tB (SF a9);obtain⟨f,dd⟩:=fd;have bb:=auW.1 cx;have b1:f.offset<=j:=b1;have b2:j<f.offset+P.cellsOf f.type:=b2;have cy:f∈b.toList:=jI bb.1;obtain⟨k1,k2⟩:=A f cy;cases D:o f.type with
    |none=>rw[D] at k2;cases k2
    |some fi=>
     rw[D] at k2;simp only[aw,cm] at k2;obtain⟨k3,k4⟩:=k2;have l:=bb.1;have al:b[iz]?=U f:=by simpa using l
     have cR:iz<b.size:=(oQ.1 al).1;have e1:=hf iz f al;rw[cS aa] at e1;obtain⟨q1,q2⟩:=SA n m f.type fi _ _ D k1 e1 (λq bc=>af q (auy (i:=iz) (by simp[l]) (by simp[show iz<Y u from aa]) bc));obtain⟨_,q4⟩:=Zg k4;have b3:j-f.offset<Y fi.aj:=aa;have ej:f.offset+(j-f.offset)=j:=aa;have v1:((cs.drop f.offset).take (P.cellsOf f.type))[j-f.offset]?=U v:=by
      rw[nj,aJ aa,uC,ej];exact w
     have v2:((ti.aj.drop f.offset).take (Y fi.aj))[j-f.offset]?=U ct:=by
      rw[nj,aJ b3,uC,ej];exact Q
     have v3:fi.aj[j-f.offset]?=U fi.aj[j-f.offset]:=cS b3;have cA:dd=(u[iz]' aa).1:=by
      have:=bb.2;rw[dW,cS aa] at this;exact(mH this).symm
     have hE:oP P (m+1) t (.agg (u.map (·.1))) j=oP P m f.type (u[iz]' aa).1 (j-f.offset):=by
      simp only[oP,N,a9,cA]
     rw[hE];exact AZ.aiB (q4 _ _ _ v2 v3) (q2 _ _ _ v3 v1)
   case array k e=>
    simp only[aw,cm] at M;obtain⟨⟨g1,A⟩,G⟩:=M;cases D:o e with
    |none=>rw[D] at G;cases G
    |some O=>
     rw[D] at G;simp only[aw,cm,fO,xI] at G;obtain⟨⟨g4,g5⟩,g6⟩:=G;obtain⟨u,n',hn,F,ch,cl,bg⟩:=DataW.trod_array N h;cases hn;subst F;simp only[DataW.weights,N] at af;refine⟨aa,λj ct v Q w=> ?_⟩;have B:j<Y ti.aj:=(ck.1 Q).1;have bs:0<Y O.aj:=by
      rcases A5 (Y O.aj) with y|y;rw[g5,y] at B;omega;exact y
     have l:j/Y O.aj<k:=au0 (by rw[SR];omega);have X:j%Y O.aj<Y O.aj:=Hj _ bs;have ej:j/Y O.aj*Y O.aj+j%Y O.aj=j:=by have:=aiY j (Y O.aj);rw[SR] at this;exact this
     have e1:=bg (j/Y O.aj) l;rw[cS aa] at e1;obtain⟨q1,q2⟩:=SA n m e O _ _ D A e1 (λq bc=>af q (aiD (iq.2 ⟨_,ql _,rfl⟩) bc));obtain⟨_,q4⟩:=Zg (g6 _ l);have v1:((cs.drop (j/Y O.aj*P.cellsOf e)).take (P.cellsOf e))[j%Y O.aj]?=U v:=by
      rw[g4,nj,aJ X,uC,ej];exact w
     have v2:((ti.aj.drop (j/Y O.aj*Y O.aj)).take (Y O.aj))[j%Y O.aj]?=U ct:=by
      rw[nj,aJ X,uC,ej];exact Q
     have v3:O.aj[j%Y O.aj]?=U O.aj[j%Y O.aj]:=cS X;have hE:oP P (m+1) t (.agg (u.map (·.1))) j=oP P m e (u[j/Y O.aj]' aa).1 (j%Y O.aj):=by
      simp only[oP,N,g4,dW];rw[cS aa];rfl
     rw[hE];exact AZ.aiB (q4 _ _ _ v2 v3) (q2 _ _ _ v3 v1)

def SB(X:aS)(V:bq):Prop:=∀(q:Nat)(k:IntKind)(n:Int),X[q]?=U (.int k)->V[q]?=U (.i n)->(Lit.int k n).wf=J
def auB:∀{Ecel:Nat->Option RV}{aj:fj}{cs:gt},Y cs=Y aj->(∀(j:Nat)(V:CT)(v:Value),aj[j]?=U V->cs[j]?=U v->AZ o W (Ecel j) V v)->
  ∃Q:bq,eP (aj.map uH) Q/\pO (aj.map uH) Q=cs/\zV o W (aj.map uH) Q/\(∀X,XV.r X∈Q->qW X)/\SB (aj.map uH) Q
 |_,[],[],_,_=>⟨[],trivial,rfl,λq e X h=>by simp at h,av,λq k n h=>by simp at h⟩
 |_,[],_::_,h,_=>by simp at h
 |_,_::_,[],h,_=>by simp at h
 |Ecel,V::aj,v::cs,A,h=>by
  obtain⟨Q,R,O,y,w,t⟩:=auB (Ecel:=λj=>Ecel (j+1)) (aj:=aj) (cs:=cs) (by simpa using A) (λj c u H G=>h (j+1) c u (by simpa using H) (by simpa using G));obtain⟨x,H,G,s,p,m⟩:∃x:XV,sf (uH V) x/\x.at (uH V)=v/\(∀e X,uH V=.ah e->x=.r X->bJ W o e X)/\(∀X,x=.r X->qW X)/\∀k n,uH V=.int k->x=.i n->(Lit.int k n).wf=true:=by
   have F:=h 0 V v rfl rfl;cases V with
   |int k=>
    obtain⟨⟨n,rfl,l⟩,_⟩:=F;exact⟨.i n,trivial,rfl,λe X h=>(by cases h),λX h=>(by cases h),λD B R O=>(by cases R;cases O;exact l)⟩
   |bool=>
    obtain⟨⟨n,rfl⟩,_⟩:=F;exact⟨.b n,trivial,rfl,λe X h=>(by cases h),λX h=>(by cases h),λD B R O=>(by cases R)⟩
   |ae z k=>
    obtain⟨X,rfl,g,f,_⟩:=F;exact⟨.r X,trivial,rfl,λe d R O=>(by cases R;cases O;exact g),λd h=>(by cases h;exact f),λD B R O=>(by cases R)⟩
  refine⟨x::Q,⟨H,R⟩, ?_,λq e X N M=> ?_,λX L=> ?_,λq k n N M=> ?_⟩;show x.at (uH V)::pO (aj.map uH) Q=_;rw[G,O];cases q with
  |zero=>simp at N M;exact s e X N M
  |succ q=>exact y q e X (by simpa using N) (by simpa using M)
  rcases dP.1 L with L|L;exact p X L.symm;exact w X L;cases q with
  |zero=>simp at N M;exact m k n N M
  |succ q=>exact t q k n (by simpa using N) (by simpa using M)
def auC:∀{X V:aS}{R Q:bq},eP X R->eP V Q->eP (X++V) (R++Q)/\pO (X++V) (R++Q)=pO X R++pO V Q
 |[],_,[],_,_,h=>⟨h,rfl⟩
 |[],_,_::_,_,h,_=>h.elim
 |_::_,_,[],_,h,_=>h.elim
 |k::X,V,x::R,Q,h,O=>by
  obtain⟨N,M⟩:=auC h.2 O;exact⟨⟨h.1,N⟩,by simp[pO,M]⟩
def aiE:∀{X:aS}{V:bq},eP X V->Y X=Y V
 |[],[],_=>rfl
 |[],_::_,h=>h.elim
 |_::_,[],h=>h.elim
 |k::X,x::V,h=>by simp[aiE h.2]
def aGv{X O:aS}{Q N:bq}(L:eP X Q)(h:zV o W X Q)(H:zV o W O N):zV o W (X++O) (Q++N):=by
 intro q e M V R;have G:=aiE L;by_cases F:q<Y X;rw[dH F] at V;rw[dH aa] at R;exact h q e M V R;rw[iE aa] at V;rw[iE aa,<-G] at R;exact H _ e M V R
def aGw{X O:aS}{Q N:bq}(M:eP X Q)(h:SB X Q)(L:SB O N):SB (X++O) (Q++N):=by
 intro q k n V R;have H:=aiE M;by_cases G:q<Y X;rw[dH G] at V;rw[dH aa] at R;exact h q k n V R;rw[iE aa] at V;rw[iE aa,<-H] at R;exact L _ k n V R
def aGx{H:Type}{l:TypeId×Value->H}(kQ:jg P o):∀{R:jU}{Q:gt}{G:List (DataW H)}{y:List MemPlace},R.all (zi P o 9)=J->DataW.TrodAll l P W V F L R Q G y->(∀q∈DataW.weightsEach P R G,q<=reachBytes)->
  (∀(j:Nat)(t:TypeId)(v:Value)(X:TI),R[j]?=U t->Q[j]?=U v->o t=U X->(X.d.isAgg=J/\v=.agg v.cells)\/(X.d.isAgg=E/\v.cells.toList=[v]))->
  ∃(D:aS)(O:bq),iG o R=U D/\eP D O/\wD o R (pO D O)=Q/\zV o W D O/\(∀M,XV.r M∈O->qW M)/\SB D O:=by
 intro R;induction R with
 |nil=>
  intro Q G y _ h _ _;have:Q=[]:=by
   cases Q with
   |nil=>rfl
   |cons v Q=>cases G<;>simp[DataW.TrodAll] at h
  subst this;exact⟨[],[],rfl,trivial,rfl,λq e M h=>by simp at h,av,λq k n h=>by simp at h⟩
 |cons t R i=>
  intro Q G y A h g u;obtain⟨v,an,d,f,p,q,rfl,rfl,rfl,⟨c,b⟩,a⟩:=Go.ChangeShapes.trodAll_cons h;simp only[N7,aw] at A;obtain⟨X,z⟩:∃X,o t=U X:=by
   cases N:o t with
   |none=>have:=A.1;simp[zi,N] at this
   |some X=>exact⟨X,rfl⟩
  have s:∀q,q∈DataW.weights P t d\/q∈DataW.weightsEach P R f->q<=reachBytes:=λq N=>g q (by simp only[DataW.weightsEach,eV];exact N)
  obtain⟨m,c2⟩:=SA c 9 t X _ _ z A.1 b (λq N=>s q (.inl N));obtain⟨O,x,x2,x3,x4,x5⟩:=auB m c2;obtain⟨af,ag,y1,y2,y3,y4,y5,y6⟩:=i A.2 a (λq N=>s q (.inr N)) (λj t' v' al q1 q2 q3=>u (j+1) t' v' al (by simpa using q1) (by simpa using q2) q3);obtain⟨z1,z2⟩:=auC x y2;refine⟨X.aj.map uH++af,O++ag,by simp[iG,z,y1],z1, ?_,aGv x x3 y4,λM B=> ?_,aGw x x5 y6⟩;rw[z2,x2];simp only[wD,z];have hl:Y v.cells.toList=Y X.aj:=m;rw[auS aa,G5 aa,auT aa,aiL aa,eW,y3];have e:=u 0 t v X rfl rfl z;congr 1;rcases e with⟨w,e⟩|⟨w,e⟩;rw[aJ w];exact e.symm;rw[w,e];rfl;rcases eV.1 B with B|B;exact x4 M B;exact y5 M B
end
def aGy{R O:Oper}{W:Exit->Act->List Frame->World->Prop}{L H:List Frame}(A:(execOp z.eval R).run M X=.ok .recover X)(u:R.guard=Z)
  (N:recoverD L=U (Q,H)\/(recoverD L=Z/\Q=.nilIface/\H=L))
  (h:wpOpsIn Fence.wide 0 M #[R,O] (λe G F=>W e G H F) [1] (z.put R.dst Q) X):(Code.region V #[R,O] E).wpSIn Fence.wide 0 M W z L X:=by
 intro b k t D s j;have r:Y H=Y L:=by
  rcases N with N|⟨_,_,rfl⟩;exact recoverD_length N;rfl
 obtain⟨e,G,F,q,p⟩:=wp_opsIn [1] _ X h b k H (D.trans rfl) s (room_wide _);refine⟨e,G,H,F,r,q,.of_steps (.one (fenced_wide _ _) stepR_region) ?_⟩;have y:(#[R,O]:dN)[0]?=U R:=rfl;have o:l9 R (yielded #[R,O] z.tmps)=true:=by simp[l9,u]
 have x:=stepGR_op (P:=M) (b:=b) (k:=k) (cs:=L) (w:=X) (rest:=[1]) y o;rw[D,avd] at x;have n:(b.atR z (.inRegion #[R,O] [0,1]::k)).kind=.deferred:=t;have B:=tryRecover_deferred n L;have m:(b.atR z (.inRegion #[R,O] [0,1]::k)).finish Q=b.atR (z.put R.dst Q) (.inRegion #[R,O] [1]::k):=by
  rw[Frame.finish_atR,y];rfl
 refine .of_steps (.one (fenced_wide _ _) (step_lone_go ?_)) p;rw[show fw (#[R,O]:dN).size=[0,1] from rfl,x,<-m];simp only[Frame.atR,D] at B⊢;rcases N with N|⟨N,l,rfl⟩;simp[stepG.apply,A,B,N];subst l;simp[stepG.apply,A,B,N]
def auD{R W:Oper}{Q:Exit->Act->List Frame->World->Prop}{O cs':List Frame}{v:Value}{f:FuncId}{args:mI}(L:(execOp z.eval R).run M X=.ok .recover X)(H:R.guard=Z)
  (G:recoverD O=U (v,cs')\/(recoverD O=Z/\v=.nilIface/\cs'=O))(F:W.guard=Z)(D:(W.semAt Z (z.put R.dst v).eval).run M X=.ok (.enter f args) X)
  (h:Calls M f args X λe N=>∃u,e=.returned u/\Q .normal ((z.put R.dst v).put W.dst u) cs' N):(Code.region V #[R,W] E).wpSIn Fence.wide 0 M Q z O X:=by
 refine aGy L H G ?_;show(if l9 W _ then _ else _);rw[aJ (by simp[l9,F])];refine⟨λ_ _=>trivial, ?_⟩;show Oper.uponIn Fence.wide 0 M W _ _ _ ((W.semAt Z (z.put R.dst v).eval).run M X);rw[D];refine⟨λh=>by simp[Fence.wide] at h,callsIn_wide.2 (h.mono ?_)⟩;rintro e N ⟨u,rfl,B⟩;exact B
@[local go_sem] def aJy (v:Value) (w:World):(Instr.typeAssert (.iface 48 v) 20 48 J).run Tryz.prog w=.ok (.tuple #[v,.bool J]) w:=aY
def aGz(b:Nat)(W:World):Calls Tryz.prog 41 #[.nilIface,.pointer (U ⟨b,0,Z⟩)] W λe X=>e=.returned (.tuple #[])/\X=W:=by
 go_enter Tryz.func41,Tryz.ntmps41;go_wp2
 (try simp only[Exit.inBlock,Exit.then]);refine bodyPost_ret (results_none rfl _ _ _) rfl ?_;exact⟨rfl,rfl⟩
def aGA(b:Nat)(X k:Int)(W:World)(R:W.cell? ⟨b,0,Z⟩=U (.int I X))(Q:W.frozen? ⟨b,0,Z⟩=E):Calls Tryz.prog 41 #[.iface 48 (.int I k),.pointer (U ⟨b,0,Z⟩)] W λe V=>e=.returned (.tuple #[])/\V=W.setCell ⟨b,0,Z⟩ (.int I k):=by
 go_enter Tryz.func41,Tryz.ntmps41;go_wp2
 go_end0
 exact⟨rfl,rfl⟩
def auE{u:Value}(h:X.heap[V]?=U (.cells #[u] N (0,0))):X.setCell ⟨V,0,Z⟩ Q=X.putObj V (.cells #[Q] N (0,0)):=by
 unfold Zw Hg;congr 1;apply Array.ext_getElem?;intro i;rw[SI,Array.getElem?_setIfInBounds];by_cases R:V=i;subst R;have P:V<X.heap.size:=(oQ.1 h).1;rw[aJ rfl,aJ rfl,h,aJ P];rfl;rw[aQ R,aQ R]
def auF{g:FuncId}{X:Func}{B:TypeId}{A z:String}{y x:Array Edge}(M:Tryz.prog.funcs[g]?=U X)(w:wB Tryz.prog g=J)(L:X.ntmps=3)(H:X.results= #[])
  (G:X.body=U (.region V #[⟨U 1,.call {callee:=.builtin .recover,args:= #[],argTypes:= #[]},N,A,y,Z⟩,⟨U 2,.call {callee:=.value (.func 41),args:= #[.tmp 1,.tmp 0],argTypes:= #[20,106]},B,z,x,Z⟩] E)):yj Tryz.prog g 48:=by
 have F:∀D W,(callFunc 41 D).run Tryz.prog W=.ok (.enter 41 D) W:=wC aY;refine⟨wC w,λW b=> ?_,λW b u k Q=> ?_⟩;refine callsDIn_of_wpSIn M G (by simp[Fence.wide]) λP O R=> ?_
 rw[L];refine auD (v:=.nilIface) (cs':=P::O) (f:=41) (args:= #[.nilIface,.pointer (U ⟨b,0,Z⟩)]) rfl rfl (.inr ⟨by simp[recoverD,R],rfl,rfl⟩) rfl (by simp[Oper.semAt,go_sem,Act.put,F]) ?_;refine(aGz b W).mono ?_;rintro e t ⟨rfl,rfl⟩;refine⟨_,rfl,rfl,.returning,by rw[<-R],.tuple #[], ?_,⟨_,rfl⟩,rfl,rfl⟩;simp[results,H];refine callsDIn_of_wpSIn M G (by simp[Fence.wide]) λP O R=> ?_
 rw[L];refine auD (v:=.iface 48 (.int I k)) (cs':={P with mode:=.panicking [{v:=.iface 48 (.int I k),recovered:=J}]}::O) (f:=41) (args:= #[.iface 48 (.int I k),.pointer (U ⟨b,0,Z⟩)]) rfl rfl (.inl (by simp[recoverD,R])) rfl (by simp[Oper.semAt,go_sem,Act.put,F]) ?_;refine(aGA b u k W (by simp[ow,Q]) (by simp[Zx,Q])).mono ?_;rintro e t ⟨rfl,rfl⟩;refine⟨_,rfl,rfl,_,rfl,.tuple #[], ?_,⟨_,rfl⟩,rfl,auE Q⟩;simp[results,H]
def aGB:yj Tryz.prog 40 48:=auF Tryz.func40 aY rfl rfl rfl
def aGC:yj Tryz.prog 157 48:=auF Tryz.func157 aY rfl rfl rfl
def aGD(W:World)(b:Nat):CallsDIn Fence.wide 0 Tryz.prog 94 #[.pointer (U ⟨b,0,Z⟩)] .returning W λR u Q=>(∃v,R=.returned v)/\u=.returning/\Q=W:=by
 refine callsDIn_of_wpSIn Tryz.func94 rfl (by simp[Fence.wide]) λV P X=> ?_
 have O:V={V with mode:=.returning}:=by rw[<-X]
 rw[Tryz.ntmps94];apply wpSIn_seq;apply wpSIn_region;simp[wpOpsSIn,go_sem,recoverD,X,Exit.thenS];refine wpSIn_of_wpIn rfl (wpIn_wide.2 ?_);go_wp2;refine⟨rfl,.returning,by rw[<-X],.tuple #[], ?_,⟨_,rfl⟩,rfl,rfl⟩;simp[results,Tryz.results94]
def aGE(W:World)(b:Nat)(V k:Int)(X:W.heap[b]?=U (.cells #[.int I V] 48 (0,0))):CallsDIn Fence.wide 0 Tryz.prog 94 #[.pointer (U ⟨b,0,Z⟩)] (.panicking [{v:=.iface 48 (.int I k),recovered:=E}]) W λR u Q=>(∃v,R=.returned v)/\u=.panicking [{v:=.iface 48 (.int I k),recovered:=J}]/\Q=W.putObj b (.cells #[.int I k] 48 (0,0)):=by
 have O:W.cell? ⟨b,0,Z⟩=U (.int I V):=by simp[ow,X]
 have N:W.frozen? ⟨b,0,Z⟩=false:=by simp[Zx,X]
 refine callsDIn_of_wpSIn Tryz.func94 rfl (by simp[Fence.wide]) λM L P=> ?_
 rw[Tryz.ntmps94];apply wpSIn_seq;apply wpSIn_region;simp[wpOpsSIn,go_sem,recoverD,P,Exit.thenS];refine wpSIn_of_wpIn rfl (wpIn_wide.2 ?_);go_wp2;refine⟨rfl,_,rfl,.tuple #[], ?_,⟨_,rfl⟩,rfl,auE X⟩;simp[results,Tryz.results94]
def aGF:yj Tryz.prog 94 48:=⟨wC aY,aGD,aGE⟩
section
open Go.Shelf
def Tryz.indexB_ren:Go.Shelf.Ren:=⟨λ|137=>169|217=>207|266=>258|n=>n,λ|9=>9|5=>5|3=>3|n=>n,λ|n=>n⟩
def Tryz.indexB:Go.Proofs.Lays.n137 Tryz.prog Tryz.indexB_ren:={mixed:=aY,f137:=eL Tryz.func169 aY,f217:=eL Tryz.func207 aY,f266:=eL Tryz.func258 aY,t3:=Tryz.underlying3,a3:=Tryz.isAgg3,z3:=Tryz.sizeOf3,v3:=Tryz.zeroValue3,t5:=Tryz.underlying5,a5:=Tryz.isAgg5,z5:=Tryz.sizeOf5,v5:=Tryz.zeroValue5,t9:=Tryz.underlying9,a9:=Tryz.isAgg9,z9:=Tryz.sizeOf9,v9:=Tryz.zeroValue9}
def aGG:look PT 169=U [9,5]:=aY
def aGH:look SG 169=U [3]:=aY
def aGI:iG (look TT) [9,5]=U [.ah .str,.int .u8]:=aY
def aGJ:iG (look TT) [3]=U [.int I]:=aY
def auG:∀(l:List UInt8)(b:UInt8),-1<=Lib.indexByte l b
 |[],_=>by simp[Lib.indexByte]
 |x::l,b=>by
  have:=auG l b;simp only[Lib.indexByte];split;omega;split<;>omega
def auH:∀(l:List UInt8)(b:UInt8)(k:Nat),GG k l b=if Lib.indexByte l b=-1 then-1 else Lib.indexByte l b+k
 |[],_,_=>by simp[GG,Lib.indexByte]
 |x::l,b,k=>by
  have V:=auH l b (k+1);have R:=auG l b;simp only[GG,Lib.indexByte,dE];by_cases X:x=b;simp[X];rw[aQ X,aQ X,V];by_cases W:Lib.indexByte l b=-1;simp[W];rw[aQ W,aQ W,aQ aa];omega
def aGK(l:List UInt8)(b:UInt8):GG 0 l b=Lib.indexByte l b:=by
 rw[auH];split;rename_i h;rw[h];simp
def aGL:td L 169 Yj:=by
 intro m l k j N M H G F D out O Q P W g w;rw[aGG] at N;cases N;rw[aGH] at M;cases M;rw[aGI] at H;cases H;rw[aGJ] at G;cases G;rcases D with _|⟨x,_|⟨y,_|⟨L,D⟩⟩⟩;exact P.elim;exact P.2.elim
 ·obtain⟨B,A,_⟩:=P;cases x with
  |i n=>exact B.elim
  |b n=>exact B.elim
  |r v=>
  cases y with
  |b n=>exact A.elim
  |r n=>exact A.elim
  |i c=>
  have u:=w 0 .str v rfl rfl;cases u with
  |str t=>
  rcases F with _|⟨s,_|⟨q,_|⟨f,F⟩⟩⟩;exact Q.elim;exact Q.2.elim
  ·obtain⟨V,R,_⟩:=Q;cases s with
   |i n=>exact V.elim
   |b n=>exact V.elim
   |r p=>
   cases q with
   |b n=>exact R.elim
   |r n=>exact R.elim
   |i X=>
   have R:X=c:=R;subst R;have V:dG p (.mk (.string t) []):=V;cases V with
   |val=>
   have O:U (bo.ret [.i (GG 0 t.toList (UInt8.ofNat X.toNat))])=U out:=O;cases O;have h:=Any.strings_IndexByte Tryz.indexB t X W;refine Calls.mono (show Calls Tryz.prog 169 #[.string t,.int .u8 X] W _ from h) ?_;rintro e d ⟨rfl,rfl⟩;refine⟨_,[.i (Lib.indexByte t.data.toList X.toNat.toUInt8)],rfl,⟨?_,trivial⟩,⟨trivial,trivial⟩,rfl,Below.refl _ _,YZ av,λb o=>(atG av o).elim⟩;show GG 0 t.toList (UInt8.ofNat X.toNat)=_;rw[aGK,ByteArray.toList_eq]
  exact Q.2.2.elim
 exact P.2.2.elim
def auI:∀{n:Nat}{R X:bq},BJ R X->eP (eN n (.int I)) X->∃l:bz,Y l=n/\R=l.map XV.i/\X=l.map XV.i
 |0,R,X,W,V=>by
  cases X with
  |cons _ _=>exact V.elim
  |nil=>
   cases R with
   |cons _ _=>exact W.elim
   |nil=>exact⟨[],rfl,rfl,rfl⟩
 |n+1,R,[],W,V=>V.elim
 |n+1,[],x::X,W,V=>W.elim
 |n+1,y::R,x::X,W,V=>by
  obtain⟨l,P,O,N⟩:=auI (n:=n) W.2 V.2;have e:=W.1;have f:=V.1;cases x with
  |b q=>exact f.elim
  |r q=>exact f.elim
  |i m=>
   cases y with
   |b q=>exact e.elim
   |r q=>exact e.elim
   |i Q=>
    have e:Q=m:=e;subst e;exact⟨Q::l,by simp[P],by simp[O],by simp[N]⟩
def auJ(a b c d:Int):bT a b c d=K.lG.valid ⟨⟨a,b⟩,⟨c,d⟩⟩:=by
 rw[uD];simp[bT,K.lG.valid,K.AV];omega
def aGM(a b c d X W V R:Int):JB a b c d X W V R= !(K.lG.uz ⟨⟨a,b⟩,⟨c,d⟩⟩ ⟨⟨X,W⟩,⟨V,R⟩⟩):=by
 simp only[JB,K.lG.uz,K.Range.uz,avi]
def aGN:look PT 202=U [124,124]:=aY
def aGO:look SG 202=U [4,48]:=aY
def k26:iG (look TT) [124,124]=U (eN 8 (.int I)):=aY
def q26:iG (look TT) [4,48]=U [.bool,.int I]:=aY
def aGR(a b c d X W V R:Int):(wD (look TT) [124,124] (pO (eN 8 (.int I)) [.i a,.i b,.i c,.i d,.i X,.i W,.i V,.i R])).toArray= #[K.lG.v ⟨⟨a,b⟩,⟨c,d⟩⟩,K.lG.v ⟨⟨X,W⟩,⟨V,R⟩⟩]:=aY
def aGS(x:Bool)(e:Int):Im (wD (look TT) [4,48] (pO [.bool,.int I] [.b x,.i e]))=.tuple #[.bool x,.int I e]:=aY
def aGT{l:bz}(h:Y l=8):∃a b c d X W V R,l=[a,b,c,d,X,W,V,R]:=by
 match l,h with
 |[a,b,c,d,X,W,V,R],_=>exact⟨a,b,c,d,X,W,V,R,rfl⟩
def aGU:td L 202 agO:=by
 intro t s r q X V F D p o out M A y W m k;rw[aGN] at X;cases X;rw[aGO] at V;cases V;rw[k26] at F;cases F;rw[q26] at D;cases D;obtain⟨l,w,rfl,rfl⟩:=auI (n:=8) A y;obtain⟨a,b,c,d,Q,P,O,N,rfl⟩:=aGT w;have v:=aGR a b c d Q P O N;simp only[dU,qn] at M⊢;rw[v];simp only[agO,cU] at M;subst M;have H:∀(x:Bool)(e:Int)(G:World),Below W.heap.size W G->PN (look TT) [4,48] [.bool,.int I] W (eN 8 (.int I)) [.i a,.i b,.i c,.i d,.i Q,.i P,.i O,.i N] (.ret [.b x,.i e]) (.returned (.tuple #[.bool x,.int I e])) G:=λx e G R=>
  ⟨_,[.b x,.i e],rfl,⟨rfl,rfl,trivial⟩,⟨trivial,trivial,trivial⟩,(aGS x e).symm,R,YZ av,λb u=>(atG av u).elim⟩
 rw[auJ,auJ];by_cases X:K.lG.valid ⟨⟨a,b⟩,⟨c,d⟩⟩=J;by_cases V:K.lG.valid ⟨⟨Q,P⟩,⟨O,N⟩⟩=J;rw[X,V];refine(aDz _ _ X V (JB a b c d Q P O N) (by rw[aGM];simp) W).mono ?_;rintro e B ⟨rfl,R⟩;exact H _ _ _ R;have V:K.lG.valid ⟨⟨Q,P⟩,⟨O,N⟩⟩=false:=by simpa using V
 rw[X,V];refine(aDB _ _ X V W).mono ?_;rintro e B ⟨rfl,R⟩;exact H _ _ _ R;have X:K.lG.valid ⟨⟨a,b⟩,⟨c,d⟩⟩=false:=by simpa using X
 rw[X];refine(aDA _ _ X W).mono ?_;rintro e B ⟨rfl,R⟩;exact H _ _ _ R
def aGV(f:FuncId):td L f (Nx f):=by
 unfold Nx;by_cases X:f=202;subst X;exact aGU;by_cases W:f=169;subst W;exact aGL;simp only[X,W,gf];exact ah6 f
end
theorem aGW(f:FuncId)(X:Fn)(h:TB.tree f=U X):bF f X.g X.d X.t:=by
 have h:GH f=U X:=h;unfold GH at h;split at h;cases h;exact aDZ;cases h;exact aD0;cases h;exact aD1;cases h;exact aD2;cases h;exact aD3;cases h;exact aD4;cases h;exact at7;cases h;exact at8;cases h;exact at9;cases h;exact aua;cases h;exact aub;cases h;exact auc;cases h;exact aD5;cases h;exact aD6;cases h;exact aD7;cases h;exact aD8;cases h;exact aD9;cases h;exact aEa;cases h;exact aEb;cases h;exact aEc;cases h;exact aEd;cases h;exact aEN;cases h;exact aEO;cases h;exact aEP;cases h;exact aEQ;cases h;exact aER;cases h;exact aES;cases h;exact aET;cases h;exact aEU;cases h;exact aEV JZ;cases h;exact aEW;cases h;exact aEX;cases h;exact aEY;cases h;exact aEZ;cases h;exact aE0 JZ;cases h;exact aE2;cases h;exact aE3;cases h;exact aE4;cases h;exact aE5;cases h;exact aE6;cases h;exact aE7;cases h;exact aE8 JZ;cases h;exact aE9;cases h;exact aFa;cases h;exact aFb aGF;cases h;exact aFc aGB;cases h;exact aFd JZ aGC;cases h;exact aFe;cases h;exact aFf JZ;cases h;exact aFg;cases h;exact aFh JZ;cases h;exact aE1;cases h;exact aFi JZ;cases h;exact aFj;cases h;exact aFk;cases h;exact aFl;cases h;exact aFm;cases h;exact aFn;cases h;exact aFo;cases h;exact aFp;cases h;exact aFq;cases h;exact aFr;cases h;exact aFs;cases h;exact aFt;cases h;exact aFu;cases h;exact aFv;cases h;exact aFw;cases h;exact aFx;cases h;exact aFy;cases h;exact aFz;cases h;exact aFA;cases h;exact aFB;cases h;exact aFC;cases h;exact aFD;cases h;exact aFE;cases h;exact aFF;cases h;exact aFG;cases h;exact aFH;cases h;exact aFI;cases h;exact aFJ;cases h;exact aFK;cases h;exact aFL;cases h;exact aFM;cases h;exact aFN;cases h;exact aFO;cases h;exact aFP;cases h;exact aFQ;cases h;exact aGc;cases h;exact aFR;cases h;exact aFS;cases h;exact aF8;cases h;exact aGa;cases h;exact aFT;cases h;exact aGi auw;cases h;exact aGd;cases h;exact aGe;cases h;exact aGk;cases h;exact aGl;cases h;exact aGf;cases h;exact aGm;cases h;exact aGn;cases h;exact aGj auw;cases h;exact aFU;cases h;exact aFV;cases h;exact aFW;cases h;exact aFX;cases h;exact aFY;cases h;exact aGb;cases h;exact aGg;cases h;exact aGh;cases h;exact aGo;cases h;exact aGp;cases h;exact aGq;cases h;exact aGr;cases h;exact aF9;cases h;exact aFZ;cases h;exact aF0;cases h;exact aF1;cases h;exact aF2;cases h;exact aF3;cases h;exact aF4;cases h;exact aF5;cases h;exact aF6;cases h;exact aF7;cases h;exact aGs;cases h
theorem aGX:ah8 TB true:=⟨aGW,λ_ _ _ _=>rfl,aGV⟩
def aGY:([41,44,5]:List TypeId).all (zi Tryz.prog (look TT) 9)=true:=aY
def ptH:look PT 3=U [41,44,5]:=aY
def aG0:look SG 3=U [4]:=aY
def qkH:iG (look TT) [4]=U [.bool]:=aY
def kkH:iG (look TT) [41,44,5]=U [.int I,.int I,.int I,.int I,.int I,.ah (.sl 130),.int I,.ah (.sl 132),.ah (.sl 253),.ah (.sl 255),.ah (.sl 128),.ah (.sl 141),.ah (.sl 94),.ah (.sl 39),.ah (.sl 66),.ah (.sl 3),.ah (.sl 3),.int I,.ah (.sl 70),.ah (.sl 3),.bool,.int .u8]:=aY
def r82:bD (look TT) (.sl 67)=[.ae (.slice Z 0 0) (.sl 134)]:=aY
def aG3:bD (look TT) (.sl 39)=[.ae (.slice Z 0 0) (.sl 3)]:=aY
def aG4:bD (look TT) (.sl 66)=[.ae (.slice Z 0 0) (.sl 69)]:=aY
def auL:bD (look TT) (.sl 69)=[.ae (.slice Z 0 0) (.sl 4),.ae (.slice Z 0 0) (.sl 67)]:=aY
def r38:bD (look TT) (.sl 70)=[.ae (.slice Z 0 0) (.sl 76)]:=aY
def r3':bD (look TT) (.sl 3)=[.int I]:=aY
def G3{k:IntKind}(h:eP (.int k::H) G):∃n X,G=.i n::X/\eP H X:=by
 cases G with
 |nil=>exact h.elim
 |cons x G=>
  cases x with
  |i n=>exact⟨n,G,rfl,h.2⟩
  |b n=>exact h.1.elim
  |r n=>exact h.1.elim
def xC{k:RK}(h:eP (.ah k::H) G):∃n X,G=.r n::X/\eP H X:=by
 cases G with
 |nil=>exact h.elim
 |cons x G=>
  cases x with
  |r n=>exact⟨n,G,rfl,h.2⟩
  |b n=>exact h.1.elim
  |i n=>exact h.1.elim
def po(h:bJ X D (.sl N) B)(V:qW B):Sl B:=by
 cases V with
 |mk B R P=>
 cases h with
 |sl N A O M L Q H G F z y=>
  refine⟨⟨_,_,_,rfl⟩, ?_,R⟩;simp only[RV.nC,RV.nD,lenOf,Q]
def aG6(h:eP (.bool::H) G):∃n X,G=.b n::X/\eP H X:=by
 cases G with
 |nil=>exact h.elim
 |cons x G=>
  cases x with
  |b n=>exact⟨n,G,rfl,h.2⟩
  |i n=>exact h.1.elim
  |r n=>exact h.1.elim
def auN(h:bJ X D (.sl N) B)(Q:(bD D (.sl N)).length=V):∀R∈B.ac,Y R=V:=by
 intro R P;cases h with
 |sl N A L H G F z O y x w=>
  obtain⟨i,M⟩:=tB P;rw[<-Q];exact(O i R M).1
def NX{f:TypeId}(j:Nat)(M:bD (look TT) (.sl N)=A)(L:A[j]?=U (.ae Q (.sl f)))(h:bJ X (look TT) (.sl N) B)(y:qW B):∀i<Y B.ac,bJ X (look TT) (.sl f) (cG (.sl f) (aU B.ac i j))/\qW (cG (.sl f) (aU B.ac i j)):=by
 intro i P;have r:j<Y A:=(ck.1 L).1;cases y with
 |mk q p H=>
 cases h with
 |sl N V x w R o m v l k u=>
  rw[RV.nD] at P H;have O:R[i]?=U R[i]:=cS P;have g:(R[i]).length=Y A:=by have:=(v i _ O).1;rw[M] at this;exact this
  have G:(R[i])[j]?=U (R[i])[j]:=cS aa;have F:=u i j _ _ _ _ O G (by rw[M];exact L);have D:=H _ (ql P) _ (ql (aa:j<(R[i]).length));have t:=po F D;have N:cG (.sl f) (aU (RV.mk (.slice V x w) R).ac i j)=(R[i])[j]:=by
   unfold aU;simp only[RV.nD,v7,cz,O,G,pu];obtain⟨a,n,c,s⟩:=t.sl;simp[cG,s]
  rw[N];exact⟨F,D⟩
def aG7(hS:TB.Ev 5 [] (.ret [.b J])){H:Type}{a1:TypeId×Value->H}{u:List Value}{ds:List (DataW H)}(hG:GW X)(hT:DataW.TrodAll a1 Tryz.prog X V F L [41,44,5] u ds R)(hw:∀q∈DataW.weightsEach Tryz.prog [41,44,5] ds,q<=reachBytes)
  (hv:∀(j:Nat)(t:TypeId)(v:Value)(l:TI),([41,44,5]:List TypeId)[j]?=U t->u[j]?=U v->look TT t=U l->(l.d.isAgg=J/\v=.agg v.cells)\/(l.d.isAgg=E/\v.cells.toList=[v])):
  Calls Tryz.prog 3 u.toArray X λe W'=>e=.returned (.bool J)/\Below X.heap.size X W':=by
 obtain⟨ks,xs,M,G,h3,P,O,h6⟩:=aGx JQ aGY hT hw hv;rw[kkH] at M;cases M;have hf:=G;obtain⟨Wd,cA,rfl,a3⟩:=G3 hf;obtain⟨D,cB,rfl,a4⟩:=G3 a3;obtain⟨A,cC,rfl,a9⟩:=G3 a4;obtain⟨B,cD,rfl,ba⟩:=G3 a9;obtain⟨Q,cI,rfl,bb⟩:=G3 ba;obtain⟨rl,cO,rfl,bc⟩:=xC bb;obtain⟨bf,cR,rfl,bg⟩:=G3 bc;obtain⟨tp,cW,rfl,bk⟩:=xC bg;obtain⟨pq,c0,rfl,bl⟩:=xC bk;obtain⟨sp,c1,rfl,bs⟩:=xC bl;obtain⟨sg,c2,rfl,bt⟩:=xC bs;obtain⟨g,c3,rfl,bx⟩:=xC bt;obtain⟨f,c4,rfl,b0⟩:=xC bx;obtain⟨s,c5,rfl,b1⟩:=xC b0;obtain⟨p,c6,rfl,b2⟩:=xC b1;obtain⟨c,c7,rfl,b3⟩:=xC b2;obtain⟨a,c8,rfl,b4⟩:=xC b3;obtain⟨cZ,c9,rfl,b5⟩:=G3 b4;obtain⟨z,dc,rfl,b6⟩:=xC b5;obtain⟨o,dd,rfl,b7⟩:=xC b6;obtain⟨cl,df,rfl,b8⟩:=aG6 b7;obtain⟨x,cc,rfl,cf⟩:=G3 b8;cases cc with
 |cons _ _=>exact cf.elim
 |nil=>
 have cn:=po (P 5 _ rl rfl rfl) (O _ av);have cp:=po (P 7 _ tp rfl rfl) (O _ av);have ct:=po (P 8 _ pq rfl rfl) (O _ av);have cv:=po (P 9 _ sp rfl rfl) (O _ av);have cx:=po (P 10 _ sg rfl rfl) (O _ av)
 letI:Inhabited db:=⟨⟨Wd,D,A,B,Q,bf,rl,tp,pq,sp,sg⟩⟩
 have s1:fp:=⟨cn,cp,ct,cv,cx⟩;have al:=NX 0 aG3 rfl (P 13 _ s rfl rfl) (O _ av);have af:=NX 0 aG4 rfl (P 14 _ p rfl rfl) (O _ av);have an:=NX 0 r38 rfl (P 18 _ z rfl rfl) (O _ av);have S:rV g f s p c:=⟨(po (P 11 _ g rfl rfl) (O _ av)),(po (P 12 _ f rfl rfl) (O _ av)),(po (P 13 _ s rfl rfl) (O _ av)),(po (P 14 _ p rfl rfl) (O _ av)),(po (P 15 _ c rfl rfl) (O _ av)),λi N=>po (al i N).1 (al i N).2,λi N=>po (af i N).1 (af i N).2,λk hk i N=>by
  have m:=af k hk;have h0:=NX 0 auL rfl m.1 m.2 i N;have M:=NX 1 auL rfl m.1 m.2 i N;refine⟨po h0.1 h0.2,po M.1 M.2,λj hj=> ?_⟩;have G:=NX 0 r82 rfl M.1 M.2 j hj;exact po G.1 G.2⟩
 have D:Dk a z o:=⟨(po (P 16 _ a rfl rfl) (O _ av)),(po (P 18 _ z rfl rfl) (O _ av)),(po (P 19 _ o rfl rfl) (O _ av)),λi N=>po (an i N).1 (an i N).2,auN (P 18 _ z rfl rfl) (by rw[r38];rfl),auN (P 19 _ o rfl rfl) (by rw[r3'];rfl)⟩;have ag:=h6 21 .u8 x rfl rfl;have ag:0<=x/\x<=255:=by
  simp[Lit.wf,IntKind.min,IntKind.max,IntKind.bits,IntKind.signed] at ag;omega
 obtain⟨n,hn⟩:=aDd (cZ:=cZ) (cl:=cl) hS s1 S D x ag;have a0:=YX aGX n 3 _ _ _ _ ptH aG0 kkH qkH _ _ _ hn (YY _) G X (λ_=>hG) P;have cy:wD (look TT) [41,44,5] (pO _ (dZ g f s p c++[.r a,.i cZ,.r z,.r o,.b cl,.i x]))=u:=h3;rw[cy] at a0;refine a0.mono ?_;intro e W' h;cases e with
 |returned v=>
  obtain⟨yh,ys,e1,w,e3,rfl,hB,_,_⟩:=h;cases e1;cases ys with
  |nil=>exact w.elim
  |cons y ys=>
   cases ys with
   |cons _ _=>exact w.2.elim
   |nil=>
    cases y with
    |b q=>
     have:J=q:=w.1;subst this;exact⟨rfl,hB⟩
    |i q=>exact w.1.elim
    |r q=>exact w.1.elim
 |panicked ch=>obtain⟨_,v,e1,_⟩:=h;cases e1
 |outgrown=>exact h.elim
section
open Go.ChangeShapes Go.RowKit
def aG8{H:Type}{G:TypeId×Value->H}(B:laidOutB M=J){F:World}(A:Below X.heap.size X F):∀{V:List TypeId}{Q:List Value}{O:List (DataW H)}{R:List MemPlace},V.all (λt=>M.readableRec t&&decide (t<M.types.size))=J->DataW.TrodAll G M X 0 (λ_=>J) J V Q O R->(∀x∈R,x.block<X.heap.size)->DataW.TrodAll G M F 0 (λb=>decide (b<X.heap.size)) J V Q O R:=by
 intro V;induction V with
 |nil=>
  intro Q O R _ h _;obtain⟨rfl,rfl,rfl⟩:=trodAll_nil h;exact rfl
 |cons t V z=>
  intro Q O R N h D;obtain⟨v,u,d,s,p,q,rfl,rfl,rfl,y,w⟩:=trodAll_cons h;simp only[N7,aw,cm] at N;exact⟨p,q,Go.RowKit.Below.trod B N.1.1 N.1.2 y A (λx L=>D x (by simp[L])),z (by simpa using N.2) w (λx L=>D x (by simp[L])),rfl⟩
def aG9:laidOutB Tryz.prog=true:=aY
def rdH:([41,44,5]:List TypeId).all (λt=>Tryz.prog.readableRec t&&decide (t<Tryz.prog.types.size))=true:=aY
def aHb{H:Type}{P:TypeId×Value->H}{N:World}{D B:List (DataW H)}(V:DataW.Whole P Tryz.prog Tryz.f3.params.toList [] E X O.toList D B R)(M:Below X.heap.size X N):
  Rows.deskHoldSpec.post P Tryz.prog Tryz.f3 E J E E X O (.bool J) N:=by
 have A:=V.lt;have z:=V;obtain⟨p,q,L,y,rfl,_,_⟩:=V;obtain⟨rfl,rfl⟩:=trodVars_none y;have Q:Tryz.f3.params.toList=[41,44,5]:=by rw[Tryz.params3]
 have G:=L;rw[Q] at G;obtain⟨s,r,o,n,m,l,_,rfl,rfl,_,w⟩:=trodAll_cons G;obtain⟨k,j,i,g,f,e,_,rfl,rfl,_,v⟩:=trodAll_cons w;obtain⟨d,c,b,a,p3,q3,_,rfl,rfl,_,u⟩:=trodAll_cons v;obtain⟨_,rfl,rfl⟩:=trodAll_nil u;have F:=aG8 aG9 M rdH (by rw[<-Q];exact L) (λx t=>A x (by simpa using t));rw[<-Q] at F;exact⟨_,_,_,[],_,[],z,trodAll_mk1 (shut_bool Tryz.underlying4 _),F,rfl,Below.frame M _,λh=>(by cases h)⟩
end
section
open Go.ChangeShapes Go.RowKit Go.ChangeAt
abbrev gn(k:Nat):String:=Rows.deskHoldRow.named.getD k ""
abbrev L3{H:Type}:List (String×DataW H):=[(gn 1,Rows.laid_kinesphere_space_flat),(gn 0,Rows.laid_kinesphere_expand_kinds),(gn 2,Rows.laid_kinesphere_motion_kinds)]
def aHc(kQ:jg M D){G:TI}(h:D N=U G)(O:Value.okWide M X .any V N Q):(G.d.isAgg=J/\Q=.agg Q.cells)\/(G.d.isAgg=E/\Q.cells.toList=[Q]):=by
 have R:=(kQ N G h).desc;have B:∀d,M.underlying N=U d->(∀F,d≠ .struct F)->(∀n e,d≠ .array n e)->Q.cells.toList=[Q]:=by
  intro d H y x;cases Q<;>try rfl
  case agg A=>
   exfalso;unfold Value.okWide at O;rw[H] at O;cases d<;>first|exact y _ rfl|exact x _ _ rfl|simp[Cell.okWide,Cell.ok,H] at O
 cases w:G.d<;>rw[w] at R
 case one=>
  obtain⟨d,H,⟨z,_⟩,_⟩:=R;exact .inr ⟨rfl,B d H (λF e=>by subst e;exact z) (λn e L=>by subst L;exact z)⟩
 case gX=>obtain⟨m,H⟩:=R;exact .inr ⟨rfl,B _ H (λF e=>by cases e) (λn e L=>by cases L)⟩
 case str=>exact .inr ⟨rfl,B _ R (λF e=>by cases e) (λn e L=>by cases L)⟩
 case slice e=>exact .inr ⟨rfl,B _ R (λF e=>by cases e) (λn e L=>by cases L)⟩
 case map k e n u=>exact .inr ⟨rfl,B _ R (λF e=>by cases e) (λn e L=>by cases L)⟩
 case arr n e=>
  have R:M.underlying N=U (.array n e):=R;unfold Value.okWide at O;rw[R] at O;obtain⟨A,rfl,_⟩:=O;exact .inl ⟨rfl,rfl⟩
 case struct s=>
  obtain⟨F,H,_⟩:=R;unfold Value.okWide at O;rw[H] at O;obtain⟨A,rfl,_⟩:=O;exact .inl ⟨rfl,rfl⟩
def aHd:ownKnob Tryz.prog.godebug=none:=aY
def aHe(B:TB.Ev 5 [] (.ret [.b J])){H:Type}{P:TypeId×Value->H}{N M:List (DataW H)}(A:GW X)
  (z:∀(j:Nat) t v,Tryz.f3.params[j]?=U t->O[j]?=U v->Value.okWide Tryz.prog X .any V t v)(L:DataW.Whole P Tryz.prog Tryz.f3.params.toList [] E X O.toList N M R)
  (Q:(DataW.weightsEach Tryz.prog (Tryz.f3.params.toList++[]) (N++M)).all (·<=reachBytes)=J):
  Calls Tryz.prog 3 O X λe G=>∃v,e=.returned v/\Rows.deskHoldSpec.post P Tryz.prog Tryz.f3 E J E E X O v G:=by
 have y:=L;obtain⟨p,q,F,x,rfl,_,_⟩:=L;obtain⟨rfl,rfl⟩:=trodVars_none x;have D:Tryz.f3.params.toList=[41,44,5]:=by rw[Tryz.params3]
 rw[D] at F Q;simp only[J3,fO,cm] at Q;have w:=aG7 B A F Q (λj t v l u s r=>by
  have o:Tryz.f3.params[j]?=U t:=by rw[<-Zj,D];exact u
  have n:=z j t v o (by rw[<-Zj];exact s);exact aHc JQ r n)
 refine w.mono ?_;rintro e G ⟨rfl,m⟩;exact⟨_,rfl,aHb y m⟩

def aHf(X:Os)(W:Array Value):laidMetH Tryz.prog L3 ((World.doorLaid Tryz.prog 400 X).forCall (λ_ _=>0) ⟨#[],W,[]⟩).memory:=
 laidMetH_of_parts3 (fuel:=8) (laidMet_of_run' 8 aY aY) aY aY
def aHg(P:TB.Ev 5 [] (.ret [.b J]))(O:∀W,laidMetH Tryz.prog L3 W->GW W)(V:Os)(started:V.Started)(H:Type)(R:TypeId×Value->H):
  ReturnsInHanded {} Tryz.checked V 3 .any (λw Q=>(Rows.deskHoldSpec.pre R Tryz.prog Tryz.f3 [] E w Q/\laidMetH Tryz.prog L3 w)/\sizedMet R Tryz.prog Tryz.f3 (OpenSpec.ofChange Rows.deskHoldSpec) E w Q)
   (Rows.deskHoldSpec.post R Tryz.prog Tryz.f3 E J E E):=by
 refine returnsInHanded_of_change_and (C:=Tryz.checked) (X:=λw _=>laidMetH Tryz.prog L3 w) (λ_ _ _ N h=>h.of_heap N) aHd started aY Tryz.func3
  (ChangeSpec.witness_shaped (enc:=R) (C:=Tryz.checked) (os:=V) (X:=λw _=>laidMetH Tryz.prog L3 w) E (World.doorLaid Tryz.prog 400 V) #[.agg #[.int I 0,.int I 0,.int I 0,.int I 0,.int I 0,.slice Z 0 0,.int I 0,.slice Z 0 0,.slice Z 0 0,.slice Z 0 0,.slice Z 0 0,.slice Z 0 0,.slice Z 0 0,.slice Z 0 0,.slice Z 0 0,.slice Z 0 0],.agg #[.slice Z 0 0,.int I 0,.slice Z 0 0,.slice Z 0 0,.bool E],.int .u8 0] 8 rfl (World.shaped_of_RefB aY aY) aY aY aY (aHf V _)) ?_
 intro W D Q B A before M L _ G F _;exact aHe P (O W F) M L G
end
section
variable{P:Program}{ty:Ty}{W:World}
def zj{X:Type}(w:Nat):Nat->List X->List (List X)
 |0,_=>[]
 |n+1,l=>l.take w::zj w n (l.drop w)
def SC{X:Type}{w:Nat}:∀{n:Nat}{l:List X},(zj w n l).length=n
 |0,_=>rfl
 |n+1,l=>by simp[zj,SC (n:=n)]
def Zi{X:Type}{w:Nat}:∀{n:Nat}{l r:List X}{i:Nat},(zj w n l)[i]?=U r->i<n/\r=(l.drop (i*w)).take w
 |0,l,r,i,h=>by simp[zj] at h
 |n+1,l,r,0,h=>by simp[zj] at h;exact⟨aa,by simp[h]⟩
 |n+1,l,r,i+1,h=>by
  simp only[zj,tA] at h;obtain⟨R,V⟩:=Zi h;refine⟨aa, ?_⟩;rw[V,N6];congr 2;rw[pz];omega
def NY{R:Type}{n:Nat}{l r:List R}{i j:Nat}{c:R}(h:(zj V n l)[i]?=U r)(X:r[j]?=U c):i<n/\j<V/\l[i*V+j]?=U c:=by
 obtain⟨Q,rfl⟩:=Zi h;rw[nj] at X;split at X;rename_i O;rw[uC] at X;exact⟨Q,O,X⟩;cases X
def SD{H:Type}(P:Program)(t:TypeId)(d:DataW H)(w n:Nat):List (List RV):=zj w n ((fw (n*w)).map λj=>(oP P 9 t d j).getD default)
def aiF{g n w:Nat}{e t:TypeId}{G F:TI}{d:DataW Unit}(ag:ty e=U G)(al:ty t=U F)(hw:Y G.aj=w)(A:Y F.aj=n*w)(an:(fw n).map (λi=>(F.aj.drop (i*w)).take w)=eN n G.aj)(a0:zi P ty 9 t=J)
  (a1:DataW.trod (λ_=>()) P W 0 (λ_=>J) E V t O.toList=U (d,R))(a3:(DataW.weights P t d).all (·<=reachBytes)=J)(a4:∀i,W.cell? ⟨g,i,Z⟩=O[i]?)(hE:((fw (n*w)).all λj=>(oP P 9 t d j).isSome)=J)(ba:0<w):
  ∃u,bJ W ty (.sl e) (.mk (.slice (U ⟨g,0,Z⟩) n n) u)/\dG (nH g (SD P t d w n)) (.mk (.slice (U ⟨g,0,Z⟩) n n) u):=by
 obtain⟨s,h2⟩:=SA V 9 t F _ _ al a0 a1 (λq hq=>uE (fO.1 a3 q hq));obtain⟨D,o,r2,r3,r4,r5,r6⟩:=aiC s h2;have a9:Y D=n*w:=by rw[<-qX (f:=RV.val),o,s,A]
 have y:∀i j,i<n->j<w->F.aj[i*w+j]?=G.aj[j]?:=λi j m hj=>by
  have h:=kh (·[i]?) an;simp only[dW,CZ m,G4,aJ m,eh,cU] at h;rw[<-h,nj,aJ hj,uC]
 have B:bD ty (.sl e)=G.aj:=by simp[bD,ag]
 have l:∀(i j:Nat)(r:List RV)(c:RV),(zj w n D)[i]?=U r->r[j]?=U c->W.cell? ⟨g,0+i*w+j,Z⟩=U c.val:=λi j r c X Q=>by
  obtain⟨_,_,N⟩:=NY X Q;have v:O.toList[i*w+j]?=U c.val:=by rw[<-o,dW,N];rfl
  rw[iX,a4,<-Zj];exact v
 have b:∀(i:Nat)(r:List RV),(zj w n D)[i]?=U r->Y r=w:=λi r X=>by
  obtain⟨Q,rfl⟩:=Zi X;have:(i+1)*w<=n*w:=EV w Q;rw[pz] at this;rw[EY,C1,a9];omega
 refine⟨zj w n D,.sl e _ n n _ SC (b9 _) (λi r X=> ?_) (λi j r c k X Q N=> ?_) (λi j r c X Q N=> ?_) (λi j r c z k X Q N=> ?_), ?_⟩;rw[B,hw];have A:=b i r X;refine⟨A,g,0,rfl, ?_,λj c Q=>l i j r c X Q⟩;obtain⟨c,hc⟩:∃c,r[0]?=U c:=⟨_,cS aa⟩;exact auz (l i 0 r c X hc);rw[B] at N;obtain⟨L,H,M⟩:=NY X Q;exact r2 _ c k M (by rw[y i j L H];exact N);rw[B] at N;obtain⟨L,H,M⟩:=NY X Q;exact r3 _ c M (by rw[y i j L H];exact N);rw[B] at N;obtain⟨L,H,M⟩:=NY X Q;exact r4 _ c z k M (by rw[y i j L H];exact N);unfold nH SD;rw[SC];refine dG.sl _ _ _ _ _ _ _ (by rw[SC,SC]) (λi r a X Q=> ?_) (λi j r a c c' X Q N v=> ?_);obtain⟨L,rfl⟩:=Zi X;have:(i+1)*w<=n*w:=EV w L;rw[pz] at this;rw[b i a Q,EY,C1,qX,aIG];omega;obtain⟨L,H,M⟩:=NY X N;obtain⟨_,_,q4⟩:=NY Q v;rw[dW] at M;have af:i*w+j<n*w:=by
  have:(i+1)*w<=n*w:=EV w L;rw[pz] at this;omega
 rw[CZ af] at M;simp only[eh,cU] at M;obtain⟨x,hx⟩:=ln.1 (fO.1 hE _ (xI.2 af));rw[hx,pu] at M;subst M;exact r6 _ c' x q4 hx
end
def aHh:Tryz.prog.globalNamed (gn 1)=U 2:=aY
def aHi:Tryz.prog.globalNamed (gn 0)=U 0:=aY
def aHj:Tryz.prog.globalNamed (gn 2)=U 1:=aY
def aHk:(Tryz.prog.globals[2]?).map (·.type)=U 278:=aY
def aHl:(Tryz.prog.globals[0]?).map (·.type)=U 207:=aY
def aHm:(Tryz.prog.globals[1]?).map (·.type)=U 228:=aY
def aiG{n:String}(R:Tryz.prog.globalNamed n=U V)(Q:X.var? Tryz.prog n=U O)(i:Nat):X.cell? ⟨V,i,Z⟩=O[i]?:=World.var?_cell R Q i
def auO:∀(X:List XV)(O:ai),∃l,(O.ext X).r=O.r++l
 |[],O=>⟨[],by simp[ai.ext]⟩
 |x::X,O=>by
  obtain⟨l,h⟩:=auO X (O.add x);simp only[ai.ext,h];cases x<;>simp[ai.add]
def auP:kV=[nH 0 (SD Tryz.prog 207 (Rows.laid_kinesphere_expand_kinds:DataW Unit) 6 10),nH 1 (SD Tryz.prog 228 (Rows.laid_kinesphere_motion_kinds:DataW Unit) 2 10),nH 2 (SD Tryz.prog 278 (Rows.laid_kinesphere_space_flat:DataW Unit) 2 8)]:=aY
def auQ{X:Type}{p:Nat->X->Prop}{a b c:X}(V:p 0 a)(R:p 1 b)(Q:p 2 c):∀(k:Nat)(x:X),[a,b,c][k]?=U x->p k x
 |0,_,h=>mH h▸V
 |1,_,h=>mH h▸R
 |2,_,h=>mH h▸Q
 |k+3,_,h=>(by simp at h)
def aHn(h:laidMetH Tryz.prog L3 X):GW X:=by
 rw[MakeChecks.laidMetH_plain _ _ _ aY] at h;obtain⟨ps,⟨g0,t0,kP,f0,p0,q0,H,B,A,z,⟨g1,t1,af,f1,p1,q1,G,y,u,s,⟨g2,t2,ag,f2,p2,q2,F,r,q,o,_,_⟩,_⟩,_⟩,_,_⟩:=h;obtain rfl:=mH (aHh.symm.trans H);obtain rfl:=mH (aHi.symm.trans G);obtain rfl:=mH (aHj.symm.trans F);obtain rfl:=mH (aHk.symm.trans B);obtain rfl:=mH (aHl.symm.trans y);obtain rfl:=mH (aHm.symm.trans r);obtain⟨R,m,j⟩:=aiF (P:=Tryz.prog) (ty:=look TT) (W:=X) (g:=0) (n:=10) (w:=6) (e:=206) (t:=207) rfl rfl rfl rfl rfl aY s aY (aiG G u) aY dQ;obtain⟨Q,i,f⟩:=aiF (P:=Tryz.prog) (ty:=look TT) (W:=X) (g:=1) (n:=10) (w:=2) (e:=227) (t:=228) rfl rfl rfl rfl rfl aY o aY (aiG F q) aY dQ;obtain⟨O,d,c⟩:=aiF (P:=Tryz.prog) (ty:=look TT) (W:=X) (g:=2) (n:=8) (w:=2) (e:=197) (t:=278) rfl rfl rfl rfl rfl aY z aY (aiG H A) aY dQ;refine⟨[.mk (.slice (U ⟨0,0,Z⟩) 10 10) R,.mk (.slice (U ⟨1,0,Z⟩) 10 10) Q,.mk (.slice (U ⟨2,0,Z⟩) 8 8) O],by rw[auP];rfl,λk v V N L=> ?_,λk e M N L=> ?_,λb x D=> ?_⟩;rw[auP] at N;exact auQ (p:=λk v=>∀V,[RV.mk (.slice (U ⟨0,0,Z⟩) 10 10) R,.mk (.slice (U ⟨1,0,Z⟩) 10 10) Q,.mk (.slice (U ⟨2,0,Z⟩) 8 8) O][k]?=U V->dG v V) (λV h=>mH h▸j) (λV h=>mH h▸f) (λV h=>mH h▸c) k v N V L;exact auQ (p:=λk e=>∀M,[RV.mk (.slice (U ⟨0,0,Z⟩) 10 10) R,.mk (.slice (U ⟨1,0,Z⟩) 10 10) Q,.mk (.slice (U ⟨2,0,Z⟩) 8 8) O][k]?=U M->bJ X (look TT) e M) (λV h=>mH h▸m) (λV h=>mH h▸i) (λV h=>mH h▸d) k e N M L;obtain⟨l,a⟩:=auO b ⟨[],[],[RV.mk (.slice (U ⟨0,0,Z⟩) 10 10) R,.mk (.slice (U ⟨1,0,Z⟩) 10 10) Q,.mk (.slice (U ⟨2,0,Z⟩) 8 8) O],[]⟩;simp only[GL,dP,SN,or_false] at D;unfold fU ai.rv;rw[a];rcases D with rfl|rfl|rfl;exact⟨av,10,10,rfl⟩;exact⟨av,10,10,rfl⟩;exact⟨av,8,8,rfl⟩
