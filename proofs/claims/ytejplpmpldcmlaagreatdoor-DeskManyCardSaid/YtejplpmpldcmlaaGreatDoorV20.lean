/- Part 20 of the proof. -/
import Derived.Test.YtejplpmpldcmlaaGreatDoorV8
import Derived.Test.YtejplpmpldcmlaaGreatDoorV11
import Derived.Test.YtejplpmpldcmlaaGreatDoorV12
import Derived.Test.YtejplpmpldcmlaaGreatDoorV13
import Derived.Test.YtejplpmpldcmlaaGreatDoorV14
import Derived.Test.YtejplpmpldcmlaaGreatDoorV15
import Derived.Test.YtejplpmpldcmlaaGreatDoorV16
import Derived.Test.YtejplpmpldcmlaaGreatDoorV17
import Derived.Test.YtejplpmpldcmlaaGreatDoorV18
import Derived.Test.YtejplpmpldcmlaaGreatDoorV19
import Derived.Test.YtejplpmpldcmlaaGreatDoorRows
import Derived.ChangeArms
import Derived.DataReads
import Derived.OpenShut
import Derived.RecoverIn
import Derived.Shelf.Small.Strs
import Derived.Carry
import Derived.ProofKit
import Derived.LaidMore
import Derived.Stop.Joined
import Derived.Handed
set_option linter.all false
set_option maxRecDepth 100000
set_option maxHeartbeats 100000000
open Bool renaming and_eq_true->aw,false_eq_true->jB,eq_iff_iff->sx,and_assoc->avK,true->J,false->E
open List renaming getD_eq_getElem?_getD->cw,getElem?_eq_some_iff->cu,getElem?_eq_getElem->cP,getElem?_append_left->dN,getElem?_map->dS,getElem?_append_right->iJ,nil_append->eK,mem_append->eW,map_cons->dU,mem_cons->dV,replicate->eF,all_eq_true->fZ,mem_of_getElem?->jK,range->e8,mem_map->iD,any_eq_true->kW,getElem?_take->nD,getElem?_cons_succ->tN,getElem?_of_mem->tO,getElem_mem->pM,length_map->pN,getElem?_drop->uN,map_nil->pP,getElem?_range->zH,mem_range->uO,getElem?_replicate->Hh,take_of_length_le->Hj,length_drop->Df,length_take->E4,mem_of_find?_eq_some->SK,append_nil->Kb,drop_of_length_le->ZB,drop_drop->Ol,map->Bp,not_mem_nil->SS,all_cons->Om,find?_some->SU,take_append_of_le_length->avl,drop_append_of_le_length->avm,getElem?_zip_eq_some->avp,length_range->avC,length->Y
open Nat renaming le_refl->bY,zero_add->jf,add_mul->nE,mul_le_mul_right->zG,eq_zero_or_pos->Bm,mod_lt->Hy,mul_comm->SZ,div_lt_of_lt_mul->avt,div_add_mod->ajk,sub_self->ZT
open Option renaming map_some->eh,isSome_iff_exists->lF,getD_some->oI,bind_eq_some_iff->aI2,some->U,none->Z
open Array renaming getElem?_eq_some_iff->oY,getElem?_modify->SM,getElem?_toList->ZD
open Go.World renaming cell?->oK,putObj->Hv,setCell->ZQ,frozen?->ZR,cells?_some->aJq
open Go.Region renaming wanted->mw
open Int renaming toNat_natCast->su
open Go.Oper renaming semAt_none->avG
open Go.IntKind renaming i64->I
namespace Go.Proofs.YtejplpmpldcmlaaGreatDoor.Y
open Go.RowKit
noncomputable section
variable{D:Ty}{X:World}{Q:Value}{A:fu}{V:Nat}{F:Nat→Bool}{L:Bool}{M:Program}{z:Act}{N:TypeId}{H:List LK}{G:List XV}{B:RV}{R:List MemPlace}{O:Array Value}
def Zv:CT->CT->Bool
 |.int k,.int X=>decide (k=X)
 |.bool,.bool=>J
 |.ae _ k,.ae _ X=>decide (k=X)
 |_,_=>E
def Db:fu->fu->Bool
 |[],[]=>J
 |c::l,X::V=>Zv c X&&Db l V
 |_,_=>E
def Zw:∀{l V:fu},Db l V=J->Y l=Y V/\∀(j:Nat)(c X:CT),l[j]?=U c->V[j]?=U X->Zv c X=J
 |[],[],_=>⟨rfl,λj c X h _=>by simp at h⟩
 |[],_::_,h=>by cases h
 |_::_,[],h=>by cases h
 |a::l,b::V,h=>by
  simp only[Db,aw] at h;obtain⟨O,N⟩:=Zw h.2;refine⟨by simp[O],λj c X R Q=> ?_⟩;cases j with
  |zero=>simp at R Q;subst R;subst Q;exact h.1
  |succ j=>exact N j c X (by simpa using R) (by simpa using Q)
inductive ru:RV->Prop
 |mk (rv:RV) (h:Y rv.ac<=140737488355328) (h2:∀row∈rv.ac,∀c∈row,ru c):ru rv
def ru.Zx(v:Value):ru (.mk v []):=.mk _ (by simp[RV.nN]) (by simp[RV.nN])
def Bi(o:Ty)(W:World)(V:Option RV):CT->Value->Prop
 |.int k,v=>(∃n,v=.int k n/\(Lit.int k n).wf=J)/\∀r,V=U r->r=.mk v []
 |.bool,v=>(∃b,v=.bool b)/\∀r,V=U r->r=.mk v []
 |.ae _ k,v=>∃X:RV,X.val=v/\bJ W o k X/\ru X/\∀r,V=U r->cU r X
def Bi.aiY{V:Option RV}{a b:CT}(h:Zv a b=J)(k:Bi D X V b Q):Bi D X V a Q:=by
 cases a<;>cases b<;>simp only[Zv,ce,jB] at h;subst h;exact k;exact k;subst h;exact k
def zE(P:Program)(o:Ty):Nat->TypeId->Bool
 |0,_=>E
 |n+1,t=>match o t with
  |none=>E
  |U X=>match P.underlying t with
   |U (.int k)=>Db X.aj [.int k]
   |U .bool=>Db X.aj [.bool]
   |U .string=>Db X.aj [.ae undef .str]
   |U (.slice e)=>Db X.aj [.ae undef (.sl e)]&&zE P o n e&&decide (P.cellsOf e=(bE o (.sl e)).length)&&decide (P.cellsOf e≠0)&&decide (P.bytesOf e≠0)
   |U (.struct Q)=>decide (P.cellsOf t=Y X.aj)&&Q.toList.all (λf=>zE P o n f.type&&(match o f.type with
     |U R=>decide (P.cellsOf f.type=Y R.aj)&&Db ((X.aj.drop f.offset).take (Y R.aj)) R.aj
     |none=>E))&&(e8 (Y X.aj)).all λj=>Q.toList.any λf=>decide (f.offset<=j)&&decide (j<f.offset+P.cellsOf f.type)
   |U (.array k e)=>decide (P.cellsOf t=Y X.aj)&&zE P o n e&&(match o e with
     |U V=>decide (P.cellsOf e=Y V.aj)&&decide (Y X.aj=k*Y V.aj)&&(e8 k).all λi=>Db ((X.aj.drop (i*Y V.aj)).take (Y V.aj)) V.aj
     |none=>E)
   |_=>E
def oX{H:Type}(P:Program):Nat->TypeId->DataW H->Nat->Option RV
 |0,_,_,_=>Z
 |n+1,t,d,j=>match P.underlying t,d with
  |U (.int _),.lit (.int k q)=>U (.mk (.int k q) [])
  |U .bool,.lit (.bool b)=>U (.mk (.bool b) [])
  |U (.slice e),.slice X _=>if(X.all λd=>(e8 (P.cellsOf e)).all λj=>(oX P n e d j).isSome) then U (.mk (.slice Z (Y X) (Y X)) (X.map λd=>(e8 (P.cellsOf e)).map λj=>(oX P n e d j).getD default)) else Z
  |U (.slice _),.nil=>U (.mk (.slice Z 0 0) [])
  |U (.struct R),.agg V=>match(R.toList.zip V).find? λf=>decide (f.1.offset<=j)&&decide (j<f.1.offset+P.cellsOf f.1.type) with
   |U f=>oX P n f.1.type f.2 (j-f.1.offset)
   |none=>Z
  |U (.array _ e),.agg V=>match V[j/P.cellsOf e]? with
   |U d=>oX P n e d (j%P.cellsOf e)
   |none=>Z
  |_,_=>Z
section
variable{P:Program}{o:Ty}{W:World}
def SE{R:Nat->Option RV}{c:CT}(h:Db A [c]=J)(k:Bi o W (R 0) c Q):[Q].length=Y A/\∀(j:Nat)(X:CT)(u:Value),A[j]?=U X->[Q][j]?=U u->Bi o W (R j) X u:=by
 obtain⟨O,N⟩:=Zw h;refine⟨by simp[O],λj X u M V=> ?_⟩;cases j with
 |zero=>simp at V;subst V;exact Bi.aiY (N 0 X c M rfl) k
 |succ j=>simp at V
def aiZ:∀{Ecel:Nat->Option RV}{aj:fu}{cs:gG},Y cs=Y aj->(∀(j:Nat)(O:CT)(v:Value),aj[j]?=U O->cs[j]?=U v->Bi o W (Ecel j) O v)->
  ∃N:aF,N.map RV.val=cs/\(∀(j:Nat)(c:RV)(k:IntKind),N[j]?=U c->aj[j]?=U (.int k)->∃n,c.val=.int k n)/\(∀(j:Nat)(c:RV),N[j]?=U c->aj[j]?=U .bool->∃x,c.val=.bool x)/\(∀(j:Nat)(c:RV)(z:Value)(k:RK),N[j]?=U c->aj[j]?=U (.ae z k)->bJ W o k c)/\(∀c∈N,ru c)/\∀(j:Nat)(c r:RV),N[j]?=U c->Ecel j=U r->cU r c
 |_,[],[],_,_=>⟨[],rfl,λj c k h=>by simp at h,λj c h=>by simp at h,λj c z k h=>by simp at h,av,λj c r h=>by simp at h⟩
 |_,[],_::_,h,_=>by simp at h
 |_,_::_,[],h,_=>by simp at h
 |Ecel,O::aj,v::cs,F,h=>by
  obtain⟨N,D,B,A,y,w,t⟩:=aiZ (Ecel:=λj=>Ecel (j+1)) (aj:=aj) (cs:=cs) (by simpa using F) (λj c u s M=>h (j+1) c u (by simpa using s) (by simpa using M));obtain⟨r,L,M,q,p,m,l⟩:∃r:RV,r.val=v/\(∀k,O=.int k->∃n,r.val=.int k n)/\(O=.bool->∃x,r.val=.bool x)/\(∀z k,O=.ae z k->bJ W o k r)/\ru r/\∀R,Ecel 0=U R->cU R r:=by
   have Q:=h 0 O v rfl rfl;cases O with
   |int k=>exact⟨.mk v [],rfl,λH e=>(by cases e;obtain⟨⟨n,i,_⟩,_⟩:=Q;exact⟨n,i⟩),λe=>(by cases e),λz k e=>(by cases e),ru.Zx v,λR G=>by rw[Q.2 R G];exact cU.refl _⟩
   |bool=>exact⟨.mk v [],rfl,λH e=>(by cases e),λ_=>Q.1,λz k e=>(by cases e),ru.Zx v,λR G=>by rw[Q.2 R G];exact cU.refl _⟩
   |ae z k=>
    obtain⟨r,L,g,f,d⟩:=Q;exact⟨r,L,λH e=>(by cases e),λe=>(by cases e),λb H e=>(by cases e;exact g),f,d⟩
  refine⟨r::N,by simp[L,D],λj c k X V=> ?_,λj c X V=> ?_,λj c z k X V=> ?_,λc Q=>(dV.1 Q).elim (λe=>e▸m) (λQ=>w c Q),λj c R X V=> ?_⟩;cases j with
  |zero=>simp at X V;subst X;exact M k V
  |succ j=>exact B j c k (by simpa using X) (by simpa using V)
  cases j with
  |zero=>simp at X V;subst X;exact q V
  |succ j=>exact A j c (by simpa using X) (by simpa using V)
  cases j with
  |zero=>simp at X V;subst X;exact p z k V
  |succ j=>exact y j c z k (by simpa using X) (by simpa using V)
  cases j with
  |zero=>simp at X;subst X;exact l R V
  |succ j=>exact t j c R (by simpa using X) V
def au0{α:Type}{R:Nat->α->Prop}:∀(n:Nat),(∀i,i<n->∃x,R i x)->∃l:List α,Y l=n/\∀(i:Nat)(x:α),l[i]?=U x->R i x
 |0,_=>⟨[],rfl,λi x h=>by simp at h⟩
 |n+1,h=>by
  obtain⟨l,V,Q⟩:=au0 n (λi O=>h i aa);obtain⟨x,N⟩:=h n aa;refine⟨l++[x],by simp[V],λi y X=> ?_⟩;by_cases O:i<n;rw[dN aa] at X;exact Q i y X;rw[iJ aa] at X;have:i=n:=by
   cases M:i-Y l with
   |zero=>omega
   |succ q=>rw[M] at X;simp at X
  subst this;rw[V,ZT] at X;simp at X;subst X;exact N
def ai0{H:Type}{P:Program}{e:TypeId}{q:Nat}:∀{l:List (DataW H)}{d:DataW H},d∈l->q∈DataW.weights P e d->q∈DataW.weightsAll P e l
 |[],_,h,_=>by simp at h
 |x::l,d,h,X=>by
  simp only[DataW.weightsAll,eW];rcases dV.1 h with rfl|h;exact .inl X;exact .inr (ai0 h X)
def au1{H:Type}{P:Program}{q:Nat}:∀{X:j5}{l:List (DataW H)}{i:Nat}{t:TypeId}{d:DataW H},X[i]?=U t->l[i]?=U d->q∈DataW.weights P t d->q∈DataW.weightsEach P X l
 |[],_,_,_,_,h,_,_=>by simp at h
 |_::_,[],_,_,_,_,h,_=>by simp at h
 |O::X,N::l,i,t,d,V,R,Q=>by
  simp only[DataW.weightsEach,eW];cases i with
  |zero=>simp at V R;subst V;subst R;exact .inl Q
  |succ i=>exact .inr (au1 (i:=i) (by simpa using V) (by simpa using R) Q)
def au2{R:Nat}(h:W.cell? ⟨V,R,Z⟩=U Q):∃O t X,W.heap[V]?=U (.cells O t X):=by
 unfold oK at h;split at h;rename_i c t X N;exact⟨c,t,X,N⟩;cases h
structure au3{H:Type}(P:Program)(o:Ty)(W:World)(n:Nat)(e:TypeId)(aj:fu)(a:Addr)(elems:List (DataW H×List MemPlace))(i:Nat)(row:aF):Prop where
 len:Y row=Y aj
 sp:a.spot=Z
 lH:∃cs t fr,W.heap[a.block]?=U (.cells cs t fr)
 cell:∀(j:Nat)(c:RV),row[j]?=U c->W.cell? ⟨a.block,a.off+i*Y aj+j,Z⟩=U c.val
 hi:∀(j:Nat)(c:RV)(k:IntKind),row[j]?=U c->aj[j]?=U (.int k)->∃n,c.val=.int k n
 hb:∀(j:Nat)(c:RV),row[j]?=U c->aj[j]?=U .bool->∃x,c.val=.bool x
 ho:∀(j:Nat)(c:RV)(z:Value)(k:RK),row[j]?=U c->aj[j]?=U (.ae z k)->bJ W o k c
 bnd:∀c∈row,ru c
 eq:∀(j:Nat)(c r:RV)(x:DataW H×List MemPlace),row[j]?=U c->elems[i]?=U x->oX P n e x.1 j=U r->cU r c
def SF{H:Type}{b2:TypeId×Value->H}{b3:Nat}{spare:Nat->Bool}{b4:Bool}:∀(b5 m:Nat)(t:TypeId)(ti:TI)(cs:gG)(x:DataW H×List MemPlace),o t=U ti->zE P o m t=J->DataW.trod b2 P W b3 spare b4 b5 t cs=U x->(∀q∈DataW.weights P t x.1,q<=reachBytes)->
  Y cs=Y ti.aj/\∀(j:Nat)(ct:CT)(v:Value),ti.aj[j]?=U ct->cs[j]?=U v->Bi o W (oX P m t x.1 j) ct v
 |0,_,_,_,_,_,_,_,h,_=>by simp[DataW.trod] at h
 |_+1,0,_,_,_,_,_,M,_,_=>by simp[zE] at M
 |n+1,m+1,t,ti,cs,x,ht,M,h,af=>by
  simp only[zE,ht] at M;cases N:P.underlying t with
  |none=>rw[N] at M;cases M
  |some d=>
   rw[N] at M;cases d<;>simp only[jB] at M
   case int k=>
    obtain⟨q,rfl,rfl,b6⟩:=DataW.trod_int N h;exact SE M ⟨⟨q,rfl,b6⟩,λr X=>by simp only[oX,N,cX] at X;exact X.symm⟩
   case bool=>
    obtain⟨q,rfl,rfl⟩:=DataW.trod_bool N h;exact SE M ⟨⟨q,rfl⟩,λr X=>by simp only[oX,N,cX] at X;exact X.symm⟩
   case string=>
    obtain⟨q,rfl,_⟩:=DataW.trod_string N h;exact SE M ⟨.mk (.string q) [],rfl,.str q,ru.Zx _,λr X=>by simp[oX,N] at X⟩
   case slice e=>
    simp only[aw,ce] at M;obtain⟨⟨⟨⟨g1,A⟩,G⟩,g4⟩,g6⟩:=M;rcases DataW.trod_slice N h with⟨rfl,F⟩|⟨a,ag,bb,s,bc,n',hn,rfl,F,hb,b7,cy,bd,bf,_,_⟩;exact SE g1 ⟨.mk (.slice Z 0 0) [],rfl,.sl e Z 0 0 [] rfl (bY _) (λi V X=>by simp at X) (λi j V c k X=>by simp at X) (λi j V c X=>by simp at X) (λi j V c z k X=>by simp at X),ru.Zx _,λr X=>by
     simp only[oX,N,F,cX] at X;subst X;exact cU.refl _⟩
    cases hn;subst F;simp only[DataW.weights,N,dV,eW] at af;have cA:ag<=140737488355328:=by
     have y:=af _ (.inl rfl);have Q:(s.map (·.1)).length+(bc.map (·.1)).length<=((s.map (·.1)).length+(bc.map (·.1)).length)*P.bytesOf e:=Nat.le_mul_of_pos_right _ aa;simp only[pN] at y Q;have w:reachBytes<=140737488355328:=dX;omega
    have aA:∃L,o e=U L:=by
     cases m with
     |zero=>simp[zE] at A
     |succ m=>
      cases D:o e with
      |none=>simp[zE,D] at A
      |some L=>exact⟨L,rfl⟩
    obtain⟨L,aA⟩:=aA;have an:bE o (.sl e)=L.aj:=by simp[bE,aA]
    rw[an] at G;have b8:∀i,i<ag->∃V:aF,au3 P o W m e L.aj a s i V:=by
     intro i l;have Q:=bf i l;have al:i<Y s:=aa;rw[cP al,aI2] at Q;obtain⟨ci,Q,w⟩:=Q;obtain⟨q1,q2⟩:=SF n m e L ci _ aA A w (λq D=>af q (.inr (.inl (ai0 (iD.2 ⟨_,pM al,rfl⟩) D))));obtain⟨_,c1,c2⟩:=aJq Q;obtain⟨V,r1,r2,r3,r4,r5,r6⟩:=aiZ q1 q2;have bg:Y V=Y L.aj:=by rw[<-pN (f:=RV.val),r1,q1]
     have aC:a.spot=none:=by
      have y:=bf 0 aa;rw[cP aa,aI2] at y;obtain⟨c0,y,_⟩:=y;obtain⟨_,d1,d2⟩:=aJq y;have d3:=d2 0 aa;rw[Nat.zero_mul,cP aa] at d3;simp only[Addr.add,cS] at d3;unfold oK at d3;split at d3;split at d3;cases d3;rename_i hs;simpa using hs;cases d3
     have bk:∀(j:Nat)(c:RV),V[j]?=U c->W.cell? ⟨a.block,a.off+i*Y L.aj+j,Z⟩=U c.val:=by
      intro j c B;have cB:j<Y L.aj:=by rw[<-bg];exact(cu.1 B).1
      have c3:=c2 j aa;have c4:ci[j]?=U c.val:=by rw[<-r1,dS,B];rfl
      rw[c4] at c3;have ha:(a.add (i*P.cellsOf e)).add j=⟨a.block,a.off+i*Y L.aj+j,Z⟩:=by
       rw[G];unfold Addr.add;cases a with
       |mk lH cC sp=>
        simp only at aC;subst aC;by_cases q5:i*Y L.aj=0<;>by_cases q6:j=0<;>simp[q5,q6]
      rw[ha] at c3;exact c3
     refine⟨V,bg,aC, ?_,bk,r2,r3,r4,r5,λj c r x g1 A G=>r6 j c r g1 (by rw[cP al] at A;cases A;exact G)⟩;have bl:0<Y L.aj:=aa;obtain⟨c,g⟩:∃c,V[0]?=U c:=⟨_,cP aa⟩;exact au2 (bk 0 c g)
    obtain⟨br,l1,l2⟩:=au0 (α:=aF) (R:=au3 P o W m e L.aj a s) ag b8;refine SE g1 ⟨.mk (.slice (U a) ag bb) br,rfl,.sl e (U a) ag bb br l1 b7 (λi V X=> ?_) (λi j V c k X g hk=> ?_) (λi j V c X g hk=> ?_) (λi j V c z k X g hk=> ?_),.mk _ (by rw[RV.nN];omega) (λV X c g=> ?_),λr X=> ?_⟩;have p:=l2 i V X;rw[an];refine⟨p.len,a.block,a.off, ?_,p.lH,p.cell⟩;have p2:=p.sp;cases a;simp only at p2;subst p2;rfl;rw[an] at hk;exact(l2 i V X).hi j c k g hk;rw[an] at hk;exact(l2 i V X).hb j c g hk;rw[an] at hk;exact(l2 i V X).ho j c z k g hk;rw[RV.nN] at X;obtain⟨i,l⟩:=tO X;exact(l2 i V l).bnd c g;simp only[oX,N] at X;split at X;rename_i ca;cases X;have bs:Y s=ag:=aa;rw[pN,bs];have get:∀(i:Nat)(V:aF),(Bp (λd=>Bp (λj=>(oX P m e d j).getD default) (e8 (P.cellsOf e))) (s.map (·.1)))[i]?=U V->∃x,s[i]?=U x/\V=(e8 (P.cellsOf e)).map λj=>(oX P m e x.1 j).getD default:=by
     intro i V Q;rw[dS,dS] at Q;cases F:s[i]? with
     |none=>rw[F] at Q;cases Q
     |some x=>rw[F] at Q;simp only[eh,cX] at Q;exact⟨x,rfl,Q.symm⟩
    refine cU.sl _ _ _ _ _ _ _ (by simp[l1,bs]) (λi V a0 Q w=> ?_) (λi j V a0 c c' Q w h3 h4=> ?_);obtain⟨x,_,rfl⟩:=get i V Q;rw[(l2 i a0 w).len];simp[G];obtain⟨x,F,rfl⟩:=get i V Q;rw[dS] at h3;cases B:(e8 (P.cellsOf e))[j]? with
    |none=>rw[B] at h3;cases h3
    |some j'=>
     have a1:j<P.cellsOf e:=by have:=(cu.1 B).1;simpa using this
     rw[zH a1] at B;cases B;rw[zH a1] at h3;simp only[eh,cX] at h3;have:=fZ.1 (fZ.1 ca x.1 (iD.2 ⟨x,jK F,rfl⟩)) j (uO.2 a1);obtain⟨r,X⟩:=lF.1 this;rw[X] at h3;simp only[oI] at h3;subst h3;exact(l2 i a0 w).eq j c' r x h4 F X
    cases X
   case struct b=>
    simp only[aw,ce,fZ,kW,uO] at M;obtain⟨⟨g1,A⟩,G⟩:=M;obtain⟨u,n',hn,F,cc,cf,hf⟩:=DataW.trod_struct N h;cases hn;subst F;simp only[DataW.weights,N] at af;refine⟨aa,λj ct v Q w=> ?_⟩;have B:j<Y ti.aj:=(cu.1 Q).1;obtain⟨f0,ch,cl,cn⟩:=G j B;have cD:(b.toList.zip (u.map (·.1))).length=b.size:=dl;obtain⟨fd,a3⟩:∃fd,(b.toList.zip (u.map (·.1))).find? (λf=>decide (f.1.offset<=j)&&decide (j<f.1.offset+P.cellsOf f.1.type))=U fd:=by
     obtain⟨i0,a4⟩:=tO ch;have co:i0<b.size:=by have:=(cu.1 a4).1;simpa using this
     refine lF.1 (List.find?_isSome.2 ⟨((b.toList.zip (u.map (·.1)))[i0]' aa),pM _, ?_⟩);have:f0=b.toList[i0]:=by rw[cP (by simpa using co)] at a4;exact(mQ a4).symm
     simp only[List.getElem_zip,<-this,aw,ce];exact⟨cl,cn⟩
    have bt:=SU a3;simp only[aw,ce] at bt;obtain⟨bx,b0⟩:=bt;obtain⟨iz,cp⟩:=tO (SK a3);obtain⟨f,dd⟩:=fd;have a9:=avp.1 cp;have bx:f.offset<=j:=bx;have b0:j<f.offset+P.cellsOf f.type:=b0;have cv:f∈b.toList:=jK a9.1;obtain⟨k1,k2⟩:=A f cv;cases D:o f.type with
    |none=>rw[D] at k2;cases k2
    |some fi=>
     rw[D] at k2;simp only[aw,ce] at k2;obtain⟨k3,k4⟩:=k2;have l:=a9.1;have al:b[iz]?=U f:=by simpa using l
     have cI:iz<b.size:=(oY.1 al).1;have e1:=hf iz f al;rw[cP aa] at e1;obtain⟨q1,q2⟩:=SF n m f.type fi _ _ D k1 e1 (λq ba=>af q (au1 (i:=iz) (by simp[l]) (by simp[show iz<Y u from aa]) ba));obtain⟨_,q4⟩:=Zw k4;have b1:j-f.offset<Y fi.aj:=aa;have ej:f.offset+(j-f.offset)=j:=aa;have v1:((cs.drop f.offset).take (P.cellsOf f.type))[j-f.offset]?=U v:=by
      rw[nD,aL aa,uN,ej];exact w
     have v2:((ti.aj.drop f.offset).take (Y fi.aj))[j-f.offset]?=U ct:=by
      rw[nD,aL b1,uN,ej];exact Q
     have v3:fi.aj[j-f.offset]?=U fi.aj[j-f.offset]:=cP b1;have cx:dd=(u[iz]' aa).1:=by
      have:=a9.2;rw[dS,cP aa] at this;exact(mQ this).symm
     have hE:oX P (m+1) t (.agg (u.map (·.1))) j=oX P m f.type (u[iz]' aa).1 (j-f.offset):=by
      simp only[oX,N,a3,cx]
     rw[hE];exact Bi.aiY (q4 _ _ _ v2 v3) (q2 _ _ _ v3 v1)
   case array k e=>
    simp only[aw,ce] at M;obtain⟨⟨g1,A⟩,G⟩:=M;cases D:o e with
    |none=>rw[D] at G;cases G
    |some O=>
     rw[D] at G;simp only[aw,ce,fZ,uO] at G;obtain⟨⟨g4,g5⟩,g6⟩:=G;obtain⟨u,n',hn,F,cc,cf,bd⟩:=DataW.trod_array N h;cases hn;subst F;simp only[DataW.weights,N] at af;refine⟨aa,λj ct v Q w=> ?_⟩;have B:j<Y ti.aj:=(cu.1 Q).1;have bl:0<Y O.aj:=by
      rcases Bm (Y O.aj) with y|y;rw[g5,y] at B;omega;exact y
     have l:j/Y O.aj<k:=avt (by rw[SZ];omega);have X:j%Y O.aj<Y O.aj:=Hy _ bl;have ej:j/Y O.aj*Y O.aj+j%Y O.aj=j:=by have:=ajk j (Y O.aj);rw[SZ] at this;exact this
     have e1:=bd (j/Y O.aj) l;rw[cP aa] at e1;obtain⟨q1,q2⟩:=SF n m e O _ _ D A e1 (λq ba=>af q (ai0 (iD.2 ⟨_,pM _,rfl⟩) ba));obtain⟨_,q4⟩:=Zw (g6 _ l);have v1:((cs.drop (j/Y O.aj*P.cellsOf e)).take (P.cellsOf e))[j%Y O.aj]?=U v:=by
      rw[g4,nD,aL X,uN,ej];exact w
     have v2:((ti.aj.drop (j/Y O.aj*Y O.aj)).take (Y O.aj))[j%Y O.aj]?=U ct:=by
      rw[nD,aL X,uN,ej];exact Q
     have v3:O.aj[j%Y O.aj]?=U O.aj[j%Y O.aj]:=cP X;have hE:oX P (m+1) t (.agg (u.map (·.1))) j=oX P m e (u[j/Y O.aj]' aa).1 (j%Y O.aj):=by
      simp only[oX,N,g4,dS];rw[cP aa];rfl
     rw[hE];exact Bi.aiY (q4 _ _ _ v2 v3) (q2 _ _ _ v3 v1)

def SH(X:aU)(V:bv):Prop:=∀(q:Nat)(k:IntKind)(n:Int),X[q]?=U (.int k)->V[q]?=U (.i n)->(Lit.int k n).wf=J
def au4:∀{Ecel:Nat->Option RV}{aj:fu}{cs:gG},Y cs=Y aj->(∀(j:Nat)(V:CT)(v:Value),aj[j]?=U V->cs[j]?=U v->Bi o W (Ecel j) V v)->
  ∃Q:bv,eY (aj.map uR) Q/\qa (aj.map uR) Q=cs/\Ar o W (aj.map uR) Q/\(∀X,XV.r X∈Q->ru X)/\SH (aj.map uR) Q
 |_,[],[],_,_=>⟨[],trivial,rfl,λq e X h=>by simp at h,av,λq k n h=>by simp at h⟩
 |_,[],_::_,h,_=>by simp at h
 |_,_::_,[],h,_=>by simp at h
 |Ecel,V::aj,v::cs,A,h=>by
  obtain⟨Q,R,O,y,w,t⟩:=au4 (Ecel:=λj=>Ecel (j+1)) (aj:=aj) (cs:=cs) (by simpa using A) (λj c u H G=>h (j+1) c u (by simpa using H) (by simpa using G));obtain⟨x,H,G,s,p,m⟩:∃x:XV,sI (uR V) x/\x.at (uR V)=v/\(∀e X,uR V=.ah e->x=.r X->bJ W o e X)/\(∀X,x=.r X->ru X)/\∀k n,uR V=.int k->x=.i n->(Lit.int k n).wf=true:=by
   have F:=h 0 V v rfl rfl;cases V with
   |int k=>
    obtain⟨⟨n,rfl,l⟩,_⟩:=F;exact⟨.i n,trivial,rfl,λe X h=>(by cases h),λX h=>(by cases h),λD B R O=>(by cases R;cases O;exact l)⟩
   |bool=>
    obtain⟨⟨n,rfl⟩,_⟩:=F;exact⟨.b n,trivial,rfl,λe X h=>(by cases h),λX h=>(by cases h),λD B R O=>(by cases R)⟩
   |ae z k=>
    obtain⟨X,rfl,g,f,_⟩:=F;exact⟨.r X,trivial,rfl,λe d R O=>(by cases R;cases O;exact g),λd h=>(by cases h;exact f),λD B R O=>(by cases R)⟩
  refine⟨x::Q,⟨H,R⟩, ?_,λq e X N M=> ?_,λX L=> ?_,λq k n N M=> ?_⟩;show x.at (uR V)::qa (aj.map uR) Q=_;rw[G,O];cases q with
  |zero=>simp at N M;exact s e X N M
  |succ q=>exact y q e X (by simpa using N) (by simpa using M)
  rcases dV.1 L with L|L;exact p X L.symm;exact w X L;cases q with
  |zero=>simp at N M;exact m k n N M
  |succ q=>exact t q k n (by simpa using N) (by simpa using M)
def au5:∀{X V:aU}{R Q:bv},eY X R->eY V Q->eY (X++V) (R++Q)/\qa (X++V) (R++Q)=qa X R++qa V Q
 |[],_,[],_,_,h=>⟨h,rfl⟩
 |[],_,_::_,_,h,_=>h.elim
 |_::_,_,[],_,h,_=>h.elim
 |k::X,V,x::R,Q,h,O=>by
  obtain⟨N,M⟩:=au5 h.2 O;exact⟨⟨h.1,N⟩,by simp[qa,M]⟩
def ai1:∀{X:aU}{V:bv},eY X V->Y X=Y V
 |[],[],_=>rfl
 |[],_::_,h=>h.elim
 |_::_,[],h=>h.elim
 |k::X,x::V,h=>by simp[ai1 h.2]
def aHc{X O:aU}{Q N:bv}(L:eY X Q)(h:Ar o W X Q)(H:Ar o W O N):Ar o W (X++O) (Q++N):=by
 intro q e M V R;have G:=ai1 L;by_cases F:q<Y X;rw[dN F] at V;rw[dN aa] at R;exact h q e M V R;rw[iJ aa] at V;rw[iJ aa,<-G] at R;exact H _ e M V R
def aHd{X O:aU}{Q N:bv}(M:eY X Q)(h:SH X Q)(L:SH O N):SH (X++O) (Q++N):=by
 intro q k n V R;have H:=ai1 M;by_cases G:q<Y X;rw[dN G] at V;rw[dN aa] at R;exact h q k n V R;rw[iJ aa] at V;rw[iJ aa,<-H] at R;exact L _ k n V R
def aHe{H:Type}{l:TypeId×Value->H}(ll:jq P o):∀{R:j5}{Q:gG}{G:List (DataW H)}{y:List MemPlace},R.all (zE P o 9)=J->DataW.TrodAll l P W V F L R Q G y->(∀q∈DataW.weightsEach P R G,q<=reachBytes)->
  (∀(j:Nat)(t:TypeId)(v:Value)(X:TI),R[j]?=U t->Q[j]?=U v->o t=U X->(X.d.isAgg=J/\v=.agg v.cells)\/(X.d.isAgg=E/\v.cells.toList=[v]))->
  ∃(D:aU)(O:bv),iO o R=U D/\eY D O/\wH o R (qa D O)=Q/\Ar o W D O/\(∀M,XV.r M∈O->ru M)/\SH D O:=by
 intro R;induction R with
 |nil=>
  intro Q G y _ h _ _;have:Q=[]:=by
   cases Q with
   |nil=>rfl
   |cons v Q=>cases G<;>simp[DataW.TrodAll] at h
  subst this;exact⟨[],[],rfl,trivial,rfl,λq e M h=>by simp at h,av,λq k n h=>by simp at h⟩
 |cons t R i=>
  intro Q G y A h g u;obtain⟨v,an,d,f,p,q,rfl,rfl,rfl,⟨c,b⟩,a⟩:=Go.ChangeShapes.trodAll_cons h;simp only[Om,aw] at A;obtain⟨X,z⟩:∃X,o t=U X:=by
   cases N:o t with
   |none=>have:=A.1;simp[zE,N] at this
   |some X=>exact⟨X,rfl⟩
  have s:∀q,q∈DataW.weights P t d\/q∈DataW.weightsEach P R f->q<=reachBytes:=λq N=>g q (by simp only[DataW.weightsEach,eW];exact N)
  obtain⟨m,c2⟩:=SF c 9 t X _ _ z A.1 b (λq N=>s q (.inl N));obtain⟨O,x,x2,x3,x4,x5⟩:=au4 m c2;obtain⟨af,ag,y1,y2,y3,y4,y5,y6⟩:=i A.2 a (λq N=>s q (.inr N)) (λj t' v' al q1 q2 q3=>u (j+1) t' v' al (by simpa using q1) (by simpa using q2) q3);obtain⟨z1,z2⟩:=au5 x y2;refine⟨X.aj.map uR++af,O++ag,by simp[iO,z,y1],z1, ?_,aHc x x3 y4,λM B=> ?_,aHd x x5 y6⟩;rw[z2,x2];simp only[wH,z];have hl:Y v.cells.toList=Y X.aj:=m;rw[avl aa,Hj aa,avm aa,ZB aa,eK,y3];have e:=u 0 t v X rfl rfl z;congr 1;rcases e with⟨w,e⟩|⟨w,e⟩;rw[aL w];exact e.symm;rw[w,e];rfl;rcases eW.1 B with B|B;exact x4 M B;exact y5 M B
end
def aHf{R O:Oper}{W:Exit->Act->List Frame->World->Prop}{L H:List Frame}(A:(execOp z.eval R).run M X=.ok .recover X)(u:R.guard=Z)
  (N:recoverD L=U (Q,H)\/(recoverD L=Z/\Q=.nilIface/\H=L))
  (h:wpOpsIn Fence.wide 0 M #[R,O] (λe G F=>W e G H F) [1] (z.put R.dst Q) X):(Code.region V #[R,O] E).wpSIn Fence.wide 0 M W z L X:=by
 intro b k t D s j;have r:Y H=Y L:=by
  rcases N with N|⟨_,_,rfl⟩;exact recoverD_length N;rfl
 obtain⟨e,G,F,q,p⟩:=wp_opsIn [1] _ X h b k H (D.trans rfl) s (room_wide _);refine⟨e,G,H,F,r,q,.of_steps (.one (fenced_wide _ _) stepR_region) ?_⟩;have y:(#[R,O]:dQ)[0]?=U R:=rfl;have o:mw R (yielded #[R,O] z.tmps)=true:=by simp[mw,u]
 have x:=stepGR_op (P:=M) (b:=b) (k:=k) (cs:=L) (w:=X) (rest:=[1]) y o;rw[D,avG] at x;have n:(b.atR z (.inRegion #[R,O] [0,1]::k)).kind=.deferred:=t;have B:=tryRecover_deferred n L;have m:(b.atR z (.inRegion #[R,O] [0,1]::k)).finish Q=b.atR (z.put R.dst Q) (.inRegion #[R,O] [1]::k):=by
  rw[Frame.finish_atR,y];rfl
 refine .of_steps (.one (fenced_wide _ _) (step_lone_go ?_)) p;rw[show e8 (#[R,O]:dQ).size=[0,1] from rfl,x,<-m];simp only[Frame.atR,D] at B⊢;rcases N with N|⟨N,l,rfl⟩;simp[stepG.apply,A,B,N];subst l;simp[stepG.apply,A,B,N]
def au6{R W:Oper}{Q:Exit->Act->List Frame->World->Prop}{O cs':List Frame}{v:Value}{f:FuncId}{args:mR}(L:(execOp z.eval R).run M X=.ok .recover X)(H:R.guard=Z)
  (G:recoverD O=U (v,cs')\/(recoverD O=Z/\v=.nilIface/\cs'=O))(F:W.guard=Z)(D:(W.semAt Z (z.put R.dst v).eval).run M X=.ok (.enter f args) X)
  (h:Calls M f args X λe N=>∃u,e=.returned u/\Q .normal ((z.put R.dst v).put W.dst u) cs' N):(Code.region V #[R,W] E).wpSIn Fence.wide 0 M Q z O X:=by
 refine aHf L H G ?_;show(if mw W _ then _ else _);rw[aL (by simp[mw,F])];refine⟨λ_ _=>trivial, ?_⟩;show Oper.uponIn Fence.wide 0 M W _ _ _ ((W.semAt Z (z.put R.dst v).eval).run M X);rw[D];refine⟨λh=>by simp[Fence.wide] at h,callsIn_wide.2 (h.mono ?_)⟩;rintro e N ⟨u,rfl,B⟩;exact B
@[local go_sem] def aKh (v:Value) (w:World):(Instr.typeAssert (.iface 48 v) 20 48 J).run Tryz.prog w=.ok (.tuple #[v,.bool J]) w:=aX
def aHg(b:Nat)(W:World):Calls Tryz.prog 41 #[.nilIface,.pointer (U ⟨b,0,Z⟩)] W λe X=>e=.returned (.tuple #[])/\X=W:=by
 go_enter Tryz.func41,Tryz.ntmps41;go_wp2
 (try simp only[Exit.inBlock,Exit.then]);refine bodyPost_ret (results_none rfl _ _ _) rfl ?_;exact⟨rfl,rfl⟩
def aHh(b:Nat)(X k:Int)(W:World)(R:W.cell? ⟨b,0,Z⟩=U (.int I X))(Q:W.frozen? ⟨b,0,Z⟩=E):Calls Tryz.prog 41 #[.iface 48 (.int I k),.pointer (U ⟨b,0,Z⟩)] W λe V=>e=.returned (.tuple #[])/\V=W.setCell ⟨b,0,Z⟩ (.int I k):=by
 go_enter Tryz.func41,Tryz.ntmps41;go_wp2
 go_end0
 exact⟨rfl,rfl⟩
def au7{u:Value}(h:X.heap[V]?=U (.cells #[u] N (0,0))):X.setCell ⟨V,0,Z⟩ Q=X.putObj V (.cells #[Q] N (0,0)):=by
 unfold ZQ Hv;congr 1;apply Array.ext_getElem?;intro i;rw[SM,Array.getElem?_setIfInBounds];by_cases R:V=i;subst R;have P:V<X.heap.size:=(oY.1 h).1;rw[aL rfl,aL rfl,h,aL P];rfl;rw[aT R,aT R]
def au8{g:FuncId}{X:Func}{B:TypeId}{A z:String}{y x:Array Edge}(M:Tryz.prog.funcs[g]?=U X)(w:wF Tryz.prog g=J)(L:X.ntmps=3)(H:X.results= #[])
  (G:X.body=U (.region V #[⟨U 1,.call {callee:=.builtin .recover,args:= #[],argTypes:= #[]},N,A,y,Z⟩,⟨U 2,.call {callee:=.value (.func 41),args:= #[.tmp 1,.tmp 0],argTypes:= #[20,106]},B,z,x,Z⟩] E)):yA Tryz.prog g 48:=by
 have F:∀D W,(callFunc 41 D).run Tryz.prog W=.ok (.enter 41 D) W:=wG aX;refine⟨wG w,λW b=> ?_,λW b u k Q=> ?_⟩;refine callsDIn_of_wpSIn M G (by simp[Fence.wide]) λP O R=> ?_
 rw[L];refine au6 (v:=.nilIface) (cs':=P::O) (f:=41) (args:= #[.nilIface,.pointer (U ⟨b,0,Z⟩)]) rfl rfl (.inr ⟨by simp[recoverD,R],rfl,rfl⟩) rfl (by simp[Oper.semAt,go_sem,Act.put,F]) ?_;refine(aHg b W).mono ?_;rintro e t ⟨rfl,rfl⟩;refine⟨_,rfl,rfl,.returning,by rw[<-R],.tuple #[], ?_,⟨_,rfl⟩,rfl,rfl⟩;simp[results,H];refine callsDIn_of_wpSIn M G (by simp[Fence.wide]) λP O R=> ?_
 rw[L];refine au6 (v:=.iface 48 (.int I k)) (cs':={P with mode:=.panicking [{v:=.iface 48 (.int I k),recovered:=J}]}::O) (f:=41) (args:= #[.iface 48 (.int I k),.pointer (U ⟨b,0,Z⟩)]) rfl rfl (.inl (by simp[recoverD,R])) rfl (by simp[Oper.semAt,go_sem,Act.put,F]) ?_;refine(aHh b u k W (by simp[oK,Q]) (by simp[ZR,Q])).mono ?_;rintro e t ⟨rfl,rfl⟩;refine⟨_,rfl,rfl,_,rfl,.tuple #[], ?_,⟨_,rfl⟩,rfl,au7 Q⟩;simp[results,H]
def aHi:yA Tryz.prog 40 48:=au8 Tryz.func40 aX rfl rfl rfl
def aHj:yA Tryz.prog 157 48:=au8 Tryz.func157 aX rfl rfl rfl
def aHk(W:World)(b:Nat):CallsDIn Fence.wide 0 Tryz.prog 94 #[.pointer (U ⟨b,0,Z⟩)] .returning W λR u Q=>(∃v,R=.returned v)/\u=.returning/\Q=W:=by
 refine callsDIn_of_wpSIn Tryz.func94 rfl (by simp[Fence.wide]) λV P X=> ?_
 have O:V={V with mode:=.returning}:=by rw[<-X]
 rw[Tryz.ntmps94];apply wpSIn_seq;apply wpSIn_region;simp[wpOpsSIn,go_sem,recoverD,X,Exit.thenS];refine wpSIn_of_wpIn rfl (wpIn_wide.2 ?_);go_wp2;refine⟨rfl,.returning,by rw[<-X],.tuple #[], ?_,⟨_,rfl⟩,rfl,rfl⟩;simp[results,Tryz.results94]
def aHl(W:World)(b:Nat)(V k:Int)(X:W.heap[b]?=U (.cells #[.int I V] 48 (0,0))):CallsDIn Fence.wide 0 Tryz.prog 94 #[.pointer (U ⟨b,0,Z⟩)] (.panicking [{v:=.iface 48 (.int I k),recovered:=E}]) W λR u Q=>(∃v,R=.returned v)/\u=.panicking [{v:=.iface 48 (.int I k),recovered:=J}]/\Q=W.putObj b (.cells #[.int I k] 48 (0,0)):=by
 have O:W.cell? ⟨b,0,Z⟩=U (.int I V):=by simp[oK,X]
 have N:W.frozen? ⟨b,0,Z⟩=false:=by simp[ZR,X]
 refine callsDIn_of_wpSIn Tryz.func94 rfl (by simp[Fence.wide]) λM L P=> ?_
 rw[Tryz.ntmps94];apply wpSIn_seq;apply wpSIn_region;simp[wpOpsSIn,go_sem,recoverD,P,Exit.thenS];refine wpSIn_of_wpIn rfl (wpIn_wide.2 ?_);go_wp2;refine⟨rfl,_,rfl,.tuple #[], ?_,⟨_,rfl⟩,rfl,au7 X⟩;simp[results,Tryz.results94]
def aHm:yA Tryz.prog 94 48:=⟨wG aX,aHk,aHl⟩
section
open Go.Shelf
def Tryz.indexB_ren:Go.Shelf.Ren:=⟨λ|137=>169|217=>207|266=>258|n=>n,λ|9=>9|5=>5|3=>3|n=>n,λ|n=>n⟩
def Tryz.indexB:Go.Proofs.Lays.n137 Tryz.prog Tryz.indexB_ren:={mixed:=aX,f137:=eV Tryz.func169 aX,f217:=eV Tryz.func207 aX,f266:=eV Tryz.func258 aX,t3:=Tryz.underlying3,a3:=Tryz.isAgg3,z3:=Tryz.sizeOf3,v3:=Tryz.zeroValue3,t5:=Tryz.underlying5,a5:=Tryz.isAgg5,z5:=Tryz.sizeOf5,v5:=Tryz.zeroValue5,t9:=Tryz.underlying9,a9:=Tryz.isAgg9,z9:=Tryz.sizeOf9,v9:=Tryz.zeroValue9}
def aHn:look PT 169=U [9,5]:=aX
def aHo:look SG 169=U [3]:=aX
def aHp:iO (look TT) [9,5]=U [.ah .str,.int .u8]:=aX
def aHq:iO (look TT) [3]=U [.int I]:=aX
def au9:∀(l:List UInt8)(b:UInt8),-1<=Lib.indexByte l b
 |[],_=>by simp[Lib.indexByte]
 |x::l,b=>by
  have:=au9 l b;simp only[Lib.indexByte];split;omega;split<;>omega
def ava:∀(l:List UInt8)(b:UInt8)(k:Nat),GS k l b=if Lib.indexByte l b=-1 then-1 else Lib.indexByte l b+k
 |[],_,_=>by simp[GS,Lib.indexByte]
 |x::l,b,k=>by
  have V:=ava l b (k+1);have R:=au9 l b;simp only[GS,Lib.indexByte,dK];by_cases X:x=b;simp[X];rw[aT X,aT X,V];by_cases W:Lib.indexByte l b=-1;simp[W];rw[aT W,aT W,aT aa];omega
def aHr(l:List UInt8)(b:UInt8):GS 0 l b=Lib.indexByte l b:=by
 rw[ava];split;rename_i h;rw[h];simp
def aHs:tI L 169 Yz:=by
 intro m l k j N M H G F D out O Q P W g w;rw[aHn] at N;cases N;rw[aHo] at M;cases M;rw[aHp] at H;cases H;rw[aHq] at G;cases G;rcases D with _|⟨x,_|⟨y,_|⟨L,D⟩⟩⟩;exact P.elim;exact P.2.elim
 ·obtain⟨B,A,_⟩:=P;cases x with
  |i n=>exact B.elim
  |b n=>exact B.elim
  |r v=>
  cases y with
  |b n=>exact A.elim
  |r n=>exact A.elim
  |i c=>
  have u:=w 0 .str v rfl rfl;cases u with
  |str t=>
  rcases F with _|⟨s,_|⟨q,_|⟨f,F⟩⟩⟩;exact Q.elim;exact Q.2.elim
  ·obtain⟨V,R,_⟩:=Q;cases s with
   |i n=>exact V.elim
   |b n=>exact V.elim
   |r p=>
   cases q with
   |b n=>exact R.elim
   |r n=>exact R.elim
   |i X=>
   have R:X=c:=R;subst R;have V:cU p (.mk (.string t) []):=V;cases V with
   |val=>
   have O:U (bq.ret [.i (GS 0 t.toList (UInt8.ofNat X.toNat))])=U out:=O;cases O;have h:=Any.strings_IndexByte Tryz.indexB t X W;refine Calls.mono (show Calls Tryz.prog 169 #[.string t,.int .u8 X] W _ from h) ?_;rintro e d ⟨rfl,rfl⟩;refine⟨_,[.i (Lib.indexByte t.data.toList X.toNat.toUInt8)],rfl,⟨?_,trivial⟩,⟨trivial,trivial⟩,rfl,Below.refl _ _,Zf av,λb o=>(aua av o).elim⟩;show GS 0 t.toList (UInt8.ofNat X.toNat)=_;rw[aHr,ByteArray.toList_eq]
  exact Q.2.2.elim
 exact P.2.2.elim
def avb:∀{n:Nat}{R X:bv},BZ R X->eY (eF n (.int I)) X->∃l:bA,Y l=n/\R=l.map XV.i/\X=l.map XV.i
 |0,R,X,W,V=>by
  cases X with
  |cons _ _=>exact V.elim
  |nil=>
   cases R with
   |cons _ _=>exact W.elim
   |nil=>exact⟨[],rfl,rfl,rfl⟩
 |n+1,R,[],W,V=>V.elim
 |n+1,[],x::X,W,V=>W.elim
 |n+1,y::R,x::X,W,V=>by
  obtain⟨l,P,O,N⟩:=avb (n:=n) W.2 V.2;have e:=W.1;have f:=V.1;cases x with
  |b q=>exact f.elim
  |r q=>exact f.elim
  |i m=>
   cases y with
   |b q=>exact e.elim
   |r q=>exact e.elim
   |i Q=>
    have e:Q=m:=e;subst e;exact⟨Q::l,by simp[P],by simp[O],by simp[N]⟩
def avc(a b c d:Int):bQ a b c d=K.lZ.valid ⟨⟨a,b⟩,⟨c,d⟩⟩:=by
 rw[sx];simp[bQ,K.lZ.valid,K.Be];omega
def aHt(a b c d X W V R:Int):JG a b c d X W V R= !(K.lZ.uK ⟨⟨a,b⟩,⟨c,d⟩⟩ ⟨⟨X,W⟩,⟨V,R⟩⟩):=by
 simp only[JG,K.lZ.uK,K.Range.uK,avK]
def aHu:look PT 202=U [124,124]:=aX
def aHv:look SG 202=U [4,48]:=aX
def k26:iO (look TT) [124,124]=U (eF 8 (.int I)):=aX
def q26:iO (look TT) [4,48]=U [.bool,.int I]:=aX
def aHy(a b c d X W V R:Int):(wH (look TT) [124,124] (qa (eF 8 (.int I)) [.i a,.i b,.i c,.i d,.i X,.i W,.i V,.i R])).toArray= #[K.lZ.v ⟨⟨a,b⟩,⟨c,d⟩⟩,K.lZ.v ⟨⟨X,W⟩,⟨V,R⟩⟩]:=aX
def aHz(x:Bool)(e:Int):Ix (wH (look TT) [4,48] (qa [.bool,.int I] [.b x,.i e]))=.tuple #[.bool x,.int I e]:=aX
def aHA{l:bA}(h:Y l=8):∃a b c d X W V R,l=[a,b,c,d,X,W,V,R]:=by
 match l,h with
 |[a,b,c,d,X,W,V,R],_=>exact⟨a,b,c,d,X,W,V,R,rfl⟩
def aHB:tI L 202 ahb:=by
 intro t s r q X V F D p o out M A y W m k;rw[aHu] at X;cases X;rw[aHv] at V;cases V;rw[k26] at F;cases F;rw[q26] at D;cases D;obtain⟨l,w,rfl,rfl⟩:=avb (n:=8) A y;obtain⟨a,b,c,d,Q,P,O,N,rfl⟩:=aHA w;have v:=aHy a b c d Q P O N;simp only[dU,pP] at M⊢;rw[v];simp only[ahb,cX] at M;subst M;have H:∀(x:Bool)(e:Int)(G:World),Below W.heap.size W G->P3 (look TT) [4,48] [.bool,.int I] W (eF 8 (.int I)) [.i a,.i b,.i c,.i d,.i Q,.i P,.i O,.i N] (.ret [.b x,.i e]) (.returned (.tuple #[.bool x,.int I e])) G:=λx e G R=>
  ⟨_,[.b x,.i e],rfl,⟨rfl,rfl,trivial⟩,⟨trivial,trivial,trivial⟩,(aHz x e).symm,R,Zf av,λb u=>(aua av u).elim⟩
 rw[avc,avc];by_cases X:K.lZ.valid ⟨⟨a,b⟩,⟨c,d⟩⟩=J;by_cases V:K.lZ.valid ⟨⟨Q,P⟩,⟨O,N⟩⟩=J;rw[X,V];refine(aEb _ _ X V (JG a b c d Q P O N) (by rw[aHt];simp) W).mono ?_;rintro e B ⟨rfl,R⟩;exact H _ _ _ R;have V:K.lZ.valid ⟨⟨Q,P⟩,⟨O,N⟩⟩=false:=by simpa using V
 rw[X,V];refine(aEd _ _ X V W).mono ?_;rintro e B ⟨rfl,R⟩;exact H _ _ _ R;have X:K.lZ.valid ⟨⟨a,b⟩,⟨c,d⟩⟩=false:=by simpa using X
 rw[X];refine(aEc _ _ X W).mono ?_;rintro e B ⟨rfl,R⟩;exact H _ _ _ R
def aHC(f:FuncId):tI L f (NI f):=by
 unfold NI;by_cases X:f=202;subst X;exact aHB;by_cases W:f=169;subst W;exact aHs;simp only[X,W,gw];exact ait f
end
theorem aHD(f:FuncId)(X:Fn)(h:TB.tree f=U X):bC f X.g X.d X.t:=by
 have h:GU f=U X:=h;unfold GU at h;split at h;cases h;exact aEB;cases h;exact aEC;cases h;exact aED;cases h;exact aEE;cases h;exact aEF;cases h;exact aEG;cases h;exact auA;cases h;exact auB;cases h;exact auC;cases h;exact auD;cases h;exact auE;cases h;exact auF;cases h;exact aEH;cases h;exact aEI;cases h;exact aEJ;cases h;exact aEK;cases h;exact aEL;cases h;exact aEM;cases h;exact aEN;cases h;exact aEO;cases h;exact aEP;cases h;exact aFp;cases h;exact aFq;cases h;exact aFr;cases h;exact aFs;cases h;exact aFt;cases h;exact aFu;cases h;exact aFv;cases h;exact aFw;cases h;exact aFx J8;cases h;exact aFy;cases h;exact aFz;cases h;exact aFA;cases h;exact aFB;cases h;exact aFC J8;cases h;exact aFE;cases h;exact aFF;cases h;exact aFG;cases h;exact aFH;cases h;exact aFI;cases h;exact aFJ;cases h;exact aFK J8;cases h;exact aFL;cases h;exact aFM;cases h;exact aFN aHm;cases h;exact aFO aHi;cases h;exact aFP J8 aHj;cases h;exact aFQ;cases h;exact aFR J8;cases h;exact aFS;cases h;exact aFT J8;cases h;exact aFD;cases h;exact aFU J8;cases h;exact aFV;cases h;exact aFW;cases h;exact aFX;cases h;exact aFY;cases h;exact aFZ;cases h;exact aF0;cases h;exact aF1;cases h;exact aF2;cases h;exact aF3;cases h;exact aF4;cases h;exact aF5;cases h;exact aF6;cases h;exact aF7;cases h;exact aF8;cases h;exact aF9;cases h;exact aGa;cases h;exact aGb;cases h;exact aGc;cases h;exact aGd;cases h;exact aGe;cases h;exact aGf;cases h;exact aGg;cases h;exact aGh;cases h;exact aGi;cases h;exact aGj;cases h;exact aGk;cases h;exact aGl;cases h;exact aGm;cases h;exact aGn;cases h;exact aGo;cases h;exact aGp;cases h;exact aGq;cases h;exact aGr;cases h;exact aGs;cases h;exact aGt;cases h;exact aGu;cases h;exact aGv;cases h;exact aGw;cases h;exact aGS;cases h;exact aGx;cases h;exact aGy;cases h;exact aGO;cases h;exact aGQ;cases h;exact aGz;cases h;exact aGY auZ;cases h;exact aGT;cases h;exact aGU;cases h;exact aG0;cases h;exact aG1;cases h;exact aGV;cases h;exact aG2;cases h;exact aG3;cases h;exact aGZ auZ;cases h;exact aGA;cases h;exact aGB;cases h;exact aGC;cases h;exact aGD;cases h;exact aGE;cases h;exact aGR;cases h;exact aGW;cases h;exact aGX;cases h;exact aG4;cases h;exact aG5;cases h;exact aG6;cases h;exact aG7;cases h;exact aGP;cases h;exact aGF;cases h;exact aGG;cases h;exact aGH;cases h;exact aGI;cases h;exact aGJ;cases h;exact aGK;cases h;exact aGL;cases h;exact aGM;cases h;exact aGN;cases h;exact aG8;cases h;exact aG9;cases h
theorem aHE:aiv TB true:=⟨aHD,λ_ _ _ _=>rfl,aHC⟩
def aHF:([41,44,3,56]:List TypeId).all (zE Tryz.prog (look TT) 9)=true:=aX
def ptN:look PT 4=U [41,44,3,56]:=aX
def aHH:look SG 4=U [4]:=aX
def qkN:iO (look TT) [4]=U [.bool]:=aX
def kkN:iO (look TT) [41,44,3,56]=U [.int I,.int I,.int I,.int I,.int I,.ah (.sl 130),.int I,.ah (.sl 132),.ah (.sl 253),.ah (.sl 255),.ah (.sl 128),.ah (.sl 141),.ah (.sl 94),.ah (.sl 39),.ah (.sl 66),.ah (.sl 3),.ah (.sl 3),.int I,.ah (.sl 70),.ah (.sl 3),.bool,.int I,.int .u16]:=aX
def r82:bE (look TT) (.sl 67)=[.ae (.slice Z 0 0) (.sl 134)]:=aX
def aHK:bE (look TT) (.sl 39)=[.ae (.slice Z 0 0) (.sl 3)]:=aX
def aHL:bE (look TT) (.sl 66)=[.ae (.slice Z 0 0) (.sl 69)]:=aX
def ave:bE (look TT) (.sl 69)=[.ae (.slice Z 0 0) (.sl 4),.ae (.slice Z 0 0) (.sl 67)]:=aX
def r38:bE (look TT) (.sl 70)=[.ae (.slice Z 0 0) (.sl 76)]:=aX
def r3':bE (look TT) (.sl 3)=[.int I]:=aX
def EZ{k:IntKind}(h:eY (.int k::H) G):∃n X,G=.i n::X/\eY H X:=by
 cases G with
 |nil=>exact h.elim
 |cons x G=>
  cases x with
  |i n=>exact⟨n,G,rfl,h.2⟩
  |b n=>exact h.1.elim
  |r n=>exact h.1.elim
def xP{k:RK}(h:eY (.ah k::H) G):∃n X,G=.r n::X/\eY H X:=by
 cases G with
 |nil=>exact h.elim
 |cons x G=>
  cases x with
  |r n=>exact⟨n,G,rfl,h.2⟩
  |b n=>exact h.1.elim
  |i n=>exact h.1.elim
def pL(h:bJ X D (.sl N) B)(V:ru B):Sl B:=by
 cases V with
 |mk B R P=>
 cases h with
 |sl N A O M L Q H G F z y=>
  refine⟨⟨_,_,_,rfl⟩, ?_,R⟩;simp only[RV.nM,RV.nN,lenOf,Q]
def aHN(h:eY (.bool::H) G):∃n X,G=.b n::X/\eY H X:=by
 cases G with
 |nil=>exact h.elim
 |cons x G=>
  cases x with
  |b n=>exact⟨n,G,rfl,h.2⟩
  |i n=>exact h.1.elim
  |r n=>exact h.1.elim
def avg(h:bJ X D (.sl N) B)(Q:(bE D (.sl N)).length=V):∀R∈B.ac,Y R=V:=by
 intro R P;cases h with
 |sl N A L H G F z O y x w=>
  obtain⟨i,M⟩:=tO P;rw[<-Q];exact(O i R M).1
def Oc{f:TypeId}(j:Nat)(M:bE (look TT) (.sl N)=A)(L:A[j]?=U (.ae Q (.sl f)))(h:bJ X (look TT) (.sl N) B)(y:ru B):∀i<Y B.ac,bJ X (look TT) (.sl f) (cg (.sl f) (aQ B.ac i j))/\ru (cg (.sl f) (aQ B.ac i j)):=by
 intro i P;have r:j<Y A:=(cu.1 L).1;cases y with
 |mk q p H=>
 cases h with
 |sl N V x w R o m v l k u=>
  rw[RV.nN] at P H;have O:R[i]?=U R[i]:=cP P;have g:(R[i]).length=Y A:=by have:=(v i _ O).1;rw[M] at this;exact this
  have G:(R[i])[j]?=U (R[i])[j]:=cP aa;have F:=u i j _ _ _ _ O G (by rw[M];exact L);have D:=H _ (pM P) _ (pM (aa:j<(R[i]).length));have t:=pL F D;have N:cg (.sl f) (aQ (RV.mk (.slice V x w) R).ac i j)=(R[i])[j]:=by
   unfold aQ;simp only[RV.nN,su,cw,O,G,oI];obtain⟨a,n,c,s⟩:=t.sl;simp[cg,s]
  rw[N];exact⟨F,D⟩
def aHO(hS:TB.Ev 5 [] (.ret [.b J])){H:Type}{aA:TypeId×Value->H}{w:List Value}{ds:List (DataW H)}(hG:GW X)(hT:DataW.TrodAll aA Tryz.prog X V F L [41,44,3,56] w ds R)(hw:∀q∈DataW.weightsEach Tryz.prog [41,44,3,56] ds,q<=reachBytes)
  (hv:∀(j:Nat)(t:TypeId)(v:Value)(m:TI),([41,44,3,56]:List TypeId)[j]?=U t->w[j]?=U v->look TT t=U m->(m.d.isAgg=J/\v=.agg v.cells)\/(m.d.isAgg=E/\v.cells.toList=[v])):
  Calls Tryz.prog 4 w.toArray X λe W'=>e=.returned (.bool J)/\Below X.heap.size X W':=by
 obtain⟨ks,xs,M,G,h3,P,O,h6⟩:=aHe JZ aHF hT hw hv;rw[kkN] at M;cases M;have hf:=G;obtain⟨Wd,cx,rfl,aC⟩:=EZ hf;obtain⟨D,cy,rfl,a0⟩:=EZ aC;obtain⟨A,cA,rfl,a1⟩:=EZ a0;obtain⟨B,cB,rfl,a3⟩:=EZ a1;obtain⟨Q,cC,rfl,a4⟩:=EZ a3;obtain⟨rl,cD,rfl,a9⟩:=xP a4;obtain⟨ba,cI,rfl,bb⟩:=EZ a9;obtain⟨tp,cO,rfl,bc⟩:=xP bb;obtain⟨pq,cR,rfl,bf⟩:=xP bc;obtain⟨sp,cW,rfl,bg⟩:=xP bf;obtain⟨sg,c0,rfl,bk⟩:=xP bg;obtain⟨l,c1,rfl,bl⟩:=xP bk;obtain⟨g,c2,rfl,bs⟩:=xP bl;obtain⟨u,c3,rfl,bt⟩:=xP bs;obtain⟨s,c4,rfl,bx⟩:=xP bt;obtain⟨f,c5,rfl,b0⟩:=xP bx;obtain⟨c,c6,rfl,b1⟩:=xP b0;obtain⟨dM,c7,rfl,b2⟩:=EZ b1;obtain⟨z,c8,rfl,b3⟩:=xP b2;obtain⟨p,c9,rfl,b4⟩:=xP b3;obtain⟨cl,dc,rfl,b5⟩:=aHN b4;obtain⟨kx,dd,rfl,b6⟩:=EZ b5;obtain⟨af,b7,rfl,b8⟩:=EZ b6;cases b7 with
 |cons _ _=>exact b8.elim
 |nil=>
 have cc:=pL (P 5 _ rl rfl rfl) (O _ av);have cf:=pL (P 7 _ tp rfl rfl) (O _ av);have cn:=pL (P 8 _ pq rfl rfl) (O _ av);have cp:=pL (P 9 _ sp rfl rfl) (O _ av);have ct:=pL (P 10 _ sg rfl rfl) (O _ av)
 letI:Inhabited dh:=⟨⟨Wd,D,A,B,Q,ba,rl,tp,pq,sp,sg⟩⟩
 have s1:fD:=⟨cc,cf,cn,cp,ct⟩;have ag:=Oc 0 aHK rfl (P 13 _ u rfl rfl) (O _ av);have a:=Oc 0 aHL rfl (P 14 _ s rfl rfl) (O _ av);have al:=Oc 0 r38 rfl (P 18 _ z rfl rfl) (O _ av);have S:tE l g u s f:=⟨(pL (P 11 _ l rfl rfl) (O _ av)),(pL (P 12 _ g rfl rfl) (O _ av)),(pL (P 13 _ u rfl rfl) (O _ av)),(pL (P 14 _ s rfl rfl) (O _ av)),(pL (P 15 _ f rfl rfl) (O _ av)),λi N=>pL (ag i N).1 (ag i N).2,λi N=>pL (a i N).1 (a i N).2,λk hk i N=>by
  have o:=a k hk;have h0:=Oc 0 ave rfl o.1 o.2 i N;have M:=Oc 1 ave rfl o.1 o.2 i N;refine⟨pL h0.1 h0.2,pL M.1 M.2,λj hj=> ?_⟩;have G:=Oc 0 r82 rfl M.1 M.2 j hj;exact pL G.1 G.2⟩
 have D:Dk c z p:=⟨(pL (P 16 _ c rfl rfl) (O _ av)),(pL (P 18 _ z rfl rfl) (O _ av)),(pL (P 19 _ p rfl rfl) (O _ av)),λi N=>pL (al i N).1 (al i N).2,avg (P 18 _ z rfl rfl) (by rw[r38];rfl),avg (P 19 _ p rfl rfl) (by rw[r3'];rfl)⟩;obtain⟨n,hn⟩:=aDP (dM:=dM) (cl:=cl) hS s1 S D kx af;have an:=Zd aHE n 4 _ _ _ _ ptN aHH kkN qkN _ _ _ hn (Ze _) G X (λ_=>hG) P;have cv:wH (look TT) [41,44,3,56] (qa _ (ee l g u s f++[.r c,.i dM,.r z,.r p,.b cl,.i kx,.i af]))=w:=h3;rw[cv] at an;refine an.mono ?_;intro e W' h;cases e with
 |returned v=>
  obtain⟨yh,ys,e1,x,e3,rfl,hB,_,_⟩:=h;cases e1;cases ys with
  |nil=>exact x.elim
  |cons y ys=>
   cases ys with
   |cons _ _=>exact x.2.elim
   |nil=>
    cases y with
    |b q=>
     have:J=q:=x.1;subst this;exact⟨rfl,hB⟩
    |i q=>exact x.1.elim
    |r q=>exact x.1.elim
 |panicked ch=>obtain⟨_,v,e1,_⟩:=h;cases e1
 |outgrown=>exact h.elim
section
open Go.ChangeShapes Go.RowKit
def aHP{H:Type}{G:TypeId×Value->H}(B:laidOutB M=J){F:World}(A:Below X.heap.size X F):∀{V:List TypeId}{Q:List Value}{O:List (DataW H)}{R:List MemPlace},V.all (λt=>M.readableRec t&&decide (t<M.types.size))=J->DataW.TrodAll G M X 0 (λ_=>J) J V Q O R->(∀x∈R,x.block<X.heap.size)->DataW.TrodAll G M F 0 (λb=>decide (b<X.heap.size)) J V Q O R:=by
 intro V;induction V with
 |nil=>
  intro Q O R _ h _;obtain⟨rfl,rfl,rfl⟩:=trodAll_nil h;exact rfl
 |cons t V z=>
  intro Q O R N h D;obtain⟨v,u,d,s,p,q,rfl,rfl,rfl,y,w⟩:=trodAll_cons h;simp only[Om,aw,ce] at N;exact⟨p,q,Go.RowKit.Below.trod B N.1.1 N.1.2 y A (λx L=>D x (by simp[L])),z (by simpa using N.2) w (λx L=>D x (by simp[L])),rfl⟩
def aHQ:laidOutB Tryz.prog=true:=aX
def rdN:([41,44,3,56]:List TypeId).all (λt=>Tryz.prog.readableRec t&&decide (t<Tryz.prog.types.size))=true:=aX
def aHS{H:Type}{P:TypeId×Value->H}{N:World}{D B:List (DataW H)}(V:DataW.Whole P Tryz.prog Tryz.f4.params.toList [] E X O.toList D B R)(M:Below X.heap.size X N):
  Rows.deskManySpec.post P Tryz.prog Tryz.f4 E J E E X O (.bool J) N:=by
 have A:=V.lt;have z:=V;obtain⟨p,q,L,y,rfl,_,_⟩:=V;obtain⟨rfl,rfl⟩:=trodVars_none y;have Q:Tryz.f4.params.toList=[41,44,3,56]:=by rw[Tryz.params4]
 have G:=L;rw[Q] at G;obtain⟨r,o,n,m,l,k,_,rfl,rfl,_,w⟩:=trodAll_cons G;obtain⟨j,i,g,f,e,d,_,rfl,rfl,_,v⟩:=trodAll_cons w;obtain⟨c,b,a,e3,p3,q3,_,rfl,rfl,_,u⟩:=trodAll_cons v;obtain⟨v4,r4,d4,e4,p4,q4,_,rfl,rfl,_,t⟩:=trodAll_cons u;obtain⟨_,rfl,rfl⟩:=trodAll_nil t;have F:=aHP aHQ M rdN (by rw[<-Q];exact L) (λx s=>A x (by simpa using s));rw[<-Q] at F;exact⟨_,_,_,[],_,[],z,trodAll_mk1 (shut_bool Tryz.underlying4 _),F,rfl,Below.frame M _,λh=>(by cases h)⟩
end
section
open Go.ChangeShapes Go.RowKit Go.ChangeAt
abbrev gn(k:Nat):String:=Rows.deskManyRow.named.getD k ""
abbrev L3{H:Type}:List (String×DataW H):=[(gn 1,Rows.laid_kinesphere_space_flat),(gn 0,Rows.laid_kinesphere_expand_kinds),(gn 2,Rows.laid_kinesphere_motion_kinds)]
def aHT(ll:jq M D){G:TI}(h:D N=U G)(O:Value.okWide M X .any V N Q):(G.d.isAgg=J/\Q=.agg Q.cells)\/(G.d.isAgg=E/\Q.cells.toList=[Q]):=by
 have R:=(ll N G h).desc;have B:∀d,M.underlying N=U d->(∀F,d≠ .struct F)->(∀n e,d≠ .array n e)->Q.cells.toList=[Q]:=by
  intro d H y x;cases Q<;>try rfl
  case agg A=>
   exfalso;unfold Value.okWide at O;rw[H] at O;cases d<;>first|exact y _ rfl|exact x _ _ rfl|simp[Cell.okWide,Cell.ok,H] at O
 cases w:G.d<;>rw[w] at R
 case one=>
  obtain⟨d,H,⟨z,_⟩,_⟩:=R;exact .inr ⟨rfl,B d H (λF e=>by subst e;exact z) (λn e L=>by subst L;exact z)⟩
 case ik=>obtain⟨m,H⟩:=R;exact .inr ⟨rfl,B _ H (λF e=>by cases e) (λn e L=>by cases L)⟩
 case str=>exact .inr ⟨rfl,B _ R (λF e=>by cases e) (λn e L=>by cases L)⟩
 case slice e=>exact .inr ⟨rfl,B _ R (λF e=>by cases e) (λn e L=>by cases L)⟩
 case map k e n u=>exact .inr ⟨rfl,B _ R (λF e=>by cases e) (λn e L=>by cases L)⟩
 case arr n e=>
  have R:M.underlying N=U (.array n e):=R;unfold Value.okWide at O;rw[R] at O;obtain⟨A,rfl,_⟩:=O;exact .inl ⟨rfl,rfl⟩
 case struct s=>
  obtain⟨F,H,_⟩:=R;unfold Value.okWide at O;rw[H] at O;obtain⟨A,rfl,_⟩:=O;exact .inl ⟨rfl,rfl⟩
def aHU:ownKnob Tryz.prog.godebug=none:=aX
def aHV(B:TB.Ev 5 [] (.ret [.b J])){H:Type}{P:TypeId×Value->H}{N M:List (DataW H)}(A:GW X)
  (z:∀(j:Nat) t v,Tryz.f4.params[j]?=U t->O[j]?=U v->Value.okWide Tryz.prog X .any V t v)(L:DataW.Whole P Tryz.prog Tryz.f4.params.toList [] E X O.toList N M R)
  (Q:(DataW.weightsEach Tryz.prog (Tryz.f4.params.toList++[]) (N++M)).all (·<=reachBytes)=J):
  Calls Tryz.prog 4 O X λe G=>∃v,e=.returned v/\Rows.deskManySpec.post P Tryz.prog Tryz.f4 E J E E X O v G:=by
 have y:=L;obtain⟨p,q,F,x,rfl,_,_⟩:=L;obtain⟨rfl,rfl⟩:=trodVars_none x;have D:Tryz.f4.params.toList=[41,44,3,56]:=by rw[Tryz.params4]
 rw[D] at F Q;simp only[Kb,fZ,ce] at Q;have w:=aHO B A F Q (λj t v l u s r=>by
  have o:Tryz.f4.params[j]?=U t:=by rw[<-ZD,D];exact u
  have n:=z j t v o (by rw[<-ZD];exact s);exact aHT JZ r n)
 refine w.mono ?_;rintro e G ⟨rfl,m⟩;exact⟨_,rfl,aHS y m⟩

def aHW(X:Os)(W:Array Value):laidMetH Tryz.prog L3 ((World.doorLaid Tryz.prog 400 X).forCall (λ_ _=>0) ⟨#[],W,[]⟩).memory:=
 laidMetH_of_parts3 (fuel:=8) (laidMet_of_run' 8 aX aX) aX aX
def aHX(P:TB.Ev 5 [] (.ret [.b J]))(O:∀W,laidMetH Tryz.prog L3 W->GW W)(V:Os)(started:V.Started)(H:Type)(R:TypeId×Value->H):
  ReturnsInHanded {} Tryz.checked V 4 .any (λw Q=>(Rows.deskManySpec.pre R Tryz.prog Tryz.f4 [] E w Q/\laidMetH Tryz.prog L3 w)/\sizedMet R Tryz.prog Tryz.f4 (OpenSpec.ofChange Rows.deskManySpec) E w Q)
   (Rows.deskManySpec.post R Tryz.prog Tryz.f4 E J E E):=by
 refine returnsInHanded_of_change_and (C:=Tryz.checked) (X:=λw _=>laidMetH Tryz.prog L3 w) (λ_ _ _ N h=>h.of_heap N) aHU started aX Tryz.func4
  (ChangeSpec.witness_shaped (enc:=R) (C:=Tryz.checked) (os:=V) (X:=λw _=>laidMetH Tryz.prog L3 w) E (World.doorLaid Tryz.prog 400 V) #[.agg #[.int I 0,.int I 0,.int I 0,.int I 0,.int I 0,.slice Z 0 0,.int I 0,.slice Z 0 0,.slice Z 0 0,.slice Z 0 0,.slice Z 0 0,.slice Z 0 0,.slice Z 0 0,.slice Z 0 0,.slice Z 0 0,.slice Z 0 0],.agg #[.slice Z 0 0,.int I 0,.slice Z 0 0,.slice Z 0 0,.bool E],.int I 0,.int .u16 0] 8 rfl (World.shaped_of_RefB aX aX) aX aX aX (aHW V _)) ?_
 intro W D Q B A before M L _ G F _;exact aHV P (O W F) M L G
end
section
variable{P:Program}{ty:Ty}{W:World}
def zF{X:Type}(w:Nat):Nat->List X->List (List X)
 |0,_=>[]
 |n+1,l=>l.take w::zF w n (l.drop w)
def SI{X:Type}{w:Nat}:∀{n:Nat}{l:List X},(zF w n l).length=n
 |0,_=>rfl
 |n+1,l=>by simp[zF,SI (n:=n)]
def Zy{X:Type}{w:Nat}:∀{n:Nat}{l r:List X}{i:Nat},(zF w n l)[i]?=U r->i<n/\r=(l.drop (i*w)).take w
 |0,l,r,i,h=>by simp[zF] at h
 |n+1,l,r,0,h=>by simp[zF] at h;exact⟨aa,by simp[h]⟩
 |n+1,l,r,i+1,h=>by
  simp only[zF,tN] at h;obtain⟨R,V⟩:=Zy h;refine⟨aa, ?_⟩;rw[V,Ol];congr 2;rw[nE];omega
def Od{R:Type}{n:Nat}{l r:List R}{i j:Nat}{c:R}(h:(zF V n l)[i]?=U r)(X:r[j]?=U c):i<n/\j<V/\l[i*V+j]?=U c:=by
 obtain⟨Q,rfl⟩:=Zy h;rw[nD] at X;split at X;rename_i O;rw[uN] at X;exact⟨Q,O,X⟩;cases X
def SJ{H:Type}(P:Program)(t:TypeId)(d:DataW H)(w n:Nat):List (List RV):=zF w n ((e8 (n*w)).map λj=>(oX P 9 t d j).getD default)
def ai2{g n w:Nat}{e t:TypeId}{G F:TI}{d:DataW Unit}(ag:ty e=U G)(al:ty t=U F)(hw:Y G.aj=w)(A:Y F.aj=n*w)(an:(e8 n).map (λi=>(F.aj.drop (i*w)).take w)=eF n G.aj)(aA:zE P ty 9 t=J)
  (aC:DataW.trod (λ_=>()) P W 0 (λ_=>J) E V t O.toList=U (d,R))(a0:(DataW.weights P t d).all (·<=reachBytes)=J)(a1:∀i,W.cell? ⟨g,i,Z⟩=O[i]?)(hE:((e8 (n*w)).all λj=>(oX P 9 t d j).isSome)=J)(a4:0<w):
  ∃u,bJ W ty (.sl e) (.mk (.slice (U ⟨g,0,Z⟩) n n) u)/\cU (nR g (SJ P t d w n)) (.mk (.slice (U ⟨g,0,Z⟩) n n) u):=by
 obtain⟨s,h2⟩:=SF V 9 t F _ _ al aA aC (λq hq=>tP (fZ.1 a0 q hq));obtain⟨D,o,r2,r3,r4,r5,r6⟩:=aiZ s h2;have a3:Y D=n*w:=by rw[<-pN (f:=RV.val),o,s,A]
 have y:∀i j,i<n->j<w->F.aj[i*w+j]?=G.aj[j]?:=λi j m hj=>by
  have h:=ko (·[i]?) an;simp only[dS,zH m,Hh,aL m,eh,cX] at h;rw[<-h,nD,aL hj,uN]
 have B:bE ty (.sl e)=G.aj:=by simp[bE,ag]
 have l:∀(i j:Nat)(r:List RV)(c:RV),(zF w n D)[i]?=U r->r[j]?=U c->W.cell? ⟨g,0+i*w+j,Z⟩=U c.val:=λi j r c X Q=>by
  obtain⟨_,_,N⟩:=Od X Q;have v:O.toList[i*w+j]?=U c.val:=by rw[<-o,dS,N];rfl
  rw[jf,a1,<-ZD];exact v
 have b:∀(i:Nat)(r:List RV),(zF w n D)[i]?=U r->Y r=w:=λi r X=>by
  obtain⟨Q,rfl⟩:=Zy X;have:(i+1)*w<=n*w:=zG w Q;rw[nE] at this;rw[E4,Df,a3];omega
 refine⟨zF w n D,.sl e _ n n _ SI (bY _) (λi r X=> ?_) (λi j r c k X Q N=> ?_) (λi j r c X Q N=> ?_) (λi j r c z k X Q N=> ?_), ?_⟩;rw[B,hw];have A:=b i r X;refine⟨A,g,0,rfl, ?_,λj c Q=>l i j r c X Q⟩;obtain⟨c,hc⟩:∃c,r[0]?=U c:=⟨_,cP aa⟩;exact au2 (l i 0 r c X hc);rw[B] at N;obtain⟨L,H,M⟩:=Od X Q;exact r2 _ c k M (by rw[y i j L H];exact N);rw[B] at N;obtain⟨L,H,M⟩:=Od X Q;exact r3 _ c M (by rw[y i j L H];exact N);rw[B] at N;obtain⟨L,H,M⟩:=Od X Q;exact r4 _ c z k M (by rw[y i j L H];exact N);unfold nR SJ;rw[SI];refine cU.sl _ _ _ _ _ _ _ (by rw[SI,SI]) (λi r a X Q=> ?_) (λi j r a c c' X Q N v=> ?_);obtain⟨L,rfl⟩:=Zy X;have:(i+1)*w<=n*w:=zG w L;rw[nE] at this;rw[b i a Q,E4,Df,pN,avC];omega;obtain⟨L,H,M⟩:=Od X N;obtain⟨_,_,q4⟩:=Od Q v;rw[dS] at M;have af:i*w+j<n*w:=by
  have:(i+1)*w<=n*w:=zG w L;rw[nE] at this;omega
 rw[zH af] at M;simp only[eh,cX] at M;obtain⟨x,hx⟩:=lF.1 (fZ.1 hE _ (uO.2 af));rw[hx,oI] at M;subst M;exact r6 _ c' x q4 hx
end
def aHY:Tryz.prog.globalNamed (gn 1)=U 2:=aX
def aHZ:Tryz.prog.globalNamed (gn 0)=U 0:=aX
def aH0:Tryz.prog.globalNamed (gn 2)=U 1:=aX
def aH1:(Tryz.prog.globals[2]?).map (·.type)=U 278:=aX
def aH2:(Tryz.prog.globals[0]?).map (·.type)=U 207:=aX
def aH3:(Tryz.prog.globals[1]?).map (·.type)=U 228:=aX
def ai3{n:String}(R:Tryz.prog.globalNamed n=U V)(Q:X.var? Tryz.prog n=U O)(i:Nat):X.cell? ⟨V,i,Z⟩=O[i]?:=World.var?_cell R Q i
def avh:∀(X:List XV)(O:ai),∃l,(O.ext X).r=O.r++l
 |[],O=>⟨[],by simp[ai.ext]⟩
 |x::X,O=>by
  obtain⟨l,h⟩:=avh X (O.add x);simp only[ai.ext,h];cases x<;>simp[ai.add]
def avi:lw=[nR 0 (SJ Tryz.prog 207 (Rows.laid_kinesphere_expand_kinds:DataW Unit) 6 10),nR 1 (SJ Tryz.prog 228 (Rows.laid_kinesphere_motion_kinds:DataW Unit) 2 10),nR 2 (SJ Tryz.prog 278 (Rows.laid_kinesphere_space_flat:DataW Unit) 2 8)]:=aX
def avj{X:Type}{p:Nat->X->Prop}{a b c:X}(V:p 0 a)(R:p 1 b)(Q:p 2 c):∀(k:Nat)(x:X),[a,b,c][k]?=U x->p k x
 |0,_,h=>mQ h▸V
 |1,_,h=>mQ h▸R
 |2,_,h=>mQ h▸Q
 |k+3,_,h=>(by simp at h)
def aH4(h:laidMetH Tryz.prog L3 X):GW X:=by
 rw[MakeChecks.laidMetH_plain _ _ _ aX] at h;obtain⟨ps,⟨g0,t0,lj,f0,p0,q0,H,B,A,z,⟨g1,t1,af,f1,p1,q1,G,y,u,s,⟨g2,t2,ag,f2,p2,q2,F,r,q,o,_,_⟩,_⟩,_⟩,_,_⟩:=h;obtain rfl:=mQ (aHY.symm.trans H);obtain rfl:=mQ (aHZ.symm.trans G);obtain rfl:=mQ (aH0.symm.trans F);obtain rfl:=mQ (aH1.symm.trans B);obtain rfl:=mQ (aH2.symm.trans y);obtain rfl:=mQ (aH3.symm.trans r);obtain⟨R,m,j⟩:=ai2 (P:=Tryz.prog) (ty:=look TT) (W:=X) (g:=0) (n:=10) (w:=6) (e:=206) (t:=207) rfl rfl rfl rfl rfl aX s aX (ai3 G u) aX dX;obtain⟨Q,i,f⟩:=ai2 (P:=Tryz.prog) (ty:=look TT) (W:=X) (g:=1) (n:=10) (w:=2) (e:=227) (t:=228) rfl rfl rfl rfl rfl aX o aX (ai3 F q) aX dX;obtain⟨O,d,c⟩:=ai2 (P:=Tryz.prog) (ty:=look TT) (W:=X) (g:=2) (n:=8) (w:=2) (e:=197) (t:=278) rfl rfl rfl rfl rfl aX z aX (ai3 H A) aX dX;refine⟨[.mk (.slice (U ⟨0,0,Z⟩) 10 10) R,.mk (.slice (U ⟨1,0,Z⟩) 10 10) Q,.mk (.slice (U ⟨2,0,Z⟩) 8 8) O],by rw[avi];rfl,λk v V N L=> ?_,λk e M N L=> ?_,λb x D=> ?_⟩;rw[avi] at N;exact avj (p:=λk v=>∀V,[RV.mk (.slice (U ⟨0,0,Z⟩) 10 10) R,.mk (.slice (U ⟨1,0,Z⟩) 10 10) Q,.mk (.slice (U ⟨2,0,Z⟩) 8 8) O][k]?=U V->cU v V) (λV h=>mQ h▸j) (λV h=>mQ h▸f) (λV h=>mQ h▸c) k v N V L;exact avj (p:=λk e=>∀M,[RV.mk (.slice (U ⟨0,0,Z⟩) 10 10) R,.mk (.slice (U ⟨1,0,Z⟩) 10 10) Q,.mk (.slice (U ⟨2,0,Z⟩) 8 8) O][k]?=U M->bJ X (look TT) e M) (λV h=>mQ h▸m) (λV h=>mQ h▸i) (λV h=>mQ h▸d) k e N M L;obtain⟨l,a⟩:=avh b ⟨[],[],[RV.mk (.slice (U ⟨0,0,Z⟩) 10 10) R,.mk (.slice (U ⟨1,0,Z⟩) 10 10) Q,.mk (.slice (U ⟨2,0,Z⟩) 8 8) O],[]⟩;simp only[GL,dV,SS,or_false] at D;unfold gg ai.rv;rw[a];rcases D with rfl|rfl|rfl;exact⟨av,10,10,rfl⟩;exact⟨av,10,10,rfl⟩;exact⟨av,8,8,rfl⟩
