/- Part 20 of the proof. -/
import Derived.Test.YtfpoabmmjhhncaaGreatDoorQ8
import Derived.Test.YtfpoabmmjhhncaaGreatDoorQ11
import Derived.Test.YtfpoabmmjhhncaaGreatDoorQ12
import Derived.Test.YtfpoabmmjhhncaaGreatDoorQ13
import Derived.Test.YtfpoabmmjhhncaaGreatDoorQ14
import Derived.Test.YtfpoabmmjhhncaaGreatDoorQ15
import Derived.Test.YtfpoabmmjhhncaaGreatDoorQ16
import Derived.Test.YtfpoabmmjhhncaaGreatDoorQ17
import Derived.Test.YtfpoabmmjhhncaaGreatDoorQ18
import Derived.Test.YtfpoabmmjhhncaaGreatDoorQ19
import Derived.Test.YtfpoabmmjhhncaaGreatDoorRows
import Derived.ChangeArms
import Derived.DataReads
import Derived.OpenShut
import Derived.RecoverIn
import Derived.Shelf.Small.Strs
import Derived.Carry
import Derived.ProofKit
import Derived.LaidMore
import Derived.Stop.Joined
import Derived.Handed
set_option linter.all false
set_option maxRecDepth 100000
set_option maxHeartbeats 100000000
open Bool renaming and_eq_true->aw,false_eq_true->iC,eq_iff_iff->uF,and_assoc->alA,true->J,false->E
open List renaming getElem?_eq_some_iff->bJ,getD_eq_getElem?_getD->cw,getElem?_eq_getElem->ce,getElem?_append_left->dF,getElem?_map->dM,getElem?_append_right->gK,mem_append->eC,mem_cons->dJ,all_eq_true->eO,replicate->ew,map_cons->ep,mem_of_getElem?->iU,nil_append->gU,range->e8,any_eq_true->jy,mem_map->gL,getElem?_take->lT,getElem?_cons_succ->qH,getElem?_of_mem->qI,getElem?_drop->rJ,getElem_mem->pN,length_map->o8,getElem?_replicate->Dw,mem_range->vZ,take_of_length_le->F7,getElem?_range->F8,mem_of_find?_eq_some->NB,length_drop->DD,map_nil->xU,length_take->F9,append_nil->Gc,drop_drop->JJ,map->xV,not_mem_nil->NM,all_cons->JK,find?_some->NN,take_append_of_le_length->alh,getElem?_zip_eq_some->ali,drop_append_of_le_length->awV,drop_of_length_le->aw9,length->Y
open Nat renaming le_refl->bU,zero_add->gV,add_mul->pe,eq_zero_or_pos->BB,mul_le_mul_right->Dz,mul_comm->NS,mod_lt->JN,div_lt_of_lt_mul->aln,div_add_mod->aaF,sub_self->Tv
open Option renaming map_some->dQ,isSome_iff_exists->jw,getD_some->nl,bind_eq_some_iff->aw6,some->U,none->Z
open Array renaming getElem?_eq_some_iff->jg,getElem?_setIfInBounds->JA,getElem?_modify->JB,getElem?_toList->Tk,ext_getElem?->axv
open Go.Region renaming wanted->jH
open Go.World renaming cell?->mC,putObj->BJ,setCell->NQ,frozen?->NR,cells?_some->axz
open Go.Oper renaming semAt_none->aly,uponIn->alM
open Int renaming toNat_natCast->DC
open Go.IntKind renaming i64->I
namespace Go.Proofs.YtfpoabmmjhhncaaGreatDoor.Y
open Go.RowKit
noncomputable section
variable{D:Ty}{X:World}{Q:Value}{A:eG}{V:Nat}{F:Nat→Bool}{L:Bool}{M:Program}{z:Act}{N:TypeId}{H:List LK}{G:List XV}{B:RV}{R:List MemPlace}{O:Array Value}
def Tf:CT->CT->Bool
 |.int k,.int X=>decide (k=X)
 |.bool,.bool=>J
 |.ac _ k,.ac _ X=>decide (k=X)
 |_,_=>E
def zS:eG->eG->Bool
 |[],[]=>J
 |c::l,X::V=>Tf c X&&zS l V
 |_,_=>E
def Tg:∀{l V:eG},zS l V=J->Y l=Y V/\∀(j:Nat)(c X:CT),l[j]?=U c->V[j]?=U X->Tf c X=J
 |[],[],_=>⟨rfl,λj c X h _=>by simp at h⟩
 |[],_::_,h=>by cases h
 |_::_,[],h=>by cases h
 |a::l,b::V,h=>by
  simp only[zS,aw] at h;obtain⟨O,N⟩:=Tg h.2;refine⟨by simp[O],λj c X R Q=> ?_⟩;cases j with
  |zero=>simp at R Q;subst R;subst Q;exact h.1
  |succ j=>exact N j c X (by simpa using R) (by simpa using Q)
inductive o7:RV->Prop
 |mk (rv:RV) (h:Y rv.ae<=140737488355328) (h2:∀row∈rv.ae,∀c∈row,o7 c):o7 rv
def o7.Th(v:Value):o7 (.mk v []):=.mk _ (by simp[RV.ma]) (by simp[RV.ma])
def xQ(o:Ty)(W:World)(V:Option RV):CT->Value->Prop
 |.int k,v=>(∃n,v=.int k n/\(Lit.int k n).wf=J)/\∀r,V=U r->r=.mk v []
 |.bool,v=>(∃b,v=.bool b)/\∀r,V=U r->r=.mk v []
 |.ac _ k,v=>∃X:RV,X.val=v/\bu W o k X/\o7 X/\∀r,V=U r->dj r X
def xQ.aap{V:Option RV}{a b:CT}(h:Tf a b=J)(k:xQ D X V b Q):xQ D X V a Q:=by
 cases a<;>cases b<;>simp only[Tf,bZ,iC] at h;subst h;exact k;exact k;subst h;exact k
def vV(P:Program)(o:Ty):Nat->TypeId->Bool
 |0,_=>E
 |n+1,t=>match o t with
  |none=>E
  |U X=>match P.underlying t with
   |U (.int k)=>zS X.aj [.int k]
   |U .bool=>zS X.aj [.bool]
   |U .string=>zS X.aj [.ac undef .str]
   |U (.slice e)=>zS X.aj [.ac undef (.sl e)]&&vV P o n e&&decide (P.cellsOf e=(bm o (.sl e)).length)&&decide (P.cellsOf e≠0)&&decide (P.bytesOf e≠0)
   |U (.struct Q)=>decide (P.cellsOf t=Y X.aj)&&Q.toList.all (λf=>vV P o n f.type&&(match o f.type with
     |U R=>decide (P.cellsOf f.type=Y R.aj)&&zS ((X.aj.drop f.offset).take (Y R.aj)) R.aj
     |none=>E))&&(e8 (Y X.aj)).all λj=>Q.toList.any λf=>decide (f.offset<=j)&&decide (j<f.offset+P.cellsOf f.type)
   |U (.array k e)=>decide (P.cellsOf t=Y X.aj)&&vV P o n e&&(match o e with
     |U V=>decide (P.cellsOf e=Y V.aj)&&decide (Y X.aj=k*Y V.aj)&&(e8 k).all λi=>zS ((X.aj.drop (i*Y V.aj)).take (Y V.aj)) V.aj
     |none=>E)
   |_=>E
def nh{H:Type}(P:Program):Nat->TypeId->DataW H->Nat->Option RV
 |0,_,_,_=>Z
 |n+1,t,d,j=>match P.underlying t,d with
  |U (.int _),.lit (.int k q)=>U (.mk (.int k q) [])
  |U .bool,.lit (.bool b)=>U (.mk (.bool b) [])
  |U (.slice e),.slice X _=>if(X.all λd=>(e8 (P.cellsOf e)).all λj=>(nh P n e d j).isSome) then U (.mk (.slice Z (Y X) (Y X)) (X.map λd=>(e8 (P.cellsOf e)).map λj=>(nh P n e d j).getD default)) else Z
  |U (.slice _),.nil=>U (.mk (.slice Z 0 0) [])
  |U (.struct R),.agg V=>match(R.toList.zip V).find? λf=>decide (f.1.offset<=j)&&decide (j<f.1.offset+P.cellsOf f.1.type) with
   |U f=>nh P n f.1.type f.2 (j-f.1.offset)
   |none=>Z
  |U (.array _ e),.agg V=>match V[j/P.cellsOf e]? with
   |U d=>nh P n e d (j%P.cellsOf e)
   |none=>Z
  |_,_=>Z
section
variable{P:Program}{o:Ty}{W:World}
def Nw{R:Nat->Option RV}{c:CT}(h:zS A [c]=J)(k:xQ o W (R 0) c Q):[Q].length=Y A/\∀(j:Nat)(X:CT)(u:Value),A[j]?=U X->[Q][j]?=U u->xQ o W (R j) X u:=by
 obtain⟨O,N⟩:=Tg h;refine⟨by simp[O],λj X u M V=> ?_⟩;cases j with
 |zero=>simp at V;subst V;exact xQ.aap (N 0 X c M rfl) k
 |succ j=>simp at V
def aaq:∀{Ecel:Nat->Option RV}{aj:eG}{cs:eX},Y cs=Y aj->(∀(j:Nat)(O:CT)(v:Value),aj[j]?=U O->cs[j]?=U v->xQ o W (Ecel j) O v)->
  ∃N:aC,N.map RV.val=cs/\(∀(j:Nat)(c:RV)(k:IntKind),N[j]?=U c->aj[j]?=U (.int k)->∃n,c.val=.int k n)/\(∀(j:Nat)(c:RV),N[j]?=U c->aj[j]?=U .bool->∃x,c.val=.bool x)/\(∀(j:Nat)(c:RV)(z:Value)(k:RK),N[j]?=U c->aj[j]?=U (.ac z k)->bu W o k c)/\(∀c∈N,o7 c)/\∀(j:Nat)(c r:RV),N[j]?=U c->Ecel j=U r->dj r c
 |_,[],[],_,_=>⟨[],rfl,λj c k h=>by simp at h,λj c h=>by simp at h,λj c z k h=>by simp at h,au,λj c r h=>by simp at h⟩
 |_,[],_::_,h,_=>by simp at h
 |_,_::_,[],h,_=>by simp at h
 |Ecel,O::aj,v::cs,F,h=>by
  obtain⟨N,D,B,A,y,w,t⟩:=aaq (Ecel:=λj=>Ecel (j+1)) (aj:=aj) (cs:=cs) (by simpa using F) (λj c u s M=>h (j+1) c u (by simpa using s) (by simpa using M));obtain⟨r,L,M,q,p,m,l⟩:∃r:RV,r.val=v/\(∀k,O=.int k->∃n,r.val=.int k n)/\(O=.bool->∃x,r.val=.bool x)/\(∀z k,O=.ac z k->bu W o k r)/\o7 r/\∀R,Ecel 0=U R->dj R r:=by
   have Q:=h 0 O v rfl rfl;cases O with
   |int k=>exact⟨.mk v [],rfl,λH e=>(by cases e;obtain⟨⟨n,i,_⟩,_⟩:=Q;exact⟨n,i⟩),λe=>(by cases e),λz k e=>(by cases e),o7.Th v,λR G=>by rw[Q.2 R G];exact dj.refl _⟩
   |bool=>exact⟨.mk v [],rfl,λH e=>(by cases e),λ_=>Q.1,λz k e=>(by cases e),o7.Th v,λR G=>by rw[Q.2 R G];exact dj.refl _⟩
   |ac z k=>
    obtain⟨r,L,g,f,d⟩:=Q;exact⟨r,L,λH e=>(by cases e),λe=>(by cases e),λb H e=>(by cases e;exact g),f,d⟩
  refine⟨r::N,by simp[L,D],λj c k X V=> ?_,λj c X V=> ?_,λj c z k X V=> ?_,λc Q=>(dJ.1 Q).elim (λe=>e▸m) (λQ=>w c Q),λj c R X V=> ?_⟩;cases j with
  |zero=>simp at X V;subst X;exact M k V
  |succ j=>exact B j c k (by simpa using X) (by simpa using V)
  cases j with
  |zero=>simp at X V;subst X;exact q V
  |succ j=>exact A j c (by simpa using X) (by simpa using V)
  cases j with
  |zero=>simp at X V;subst X;exact p z k V
  |succ j=>exact y j c z k (by simpa using X) (by simpa using V)
  cases j with
  |zero=>simp at X;subst X;exact l R V
  |succ j=>exact t j c R (by simpa using X) V
def akW{α:Type}{R:Nat->α->Prop}:∀(n:Nat),(∀i,i<n->∃x,R i x)->∃l:List α,Y l=n/\∀(i:Nat)(x:α),l[i]?=U x->R i x
 |0,_=>⟨[],rfl,λi x h=>by simp at h⟩
 |n+1,h=>by
  obtain⟨l,V,Q⟩:=akW n (λi O=>h i aa);obtain⟨x,N⟩:=h n aa;refine⟨l++[x],by simp[V],λi y X=> ?_⟩;by_cases O:i<n;rw[dF aa] at X;exact Q i y X;rw[gK aa] at X;have:i=n:=by
   cases M:i-Y l with
   |zero=>omega
   |succ q=>rw[M] at X;simp at X
  subst this;rw[V,Tv] at X;simp at X;subst X;exact N
def aar{H:Type}{P:Program}{e:TypeId}{q:Nat}:∀{l:List (DataW H)}{d:DataW H},d∈l->q∈DataW.weights P e d->q∈DataW.weightsAll P e l
 |[],_,h,_=>by simp at h
 |x::l,d,h,X=>by
  simp only[DataW.weightsAll,eC];rcases dJ.1 h with rfl|h;exact .inl X;exact .inr (aar h X)
def akX{H:Type}{P:Program}{q:Nat}:∀{X:iX}{l:List (DataW H)}{i:Nat}{t:TypeId}{d:DataW H},X[i]?=U t->l[i]?=U d->q∈DataW.weights P t d->q∈DataW.weightsEach P X l
 |[],_,_,_,_,h,_,_=>by simp at h
 |_::_,[],_,_,_,_,h,_=>by simp at h
 |O::X,N::l,i,t,d,V,R,Q=>by
  simp only[DataW.weightsEach,eC];cases i with
  |zero=>simp at V R;subst V;subst R;exact .inl Q
  |succ i=>exact .inr (akX (i:=i) (by simpa using V) (by simpa using R) Q)
def akY{R:Nat}(h:W.cell? ⟨V,R,Z⟩=U Q):∃O t X,W.heap[V]?=U (.cells O t X):=by
 unfold mC at h;split at h;rename_i c t X N;exact⟨c,t,X,N⟩;cases h
structure akZ{H:Type}(P:Program)(o:Ty)(W:World)(n:Nat)(e:TypeId)(aj:eG)(a:Addr)(elems:List (DataW H×List MemPlace))(i:Nat)(row:aC):Prop where
 len:Y row=Y aj
 sp:a.spot=Z
 jY:∃cs t fr,W.heap[a.block]?=U (.cells cs t fr)
 cell:∀(j:Nat)(c:RV),row[j]?=U c->W.cell? ⟨a.block,a.off+i*Y aj+j,Z⟩=U c.val
 hi:∀(j:Nat)(c:RV)(k:IntKind),row[j]?=U c->aj[j]?=U (.int k)->∃n,c.val=.int k n
 hb:∀(j:Nat)(c:RV),row[j]?=U c->aj[j]?=U .bool->∃x,c.val=.bool x
 ho:∀(j:Nat)(c:RV)(z:Value)(k:RK),row[j]?=U c->aj[j]?=U (.ac z k)->bu W o k c
 bnd:∀c∈row,o7 c
 eq:∀(j:Nat)(c r:RV)(x:DataW H×List MemPlace),row[j]?=U c->elems[i]?=U x->nh P n e x.1 j=U r->dj r c
def Nx{H:Type}{b4:TypeId×Value->H}{b5:Nat}{spare:Nat->Bool}{b6:Bool}:∀(b7 m:Nat)(t:TypeId)(ti:TI)(cs:eX)(x:DataW H×List MemPlace),o t=U ti->vV P o m t=J->DataW.trod b4 P W b5 spare b6 b7 t cs=U x->(∀q∈DataW.weights P t x.1,q<=reachBytes)->
  Y cs=Y ti.aj/\∀(j:Nat)(ct:CT)(v:Value),ti.aj[j]?=U ct->cs[j]?=U v->xQ o W (nh P m t x.1 j) ct v
 |0,_,_,_,_,_,_,_,h,_=>by simp[DataW.trod] at h
 |_+1,0,_,_,_,_,_,M,_,_=>by simp[vV] at M
 |n+1,m+1,t,ti,cs,x,ht,M,h,af=>by
  simp only[vV,ht] at M;cases N:P.underlying t with
  |none=>rw[N] at M;cases M
  |some d=>
   rw[N] at M;cases d<;>simp only[iC] at M
   case int k=>
    obtain⟨q,rfl,rfl,b8⟩:=DataW.trod_int N h;exact Nw M ⟨⟨q,rfl,b8⟩,λr X=>by simp only[nh,N,cg] at X;exact X.symm⟩
   case bool=>
    obtain⟨q,rfl,rfl⟩:=DataW.trod_bool N h;exact Nw M ⟨⟨q,rfl⟩,λr X=>by simp only[nh,N,cg] at X;exact X.symm⟩
   case string=>
    obtain⟨q,rfl,_⟩:=DataW.trod_string N h;exact Nw M ⟨.mk (.string q) [],rfl,.str q,o7.Th _,λr X=>by simp[nh,N] at X⟩
   case slice e=>
    simp only[aw,bZ] at M;obtain⟨⟨⟨⟨g1,A⟩,G⟩,g4⟩,g6⟩:=M;rcases DataW.trod_slice N h with⟨rfl,F⟩|⟨a,ag,bd,s,bf,n',hn,rfl,F,hb,ca,cB,bg,bk,_,_⟩;exact Nw g1 ⟨.mk (.slice Z 0 0) [],rfl,.sl e Z 0 0 [] rfl (bU _) (λi V X=>by simp at X) (λi j V c k X=>by simp at X) (λi j V c X=>by simp at X) (λi j V c z k X=>by simp at X),o7.Th _,λr X=>by
     simp only[nh,N,F,cg] at X;subst X;exact dj.refl _⟩
    cases hn;subst F;simp only[DataW.weights,N,dJ,eC] at af;have cC:ag<=140737488355328:=by
     have y:=af _ (.inl rfl);have Q:(s.map (·.1)).length+(bf.map (·.1)).length<=((s.map (·.1)).length+(bf.map (·.1)).length)*P.bytesOf e:=Nat.le_mul_of_pos_right _ aa;simp only[o8] at y Q;have w:reachBytes<=140737488355328:=eW;omega
    have a0:∃L,o e=U L:=by
     cases m with
     |zero=>simp[vV] at A
     |succ m=>
      cases D:o e with
      |none=>simp[vV,D] at A
      |some L=>exact⟨L,rfl⟩
    obtain⟨L,a0⟩:=a0;have an:bm o (.sl e)=L.aj:=by simp[bm,a0]
    rw[an] at G;have cc:∀i,i<ag->∃V:aC,akZ P o W m e L.aj a s i V:=by
     intro i l;have Q:=bk i l;have al:i<Y s:=aa;rw[ce al,aw6] at Q;obtain⟨ci,Q,w⟩:=Q;obtain⟨q1,q2⟩:=Nx n m e L ci _ a0 A w (λq D=>af q (.inr (.inl (aar (gL.2 ⟨_,pN al,rfl⟩) D))));obtain⟨_,c1,c2⟩:=axz Q;obtain⟨V,r1,r2,r3,r4,r5,r6⟩:=aaq q1 q2;have bl:Y V=Y L.aj:=by rw[<-o8 (f:=RV.val),r1,q1]
     have a1:a.spot=none:=by
      have y:=bk 0 aa;rw[ce aa,aw6] at y;obtain⟨c0,y,_⟩:=y;obtain⟨_,d1,d2⟩:=axz y;have d3:=d2 0 aa;rw[Nat.zero_mul,ce aa] at d3;simp only[Addr.add,cH] at d3;unfold mC at d3;split at d3;split at d3;cases d3;rename_i hs;simpa using hs;cases d3
     have br:∀(j:Nat)(c:RV),V[j]?=U c->W.cell? ⟨a.block,a.off+i*Y L.aj+j,Z⟩=U c.val:=by
      intro j c B;have cD:j<Y L.aj:=by rw[<-bl];exact(bJ.1 B).1
      have c3:=c2 j aa;have c4:ci[j]?=U c.val:=by rw[<-r1,dM,B];rfl
      rw[c4] at c3;have ha:(a.add (i*P.cellsOf e)).add j=⟨a.block,a.off+i*Y L.aj+j,Z⟩:=by
       rw[G];unfold Addr.add;cases a with
       |mk jY cI sp=>
        simp only at a1;subst a1;by_cases q5:i*Y L.aj=0<;>by_cases q6:j=0<;>simp[q5,q6]
      rw[ha] at c3;exact c3
     refine⟨V,bl,a1, ?_,br,r2,r3,r4,r5,λj c r x g1 A G=>r6 j c r g1 (by rw[ce al] at A;cases A;exact G)⟩;have bs:0<Y L.aj:=aa;obtain⟨c,g⟩:∃c,V[0]?=U c:=⟨_,ce aa⟩;exact akY (br 0 c g)
    obtain⟨bt,l1,l2⟩:=akW (α:=aC) (R:=akZ P o W m e L.aj a s) ag cc;refine Nw g1 ⟨.mk (.slice (U a) ag bd) bt,rfl,.sl e (U a) ag bd bt l1 ca (λi V X=> ?_) (λi j V c k X g hk=> ?_) (λi j V c X g hk=> ?_) (λi j V c z k X g hk=> ?_),.mk _ (by rw[RV.ma];omega) (λV X c g=> ?_),λr X=> ?_⟩;have p:=l2 i V X;rw[an];refine⟨p.len,a.block,a.off, ?_,p.jY,p.cell⟩;have p2:=p.sp;cases a;simp only at p2;subst p2;rfl;rw[an] at hk;exact(l2 i V X).hi j c k g hk;rw[an] at hk;exact(l2 i V X).hb j c g hk;rw[an] at hk;exact(l2 i V X).ho j c z k g hk;rw[RV.ma] at X;obtain⟨i,l⟩:=qI X;exact(l2 i V l).bnd c g;simp only[nh,N] at X;split at X;rename_i cf;cases X;have bx:Y s=ag:=aa;rw[o8,bx];have get:∀(i:Nat)(V:aC),(xV (λd=>xV (λj=>(nh P m e d j).getD default) (e8 (P.cellsOf e))) (s.map (·.1)))[i]?=U V->∃x,s[i]?=U x/\V=(e8 (P.cellsOf e)).map λj=>(nh P m e x.1 j).getD default:=by
     intro i V Q;rw[dM,dM] at Q;cases F:s[i]? with
     |none=>rw[F] at Q;cases Q
     |some x=>rw[F] at Q;simp only[dQ,cg] at Q;exact⟨x,rfl,Q.symm⟩
    refine dj.sl _ _ _ _ _ _ _ (by simp[l1,bx]) (λi V a3 Q w=> ?_) (λi j V a3 c c' Q w h3 h4=> ?_);obtain⟨x,_,rfl⟩:=get i V Q;rw[(l2 i a3 w).len];simp[G];obtain⟨x,F,rfl⟩:=get i V Q;rw[dM] at h3;cases B:(e8 (P.cellsOf e))[j]? with
    |none=>rw[B] at h3;cases h3
    |some j'=>
     have a4:j<P.cellsOf e:=by have:=(bJ.1 B).1;simpa using this
     rw[F8 a4] at B;cases B;rw[F8 a4] at h3;simp only[dQ,cg] at h3;have:=eO.1 (eO.1 cf x.1 (gL.2 ⟨x,iU F,rfl⟩)) j (vZ.2 a4);obtain⟨r,X⟩:=jw.1 this;rw[X] at h3;simp only[nl] at h3;subst h3;exact(l2 i a3 w).eq j c' r x h4 F X
    cases X
   case struct b=>
    simp only[aw,bZ,eO,jy,vZ] at M;obtain⟨⟨g1,A⟩,G⟩:=M;obtain⟨u,n',hn,F,ch,cl,hf⟩:=DataW.trod_struct N h;cases hn;subst F;simp only[DataW.weights,N] at af;refine⟨aa,λj ct v Q w=> ?_⟩;have B:j<Y ti.aj:=(bJ.1 Q).1;obtain⟨f0,cn,co,cp⟩:=G j B;have cO:(b.toList.zip (u.map (·.1))).length=b.size:=dG;obtain⟨fd,a9⟩:∃fd,(b.toList.zip (u.map (·.1))).find? (λf=>decide (f.1.offset<=j)&&decide (j<f.1.offset+P.cellsOf f.1.type))=U fd:=by
     obtain⟨i0,ba⟩:=qI cn;have cv:i0<b.size:=by have:=(bJ.1 ba).1;simpa using this
     refine jw.1 (List.find?_isSome.2 ⟨((b.toList.zip (u.map (·.1)))[i0]' aa),pN _, ?_⟩);have:f0=b.toList[i0]:=by rw[ce (by simpa using cv)] at ba;exact(lf ba).symm
     simp only[List.getElem_zip,<-this,aw,bZ];exact⟨co,cp⟩
    have b0:=NN a9;simp only[aw,bZ] at b0;obtain⟨b1,b2⟩:=b0;obtain⟨iz,cx⟩:=qI (NB a9);obtain⟨f,dd⟩:=fd;have bb:=ali.1 cx;have b1:f.offset<=j:=b1;have b2:j<f.offset+P.cellsOf f.type:=b2;have cy:f∈b.toList:=iU bb.1;obtain⟨k1,k2⟩:=A f cy;cases D:o f.type with
    |none=>rw[D] at k2;cases k2
    |some fi=>
     rw[D] at k2;simp only[aw,bZ] at k2;obtain⟨k3,k4⟩:=k2;have l:=bb.1;have al:b[iz]?=U f:=by simpa using l
     have cR:iz<b.size:=(jg.1 al).1;have e1:=hf iz f al;rw[ce aa] at e1;obtain⟨q1,q2⟩:=Nx n m f.type fi _ _ D k1 e1 (λq bc=>af q (akX (i:=iz) (by simp[l]) (by simp[show iz<Y u from aa]) bc));obtain⟨_,q4⟩:=Tg k4;have b3:j-f.offset<Y fi.aj:=aa;have ej:f.offset+(j-f.offset)=j:=aa;have v1:((cs.drop f.offset).take (P.cellsOf f.type))[j-f.offset]?=U v:=by
      rw[lT,aE aa,rJ,ej];exact w
     have v2:((ti.aj.drop f.offset).take (Y fi.aj))[j-f.offset]?=U ct:=by
      rw[lT,aE b3,rJ,ej];exact Q
     have v3:fi.aj[j-f.offset]?=U fi.aj[j-f.offset]:=ce b3;have cA:dd=(u[iz]' aa).1:=by
      have:=bb.2;rw[dM,ce aa] at this;exact(lf this).symm
     have hE:nh P (m+1) t (.agg (u.map (·.1))) j=nh P m f.type (u[iz]' aa).1 (j-f.offset):=by
      simp only[nh,N,a9,cA]
     rw[hE];exact xQ.aap (q4 _ _ _ v2 v3) (q2 _ _ _ v3 v1)
   case array k e=>
    simp only[aw,bZ] at M;obtain⟨⟨g1,A⟩,G⟩:=M;cases D:o e with
    |none=>rw[D] at G;cases G
    |some O=>
     rw[D] at G;simp only[aw,bZ,eO,vZ] at G;obtain⟨⟨g4,g5⟩,g6⟩:=G;obtain⟨u,n',hn,F,ch,cl,bg⟩:=DataW.trod_array N h;cases hn;subst F;simp only[DataW.weights,N] at af;refine⟨aa,λj ct v Q w=> ?_⟩;have B:j<Y ti.aj:=(bJ.1 Q).1;have bs:0<Y O.aj:=by
      rcases BB (Y O.aj) with y|y;rw[g5,y] at B;omega;exact y
     have l:j/Y O.aj<k:=aln (by rw[NS];omega);have X:j%Y O.aj<Y O.aj:=JN _ bs;have ej:j/Y O.aj*Y O.aj+j%Y O.aj=j:=by have:=aaF j (Y O.aj);rw[NS] at this;exact this
     have e1:=bg (j/Y O.aj) l;rw[ce aa] at e1;obtain⟨q1,q2⟩:=Nx n m e O _ _ D A e1 (λq bc=>af q (aar (gL.2 ⟨_,pN _,rfl⟩) bc));obtain⟨_,q4⟩:=Tg (g6 _ l);have v1:((cs.drop (j/Y O.aj*P.cellsOf e)).take (P.cellsOf e))[j%Y O.aj]?=U v:=by
      rw[g4,lT,aE X,rJ,ej];exact w
     have v2:((ti.aj.drop (j/Y O.aj*Y O.aj)).take (Y O.aj))[j%Y O.aj]?=U ct:=by
      rw[lT,aE X,rJ,ej];exact Q
     have v3:O.aj[j%Y O.aj]?=U O.aj[j%Y O.aj]:=ce X;have hE:nh P (m+1) t (.agg (u.map (·.1))) j=nh P m e (u[j/Y O.aj]' aa).1 (j%Y O.aj):=by
      simp only[nh,N,g4,dM];rw[ce aa];rfl
     rw[hE];exact xQ.aap (q4 _ _ _ v2 v3) (q2 _ _ _ v3 v1)

def Ny(X:aI)(V:aX):Prop:=∀(q:Nat)(k:IntKind)(n:Int),X[q]?=U (.int k)->V[q]?=U (.i n)->(Lit.int k n).wf=J
def ak0:∀{Ecel:Nat->Option RV}{aj:eG}{cs:eX},Y cs=Y aj->(∀(j:Nat)(V:CT)(v:Value),aj[j]?=U V->cs[j]?=U v->xQ o W (Ecel j) V v)->
  ∃Q:aX,ee (aj.map rM) Q/\n8 (aj.map rM) Q=cs/\wO o W (aj.map rM) Q/\(∀X,XV.r X∈Q->o7 X)/\Ny (aj.map rM) Q
 |_,[],[],_,_=>⟨[],trivial,rfl,λq e X h=>by simp at h,au,λq k n h=>by simp at h⟩
 |_,[],_::_,h,_=>by simp at h
 |_,_::_,[],h,_=>by simp at h
 |Ecel,V::aj,v::cs,A,h=>by
  obtain⟨Q,R,O,y,w,t⟩:=ak0 (Ecel:=λj=>Ecel (j+1)) (aj:=aj) (cs:=cs) (by simpa using A) (λj c u H G=>h (j+1) c u (by simpa using H) (by simpa using G));obtain⟨x,H,G,s,p,m⟩:∃x:XV,pW (rM V) x/\x.at (rM V)=v/\(∀e X,rM V=.ah e->x=.r X->bu W o e X)/\(∀X,x=.r X->o7 X)/\∀k n,rM V=.int k->x=.i n->(Lit.int k n).wf=true:=by
   have F:=h 0 V v rfl rfl;cases V with
   |int k=>
    obtain⟨⟨n,rfl,l⟩,_⟩:=F;exact⟨.i n,trivial,rfl,λe X h=>(by cases h),λX h=>(by cases h),λD B R O=>(by cases R;cases O;exact l)⟩
   |bool=>
    obtain⟨⟨n,rfl⟩,_⟩:=F;exact⟨.b n,trivial,rfl,λe X h=>(by cases h),λX h=>(by cases h),λD B R O=>(by cases R)⟩
   |ac z k=>
    obtain⟨X,rfl,g,f,_⟩:=F;exact⟨.r X,trivial,rfl,λe d R O=>(by cases R;cases O;exact g),λd h=>(by cases h;exact f),λD B R O=>(by cases R)⟩
  refine⟨x::Q,⟨H,R⟩, ?_,λq e X N M=> ?_,λX L=> ?_,λq k n N M=> ?_⟩;show x.at (rM V)::n8 (aj.map rM) Q=_;rw[G,O];cases q with
  |zero=>simp at N M;exact s e X N M
  |succ q=>exact y q e X (by simpa using N) (by simpa using M)
  rcases dJ.1 L with L|L;exact p X L.symm;exact w X L;cases q with
  |zero=>simp at N M;exact m k n N M
  |succ q=>exact t q k n (by simpa using N) (by simpa using M)
def ak1:∀{X V:aI}{R Q:aX},ee X R->ee V Q->ee (X++V) (R++Q)/\n8 (X++V) (R++Q)=n8 X R++n8 V Q
 |[],_,[],_,_,h=>⟨h,rfl⟩
 |[],_,_::_,_,h,_=>h.elim
 |_::_,_,[],_,h,_=>h.elim
 |k::X,V,x::R,Q,h,O=>by
  obtain⟨N,M⟩:=ak1 h.2 O;exact⟨⟨h.1,N⟩,by simp[n8,M]⟩
def aas:∀{X:aI}{V:aX},ee X V->Y X=Y V
 |[],[],_=>rfl
 |[],_::_,h=>h.elim
 |_::_,[],h=>h.elim
 |k::X,x::V,h=>by simp[aas h.2]
def avh{X O:aI}{Q N:aX}(L:ee X Q)(h:wO o W X Q)(H:wO o W O N):wO o W (X++O) (Q++N):=by
 intro q e M V R;have G:=aas L;by_cases F:q<Y X;rw[dF F] at V;rw[dF aa] at R;exact h q e M V R;rw[gK aa] at V;rw[gK aa,<-G] at R;exact H _ e M V R
def avi{X O:aI}{Q N:aX}(M:ee X Q)(h:Ny X Q)(L:Ny O N):Ny (X++O) (Q++N):=by
 intro q k n V R;have H:=aas M;by_cases G:q<Y X;rw[dF G] at V;rw[dF aa] at R;exact h q k n V R;rw[gK aa] at V;rw[gK aa,<-H] at R;exact L _ k n V R
def avj{H:Type}{l:TypeId×Value->H}(jB:ip P o):∀{R:iX}{Q:eX}{G:List (DataW H)}{y:List MemPlace},R.all (vV P o 9)=J->DataW.TrodAll l P W V F L R Q G y->(∀q∈DataW.weightsEach P R G,q<=reachBytes)->
  (∀(j:Nat)(t:TypeId)(v:Value)(X:TI),R[j]?=U t->Q[j]?=U v->o t=U X->(X.d.isAgg=J/\v=.agg v.cells)\/(X.d.isAgg=E/\v.cells.toList=[v]))->
  ∃(D:aI)(O:aX),gH o R=U D/\ee D O/\tR o R (n8 D O)=Q/\wO o W D O/\(∀M,XV.r M∈O->o7 M)/\Ny D O:=by
 intro R;induction R with
 |nil=>
  intro Q G y _ h _ _;have:Q=[]:=by
   cases Q with
   |nil=>rfl
   |cons v Q=>cases G<;>simp[DataW.TrodAll] at h
  subst this;exact⟨[],[],rfl,trivial,rfl,λq e M h=>by simp at h,au,λq k n h=>by simp at h⟩
 |cons t R i=>
  intro Q G y A h g u;obtain⟨v,an,d,f,p,q,rfl,rfl,rfl,⟨c,b⟩,a⟩:=Go.ChangeShapes.trodAll_cons h;simp only[JK,aw] at A;obtain⟨X,z⟩:∃X,o t=U X:=by
   cases N:o t with
   |none=>have:=A.1;simp[vV,N] at this
   |some X=>exact⟨X,rfl⟩
  have s:∀q,q∈DataW.weights P t d\/q∈DataW.weightsEach P R f->q<=reachBytes:=λq N=>g q (by simp only[DataW.weightsEach,eC];exact N)
  obtain⟨m,c2⟩:=Nx c 9 t X _ _ z A.1 b (λq N=>s q (.inl N));obtain⟨O,x,x2,x3,x4,x5⟩:=ak0 m c2;obtain⟨af,ag,y1,y2,y3,y4,y5,y6⟩:=i A.2 a (λq N=>s q (.inr N)) (λj t' v' al q1 q2 q3=>u (j+1) t' v' al (by simpa using q1) (by simpa using q2) q3);obtain⟨z1,z2⟩:=ak1 x y2;refine⟨X.aj.map rM++af,O++ag,by simp[gH,z,y1],z1, ?_,avh x x3 y4,λM B=> ?_,avi x x5 y6⟩;rw[z2,x2];simp only[tR,z];have hl:Y v.cells.toList=Y X.aj:=m;rw[alh aa,F7 aa,awV aa,aw9 aa,gU,y3];have e:=u 0 t v X rfl rfl z;congr 1;rcases e with⟨w,e⟩|⟨w,e⟩;rw[aE w];exact e.symm;rw[w,e];rfl;rcases eC.1 B with B|B;exact x4 M B;exact y5 M B
end
def avk{R O:Oper}{W:Exit->Act->List Frame->World->Prop}{L H:List Frame}(A:(execOp z.eval R).run M X=.ok .recover X)(u:R.guard=Z)
  (N:recoverD L=U (Q,H)\/(recoverD L=Z/\Q=.nilIface/\H=L))
  (h:wpOpsIn Fence.wide 0 M #[R,O] (λe G F=>W e G H F) [1] (z.put R.dst Q) X):(Code.region V #[R,O] E).wpSIn Fence.wide 0 M W z L X:=by
 intro b k t D s j;have r:Y H=Y L:=by
  rcases N with N|⟨_,_,rfl⟩;exact recoverD_length N;rfl
 obtain⟨e,G,F,q,p⟩:=wp_opsIn [1] _ X h b k H (D.trans rfl) s (room_wide _);refine⟨e,G,H,F,r,q,.of_steps (.one (fenced_wide _ _) stepR_region) ?_⟩;have y:(#[R,O]:db)[0]?=U R:=rfl;have o:jH R (yielded #[R,O] z.tmps)=true:=by simp[jH,u]
 have x:=stepGR_op (P:=M) (b:=b) (k:=k) (cs:=L) (w:=X) (rest:=[1]) y o;rw[D,aly] at x;have n:(b.atR z (.inRegion #[R,O] [0,1]::k)).kind=.deferred:=t;have B:=tryRecover_deferred n L;have m:(b.atR z (.inRegion #[R,O] [0,1]::k)).finish Q=b.atR (z.put R.dst Q) (.inRegion #[R,O] [1]::k):=by
  rw[Frame.finish_atR,y];rfl
 refine .of_steps (.one (fenced_wide _ _) (step_lone_go ?_)) p;rw[show e8 (#[R,O]:db).size=[0,1] from rfl,x,<-m];simp only[Frame.atR,D] at B⊢;rcases N with N|⟨N,l,rfl⟩;simp[stepG.apply,A,B,N];subst l;simp[stepG.apply,A,B,N]
def ak2{R W:Oper}{Q:Exit->Act->List Frame->World->Prop}{O cs':List Frame}{v:Value}{f:FuncId}{args:kH}(L:(execOp z.eval R).run M X=.ok .recover X)(H:R.guard=Z)
  (G:recoverD O=U (v,cs')\/(recoverD O=Z/\v=.nilIface/\cs'=O))(F:W.guard=Z)(D:(W.semAt Z (z.put R.dst v).eval).run M X=.ok (.enter f args) X)
  (h:Calls M f args X λe N=>∃u,e=.returned u/\Q .normal ((z.put R.dst v).put W.dst u) cs' N):(Code.region V #[R,W] E).wpSIn Fence.wide 0 M Q z O X:=by
 refine avk L H G ?_;show(if jH W _ then _ else _);rw[aE (by simp[jH,F])];refine⟨λ_ _=>trivial, ?_⟩;show alM Fence.wide 0 M W _ _ _ ((W.semAt Z (z.put R.dst v).eval).run M X);rw[D];refine⟨λh=>by simp[Fence.wide] at h,callsIn_wide.2 (h.mono ?_)⟩;rintro e N ⟨u,rfl,B⟩;exact B
@[local go_sem] def ayt (v:Value) (w:World):(Instr.typeAssert (.iface 47 v) 20 47 J).run Tryz.prog w=.ok (.tuple #[v,.bool J]) w:=aL
def avl(b:Nat)(W:World):Calls Tryz.prog 109 #[.nilIface,.pointer (U ⟨b,0,Z⟩)] W λe X=>e=.returned (.tuple #[])/\X=W:=by
 go_enter Tryz.func109,Tryz.ntmps109;go_wp2
 (try simp only[Exit.inBlock,Exit.then]);refine bodyPost_ret (results_none rfl _ _ _) rfl ?_;exact⟨rfl,rfl⟩
def avm(b:Nat)(X k:Int)(W:World)(R:W.cell? ⟨b,0,Z⟩=U (.int I X))(Q:W.frozen? ⟨b,0,Z⟩=E):Calls Tryz.prog 109 #[.iface 47 (.int I k),.pointer (U ⟨b,0,Z⟩)] W λe V=>e=.returned (.tuple #[])/\V=W.setCell ⟨b,0,Z⟩ (.int I k):=by
 go_enter Tryz.func109,Tryz.ntmps109;go_wp2
 go_end0
 exact⟨rfl,rfl⟩
def ak3{u:Value}(h:X.heap[V]?=U (.cells #[u] N (0,0))):X.setCell ⟨V,0,Z⟩ Q=X.putObj V (.cells #[Q] N (0,0)):=by
 unfold NQ BJ;congr 1;apply axv;intro i;rw[JB,JA];by_cases R:V=i;subst R;have P:V<X.heap.size:=(jg.1 h).1;rw[aE rfl,aE rfl,h,aE P];rfl;rw[aJ R,aJ R]
def ak4{g:FuncId}{X:Func}{B:TypeId}{A z:String}{y x:Array Edge}(M:Tryz.prog.funcs[g]?=U X)(w:tP Tryz.prog g=J)(L:X.ntmps=3)(H:X.results= #[])
  (G:X.body=U (.region V #[⟨U 1,.call {callee:=.builtin .recover,args:= #[],argTypes:= #[]},N,A,y,Z⟩,⟨U 2,.call {callee:=.value (.func 109),args:= #[.tmp 1,.tmp 0],argTypes:= #[20,117]},B,z,x,Z⟩] E)):vd Tryz.prog g 47:=by
 have F:∀D W,(callFunc 109 D).run Tryz.prog W=.ok (.enter 109 D) W:=tQ aL;refine⟨tQ w,λW b=> ?_,λW b u k Q=> ?_⟩;refine callsDIn_of_wpSIn M G (by simp[Fence.wide]) λP O R=> ?_
 rw[L];refine ak2 (v:=.nilIface) (cs':=P::O) (f:=109) (args:= #[.nilIface,.pointer (U ⟨b,0,Z⟩)]) rfl rfl (.inr ⟨by simp[recoverD,R],rfl,rfl⟩) rfl (by simp[Oper.semAt,go_sem,Act.put,F]) ?_;refine(avl b W).mono ?_;rintro e t ⟨rfl,rfl⟩;refine⟨_,rfl,rfl,.returning,by rw[<-R],.tuple #[], ?_,⟨_,rfl⟩,rfl,rfl⟩;simp[results,H];refine callsDIn_of_wpSIn M G (by simp[Fence.wide]) λP O R=> ?_
 rw[L];refine ak2 (v:=.iface 47 (.int I k)) (cs':={P with mode:=.panicking [{v:=.iface 47 (.int I k),recovered:=J}]}::O) (f:=109) (args:= #[.iface 47 (.int I k),.pointer (U ⟨b,0,Z⟩)]) rfl rfl (.inl (by simp[recoverD,R])) rfl (by simp[Oper.semAt,go_sem,Act.put,F]) ?_;refine(avm b u k W (by simp[mC,Q]) (by simp[NR,Q])).mono ?_;rintro e t ⟨rfl,rfl⟩;refine⟨_,rfl,rfl,_,rfl,.tuple #[], ?_,⟨_,rfl⟩,rfl,ak3 Q⟩;simp[results,H]
def avn:vd Tryz.prog 108 47:=ak4 Tryz.func108 aL rfl rfl rfl
def avo:vd Tryz.prog 139 47:=ak4 Tryz.func139 aL rfl rfl rfl
def avp(W:World)(b:Nat):CallsDIn Fence.wide 0 Tryz.prog 67 #[.pointer (U ⟨b,0,Z⟩)] .returning W λR u Q=>(∃v,R=.returned v)/\u=.returning/\Q=W:=by
 refine callsDIn_of_wpSIn Tryz.func67 rfl (by simp[Fence.wide]) λV P X=> ?_
 have O:V={V with mode:=.returning}:=by rw[<-X]
 rw[Tryz.ntmps67];apply wpSIn_seq;apply wpSIn_region;simp[wpOpsSIn,go_sem,recoverD,X,Exit.thenS];refine wpSIn_of_wpIn rfl (wpIn_wide.2 ?_);go_wp2;refine⟨rfl,.returning,by rw[<-X],.tuple #[], ?_,⟨_,rfl⟩,rfl,rfl⟩;simp[results,Tryz.results67]
def avq(W:World)(b:Nat)(V k:Int)(X:W.heap[b]?=U (.cells #[.int I V] 47 (0,0))):CallsDIn Fence.wide 0 Tryz.prog 67 #[.pointer (U ⟨b,0,Z⟩)] (.panicking [{v:=.iface 47 (.int I k),recovered:=E}]) W λR u Q=>(∃v,R=.returned v)/\u=.panicking [{v:=.iface 47 (.int I k),recovered:=J}]/\Q=W.putObj b (.cells #[.int I k] 47 (0,0)):=by
 have O:W.cell? ⟨b,0,Z⟩=U (.int I V):=by simp[mC,X]
 have N:W.frozen? ⟨b,0,Z⟩=false:=by simp[NR,X]
 refine callsDIn_of_wpSIn Tryz.func67 rfl (by simp[Fence.wide]) λM L P=> ?_
 rw[Tryz.ntmps67];apply wpSIn_seq;apply wpSIn_region;simp[wpOpsSIn,go_sem,recoverD,P,Exit.thenS];refine wpSIn_of_wpIn rfl (wpIn_wide.2 ?_);go_wp2;refine⟨rfl,_,rfl,.tuple #[], ?_,⟨_,rfl⟩,rfl,ak3 X⟩;simp[results,Tryz.results67]
def avr:vd Tryz.prog 67 47:=⟨tQ aL,avp,avq⟩
section
open Go.Shelf
def Tryz.indexB_ren:Go.Shelf.Ren:=⟨λ|137=>101|217=>119|266=>147|n=>n,λ|9=>9|5=>5|3=>3|n=>n,λ|n=>n⟩
def Tryz.indexB:Go.Proofs.Lays.n137 Tryz.prog Tryz.indexB_ren:={mixed:=aL,f137:=dZ Tryz.func101 aL,f217:=dZ Tryz.func119 aL,f266:=dZ Tryz.func147 aL,t3:=Tryz.underlying3,a3:=Tryz.isAgg3,z3:=Tryz.sizeOf3,v3:=Tryz.zeroValue3,t5:=Tryz.underlying5,a5:=Tryz.isAgg5,z5:=Tryz.sizeOf5,v5:=Tryz.zeroValue5,t9:=Tryz.underlying9,a9:=Tryz.isAgg9,z9:=Tryz.sizeOf9,v9:=Tryz.zeroValue9}
def avs:look PT 101=U [9,5]:=aL
def avt:look SG 101=U [3]:=aL
def avu:gH (look TT) [9,5]=U [.ah .str,.int .u8]:=aL
def avv:gH (look TT) [3]=U [.int I]:=aL
def ak5:∀(l:List UInt8)(b:UInt8),-1<=Lib.indexByte l b
 |[],_=>by simp[Lib.indexByte]
 |x::l,b=>by
  have:=ak5 l b;simp only[Lib.indexByte];split;omega;split<;>omega
def ak6:∀(l:List UInt8)(b:UInt8)(k:Nat),Dc k l b=if Lib.indexByte l b=-1 then-1 else Lib.indexByte l b+k
 |[],_,_=>by simp[Dc,Lib.indexByte]
 |x::l,b,k=>by
  have V:=ak6 l b (k+1);have R:=ak5 l b;simp only[Dc,Lib.indexByte,di];by_cases X:x=b;simp[X];rw[aJ X,aJ X,V];by_cases W:Lib.indexByte l b=-1;simp[W];rw[aJ W,aJ W,aJ aa];omega
def avw(l:List UInt8)(b:UInt8):Dc 0 l b=Lib.indexByte l b:=by
 rw[ak6];split;rename_i h;rw[h];simp
def avx:qC L 101 Se:=by
 intro m l k j N M H G F D out O Q P W g w;rw[avs] at N;cases N;rw[avt] at M;cases M;rw[avu] at H;cases H;rw[avv] at G;cases G;rcases D with _|⟨x,_|⟨y,_|⟨L,D⟩⟩⟩;exact P.elim;exact P.2.elim
 ·obtain⟨B,A,_⟩:=P;cases x with
  |i n=>exact B.elim
  |b n=>exact B.elim
  |r v=>
  cases y with
  |b n=>exact A.elim
  |r n=>exact A.elim
  |i c=>
  have u:=w 0 .str v rfl rfl;cases u with
  |str t=>
  rcases F with _|⟨s,_|⟨q,_|⟨f,F⟩⟩⟩;exact Q.elim;exact Q.2.elim
  ·obtain⟨V,R,_⟩:=Q;cases s with
   |i n=>exact V.elim
   |b n=>exact V.elim
   |r p=>
   cases q with
   |b n=>exact R.elim
   |r n=>exact R.elim
   |i X=>
   have R:X=c:=R;subst R;have V:dj p (.mk (.string t) []):=V;cases V with
   |val=>
   have O:U (aU.ret [.i (Dc 0 t.toList (UInt8.ofNat X.toNat))])=U out:=O;cases O;have h:=Any.strings_IndexByte Tryz.indexB t X W;refine Calls.mono (show Calls Tryz.prog 101 #[.string t,.int .u8 X] W _ from h) ?_;rintro e d ⟨rfl,rfl⟩;refine⟨_,[.i (Lib.indexByte t.data.toList X.toNat.toUInt8)],rfl,⟨?_,trivial⟩,⟨trivial,trivial⟩,rfl,Below.refl _ _,SR au,λb o=>(aj6 au o).elim⟩;show Dc 0 t.toList (UInt8.ofNat X.toNat)=_;rw[avw,ByteArray.toList_eq]
  exact Q.2.2.elim
 exact P.2.2.elim
def ak7:∀{n:Nat}{R X:aX},yM R X->ee (ew n (.int I)) X->∃l:aZ,Y l=n/\R=l.map XV.i/\X=l.map XV.i
 |0,R,X,W,V=>by
  cases X with
  |cons _ _=>exact V.elim
  |nil=>
   cases R with
   |cons _ _=>exact W.elim
   |nil=>exact⟨[],rfl,rfl,rfl⟩
 |n+1,R,[],W,V=>V.elim
 |n+1,[],x::X,W,V=>W.elim
 |n+1,y::R,x::X,W,V=>by
  obtain⟨l,P,O,N⟩:=ak7 (n:=n) W.2 V.2;have e:=W.1;have f:=V.1;cases x with
  |b q=>exact f.elim
  |r q=>exact f.elim
  |i m=>
   cases y with
   |b q=>exact e.elim
   |r q=>exact e.elim
   |i Q=>
    have e:Q=m:=e;subst e;exact⟨Q::l,by simp[P],by simp[O],by simp[N]⟩
def ak8(a b c d:Int):dB a b c d=K.km.valid ⟨⟨a,b⟩,⟨c,d⟩⟩:=by
 rw[uF];simp[dB,K.km.valid,K.xM];omega
def avy(a b c d X W V R:Int):FO a b c d X W V R= !(K.km.rG ⟨⟨a,b⟩,⟨c,d⟩⟩ ⟨⟨X,W⟩,⟨V,R⟩⟩):=by
 simp only[FO,K.km.rG,K.Range.rG,alA]
def avz:look PT 171=U [124,124]:=aL
def avA:look SG 171=U [4,47]:=aL
def k26:gH (look TT) [124,124]=U (ew 8 (.int I)):=aL
def q26:gH (look TT) [4,47]=U [.bool,.int I]:=aL
def avD(a b c d X W V R:Int):(tR (look TT) [124,124] (n8 (ew 8 (.int I)) [.i a,.i b,.i c,.i d,.i X,.i W,.i V,.i R])).toArray= #[K.km.v ⟨⟨a,b⟩,⟨c,d⟩⟩,K.km.v ⟨⟨X,W⟩,⟨V,R⟩⟩]:=aL
def avE(x:Bool)(e:Int):EL (tR (look TT) [4,47] (n8 [.bool,.int I] [.b x,.i e]))=.tuple #[.bool x,.int I e]:=aL
def avF{l:aZ}(h:Y l=8):∃a b c d X W V R,l=[a,b,c,d,X,W,V,R]:=by
 match l,h with
 |[a,b,c,d,X,W,V,R],_=>exact⟨a,b,c,d,X,W,V,R,rfl⟩
def avG:qC L 171 Zh:=by
 intro t s r q X V F D p o out M A y W m k;rw[avz] at X;cases X;rw[avA] at V;cases V;rw[k26] at F;cases F;rw[q26] at D;cases D;obtain⟨l,w,rfl,rfl⟩:=ak7 (n:=8) A y;obtain⟨a,b,c,d,Q,P,O,N,rfl⟩:=avF w;have v:=avD a b c d Q P O N;simp only[ep,xU] at M⊢;rw[v];simp only[Zh,cg] at M;subst M;have H:∀(x:Bool)(e:Int)(G:World),Below W.heap.size W G->Ln (look TT) [4,47] [.bool,.int I] W (ew 8 (.int I)) [.i a,.i b,.i c,.i d,.i Q,.i P,.i O,.i N] (.ret [.b x,.i e]) (.returned (.tuple #[.bool x,.int I e])) G:=λx e G R=>
  ⟨_,[.b x,.i e],rfl,⟨rfl,rfl,trivial⟩,⟨trivial,trivial,trivial⟩,(avE x e).symm,R,SR au,λb u=>(aj6 au u).elim⟩
 rw[ak8,ak8];by_cases X:K.km.valid ⟨⟨a,b⟩,⟨c,d⟩⟩=J;by_cases V:K.km.valid ⟨⟨Q,P⟩,⟨O,N⟩⟩=J;rw[X,V];refine(asW _ _ X V (FO a b c d Q P O N) (by rw[avy];simp) W).mono ?_;rintro e B ⟨rfl,R⟩;exact H _ _ _ R;have V:K.km.valid ⟨⟨Q,P⟩,⟨O,N⟩⟩=false:=by simpa using V
 rw[X,V];refine(asY _ _ X V W).mono ?_;rintro e B ⟨rfl,R⟩;exact H _ _ _ R;have X:K.km.valid ⟨⟨a,b⟩,⟨c,d⟩⟩=false:=by simpa using X
 rw[X];refine(asX _ _ X W).mono ?_;rintro e B ⟨rfl,R⟩;exact H _ _ _ R
def avH(f:FuncId):qC L f (Jc f):=by
 unfold Jc;by_cases X:f=171;subst X;exact avG;by_cases W:f=101;subst W;exact avx;simp only[X,W,fH];exact ZU f
end
theorem avI(f:FuncId)(X:Fn)(h:TB.tree f=U X):cq f X.g X.d X.t:=by
 have h:Dd f=U X:=h;unfold Dd at h;split at h;cases h;exact atn;cases h;exact ato;cases h;exact atp;cases h;exact atq;cases h;exact atr;cases h;exact akw;cases h;exact akx;cases h;exact aky;cases h;exact akz;cases h;exact akA;cases h;exact akB;cases h;exact ats;cases h;exact att;cases h;exact atu;cases h;exact atv;cases h;exact atw;cases h;exact atx;cases h;exact aty;cases h;exact atz;cases h;exact atA;cases h;exact aub;cases h;exact auc;cases h;exact aud;cases h;exact aue;cases h;exact auf;cases h;exact aug;cases h;exact auh;cases h;exact aui;cases h;exact auj F5;cases h;exact auk;cases h;exact aul;cases h;exact aum;cases h;exact aun;cases h;exact auo F5;cases h;exact auq;cases h;exact aur;cases h;exact aus;cases h;exact aut;cases h;exact auu;cases h;exact auv;cases h;exact auw F5;cases h;exact aux;cases h;exact auy;cases h;exact auz avr;cases h;exact auA avn;cases h;exact auB F5 avo;cases h;exact auC;cases h;exact auD F5;cases h;exact auE;cases h;exact auF F5;cases h;exact aup;cases h;exact auG F5;cases h;exact auH;cases h;exact auM;cases h;exact auQ akV;cases h;exact auN;cases h;exact auS;cases h;exact auO;cases h;exact auT;cases h;exact auU;cases h;exact auR akV;cases h;exact auI;cases h;exact auJ;cases h;exact auP;cases h;exact auV;cases h;exact auW;cases h;exact auX;cases h;exact auY;cases h;exact auL;cases h;exact auK;cases h;exact auZ;cases h;exact au5;cases h;exact au0;cases h;exact au1;cases h;exact au6;cases h;exact ava;cases h;exact au8;cases h;exact au2;cases h;exact au3;cases h;exact au4;cases h;exact au7;cases h;exact au9;cases h
theorem avJ:ZW TB true:=⟨avI,λ_ _ _ _=>rfl,avH⟩
def avN:([41,44,3]:List TypeId).all (vV Tryz.prog (look TT) 9)=true:=aL
def ptK:look PT 3=U [41,44,3]:=aL
def avV:look SG 3=U [4]:=aL
def qkK:gH (look TT) [4]=U [.bool]:=aL
def kkK:gH (look TT) [41,44,3]=U [.int I,.int I,.int I,.int I,.int I,.ah (.sl 84),.int I,.ah (.sl 86),.ah (.sl 218),.ah (.sl 220),.ah (.sl 56),.ah (.sl 126),.ah (.sl 81),.ah (.sl 39),.ah (.sl 57),.ah (.sl 3),.ah (.sl 3),.int I,.ah (.sl 96),.ah (.sl 3),.bool,.int I]:=aL
def r82:bm (look TT) (.sl 58)=[.ac (.slice Z 0 0) (.sl 64)]:=aL
def avO:bm (look TT) (.sl 39)=[.ac (.slice Z 0 0) (.sl 3)]:=aL
def avP:bm (look TT) (.sl 57)=[.ac (.slice Z 0 0) (.sl 62)]:=aL
def ala:bm (look TT) (.sl 62)=[.ac (.slice Z 0 0) (.sl 4),.ac (.slice Z 0 0) (.sl 58)]:=aL
def r38:bm (look TT) (.sl 96)=[.ac (.slice Z 0 0) (.sl 93)]:=aL
def r3':bm (look TT) (.sl 3)=[.int I]:=aL
def Du{k:IntKind}(h:ee (.int k::H) G):∃n X,G=.i n::X/\ee H X:=by
 cases G with
 |nil=>exact h.elim
 |cons x G=>
  cases x with
  |i n=>exact⟨n,G,rfl,h.2⟩
  |b n=>exact h.1.elim
  |r n=>exact h.1.elim
def uB{k:RK}(h:ee (.ah k::H) G):∃n X,G=.r n::X/\ee H X:=by
 cases G with
 |nil=>exact h.elim
 |cons x G=>
  cases x with
  |r n=>exact⟨n,G,rfl,h.2⟩
  |b n=>exact h.1.elim
  |i n=>exact h.1.elim
def nL(h:bu X D (.sl N) B)(V:o7 B):Sl B:=by
 cases V with
 |mk B R P=>
 cases h with
 |sl N A O M L Q H G F z y=>
  refine⟨⟨_,_,_,rfl⟩, ?_,R⟩;simp only[RV.l9,RV.ma,lenOf,Q]
def avR(h:ee (.bool::H) G):∃n X,G=.b n::X/\ee H X:=by
 cases G with
 |nil=>exact h.elim
 |cons x G=>
  cases x with
  |b n=>exact⟨n,G,rfl,h.2⟩
  |i n=>exact h.1.elim
  |r n=>exact h.1.elim
def alc(h:bu X D (.sl N) B)(Q:(bm D (.sl N)).length=V):∀R∈B.ae,Y R=V:=by
 intro R P;cases h with
 |sl N A L H G F z O y x w=>
  obtain⟨i,M⟩:=qI P;rw[<-Q];exact(O i R M).1
def Jy{f:TypeId}(j:Nat)(M:bm (look TT) (.sl N)=A)(L:A[j]?=U (.ac Q (.sl f)))(h:bu X (look TT) (.sl N) B)(y:o7 B):∀i<Y B.ae,bu X (look TT) (.sl f) (dl (.sl f) (bz B.ae i j))/\o7 (dl (.sl f) (bz B.ae i j)):=by
 intro i P;have r:j<Y A:=(bJ.1 L).1;cases y with
 |mk q p H=>
 cases h with
 |sl N V x w R o m v l k u=>
  rw[RV.ma] at P H;have O:R[i]?=U R[i]:=ce P;have g:(R[i]).length=Y A:=by have:=(v i _ O).1;rw[M] at this;exact this
  have G:(R[i])[j]?=U (R[i])[j]:=ce aa;have F:=u i j _ _ _ _ O G (by rw[M];exact L);have D:=H _ (pN P) _ (pN (aa:j<(R[i]).length));have t:=nL F D;have N:dl (.sl f) (bz (RV.mk (.slice V x w) R).ae i j)=(R[i])[j]:=by
   unfold bz;simp only[RV.ma,DC,cw,O,G,nl];obtain⟨a,n,c,s⟩:=t.sl;simp[dl,s]
  rw[N];exact⟨F,D⟩
def awc(hS:TB.Ev 4 [] (.ret [.b J])){H:Type}{an:TypeId×Value->H}{w:List Value}{ds:List (DataW H)}(hG:GW X)(hT:DataW.TrodAll an Tryz.prog X V F L [41,44,3] w ds R)(hw:∀q∈DataW.weightsEach Tryz.prog [41,44,3] ds,q<=reachBytes)
  (hv:∀(j:Nat)(t:TypeId)(v:Value)(m:TI),([41,44,3]:List TypeId)[j]?=U t->w[j]?=U v->look TT t=U m->(m.d.isAgg=J/\v=.agg v.cells)\/(m.d.isAgg=E/\v.cells.toList=[v])):
  Calls Tryz.prog 3 w.toArray X λe W'=>e=.returned (.bool J)/\Below X.heap.size X W':=by
 obtain⟨ks,xs,M,G,h3,P,O,h6⟩:=avj FW avN hT hw hv;rw[kkK] at M;cases M;have hf:=G;obtain⟨Wd,cx,rfl,a0⟩:=Du hf;obtain⟨D,cy,rfl,a1⟩:=Du a0;obtain⟨A,cA,rfl,a3⟩:=Du a1;obtain⟨B,cB,rfl,a4⟩:=Du a3;obtain⟨Q,cC,rfl,a9⟩:=Du a4;obtain⟨rl,cD,rfl,ba⟩:=uB a9;obtain⟨bb,cI,rfl,bc⟩:=Du ba;obtain⟨tp,cO,rfl,bf⟩:=uB bc;obtain⟨pq,cR,rfl,bg⟩:=uB bf;obtain⟨sp,cW,rfl,bk⟩:=uB bg;obtain⟨sg,c0,rfl,bl⟩:=uB bk;obtain⟨l,c1,rfl,bs⟩:=uB bl;obtain⟨g,c2,rfl,bt⟩:=uB bs;obtain⟨u,c3,rfl,bx⟩:=uB bt;obtain⟨s,c4,rfl,b0⟩:=uB bx;obtain⟨f,c5,rfl,b1⟩:=uB b0;obtain⟨c,c6,rfl,b2⟩:=uB b1;obtain⟨dO,c7,rfl,b3⟩:=Du b2;obtain⟨z,c8,rfl,b4⟩:=uB b3;obtain⟨p,c9,rfl,b5⟩:=uB b4;obtain⟨cl,dc,rfl,b6⟩:=avR b5;obtain⟨kx,b7,rfl,b8⟩:=Du b6;cases b7 with
 |cons _ _=>exact b8.elim
 |nil=>
 have cc:=nL (P 5 _ rl rfl rfl) (O _ au);have cf:=nL (P 7 _ tp rfl rfl) (O _ au);have cn:=nL (P 8 _ pq rfl rfl) (O _ au);have cp:=nL (P 9 _ sp rfl rfl) (O _ au);have ct:=nL (P 10 _ sg rfl rfl) (O _ au)
 letI:Inhabited cm:=⟨⟨Wd,D,A,B,Q,bb,rl,tp,pq,sp,sg⟩⟩
 have s1:jT:=⟨cc,cf,cn,cp,ct⟩;have af:=Jy 0 avO rfl (P 13 _ u rfl rfl) (O _ au);have a:=Jy 0 avP rfl (P 14 _ s rfl rfl) (O _ au);have ag:=Jy 0 r38 rfl (P 18 _ z rfl rfl) (O _ au);have S:qA l g u s f:=⟨(nL (P 11 _ l rfl rfl) (O _ au)),(nL (P 12 _ g rfl rfl) (O _ au)),(nL (P 13 _ u rfl rfl) (O _ au)),(nL (P 14 _ s rfl rfl) (O _ au)),(nL (P 15 _ f rfl rfl) (O _ au)),λi N=>nL (af i N).1 (af i N).2,λi N=>nL (a i N).1 (a i N).2,λk hk i N=>by
  have o:=a k hk;have h0:=Jy 0 ala rfl o.1 o.2 i N;have M:=Jy 1 ala rfl o.1 o.2 i N;refine⟨nL h0.1 h0.2,nL M.1 M.2,λj hj=> ?_⟩;have G:=Jy 0 r82 rfl M.1 M.2 j hj;exact nL G.1 G.2⟩
 have D:Dk c z p:=⟨(nL (P 16 _ c rfl rfl) (O _ au)),(nL (P 18 _ z rfl rfl) (O _ au)),(nL (P 19 _ p rfl rfl) (O _ au)),λi N=>nL (ag i N).1 (ag i N).2,alc (P 18 _ z rfl rfl) (by rw[r38];rfl),alc (P 19 _ p rfl rfl) (by rw[r3'];rfl)⟩;obtain⟨n,hn⟩:=asA (dO:=dO) (cl:=cl) hS s1 S D kx;have al:=SO avJ n 3 _ _ _ _ ptK avV kkK qkK _ _ _ hn (SQ _) G X (λ_=>hG) P;have cv:tR (look TT) [41,44,3] (n8 _ (eZ l g u s f++[.r c,.i dO,.r z,.r p,.b cl,.i kx]))=w:=h3;rw[cv] at al;refine al.mono ?_;intro e W' h;cases e with
 |returned v=>
  obtain⟨yh,ys,e1,x,e3,rfl,hB,_,_⟩:=h;cases e1;cases ys with
  |nil=>exact x.elim
  |cons y ys=>
   cases ys with
   |cons _ _=>exact x.2.elim
   |nil=>
    cases y with
    |b q=>
     have:J=q:=x.1;subst this;exact⟨rfl,hB⟩
    |i q=>exact x.1.elim
    |r q=>exact x.1.elim
 |panicked ch=>obtain⟨_,v,e1,_⟩:=h;cases e1
 |outgrown=>exact h.elim
section
open Go.ChangeShapes Go.RowKit
def avT{H:Type}{G:TypeId×Value->H}(B:laidOutB M=J){F:World}(A:Below X.heap.size X F):∀{V:List TypeId}{Q:List Value}{O:List (DataW H)}{R:List MemPlace},V.all (λt=>M.readableRec t&&decide (t<M.types.size))=J->DataW.TrodAll G M X 0 (λ_=>J) J V Q O R->(∀x∈R,x.block<X.heap.size)->DataW.TrodAll G M F 0 (λb=>decide (b<X.heap.size)) J V Q O R:=by
 intro V;induction V with
 |nil=>
  intro Q O R _ h _;obtain⟨rfl,rfl,rfl⟩:=trodAll_nil h;exact rfl
 |cons t V z=>
  intro Q O R N h D;obtain⟨v,u,d,s,p,q,rfl,rfl,rfl,y,w⟩:=trodAll_cons h;simp only[JK,aw,bZ] at N;exact⟨p,q,Go.RowKit.Below.trod B N.1.1 N.1.2 y A (λx L=>D x (by simp[L])),z (by simpa using N.2) w (λx L=>D x (by simp[L])),rfl⟩
def awd:laidOutB Tryz.prog=true:=aL
def rdK:([41,44,3]:List TypeId).all (λt=>Tryz.prog.readableRec t&&decide (t<Tryz.prog.types.size))=true:=aL
def awf{H:Type}{P:TypeId×Value->H}{N:World}{D B:List (DataW H)}(V:DataW.Whole P Tryz.prog Tryz.f3.params.toList [] E X O.toList D B R)(M:Below X.heap.size X N):
  Rows.replanKeptSpec.post P Tryz.prog Tryz.f3 E J E E X O (.bool J) N:=by
 have A:=V.lt;have z:=V;obtain⟨p,q,L,y,rfl,_,_⟩:=V;obtain⟨rfl,rfl⟩:=trodVars_none y;have Q:Tryz.f3.params.toList=[41,44,3]:=by rw[Tryz.params3]
 have G:=L;rw[Q] at G;obtain⟨s,r,o,n,m,l,_,rfl,rfl,_,w⟩:=trodAll_cons G;obtain⟨k,j,i,g,f,e,_,rfl,rfl,_,v⟩:=trodAll_cons w;obtain⟨d,c,b,a,p3,q3,_,rfl,rfl,_,u⟩:=trodAll_cons v;obtain⟨_,rfl,rfl⟩:=trodAll_nil u;have F:=avT awd M rdK (by rw[<-Q];exact L) (λx t=>A x (by simpa using t));rw[<-Q] at F;exact⟨_,_,_,[],_,[],z,trodAll_mk1 (shut_bool Tryz.underlying4 _),F,rfl,Below.frame M _,λh=>(by cases h)⟩
end
section
open Go.ChangeShapes Go.RowKit Go.ChangeAt
abbrev gn(k:Nat):String:=Rows.replanKeptRow.named.getD k ""
abbrev L3{H:Type}:List (String×DataW H):=[(gn 1,Rows.laid_kinesphere_space_flat),(gn 0,Rows.laid_kinesphere_expand_kinds),(gn 2,Rows.laid_kinesphere_motion_kinds)]
def avX(jB:ip M D){G:TI}(h:D N=U G)(O:Value.okWide M X .any V N Q):(G.d.isAgg=J/\Q=.agg Q.cells)\/(G.d.isAgg=E/\Q.cells.toList=[Q]):=by
 have R:=(jB N G h).desc;have B:∀d,M.underlying N=U d->(∀F,d≠ .struct F)->(∀n e,d≠ .array n e)->Q.cells.toList=[Q]:=by
  intro d H y x;cases Q<;>try rfl
  case agg A=>
   exfalso;unfold Value.okWide at O;rw[H] at O;cases d<;>first|exact y _ rfl|exact x _ _ rfl|simp[Cell.okWide,Cell.ok,H] at O
 cases w:G.d<;>rw[w] at R
 case one=>
  obtain⟨d,H,⟨z,_⟩,_⟩:=R;exact .inr ⟨rfl,B d H (λF e=>by subst e;exact z) (λn e L=>by subst L;exact z)⟩
 case fT=>obtain⟨m,H⟩:=R;exact .inr ⟨rfl,B _ H (λF e=>by cases e) (λn e L=>by cases L)⟩
 case str=>exact .inr ⟨rfl,B _ R (λF e=>by cases e) (λn e L=>by cases L)⟩
 case slice e=>exact .inr ⟨rfl,B _ R (λF e=>by cases e) (λn e L=>by cases L)⟩
 case map k e n u=>exact .inr ⟨rfl,B _ R (λF e=>by cases e) (λn e L=>by cases L)⟩
 case arr n e=>
  have R:M.underlying N=U (.array n e):=R;unfold Value.okWide at O;rw[R] at O;obtain⟨A,rfl,_⟩:=O;exact .inl ⟨rfl,rfl⟩
 case struct s=>
  obtain⟨F,H,_⟩:=R;unfold Value.okWide at O;rw[H] at O;obtain⟨A,rfl,_⟩:=O;exact .inl ⟨rfl,rfl⟩
def avY:ownKnob Tryz.prog.godebug=none:=aL
def awg(B:TB.Ev 4 [] (.ret [.b J])){H:Type}{P:TypeId×Value->H}{N M:List (DataW H)}(A:GW X)
  (z:∀(j:Nat) t v,Tryz.f3.params[j]?=U t->O[j]?=U v->Value.okWide Tryz.prog X .any V t v)(L:DataW.Whole P Tryz.prog Tryz.f3.params.toList [] E X O.toList N M R)
  (Q:(DataW.weightsEach Tryz.prog (Tryz.f3.params.toList++[]) (N++M)).all (·<=reachBytes)=J):
  Calls Tryz.prog 3 O X λe G=>∃v,e=.returned v/\Rows.replanKeptSpec.post P Tryz.prog Tryz.f3 E J E E X O v G:=by
 have y:=L;obtain⟨p,q,F,x,rfl,_,_⟩:=L;obtain⟨rfl,rfl⟩:=trodVars_none x;have D:Tryz.f3.params.toList=[41,44,3]:=by rw[Tryz.params3]
 rw[D] at F Q;simp only[Gc,eO,bZ] at Q;have w:=awc B A F Q (λj t v l u s r=>by
  have o:Tryz.f3.params[j]?=U t:=by rw[<-Tk,D];exact u
  have n:=z j t v o (by rw[<-Tk];exact s);exact avX FW r n)
 refine w.mono ?_;rintro e G ⟨rfl,m⟩;exact⟨_,rfl,awf y m⟩

def av0(X:Os)(W:Array Value):laidMetH Tryz.prog L3 ((World.doorLaid Tryz.prog 400 X).forCall (λ_ _=>0) ⟨#[],W,[]⟩).memory:=
 laidMetH_of_parts3 (fuel:=8) (laidMet_of_run' 8 aL aL) aL aL
def awh(P:TB.Ev 4 [] (.ret [.b J]))(O:∀W,laidMetH Tryz.prog L3 W->GW W)(V:Os)(started:V.Started)(H:Type)(R:TypeId×Value->H):
  ReturnsInHanded {} Tryz.checked V 3 .any (λw Q=>(Rows.replanKeptSpec.pre R Tryz.prog Tryz.f3 [] E w Q/\laidMetH Tryz.prog L3 w)/\sizedMet R Tryz.prog Tryz.f3 (OpenSpec.ofChange Rows.replanKeptSpec) E w Q)
   (Rows.replanKeptSpec.post R Tryz.prog Tryz.f3 E J E E):=by
 refine returnsInHanded_of_change_and (C:=Tryz.checked) (X:=λw _=>laidMetH Tryz.prog L3 w) (λ_ _ _ N h=>h.of_heap N) avY started aL Tryz.func3
  (ChangeSpec.witness_shaped (enc:=R) (C:=Tryz.checked) (os:=V) (X:=λw _=>laidMetH Tryz.prog L3 w) E (World.doorLaid Tryz.prog 400 V) #[.agg #[.int I 0,.int I 0,.int I 0,.int I 0,.int I 0,.slice Z 0 0,.int I 0,.slice Z 0 0,.slice Z 0 0,.slice Z 0 0,.slice Z 0 0,.slice Z 0 0,.slice Z 0 0,.slice Z 0 0,.slice Z 0 0,.slice Z 0 0],.agg #[.slice Z 0 0,.int I 0,.slice Z 0 0,.slice Z 0 0,.bool E],.int I 0] 8 rfl (World.shaped_of_RefB aL aL) aL aL aL (av0 V _)) ?_
 intro W D Q B A before M L _ G F _;exact awg P (O W F) M L G
end
section
variable{P:Program}{ty:Ty}{W:World}
def vW{X:Type}(w:Nat):Nat->List X->List (List X)
 |0,_=>[]
 |n+1,l=>l.take w::vW w n (l.drop w)
def Nz{X:Type}{w:Nat}:∀{n:Nat}{l:List X},(vW w n l).length=n
 |0,_=>rfl
 |n+1,l=>by simp[vW,Nz (n:=n)]
def Ti{X:Type}{w:Nat}:∀{n:Nat}{l r:List X}{i:Nat},(vW w n l)[i]?=U r->i<n/\r=(l.drop (i*w)).take w
 |0,l,r,i,h=>by simp[vW] at h
 |n+1,l,r,0,h=>by simp[vW] at h;exact⟨aa,by simp[h]⟩
 |n+1,l,r,i+1,h=>by
  simp only[vW,qH] at h;obtain⟨R,V⟩:=Ti h;refine⟨aa, ?_⟩;rw[V,JJ];congr 2;rw[pe];omega
def Jz{R:Type}{n:Nat}{l r:List R}{i j:Nat}{c:R}(h:(vW V n l)[i]?=U r)(X:r[j]?=U c):i<n/\j<V/\l[i*V+j]?=U c:=by
 obtain⟨Q,rfl⟩:=Ti h;rw[lT] at X;split at X;rename_i O;rw[rJ] at X;exact⟨Q,O,X⟩;cases X
def NA{H:Type}(P:Program)(t:TypeId)(d:DataW H)(w n:Nat):List (List RV):=vW w n ((e8 (n*w)).map λj=>(nh P 9 t d j).getD default)
def aat{g n w:Nat}{e t:TypeId}{G F:TI}{d:DataW Unit}(ag:ty e=U G)(al:ty t=U F)(hw:Y G.aj=w)(A:Y F.aj=n*w)(an:(e8 n).map (λi=>(F.aj.drop (i*w)).take w)=ew n G.aj)(a0:vV P ty 9 t=J)
  (a1:DataW.trod (λ_=>()) P W 0 (λ_=>J) E V t O.toList=U (d,R))(a3:(DataW.weights P t d).all (·<=reachBytes)=J)(a4:∀i,W.cell? ⟨g,i,Z⟩=O[i]?)(hE:((e8 (n*w)).all λj=>(nh P 9 t d j).isSome)=J)(ba:0<w):
  ∃u,bu W ty (.sl e) (.mk (.slice (U ⟨g,0,Z⟩) n n) u)/\dj (AS g (NA P t d w n)) (.mk (.slice (U ⟨g,0,Z⟩) n n) u):=by
 obtain⟨s,h2⟩:=Nx V 9 t F _ _ al a0 a1 (λq hq=>uJ (eO.1 a3 q hq));obtain⟨D,o,r2,r3,r4,r5,r6⟩:=aaq s h2;have a9:Y D=n*w:=by rw[<-o8 (f:=RV.val),o,s,A]
 have y:∀i j,i<n->j<w->F.aj[i*w+j]?=G.aj[j]?:=λi j m hj=>by
  have h:=ji (·[i]?) an;simp only[dM,F8 m,Dw,aE m,dQ,cg] at h;rw[<-h,lT,aE hj,rJ]
 have B:bm ty (.sl e)=G.aj:=by simp[bm,ag]
 have l:∀(i j:Nat)(r:List RV)(c:RV),(vW w n D)[i]?=U r->r[j]?=U c->W.cell? ⟨g,0+i*w+j,Z⟩=U c.val:=λi j r c X Q=>by
  obtain⟨_,_,N⟩:=Jz X Q;have v:O.toList[i*w+j]?=U c.val:=by rw[<-o,dM,N];rfl
  rw[gV,a4,<-Tk];exact v
 have b:∀(i:Nat)(r:List RV),(vW w n D)[i]?=U r->Y r=w:=λi r X=>by
  obtain⟨Q,rfl⟩:=Ti X;have:(i+1)*w<=n*w:=Dz w Q;rw[pe] at this;rw[F9,DD,a9];omega
 refine⟨vW w n D,.sl e _ n n _ Nz (bU _) (λi r X=> ?_) (λi j r c k X Q N=> ?_) (λi j r c X Q N=> ?_) (λi j r c z k X Q N=> ?_), ?_⟩;rw[B,hw];have A:=b i r X;refine⟨A,g,0,rfl, ?_,λj c Q=>l i j r c X Q⟩;obtain⟨c,hc⟩:∃c,r[0]?=U c:=⟨_,ce aa⟩;exact akY (l i 0 r c X hc);rw[B] at N;obtain⟨L,H,M⟩:=Jz X Q;exact r2 _ c k M (by rw[y i j L H];exact N);rw[B] at N;obtain⟨L,H,M⟩:=Jz X Q;exact r3 _ c M (by rw[y i j L H];exact N);rw[B] at N;obtain⟨L,H,M⟩:=Jz X Q;exact r4 _ c z k M (by rw[y i j L H];exact N);unfold AS NA;rw[Nz];refine dj.sl _ _ _ _ _ _ _ (by rw[Nz,Nz]) (λi r a X Q=> ?_) (λi j r a c c' X Q N v=> ?_);obtain⟨L,rfl⟩:=Ti X;have:(i+1)*w<=n*w:=Dz w L;rw[pe] at this;rw[b i a Q,F9,DD,o8,List.length_range];omega;obtain⟨L,H,M⟩:=Jz X N;obtain⟨_,_,q4⟩:=Jz Q v;rw[dM] at M;have af:i*w+j<n*w:=by
  have:(i+1)*w<=n*w:=Dz w L;rw[pe] at this;omega
 rw[F8 af] at M;simp only[dQ,cg] at M;obtain⟨x,hx⟩:=jw.1 (eO.1 hE _ (vZ.2 af));rw[hx,nl] at M;subst M;exact r6 _ c' x q4 hx
end
def av2:Tryz.prog.globalNamed (gn 1)=U 3:=aL
def av3:Tryz.prog.globalNamed (gn 0)=U 0:=aL
def av4:Tryz.prog.globalNamed (gn 2)=U 1:=aL
def av5:(Tryz.prog.globals[3]?).map (·.type)=U 324:=aL
def av6:(Tryz.prog.globals[0]?).map (·.type)=U 189:=aL
def av7:(Tryz.prog.globals[1]?).map (·.type)=U 289:=aL
def aau{n:String}(R:Tryz.prog.globalNamed n=U V)(Q:X.var? Tryz.prog n=U O)(i:Nat):X.cell? ⟨V,i,Z⟩=O[i]?:=World.var?_cell R Q i
def ald:∀(X:List XV)(O:ai),∃l,(O.ext X).r=O.r++l
 |[],O=>⟨[],by simp[ai.ext]⟩
 |x::X,O=>by
  obtain⟨l,h⟩:=ald X (O.add x);simp only[ai.ext,h];cases x<;>simp[ai.add]
def ale:HX=[AS 0 (NA Tryz.prog 189 (Rows.laid_kinesphere_expand_kinds:DataW Unit) 6 10),AS 1 (NA Tryz.prog 289 (Rows.laid_kinesphere_motion_kinds:DataW Unit) 2 10),AS 3 (NA Tryz.prog 324 (Rows.laid_kinesphere_space_flat:DataW Unit) 2 8)]:=aL
def alf{X:Type}{p:Nat->X->Prop}{a b c:X}(V:p 0 a)(R:p 1 b)(Q:p 2 c):∀(k:Nat)(x:X),[a,b,c][k]?=U x->p k x
 |0,_,h=>lf h▸V
 |1,_,h=>lf h▸R
 |2,_,h=>lf h▸Q
 |k+3,_,h=>(by simp at h)
def av8(h:laidMetH Tryz.prog L3 X):GW X:=by
 rw[MakeChecks.laidMetH_plain _ _ _ aL] at h;obtain⟨ps,⟨g0,t0,jM,f0,p0,q0,H,B,A,z,⟨g1,t1,af,f1,p1,q1,G,y,u,s,⟨g2,t2,ag,f2,p2,q2,F,r,q,o,_,_⟩,_⟩,_⟩,_,_⟩:=h;obtain rfl:=lf (av2.symm.trans H);obtain rfl:=lf (av3.symm.trans G);obtain rfl:=lf (av4.symm.trans F);obtain rfl:=lf (av5.symm.trans B);obtain rfl:=lf (av6.symm.trans y);obtain rfl:=lf (av7.symm.trans r);obtain⟨R,m,j⟩:=aat (P:=Tryz.prog) (ty:=look TT) (W:=X) (g:=0) (n:=10) (w:=6) (e:=188) (t:=189) rfl rfl rfl rfl rfl aL s aL (aau G u) aL eW;obtain⟨Q,i,f⟩:=aat (P:=Tryz.prog) (ty:=look TT) (W:=X) (g:=1) (n:=10) (w:=2) (e:=288) (t:=289) rfl rfl rfl rfl rfl aL o aL (aau F q) aL eW;obtain⟨O,d,c⟩:=aat (P:=Tryz.prog) (ty:=look TT) (W:=X) (g:=3) (n:=8) (w:=2) (e:=148) (t:=324) rfl rfl rfl rfl rfl aL z aL (aau H A) aL eW;refine⟨[.mk (.slice (U ⟨0,0,Z⟩) 10 10) R,.mk (.slice (U ⟨1,0,Z⟩) 10 10) Q,.mk (.slice (U ⟨3,0,Z⟩) 8 8) O],by rw[ale];rfl,λk v V N L=> ?_,λk e M N L=> ?_,λb x D=> ?_⟩;rw[ale] at N;exact alf (p:=λk v=>∀V,[RV.mk (.slice (U ⟨0,0,Z⟩) 10 10) R,.mk (.slice (U ⟨1,0,Z⟩) 10 10) Q,.mk (.slice (U ⟨3,0,Z⟩) 8 8) O][k]?=U V->dj v V) (λV h=>lf h▸j) (λV h=>lf h▸f) (λV h=>lf h▸c) k v N V L;exact alf (p:=λk e=>∀M,[RV.mk (.slice (U ⟨0,0,Z⟩) 10 10) R,.mk (.slice (U ⟨1,0,Z⟩) 10 10) Q,.mk (.slice (U ⟨3,0,Z⟩) 8 8) O][k]?=U M->bu X (look TT) e M) (λV h=>lf h▸m) (λV h=>lf h▸i) (λV h=>lf h▸d) k e N M L;obtain⟨l,a⟩:=ald b ⟨[],[],[RV.mk (.slice (U ⟨0,0,Z⟩) 10 10) R,.mk (.slice (U ⟨1,0,Z⟩) 10 10) Q,.mk (.slice (U ⟨3,0,Z⟩) 8 8) O],[]⟩;simp only[GL,dJ,NM,or_false] at D;unfold fp ai.rv;rw[a];rcases D with rfl|rfl|rfl;exact⟨au,10,10,rfl⟩;exact⟨au,10,10,rfl⟩;exact⟨au,8,8,rfl⟩
