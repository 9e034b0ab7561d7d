/- Part 15 of the proof. -/
import Derived.Test.YtieaiocljdpebaaGreatDoorQ8
import Derived.Test.YtieaiocljdpebaaGreatDoorQ9
import Derived.Test.YtieaiocljdpebaaGreatDoorQ10
import Derived.Test.YtieaiocljdpebaaGreatDoorQ11
import Derived.Test.YtieaiocljdpebaaGreatDoorQ12
import Derived.Test.YtieaiocljdpebaaGreatDoorQ13
import Derived.Test.YtieaiocljdpebaaGreatDoorQ14
import Derived.Test.YtieaiocljdpebaaGreatDoorRows
import Derived.ChangeArms
import Derived.DataReads
import Derived.OpenShut
import Derived.RecoverIn
import Derived.Shelf.Small.Strs
import Derived.Carry
import Derived.ProofKit
import Derived.LaidMore
import Derived.Stop.Joined
import Derived.Handed
set_option linter.all false
open Bool renaming and_eq_true->aDc,false_eq_true->aDB,eq_iff_iff->aEk,and_assoc->aGy,true->J,false->E
open List renaming getElem?_eq_some_iff->aDd,getElem?_eq_getElem->aDe,getD_eq_getElem?_getD->aDf,getElem?_append_left->aDg,getElem?_map->aDj,getElem?_append_right->aDk,nil_append->aDl,mem_append->aDo,mem_cons->aDp,replicate->aDq,all_eq_true->aDr,map_cons->aDt,mem_of_getElem?->aDx,range->aDA,mem_map->aDF,getElem?_take->aDK,any_eq_true->aDL,getElem?_cons_succ->aDO,getElem?_of_mem->aDU,length_map->aDV,getElem?_drop->aDZ,getElem_mem->aD3,mem_range->aEd,getElem?_replicate->aEm,take_of_length_le->aEp,getElem?_range->aEt,mem_of_find?_eq_some->aEF,length_drop->aEJ,map_nil->aEK,append_nil->aEO,length_take->aEQ,map->aEZ,drop_drop->aFa,not_mem_nil->aFc,all_cons->aFf,find?_some->aFi,take_append_of_le_length->aFo,getElem?_zip_eq_some->aFB,length_range->aFK,drop_append_of_le_length->aFZ,drop_of_length_le->aGt,length->Y
open Option.some renaming injEq->aDh,inj->aDQ
open Nat renaming le_refl->aDm,zero_add->aDM,add_mul->aEl,eq_zero_or_pos->aEu,mul_le_mul_right->aEv,mul_comm->aFD,mod_lt->aFH,div_lt_of_lt_mul->aFS,div_add_mod->aFT,sub_self->aFU
open Option renaming map_some->aDn,isSome_iff_exists->aDw,getD_some->aDS,bind_eq_some_iff->aGn,some->U,none->Z
open Array renaming getElem?_eq_some_iff->aDD,getElem?_modify->aER,getElem?_toList->aE2
open Int renaming toNat_natCast->aEa
open Go.IntKind renaming i64->I
namespace Go.Proofs.YtieaiocljdpebaaGreatDoor.Y
open Go.RowKit
noncomputable section
variable{F:Ty}{X:World}{Q:Value}{V:Nat}{H:aR}{G:aW}{M:Nat→Bool}{D:Bool}{O:Program}{C:Act}{N:TypeId}{B:RV}{R:List MemPlace}{L:jk}
def Xu:CT->CT->Bool
 |.int k,.int X=>decide (k=X)
 |.bool,.bool=>J
 |.aH _ k,.aH _ X=>decide (k=X)
 |_,_=>E
def A4:dN->dN->Bool
 |[],[]=>J
 |c::l,X::V=>Xu c X&&A4 l V
 |_,_=>E
def Xv:∀{l V:dN},A4 l V=J->Y l=Y V/\∀(j:Nat)(c X:CT),l[j]?=U c->V[j]?=U X->Xu c X=J
 |[],[],_=>⟨rfl,λj c X h _=>by simp at h⟩
 |[],_::_,h=>by cases h
 |_::_,[],h=>by cases h
 |a::l,b::V,h=>by
  simp only[A4,aDc] at h;obtain⟨O,N⟩:=Xv h.2;refine⟨by simp[O],λj c X R Q=> ?_⟩;cases j with
  |zero=>simp at R Q;subst R;subst Q;exact h.1
  |succ j=>exact N j c X (by simpa using R) (by simpa using Q)
inductive pM:RV->Prop
 |mk (rv:RV) (h:Y rv.rows<=140737488355328) (h2:∀row∈rv.rows,∀c∈row,pM c):pM rv
def pM.Xw(v:Value):pM (.mk v []):=.mk _ (by simp[RV.lj]) (by simp[RV.lj])
def zi(o:Ty)(W:World)(V:Option RV):CT->Value->Prop
 |.int k,v=>(∃n,v=.int k n/\(Lit.int k n).wf=J)/\∀r,V=U r->r=.mk v []
 |.bool,v=>(∃b,v=.bool b)/\∀r,V=U r->r=.mk v []
 |.aH _ k,v=>∃X:RV,X.val=v/\bz W o k X/\pM X/\∀r,V=U r->ck r X
def zi.af4{V:Option RV}{a b:CT}(h:Xu a b=J)(k:zi F X V b Q):zi F X V a Q:=by
 cases a<;>cases b<;>simp only[Xu,decide_eq_true_eq,aDB] at h;subst h;exact k;exact k;subst h;exact k
def xg(P:Program)(o:Ty):Nat->TypeId->Bool
 |0,_=>E
 |n+1,t=>match o t with
  |none=>E
  |U X=>match P.underlying t with
   |U (.int k)=>A4 X.ae [.int k]
   |U .bool=>A4 X.ae [.bool]
   |U .string=>A4 X.ae [.aH undef .str]
   |U (.slice e)=>A4 X.ae [.aH undef (.sl e)]&&xg P o n e&&decide (P.cellsOf e=(bw o (.sl e)).length)&&decide (P.cellsOf e≠0)&&decide (P.bytesOf e≠0)
   |U (.struct Q)=>decide (P.cellsOf t=Y X.ae)&&Q.toList.all (λf=>xg P o n f.type&&(match o f.type with
     |U R=>decide (P.cellsOf f.type=Y R.ae)&&A4 ((X.ae.drop f.offset).take (Y R.ae)) R.ae
     |none=>E))&&(aDA (Y X.ae)).all λj=>Q.toList.any λf=>decide (f.offset<=j)&&decide (j<f.offset+P.cellsOf f.type)
   |U (.array k e)=>decide (P.cellsOf t=Y X.ae)&&xg P o n e&&(match o e with
     |U V=>decide (P.cellsOf e=Y V.ae)&&decide (Y X.ae=k*Y V.ae)&&(aDA k).all λi=>A4 ((X.ae.drop (i*Y V.ae)).take (Y V.ae)) V.ae
     |none=>E)
   |_=>E
def mP{H:Type}(P:Program):Nat->TypeId->DataW H->Nat->Option RV
 |0,_,_,_=>Z
 |n+1,t,d,j=>match P.underlying t,d with
  |U (.int _),.lit (.int k q)=>U (.mk (.int k q) [])
  |U .bool,.lit (.bool b)=>U (.mk (.bool b) [])
  |U (.slice e),.slice X _=>if(X.all λd=>(aDA (P.cellsOf e)).all λj=>(mP P n e d j).isSome) then U (.mk (.slice Z (Y X) (Y X)) (X.map λd=>(aDA (P.cellsOf e)).map λj=>(mP P n e d j).getD default)) else Z
  |U (.slice _),.nil=>U (.mk (.slice Z 0 0) [])
  |U (.struct R),.agg V=>match(R.toList.zip V).find? λf=>decide (f.1.offset<=j)&&decide (j<f.1.offset+P.cellsOf f.1.type) with
   |U f=>mP P n f.1.type f.2 (j-f.1.offset)
   |none=>Z
  |U (.array _ e),.agg V=>match V[j/P.cellsOf e]? with
   |U d=>mP P n e d (j%P.cellsOf e)
   |none=>Z
  |_,_=>Z
section
variable{P:Program}{o:Ty}{W:World}
def Pt{R:Nat->Option RV}{ae:dN}{c:CT}(h:A4 ae [c]=J)(k:zi o W (R 0) c Q):[Q].length=Y ae/\∀(j:Nat)(X:CT)(u:Value),ae[j]?=U X->[Q][j]?=U u->zi o W (R j) X u:=by
 obtain⟨O,N⟩:=Xv h;refine⟨by simp[O],λj X u M V=> ?_⟩;cases j with
 |zero=>simp at V;subst V;exact zi.af4 (N 0 X c M rfl) k
 |succ j=>simp at V
def af5:∀{Ecel:Nat->Option RV}{ae:dN}{cs:eJ},Y cs=Y ae->(∀(j:Nat)(O:CT)(v:Value),ae[j]?=U O->cs[j]?=U v->zi o W (Ecel j) O v)->
  ∃N:aF,N.map RV.val=cs/\(∀(j:Nat)(c:RV)(k:IntKind),N[j]?=U c->ae[j]?=U (.int k)->∃n,c.val=.int k n)/\(∀(j:Nat)(c:RV),N[j]?=U c->ae[j]?=U .bool->∃x,c.val=.bool x)/\(∀(j:Nat)(c:RV)(z:Value)(k:RK),N[j]?=U c->ae[j]?=U (.aH z k)->bz W o k c)/\(∀c∈N,pM c)/\∀(j:Nat)(c r:RV),N[j]?=U c->Ecel j=U r->ck r c
 |_,[],[],_,_=>⟨[],rfl,λj c k h=>by simp at h,λj c h=>by simp at h,λj c z k h=>by simp at h,by simp,λj c r h=>by simp at h⟩
 |_,[],_::_,h,_=>by simp at h
 |_,_::_,[],h,_=>by simp at h
 |Ecel,O::ae,v::cs,F,h=>by
  obtain⟨N,D,C,B,A,y,w⟩:=af5 (Ecel:=λj=>Ecel (j+1)) (ae:=ae) (cs:=cs) (by simpa using F) (λj c u t M=>h (j+1) c u (by simpa using t) (by simpa using M));obtain⟨r,L,M,s,q,p,m⟩:∃r:RV,r.val=v/\(∀k,O=.int k->∃n,r.val=.int k n)/\(O=.bool->∃x,r.val=.bool x)/\(∀z k,O=.aH z k->bz W o k r)/\pM r/\∀R,Ecel 0=U R->ck R r:=by
   have Q:=h 0 O v rfl rfl;cases O with
   |int k=>exact⟨.mk v [],rfl,λH e=>(by cases e;obtain⟨⟨n,l,_⟩,_⟩:=Q;exact⟨n,l⟩),λe=>(by cases e),λz k e=>(by cases e),pM.Xw v,λR G=>by rw[Q.2 R G];exact ck.refl _⟩
   |bool=>exact⟨.mk v [],rfl,λH e=>(by cases e),λ_=>Q.1,λz k e=>(by cases e),pM.Xw v,λR G=>by rw[Q.2 R G];exact ck.refl _⟩
   |aH z k=>
    obtain⟨r,L,i,bJ,g⟩:=Q;exact⟨r,L,λH e=>(by cases e),λe=>(by cases e),λf H e=>(by cases e;exact i),bJ,g⟩
  refine⟨r::N,by simp[L,D],λj c k X V=> ?_,λj c X V=> ?_,λj c z k X V=> ?_,λc Q=>(aDp.1 Q).elim (λe=>e▸p) (λQ=>y c Q),λj c R X V=> ?_⟩;cases j with
  |zero=>simp at X V;subst X;exact M k V
  |succ j=>exact C j c k (by simpa using X) (by simpa using V)
  cases j with
  |zero=>simp at X V;subst X;exact s V
  |succ j=>exact B j c (by simpa using X) (by simpa using V)
  cases j with
  |zero=>simp at X V;subst X;exact q z k V
  |succ j=>exact A j c z k (by simpa using X) (by simpa using V)
  cases j with
  |zero=>simp at X;subst X;exact m R V
  |succ j=>exact w j c R (by simpa using X) V
def aq6{α:Type}{R:Nat->α->Prop}:∀(n:Nat),(∀i,i<n->∃x,R i x)->∃l:List α,Y l=n/\∀(i:Nat)(x:α),l[i]?=U x->R i x
 |0,_=>⟨[],rfl,λi x h=>by simp at h⟩
 |n+1,h=>by
  obtain⟨l,V,Q⟩:=aq6 n (λi O=>h i (by omega));obtain⟨x,N⟩:=h n (by omega);refine⟨l++[x],by simp[V],λi y X=> ?_⟩;by_cases O:i<n;rw[aDg (by omega)] at X;exact Q i y X;rw[aDk (by omega)] at X;have:i=n:=by
   cases M:i-Y l with
   |zero=>omega
   |succ q=>rw[M] at X;simp at X
  subst this;rw[V,aFU] at X;simp at X;subst X;exact N
def af6{H:Type}{P:Program}{e:TypeId}{q:Nat}:∀{l:List (DataW H)}{d:DataW H},d∈l->q∈DataW.weights P e d->q∈DataW.weightsAll P e l
 |[],_,h,_=>by simp at h
 |x::l,d,h,X=>by
  simp only[DataW.weightsAll,aDo];rcases aDp.1 h with rfl|h;exact .inl X;exact .inr (af6 h X)
def aq7{H:Type}{P:Program}{q:Nat}:∀{X:gT}{l:List (DataW H)}{i:Nat}{t:TypeId}{d:DataW H},X[i]?=U t->l[i]?=U d->q∈DataW.weights P t d->q∈DataW.weightsEach P X l
 |[],_,_,_,_,h,_,_=>by simp at h
 |_::_,[],_,_,_,_,h,_=>by simp at h
 |O::X,N::l,i,t,d,V,R,Q=>by
  simp only[DataW.weightsEach,aDo];cases i with
  |zero=>simp at V R;subst V;subst R;exact .inl Q
  |succ i=>exact .inr (aq7 (i:=i) (by simpa using V) (by simpa using R) Q)
def aq8{R:Nat}(h:W.cell? ⟨V,R,Z⟩=U Q):∃O t X,W.heap[V]?=U (.cells O t X):=by
 unfold World.cell? at h;split at h;rename_i c t X N;exact⟨c,t,X,N⟩;cases h
structure aq9{H:Type}(P:Program)(o:Ty)(W:World)(n:Nat)(e:TypeId)(ae:dN)(a:Addr)(elems:List (DataW H×List MemPlace))(i:Nat)(row:aF):Prop where
 len:Y row=Y ae
 sp:a.spot=Z
 jS:∃cs t fr,W.heap[a.block]?=U (.cells cs t fr)
 cell:∀(j:Nat)(c:RV),row[j]?=U c->W.cell? ⟨a.block,a.off+i*Y ae+j,Z⟩=U c.val
 hi:∀(j:Nat)(c:RV)(k:IntKind),row[j]?=U c->ae[j]?=U (.int k)->∃n,c.val=.int k n
 hb:∀(j:Nat)(c:RV),row[j]?=U c->ae[j]?=U .bool->∃x,c.val=.bool x
 ho:∀(j:Nat)(c:RV)(z:Value)(k:RK),row[j]?=U c->ae[j]?=U (.aH z k)->bz W o k c
 bnd:∀c∈row,pM c
 eq:∀(j:Nat)(c r:RV)(x:DataW H×List MemPlace),row[j]?=U c->elems[i]?=U x->mP P n e x.1 j=U r->ck r c
def Pu{H:Type}{bt:TypeId×Value->H}{bx:Nat}{spare:Nat->Bool}{b0:Bool}:∀(b1 m:Nat)(t:TypeId)(b:TI)(cs:eJ)(x:DataW H×List MemPlace),o t=U b->xg P o m t=J->DataW.trod bt P W bx spare b0 b1 t cs=U x->(∀q∈DataW.weights P t x.1,q<=reachBytes)->
  Y cs=Y b.ae/\∀(j:Nat)(ct:CT)(v:Value),b.ae[j]?=U ct->cs[j]?=U v->zi o W (mP P m t x.1 j) ct v
 |0,_,_,_,_,_,_,_,h,_=>by simp[DataW.trod] at h
 |_+1,0,_,_,_,_,_,M,_,_=>by simp[xg] at M
 |n+1,m+1,t,b,cs,x,ht,M,h,ab=>by
  simp only[xg,ht] at M;cases N:P.underlying t with
  |none=>rw[N] at M;cases M
  |some d=>
   rw[N] at M;cases d<;>simp only[aDB] at M
   case int k=>
    obtain⟨q,rfl,rfl,b2⟩:=DataW.trod_int N h;exact Pt M ⟨⟨q,rfl,b2⟩,λr X=>by simp only[mP,N,aDh] at X;exact X.symm⟩
   case bool=>
    obtain⟨q,rfl,rfl⟩:=DataW.trod_bool N h;exact Pt M ⟨⟨q,rfl⟩,λr X=>by simp only[mP,N,aDh] at X;exact X.symm⟩
   case string=>
    obtain⟨q,rfl,_⟩:=DataW.trod_string N h;exact Pt M ⟨.mk (.string q) [],rfl,.str q,pM.Xw _,λr X=>by simp[mP,N] at X⟩
   case slice e=>
    simp only[aDc,decide_eq_true_eq] at M;obtain⟨⟨⟨⟨g1,B⟩,G⟩,g4⟩,g6⟩:=M;rcases DataW.trod_slice N h with⟨rfl,F⟩|⟨a,af,a6,u,a7,n',hn,rfl,F,hb,b3,cp,a8,a9,_,_⟩;exact Pt g1 ⟨.mk (.slice Z 0 0) [],rfl,.sl e Z 0 0 [] rfl (aDm _) (λi V X=>by simp at X) (λi j V c k X=>by simp at X) (λi j V c X=>by simp at X) (λi j V c z k X=>by simp at X),pM.Xw _,λr X=>by
     simp only[mP,N,F,aDh] at X;subst X;exact ck.refl _⟩
    cases hn;subst F;simp only[DataW.weights,N,aDp,aDo] at ab;have cv:af<=140737488355328:=by
     have A:=ab _ (.inl rfl);have Q:(u.map (·.1)).length+(a7.map (·.1)).length<=((u.map (·.1)).length+(a7.map (·.1)).length)*P.bytesOf e:=Nat.le_mul_of_pos_right _ (by omega);simp only[aDV] at A Q;have y:reachBytes<=140737488355328:=by decide
     omega
    have an:∃L,o e=U L:=by
     cases m with
     |zero=>simp[xg] at B
     |succ m=>
      cases D:o e with
      |none=>simp[xg,D] at B
      |some L=>exact⟨L,rfl⟩
    obtain⟨L,an⟩:=an;have al:bw o (.sl e)=L.ae:=by simp[bw,an]
    rw[al] at G;have b4:∀i,i<af->∃V:aF,aq9 P o W m e L.ae a u i V:=by
     intro i s;have Q:=a9 i s;have ag:i<Y u:=by omega
     rw[aDe ag,aGn] at Q;obtain⟨ci,Q,y⟩:=Q;obtain⟨q1,q2⟩:=Pu n m e L ci _ an B y (λq D=>ab q (.inr (.inl (af6 (aDF.2 ⟨_,aD3 ag,rfl⟩) D))));obtain⟨_,c1,c2⟩:=World.cells?_some Q;obtain⟨V,r1,r2,r3,r4,r5,r6⟩:=af5 q1 q2;have bb:Y V=Y L.ae:=by rw[<-aDV (f:=RV.val),r1,q1]
     have ap:a.spot=none:=by
      have A:=a9 0 (by omega);rw[aDe (by omega),aGn] at A;obtain⟨c0,A,_⟩:=A;obtain⟨_,d1,d2⟩:=World.cells?_some A;have d3:=d2 0 (by omega);rw[Nat.zero_mul,aDe (by omega)] at d3;simp only[Addr.add,if_true] at d3;unfold World.cell? at d3;split at d3;split at d3;cases d3;rename_i hs;simpa using hs;cases d3
     have bd:∀(j:Nat)(c:RV),V[j]?=U c->W.cell? ⟨a.block,a.off+i*Y L.ae+j,Z⟩=U c.val:=by
      intro j c C;have cx:j<Y L.ae:=by rw[<-bb];exact(aDd.1 C).1
      have c3:=c2 j (by omega);have c4:ci[j]?=U c.val:=by rw[<-r1,aDj,C];rfl
      rw[c4] at c3;have ha:(a.add (i*P.cellsOf e)).add j=⟨a.block,a.off+i*Y L.ae+j,Z⟩:=by
       rw[G];unfold Addr.add;cases a with
       |mk jS cy sp=>
        simp only at ap;subst ap;by_cases q5:i*Y L.ae=0<;>by_cases q6:j=0<;>simp[q5,q6]
      rw[ha] at c3;exact c3
     refine⟨V,bb,ap, ?_,bd,r2,r3,r4,r5,λj c r x g1 B G=>r6 j c r g1 (by rw[aDe ag] at B;cases B;exact G)⟩;have bf:0<Y L.ae:=by omega
     obtain⟨c,l⟩:∃c,V[0]?=U c:=⟨_,aDe (by omega)⟩;exact aq8 (bd 0 c l)
    obtain⟨bg,l1,l2⟩:=aq6 (α:=aF) (R:=aq9 P o W m e L.ae a u) af b4;refine Pt g1 ⟨.mk (.slice (U a) af a6) bg,rfl,.sl e (U a) af a6 bg l1 b3 (λi V X=> ?_) (λi j V c k X l hk=> ?_) (λi j V c X l hk=> ?_) (λi j V c z k X l hk=> ?_),.mk _ (by rw[RV.lj];omega) (λV X c l=> ?_),λr X=> ?_⟩;have p:=l2 i V X;rw[al];refine⟨p.len,a.block,a.off, ?_,p.jS,p.cell⟩;have p2:=p.sp;cases a;simp only at p2;subst p2;rfl;rw[al] at hk;exact(l2 i V X).hi j c k l hk;rw[al] at hk;exact(l2 i V X).hb j c l hk;rw[al] at hk;exact(l2 i V X).ho j c z k l hk;rw[RV.lj] at X;obtain⟨i,s⟩:=aDU X;exact(l2 i V s).bnd c l;simp only[mP,N] at X;split at X;rename_i b5;cases X;have bk:Y u=af:=by omega
    rw[aDV,bk];have get:∀(i:Nat)(V:aF),(aEZ (λd=>aEZ (λj=>(mP P m e d j).getD default) (aDA (P.cellsOf e))) (u.map (·.1)))[i]?=U V->∃x,u[i]?=U x/\V=(aDA (P.cellsOf e)).map λj=>(mP P m e x.1 j).getD default:=by
     intro i V Q;rw[aDj,aDj] at Q;cases F:u[i]? with
     |none=>rw[F] at Q;cases Q
     |some x=>rw[F] at Q;simp only[aDn,aDh] at Q;exact⟨x,rfl,Q.symm⟩
    refine ck.sl _ _ _ _ _ _ _ (by simp[l1,bk]) (λi V a0 Q y=> ?_) (λi j V a0 c c' Q y h3 h4=> ?_);obtain⟨x,_,rfl⟩:=get i V Q;rw[(l2 i a0 y).len];simp[G];obtain⟨x,F,rfl⟩:=get i V Q;rw[aDj] at h3;cases C:(aDA (P.cellsOf e))[j]? with
    |none=>rw[C] at h3;cases h3
    |some j'=>
     have a1:j<P.cellsOf e:=by have:=(aDd.1 C).1;simpa using this
     rw[aEt a1] at C;cases C;rw[aEt a1] at h3;simp only[aDn,aDh] at h3;have:=aDr.1 (aDr.1 b5 x.1 (aDF.2 ⟨x,aDx F,rfl⟩)) j (aEd.2 a1);obtain⟨r,X⟩:=aDw.1 this;rw[X] at h3;simp only[aDS] at h3;subst h3;exact(l2 i a0 y).eq j c' r x h4 F X
    cases X
   case struct g=>
    simp only[aDc,decide_eq_true_eq,aDr,aDL,aEd] at M;obtain⟨⟨g1,B⟩,G⟩:=M;obtain⟨w,n',hn,F,b6,b7,hf⟩:=DataW.trod_struct N h;cases hn;subst F;simp only[DataW.weights,N] at ab;refine⟨by omega,λj ct v Q y=> ?_⟩;have C:j<Y b.ae:=(aDd.1 Q).1;obtain⟨f0,b8,ca,cc⟩:=G j C;have cA:(g.toList.zip (w.map (·.1))).length=g.size:=by simp;omega
    obtain⟨fd,a2⟩:∃fd,(g.toList.zip (w.map (·.1))).find? (λf=>decide (f.1.offset<=j)&&decide (j<f.1.offset+P.cellsOf f.1.type))=U fd:=by
     obtain⟨i0,a3⟩:=aDU b8;have cf:i0<g.size:=by have:=(aDd.1 a3).1;simpa using this
     refine aDw.1 (List.find?_isSome.2 ⟨((g.toList.zip (w.map (·.1)))[i0]'(by omega)),aD3 _, ?_⟩);have:f0=g.toList[i0]:=by rw[aDe (by simpa using cf)] at a3;exact(aDQ a3).symm
     simp only[List.getElem_zip,<-this,aDc,decide_eq_true_eq];exact⟨ca,cc⟩
    have bl:=aFi a2;simp only[aDc,decide_eq_true_eq] at bl;obtain⟨bo,br⟩:=bl;obtain⟨iz,ch⟩:=aDU (aEF a2);obtain⟨f,dd⟩:=fd;have a4:=aFB.1 ch;have bo:f.offset<=j:=bo;have br:j<f.offset+P.cellsOf f.type:=br;have cl:f∈g.toList:=aDx a4.1;obtain⟨k1,k2⟩:=B f cl;cases D:o f.type with
    |none=>rw[D] at k2;cases k2
    |some fi=>
     rw[D] at k2;simp only[aDc,decide_eq_true_eq] at k2;obtain⟨k3,k4⟩:=k2;have s:=a4.1;have ag:g[iz]?=U f:=by simpa using s
     have cB:iz<g.size:=(aDD.1 ag).1;have e1:=hf iz f ag;rw[aDe (by omega)] at e1;obtain⟨q1,q2⟩:=Pu n m f.type fi _ _ D k1 e1 (λq a5=>ab q (aq7 (i:=iz) (by simp[s]) (by simp[show iz<Y w by omega]) a5));obtain⟨_,q4⟩:=Xv k4;have bs:j-f.offset<Y fi.ae:=by omega
     have ej:f.offset+(j-f.offset)=j:=by omega
     have v1:((cs.drop f.offset).take (P.cellsOf f.type))[j-f.offset]?=U v:=by
      rw[aDK,if_pos (by omega),aDZ,ej];exact y
     have v2:((b.ae.drop f.offset).take (Y fi.ae))[j-f.offset]?=U ct:=by
      rw[aDK,if_pos bs,aDZ,ej];exact Q
     have v3:fi.ae[j-f.offset]?=U fi.ae[j-f.offset]:=aDe bs;have cm:dd=(w[iz]'(by omega)).1:=by
      have:=a4.2;rw[aDj,aDe (by omega)] at this;exact(aDQ this).symm
     have hE:mP P (m+1) t (.agg (w.map (·.1))) j=mP P m f.type (w[iz]'(by omega)).1 (j-f.offset):=by
      simp only[mP,N,a2,cm]
     rw[hE];exact zi.af4 (q4 _ _ _ v2 v3) (q2 _ _ _ v3 v1)
   case array k e=>
    simp only[aDc,decide_eq_true_eq] at M;obtain⟨⟨g1,B⟩,G⟩:=M;cases D:o e with
    |none=>rw[D] at G;cases G
    |some O=>
     rw[D] at G;simp only[aDc,decide_eq_true_eq,aDr,aEd] at G;obtain⟨⟨g4,g5⟩,g6⟩:=G;obtain⟨w,n',hn,F,b6,b7,a8⟩:=DataW.trod_array N h;cases hn;subst F;simp only[DataW.weights,N] at ab;refine⟨by omega,λj ct v Q y=> ?_⟩;have C:j<Y b.ae:=(aDd.1 Q).1;have bf:0<Y O.ae:=by
      rcases aEu (Y O.ae) with A|A;rw[g5,A] at C;omega;exact A
     have s:j/Y O.ae<k:=aFS (by rw[aFD];omega);have X:j%Y O.ae<Y O.ae:=aFH _ bf;have ej:j/Y O.ae*Y O.ae+j%Y O.ae=j:=by have:=aFT j (Y O.ae);rw[aFD] at this;exact this
     have e1:=a8 (j/Y O.ae) s;rw[aDe (by omega)] at e1;obtain⟨q1,q2⟩:=Pu n m e O _ _ D B e1 (λq a5=>ab q (af6 (aDF.2 ⟨_,aD3 _,rfl⟩) a5));obtain⟨_,q4⟩:=Xv (g6 _ s);have v1:((cs.drop (j/Y O.ae*P.cellsOf e)).take (P.cellsOf e))[j%Y O.ae]?=U v:=by
      rw[g4,aDK,if_pos X,aDZ,ej];exact y
     have v2:((b.ae.drop (j/Y O.ae*Y O.ae)).take (Y O.ae))[j%Y O.ae]?=U ct:=by
      rw[aDK,if_pos X,aDZ,ej];exact Q
     have v3:O.ae[j%Y O.ae]?=U O.ae[j%Y O.ae]:=aDe X;have hE:mP P (m+1) t (.agg (w.map (·.1))) j=mP P m e (w[j/Y O.ae]'(by omega)).1 (j%Y O.ae):=by
      simp only[mP,N,g4,aDj];rw[aDe (by omega)];rfl
     rw[hE];exact zi.af4 (q4 _ _ _ v2 v3) (q2 _ _ _ v3 v1)

def Pv(X:aR)(V:aW):Prop:=∀(q:Nat)(k:IntKind)(n:Int),X[q]?=U (.int k)->V[q]?=U (.i n)->(Lit.int k n).wf=J
def ara:∀{Ecel:Nat->Option RV}{ae:dN}{cs:eJ},Y cs=Y ae->(∀(j:Nat)(V:CT)(v:Value),ae[j]?=U V->cs[j]?=U v->zi o W (Ecel j) V v)->
  ∃Q:aW,dP (ae.map rZ) Q/\nP (ae.map rZ) Q=cs/\xR o W (ae.map rZ) Q/\(∀X,XV.r X∈Q->pM X)/\Pv (ae.map rZ) Q
 |_,[],[],_,_=>⟨[],trivial,rfl,λq e X h=>by simp at h,by simp,λq k n h=>by simp at h⟩
 |_,[],_::_,h,_=>by simp at h
 |_,_::_,[],h,_=>by simp at h
 |Ecel,V::ae,v::cs,B,h=>by
  obtain⟨Q,R,O,A,y,w⟩:=ara (Ecel:=λj=>Ecel (j+1)) (ae:=ae) (cs:=cs) (by simpa using B) (λj c u H G=>h (j+1) c u (by simpa using H) (by simpa using G));obtain⟨x,H,G,t,s,p⟩:∃x:XV,pS (rZ V) x/\x.at (rZ V)=v/\(∀e X,rZ V=.ref e->x=.r X->bz W o e X)/\(∀X,x=.r X->pM X)/\∀k n,rZ V=.int k->x=.i n->(Lit.int k n).wf=true:=by
   have F:=h 0 V v rfl rfl;cases V with
   |int k=>
    obtain⟨⟨n,rfl,m⟩,_⟩:=F;exact⟨.i n,trivial,rfl,λe X h=>(by cases h),λX h=>(by cases h),λD C R O=>(by cases R;cases O;exact m)⟩
   |bool=>
    obtain⟨⟨n,rfl⟩,_⟩:=F;exact⟨.b n,trivial,rfl,λe X h=>(by cases h),λX h=>(by cases h),λD C R O=>(by cases R)⟩
   |aH z k=>
    obtain⟨X,rfl,l,g,_⟩:=F;exact⟨.r X,trivial,rfl,λe f R O=>(by cases R;cases O;exact l),λf h=>(by cases h;exact g),λD C R O=>(by cases R)⟩
  refine⟨x::Q,⟨H,R⟩, ?_,λq e X N M=> ?_,λX L=> ?_,λq k n N M=> ?_⟩;show x.at (rZ V)::nP (ae.map rZ) Q=_;rw[G,O];cases q with
  |zero=>simp at N M;exact t e X N M
  |succ q=>exact A q e X (by simpa using N) (by simpa using M)
  rcases aDp.1 L with L|L;exact s X L.symm;exact y X L;cases q with
  |zero=>simp at N M;exact p k n N M
  |succ q=>exact w q k n (by simpa using N) (by simpa using M)
def arb:∀{X V:aR}{R Q:aW},dP X R->dP V Q->dP (X++V) (R++Q)/\nP (X++V) (R++Q)=nP X R++nP V Q
 |[],_,[],_,_,h=>⟨h,rfl⟩
 |[],_,_::_,_,h,_=>h.elim
 |_::_,_,[],_,h,_=>h.elim
 |k::X,V,x::R,Q,h,O=>by
  obtain⟨N,M⟩:=arb h.2 O;exact⟨⟨h.1,N⟩,by simp[nP,M]⟩
def af7:∀{X:aR}{V:aW},dP X V->Y X=Y V
 |[],[],_=>rfl
 |[],_::_,h=>h.elim
 |_::_,[],h=>h.elim
 |k::X,x::V,h=>by simp[af7 h.2]
def aAV{R:aR}{Q:aW}(N:dP H G)(h:xR o W H G)(M:xR o W R Q):xR o W (H++R) (G++Q):=by
 intro q e O X V;have L:=af7 N;by_cases F:q<Y H;rw[aDg F] at X;rw[aDg (by omega)] at V;exact h q e O X V;rw[aDk (by omega)] at X;rw[aDk (by omega),<-L] at V;exact M _ e O X V
def aAW{R:aR}{Q:aW}(O:dP H G)(h:Pv H G)(N:Pv R Q):Pv (H++R) (G++Q):=by
 intro q k n X V;have M:=af7 O;by_cases L:q<Y H;rw[aDg L] at X;rw[aDg (by omega)] at V;exact h q k n X V;rw[aDk (by omega)] at X;rw[aDk (by omega),<-M] at V;exact N _ k n X V
def aAX{H:Type}{m:TypeId×Value->H}(ln:gY P o):∀{R:gT}{Q:eJ}{G:List (DataW H)}{z:List MemPlace},R.all (xg P o 9)=J->DataW.TrodAll m P W V M D R Q G z->(∀q∈DataW.weightsEach P R G,q<=reachBytes)->
  (∀(j:Nat)(t:TypeId)(v:Value)(X:TI),R[j]?=U t->Q[j]?=U v->o t=U X->(X.d.isAgg=J/\v=.agg v.cells)\/(X.d.isAgg=E/\v.cells.toList=[v]))->
  ∃(F:aR)(O:aW),gA o R=U F/\dP F O/\um o R (nP F O)=Q/\xR o W F O/\(∀L,XV.r L∈O->pM L)/\Pv F O:=by
 intro R;induction R with
 |nil=>
  intro Q G z _ h _ _;have:Q=[]:=by
   cases Q with
   |nil=>rfl
   |cons v Q=>cases G<;>simp[DataW.TrodAll] at h
  subst this;exact⟨[],[],rfl,trivial,rfl,λq e L h=>by simp at h,by simp,λq k n h=>by simp at h⟩
 |cons t R l=>
  intro Q G z B h i w;obtain⟨v,al,d,g,p,q,rfl,rfl,rfl,⟨f,c⟩,b⟩:=Go.ChangeShapes.trodAll_cons h;simp only[aFf,aDc] at B;obtain⟨X,A⟩:∃X,o t=U X:=by
   cases N:o t with
   |none=>have:=B.1;simp[xg,N] at this
   |some X=>exact⟨X,rfl⟩
  have u:∀q,q∈DataW.weights P t d\/q∈DataW.weightsEach P R g->q<=reachBytes:=λq N=>i q (by simp only[DataW.weightsEach,aDo];exact N)
  obtain⟨s,a⟩:=Pu f 9 t X _ _ A B.1 c (λq N=>u q (.inl N));obtain⟨O,y,x2,x3,x4,x5⟩:=ara s a;obtain⟨ab,af,y1,y2,y3,y4,y5,y6⟩:=l B.2 b (λq N=>u q (.inr N)) (λj t' v' ag q1 q2 q3=>w (j+1) t' v' ag (by simpa using q1) (by simpa using q2) q3);obtain⟨z1,z2⟩:=arb y y2;refine⟨X.ae.map rZ++ab,O++af,by simp[gA,A,y1],z1, ?_,aAV y x3 y4,λL C=> ?_,aAW y x5 y6⟩;rw[z2,x2];simp only[um,A];have hl:Y v.cells.toList=Y X.ae:=s;rw[aFo (by omega),aEp (by omega),aFZ (by omega),aGt (by omega),aDl,y3];have e:=w 0 t v X rfl rfl A;congr 1;rcases e with⟨x,e⟩|⟨x,e⟩;rw[if_pos x];exact e.symm;rw[x,e];rfl;rcases aDo.1 C with C|C;exact x4 L C;exact y5 L C
end
def aAY{R N:Oper}{W:Exit->Act->List Frame->World->Prop}{L H:List Frame}(A:(execOp C.eval R).run O X=.ok .recover X)(x:R.guard=Z)
  (M:recoverD L=U (Q,H)\/(recoverD L=Z/\Q=.nilIface/\H=L))
  (h:wpOpsIn Fence.wide 0 O #[R,N] (λe G F=>W e G H F) [1] (C.put R.dst Q) X):(Code.region V #[R,N] E).wpSIn Fence.wide 0 O W C L X:=by
 intro b k u D t l;have s:Y H=Y L:=by
  rcases M with M|⟨_,_,rfl⟩;exact recoverD_length M;rfl
 obtain⟨e,G,F,r,q⟩:=wp_opsIn [1] _ X h b k H (D.trans rfl) t (room_wide _);refine⟨e,G,H,F,s,r,.of_steps (.one (fenced_wide _ _) stepR_region) ?_⟩;have z:(#[R,N]:cS)[0]?=U R:=rfl;have p:Region.wanted R (yielded #[R,N] C.tmps)=true:=by simp[Region.wanted,x]
 have y:=stepGR_op (P:=O) (b:=b) (k:=k) (cs:=L) (w:=X) (rest:=[1]) z p;rw[D,Oper.semAt_none] at y;have o:(b.atR C (.inRegion #[R,N] [0,1]::k)).kind=.deferred:=u;have B:=tryRecover_deferred o L;have n:(b.atR C (.inRegion #[R,N] [0,1]::k)).finish Q=b.atR (C.put R.dst Q) (.inRegion #[R,N] [1]::k):=by
  rw[Frame.finish_atR,z];rfl
 refine .of_steps (.one (fenced_wide _ _) (step_lone_go ?_)) q;rw[show aDA (#[R,N]:cS).size=[0,1] from rfl,y,<-n];simp only[Frame.atR,D] at B⊢;rcases M with M|⟨M,m,rfl⟩;simp[stepG.apply,A,B,M];subst m;simp[stepG.apply,A,B,M]
def arc{R W:Oper}{Q:Exit->Act->List Frame->World->Prop}{N cs':List Frame}{v:Value}{f:FuncId}{args:jk}(L:(execOp C.eval R).run O X=.ok .recover X)(H:R.guard=Z)
  (G:recoverD N=U (v,cs')\/(recoverD N=Z/\v=.nilIface/\cs'=N))(F:W.guard=Z)(D:(W.semAt Z (C.put R.dst v).eval).run O X=.ok (.enter f args) X)
  (h:Calls O f args X λe M=>∃u,e=.returned u/\Q .normal ((C.put R.dst v).put W.dst u) cs' M):(Code.region V #[R,W] E).wpSIn Fence.wide 0 O Q C N X:=by
 refine aAY L H G ?_;show(if Region.wanted W _ then _ else _);rw[if_pos (by simp[Region.wanted,F])];refine⟨λ_ _=>trivial, ?_⟩;show Oper.uponIn Fence.wide 0 O W _ _ _ ((W.semAt Z (C.put R.dst v).eval).run O X);rw[D];refine⟨λh=>by simp[Fence.wide] at h,callsIn_wide.2 (h.mono ?_)⟩;rintro e M ⟨u,rfl,B⟩;exact B
@[local go_sem] def aDa (v:Value) (w:World):(Instr.typeAssert (.iface 45 v) 20 45 J).run Tryz.prog w=.ok (.tuple #[v,.bool J]) w:=by kernel_rfl
set_option maxHeartbeats 1000000 in
set_option maxRecDepth 100000 in
def aAZ (b:Nat) (W:World):Calls Tryz.prog 35 #[.nilIface,.pointer (U ⟨b,0,Z⟩)] W λe X=>e=.returned (.tuple #[])/\X=W:=by
 go_enter Tryz.func35,Tryz.ntmps35;go_wp2
 (try simp only[Exit.inBlock,Exit.then]);refine bodyPost_ret (results_none rfl _ _ _) rfl ?_;exact⟨rfl,rfl⟩
set_option maxHeartbeats 1000000 in
set_option maxRecDepth 100000 in
def aA0 (b:Nat) (X k:Int) (W:World) (R:W.cell? ⟨b,0,Z⟩=U (.int I X)) (Q:W.frozen? ⟨b,0,Z⟩=E):Calls Tryz.prog 35 #[.iface 45 (.int I k),.pointer (U ⟨b,0,Z⟩)] W λe V=>e=.returned (.tuple #[])/\V=W.setCell ⟨b,0,Z⟩ (.int I k):=by
 go_enter Tryz.func35,Tryz.ntmps35;go_wp2
 go_end0
 exact⟨rfl,rfl⟩
def ard{u:Value}(h:X.heap[V]?=U (.cells #[u] N (0,0))):X.setCell ⟨V,0,Z⟩ Q=X.putObj V (.cells #[Q] N (0,0)):=by
 unfold World.setCell World.putObj;congr 1;apply Array.ext_getElem?;intro i;rw[aER,Array.getElem?_setIfInBounds];by_cases R:V=i;subst R;have P:V<X.heap.size:=(aDD.1 h).1;rw[if_pos rfl,if_pos rfl,h,if_pos P];rfl;rw[if_neg R,if_neg R]
def af8{g:FuncId}{X:Func}{D:TypeId}{C B:String}{A z:Array Edge}(M:Tryz.prog.funcs[g]?=U X)(y:ul Tryz.prog g=J)(L:X.ntmps=3)(bI:X.results= #[])
  (H:X.body=U (.region V #[⟨U 1,.call {callee:=.builtin .recover,args:= #[],argTypes:= #[]},N,C,A,Z⟩,⟨U 2,.call {callee:=.value (.func 35),args:= #[.tmp 1,.tmp 0],argTypes:= #[20,101]},D,B,z,Z⟩] E)):pZ Tryz.prog g 45:=by
 have G:∀F W,(callFunc 35 F).run Tryz.prog W=.ok (.enter 35 F) W:=vQ (by kernel_rfl);refine⟨vQ y,λW b=> ?_,λW b x k Q=> ?_⟩;refine callsDIn_of_wpSIn M H (by simp[Fence.wide]) λP O R=> ?_
 rw[L];refine arc (v:=.nilIface) (cs':=P::O) (f:=35) (args:= #[.nilIface,.pointer (U ⟨b,0,Z⟩)]) rfl rfl (.inr ⟨by simp[recoverD,R],rfl,rfl⟩) rfl (by simp[Oper.semAt,go_sem,Act.put,G]) ?_;refine(aAZ b W).mono ?_;rintro e w ⟨rfl,rfl⟩;refine⟨_,rfl,rfl,.returning,by rw[<-R],.tuple #[], ?_,⟨_,rfl⟩,rfl,rfl⟩;simp[results,bI];refine callsDIn_of_wpSIn M H (by simp[Fence.wide]) λP O R=> ?_
 rw[L];refine arc (v:=.iface 45 (.int I k)) (cs':={P with mode:=.panicking [{v:=.iface 45 (.int I k),recovered:=J}]}::O) (f:=35) (args:= #[.iface 45 (.int I k),.pointer (U ⟨b,0,Z⟩)]) rfl rfl (.inl (by simp[recoverD,R])) rfl (by simp[Oper.semAt,go_sem,Act.put,G]) ?_;refine(aA0 b x k W (by simp[World.cell?,Q]) (by simp[World.frozen?,Q])).mono ?_;rintro e w ⟨rfl,rfl⟩;refine⟨_,rfl,rfl,_,rfl,.tuple #[], ?_,⟨_,rfl⟩,rfl,ard Q⟩;simp[results,bI]
def aA1:pZ Tryz.prog 34 45:=af8 Tryz.func34 (by kernel_rfl) rfl rfl rfl
def aA2:pZ Tryz.prog 46 45:=af8 Tryz.func46 (by kernel_rfl) rfl rfl rfl
def aA3:pZ Tryz.prog 61 45:=af8 Tryz.func61 (by kernel_rfl) rfl rfl rfl
set_option maxHeartbeats 1000000 in
set_option maxRecDepth 100000 in
def aA4 (W:World) (b:Nat):CallsDIn Fence.wide 0 Tryz.prog 151 #[.pointer (U ⟨b,0,Z⟩)] .returning W λR u Q=>(∃v,R=.returned v)/\u=.returning/\Q=W:=by
 refine callsDIn_of_wpSIn Tryz.func151 rfl (by simp[Fence.wide]) λV P X=> ?_
 have O:V={V with mode:=.returning}:=by rw[<-X]
 rw[Tryz.ntmps151];apply wpSIn_seq;apply wpSIn_region;simp[wpOpsSIn,go_sem,recoverD,X,Exit.thenS];refine wpSIn_of_wpIn rfl (wpIn_wide.2 ?_);go_wp2;refine⟨rfl,.returning,by rw[<-X],.tuple #[], ?_,⟨_,rfl⟩,rfl,rfl⟩;simp[results,Tryz.results151]
set_option maxHeartbeats 1000000 in
set_option maxRecDepth 100000 in
def aA5 (W:World) (b:Nat) (V k:Int) (X:W.heap[b]?=U (.cells #[.int I V] 45 (0,0))):CallsDIn Fence.wide 0 Tryz.prog 151 #[.pointer (U ⟨b,0,Z⟩)] (.panicking [{v:=.iface 45 (.int I k),recovered:=E}]) W λR u Q=>(∃v,R=.returned v)/\u=.panicking [{v:=.iface 45 (.int I k),recovered:=J}]/\Q=W.putObj b (.cells #[.int I k] 45 (0,0)):=by
 have bq:W.cell? ⟨b,0,Z⟩=U (.int I V):=by simp[World.cell?,X]
 have O:W.frozen? ⟨b,0,Z⟩=false:=by simp[World.frozen?,X]
 refine callsDIn_of_wpSIn Tryz.func151 rfl (by simp[Fence.wide]) λN M P=> ?_
 rw[Tryz.ntmps151];apply wpSIn_seq;apply wpSIn_region;simp[wpOpsSIn,go_sem,recoverD,P,Exit.thenS];refine wpSIn_of_wpIn rfl (wpIn_wide.2 ?_);go_wp2;refine⟨rfl,_,rfl,.tuple #[], ?_,⟨_,rfl⟩,rfl,ard X⟩;simp[results,Tryz.results151]
def aA6:pZ Tryz.prog 151 45:=⟨vQ (by kernel_rfl),aA4,aA5⟩
section
open Go.Shelf
def Tryz.indexB_ren:Go.Shelf.Ren:=⟨λ|137=>272|217=>319|266=>357|n=>n,λ|9=>9|5=>5|3=>3|n=>n,λ|n=>n⟩
def Tryz.indexB:Go.Proofs.Lays.n137 Tryz.prog Tryz.indexB_ren:={mixed:=by kernel_rfl,f137:=dv Tryz.func272 (by kernel_rfl),f217:=dv Tryz.func319 (by kernel_rfl),f266:=dv Tryz.func357 (by kernel_rfl),t3:=Tryz.underlying3,a3:=Tryz.isAgg3,z3:=Tryz.sizeOf3,v3:=Tryz.zeroValue3,t5:=Tryz.underlying5,a5:=Tryz.isAgg5,z5:=Tryz.sizeOf5,v5:=Tryz.zeroValue5,t9:=Tryz.underlying9,a9:=Tryz.isAgg9,z9:=Tryz.sizeOf9,v9:=Tryz.zeroValue9}
def aA7:look PT 272=U [9,5]:=by kernel_rfl
def aA8:look SG 272=U [3]:=by kernel_rfl
def aA9:gA (look TT) [9,5]=U [.ref .str,.int .u8]:=by kernel_rfl
def aBa:gA (look TT) [3]=U [.int I]:=by kernel_rfl
def are:∀(l:List UInt8)(b:UInt8),-1<=Lib.indexByte l b
 |[],_=>by simp[Lib.indexByte]
 |x::l,b=>by
  have:=are l b;simp only[Lib.indexByte];split;omega;split<;>omega
def arf:∀(l:List UInt8)(b:UInt8)(k:Nat),EK k l b=if Lib.indexByte l b=-1 then-1 else Lib.indexByte l b+k
 |[],_,_=>by simp[EK,Lib.indexByte]
 |x::l,b,k=>by
  have V:=arf l b (k+1);have R:=are l b;simp only[EK,Lib.indexByte,beq_iff_eq];by_cases X:x=b;simp[X];rw[if_neg X,if_neg X,V];by_cases W:Lib.indexByte l b=-1;simp[W];rw[if_neg W,if_neg W,if_neg (by omega)];omega
def aBb(l:List UInt8)(b:UInt8):EK 0 l b=Lib.indexByte l b:=by
 rw[arf];split;rename_i h;rw[h];simp
def aBc{z:Bool}:qG z 272 ON:=by
 intro p o m l N M L H G F out O Q P W k B;rw[aA7] at N;cases N;rw[aA8] at M;cases M;rw[aA9] at L;cases L;rw[aBa] at H;cases H;rcases F with _|⟨x,_|⟨y,_|⟨z,F⟩⟩⟩;exact P.elim;exact P.2.elim
 ·obtain⟨D,C,_⟩:=P;cases x with
  |i n=>exact D.elim
  |b n=>exact D.elim
  |r A=>
  cases y with
  |b n=>exact C.elim
  |r n=>exact C.elim
  |i c=>
  have w:=B 0 .str A rfl rfl;cases w with
  |str t=>
  rcases G with _|⟨v,_|⟨u,_|⟨j,G⟩⟩⟩;exact Q.elim;exact Q.2.elim
  ·obtain⟨V,R,_⟩:=Q;cases v with
   |i n=>exact V.elim
   |b n=>exact V.elim
   |r s=>
   cases u with
   |b n=>exact R.elim
   |r n=>exact R.elim
   |i X=>
   have R:X=c:=R;subst R;have V:ck s (.mk (.string t) []):=V;cases V with
   |val=>
   have O:U (bn.ret [.i (EK 0 t.toList (UInt8.ofNat X.toNat))])=U out:=O;cases O;have h:=Any.strings_IndexByte Tryz.indexB t X W;refine Calls.mono (show Calls Tryz.prog 272 #[.string t,.int .u8 X] W _ from h) ?_;rintro e g ⟨rfl,rfl⟩;refine⟨_,[.i (Lib.indexByte t.data.toList X.toNat.toUInt8)],rfl,⟨?_,trivial⟩,⟨trivial,trivial⟩,rfl,Below.refl _ _,W9 (by simp),λb q=>(ap9 (by simp) q).elim⟩;show EK 0 t.toList (UInt8.ofNat X.toNat)=_;rw[aBb,ByteArray.toList_eq]
  exact Q.2.2.elim
 exact P.2.2.elim
def arh:∀{n:Nat}{R X:aW},nO R X->dP (aDq n (.int I)) X->∃l:bh,Y l=n/\R=l.map XV.i/\X=l.map XV.i
 |0,R,X,W,V=>by
  cases X with
  |cons _ _=>exact V.elim
  |nil=>
   cases R with
   |cons _ _=>exact W.elim
   |nil=>exact⟨[],rfl,rfl,rfl⟩
 |n+1,R,[],W,V=>V.elim
 |n+1,[],x::X,W,V=>W.elim
 |n+1,y::R,x::X,W,V=>by
  obtain⟨l,P,O,N⟩:=arh (n:=n) W.2 V.2;have e:=W.1;have f:=V.1;cases x with
  |b q=>exact f.elim
  |r q=>exact f.elim
  |i m=>
   cases y with
   |b q=>exact e.elim
   |r q=>exact e.elim
   |i Q=>
    have e:Q=m:=e;subst e;exact⟨Q::l,by simp[P],by simp[O],by simp[N]⟩
def ari(a b c d:Int):bF a b c d=K.gR.valid ⟨⟨a,b⟩,⟨c,d⟩⟩:=by
 rw[aEk];simp[bF,K.gR.valid,K.ze];omega
def aBd(a b c d X W V R:Int):oN a b c d X W V R= !(K.gR.rU ⟨⟨a,b⟩,⟨c,d⟩⟩ ⟨⟨X,W⟩,⟨V,R⟩⟩):=by
 simp only[oN,K.gR.rU,K.Range.rU,aGy]
def aBe:look PT 26=U [65,65]:=by kernel_rfl
def aBf:look SG 26=U [4,45]:=by kernel_rfl
def k26:gA (look TT) [65,65]=U (aDq 8 (.int I)):=by kernel_rfl
def q26:gA (look TT) [4,45]=U [.bool,.int I]:=by kernel_rfl
def aBi(a b c d X W V R:Int):(um (look TT) [65,65] (nP (aDq 8 (.int I)) [.i a,.i b,.i c,.i d,.i X,.i W,.i V,.i R])).toArray= #[K.gR.v ⟨⟨a,b⟩,⟨c,d⟩⟩,K.gR.v ⟨⟨X,W⟩,⟨V,R⟩⟩]:=by kernel_rfl
def aBj(x:Bool)(e:Int):F8 (um (look TT) [4,45] (nP [.bool,.int I] [.b x,.i e]))=.tuple #[.bool x,.int I e]:=by kernel_rfl
def aBk{l:bh}(h:Y l=8):∃a b c d X W V R,l=[a,b,c,d,X,W,V,R]:=by
 match l,h with
 |[a,b,c,d,X,W,V,R],_=>exact⟨a,b,c,d,X,W,V,R,rfl⟩
def aBl{z:Bool}:qG z 26 OL:=by
 intro v u t s X V G F r q out M C B W p o;rw[aBe] at X;cases X;rw[aBf] at V;cases V;rw[k26] at G;cases G;rw[q26] at F;cases F;obtain⟨l,A,rfl,rfl⟩:=arh (n:=8) C B;obtain⟨a,b,c,d,Q,P,O,N,rfl⟩:=aBk A;have y:=aBi a b c d Q P O N;simp only[aDt,aEK] at M⊢;rw[y];simp only[OL,aDh] at M;subst M;have L:∀(x:Bool)(e:Int)(H:World),Below W.heap.size W H->M8 (look TT) [4,45] [.bool,.int I] W (aDq 8 (.int I)) [.i a,.i b,.i c,.i d,.i Q,.i P,.i O,.i N] (.ret [.b x,.i e]) (.returned (.tuple #[.bool x,.int I e])) H:=λx e H R=>
  ⟨_,[.b x,.i e],rfl,⟨rfl,rfl,trivial⟩,⟨trivial,trivial,trivial⟩,(aBj x e).symm,R,W9 (by simp),λb w=>(ap9 (by simp) w).elim⟩
 rw[ari,ari];by_cases X:K.gR.valid ⟨⟨a,b⟩,⟨c,d⟩⟩=J;by_cases V:K.gR.valid ⟨⟨Q,P⟩,⟨O,N⟩⟩=J;rw[X,V];refine(ay7 _ _ X V (oN a b c d Q P O N) (by rw[aBd];simp) W).mono ?_;rintro e D ⟨rfl,R⟩;exact L _ _ _ R;have V:K.gR.valid ⟨⟨Q,P⟩,⟨O,N⟩⟩=false:=by simpa using V
 rw[X,V];refine(ay9 _ _ X V W).mono ?_;rintro e D ⟨rfl,R⟩;exact L _ _ _ R;have X:K.gR.valid ⟨⟨a,b⟩,⟨c,d⟩⟩=false:=by simpa using X
 rw[X];refine(ay8 _ _ X W).mono ?_;rintro e D ⟨rfl,R⟩;exact L _ _ _ R
def aBm{z:Bool}(f:FuncId):qG z f (wT f):=by
 unfold wT;by_cases X:f=26;subst X;exact aBl;by_cases W:f=272;subst W;exact aBc;simp only[X,W,if_false];exact afw f
end
def aBn(f:FuncId)(X:Fn)(h:TB.tree f=U X):cG f X.g X.d X.t:=by
 have h:EL f=U X:=h;unfold EL at h;split at h;cases h;exact ayD;cases h;exact ayE;cases h;exact ayF;cases h;exact ayG;cases h;exact ayH;cases h;exact ayI;cases h;exact aqa;cases h;exact aqb;cases h;exact aqc;cases h;exact ayJ;cases h;exact ayK;cases h;exact aqd;cases h;exact aqe;cases h;exact aqf;cases h;exact ayL;cases h;exact ayM;cases h;exact ayN;cases h;exact ayO;cases h;exact ayP;cases h;exact ayQ;cases h;exact ayR;cases h;exact ayS;cases h;exact ayT;cases h;exact ayU;cases h;exact ayV;cases h;exact ayW;cases h;exact ayX;cases h;exact ayY;cases h;exact ayZ;cases h;exact aAc;cases h;exact aAd;cases h;exact aAe;cases h;exact aAf;cases h;exact aAg;cases h;exact aAh;cases h;exact aAi;cases h;exact aAj;cases h;exact aAk;cases h;exact aAl;cases h;exact aAm;cases h;exact aAn;cases h;exact aAo;cases h;exact aAp HL;cases h;exact aAq;cases h;exact aAr;cases h;exact aAs;cases h;exact aAt;cases h;exact aAu HL;cases h;exact aAv;cases h;exact aAw;cases h;exact aAx;cases h;exact aAy;cases h;exact aAz;cases h;exact aAA;cases h;exact aAB HL;cases h;exact aAC;cases h;exact aAD;cases h;exact aAE aA6;cases h;exact aAF aA1;cases h;exact aAG HL aA2;cases h;exact aAH;cases h;exact aAI HL;cases h;exact aAK;cases h;exact aAL HL;cases h;exact aAJ;cases h;exact aAM;cases h;exact aAN HL;cases h;exact aAO;cases h;exact aAP aA3;cases h;exact aAQ;cases h;exact ok6;cases h;exact aAS;cases h;exact aAT;cases h
def aBo:afy TB true:=⟨aBn,λ_ _ _ _=>rfl,aBm⟩
def aBp:([32,35,36,44,37]:gT).all (xg Tryz.prog (look TT) 9)=true:=by kernel_rfl
def pt6:look PT 6=U [32,35,36,44,37]:=by kernel_rfl
def aBr:look SG 6=U [4]:=by kernel_rfl
def q6:gA (look TT) [4]=U [.bool]:=by kernel_rfl
def k6:gA (look TT) [32,35,36,44,37]=U [.int I,.int I,.int I,.int I,.int I,.ref (.sl 173),.int I,.ref (.sl 175),.ref (.sl 312),.ref (.sl 314),.ref (.sl 90),.ref (.sl 73),.ref (.sl 79),.int I,.ref (.sl 4),.ref (.sl 71),.ref (.sl 71),.ref (.sl 82),.ref (.sl 65),.ref (.sl 4)]:=by kernel_rfl
def r82:bw (look TT) (.sl 82)=[.aH (.slice Z 0 0) (.sl 96)]:=by kernel_rfl
def HM{k:IntKind}(h:dP (.int k::H) G):∃n X,G=.i n::X/\dP H X:=by
 cases G with
 |nil=>exact h.elim
 |cons x G=>
  cases x with
  |i n=>exact⟨n,G,rfl,h.2⟩
  |b n=>exact h.1.elim
  |r n=>exact h.1.elim
def vu{k:RK}(h:dP (.ref k::H) G):∃n X,G=.r n::X/\dP H X:=by
 cases G with
 |nil=>exact h.elim
 |cons x G=>
  cases x with
  |r n=>exact⟨n,G,rfl,h.2⟩
  |b n=>exact h.1.elim
  |i n=>exact h.1.elim
def tV(h:bz X F (.sl N) B)(V:pM B):Sl B:=by
 cases V with
 |mk B R P=>
 cases h with
 |sl N A O M L Q H G D C z=>
  refine⟨⟨_,_,_,rfl⟩, ?_,R⟩;simp only[RV.lg,RV.lj,lenOf,Q]
def aBs(h:bz X (look TT) (.sl 82) B)(M:pM B):∀i<Y B.rows,Sl (cr 96 B i):=by
 intro i R;cases M with
 |mk y x P=>
 cases h with
 |sl e A L H V w v G u t F=>
  rw[RV.lj] at R P;have Q:V[i]?=U V[i]:=aDe R;have s:(V[i]).length=1:=by have:=(G i _ Q).1;rw[r82] at this;exact this
  have O:(V[i])[0]?=U (V[i])[0]:=aDe (by omega);have D:=F i 0 _ _ _ _ Q O (by rw[r82];rfl);have C:=P _ (aD3 R) _ (aD3 (by omega:0<(V[i]).length));have N:=tV D C;have e:cr 96 (.mk (.slice A L H) V) i=(V[i])[0]:=by
   unfold cr cellAt;simp only[RV.lj,aEa,aDf,Q,O,aDS];obtain⟨a,n,c,z⟩:=N.sl;simp[cT,z]
  rw[e];exact N
def aBt(hS:TB.Ev 11 [] (.ret [.b J])){H:Type}{ag:TypeId×Value->H}{L:eJ}{k:List (DataW H)}(hG:GW X)(hT:DataW.TrodAll ag Tryz.prog X V M D [32,35,36,44,37] L k R)(hw:∀q∈DataW.weightsEach Tryz.prog [32,35,36,44,37] k,q<=reachBytes)
  (hv:∀(j:Nat)(t:TypeId)(v:Value)(F:TI),([32,35,36,44,37]:gT)[j]?=U t->L[j]?=U v->look TT t=U F->(F.d.isAgg=J/\v=.agg v.cells)\/(F.d.isAgg=E/\v.cells.toList=[v])):
  Calls Tryz.prog 6 L.toArray X λe g=>e=.returned (.bool J)/\Below X.heap.size X g:=by
 obtain⟨ks,xs,f,c,h3,P,O,h6⟩:=aAX Lu aBp hT hw hv;rw[k6] at f;cases f;have hf:=c;obtain⟨Wd,x1,rfl,al⟩:=HM hf;obtain⟨Q,x2,rfl,an⟩:=HM al;obtain⟨A,x3,rfl,ap⟩:=HM an;obtain⟨B,x4,rfl,a0⟩:=HM ap;obtain⟨C,x5,rfl,a1⟩:=HM a0;obtain⟨a,x6,rfl,a2⟩:=vu a1;obtain⟨a3,x7,rfl,a4⟩:=HM a2;obtain⟨tp,x8,rfl,a5⟩:=vu a4;obtain⟨pq,x9,rfl,a6⟩:=vu a5;obtain⟨sp,b2,rfl,a7⟩:=vu a6;obtain⟨sg,b3,rfl,a8⟩:=vu a7;obtain⟨z,b4,rfl,a9⟩:=vu a8;obtain⟨x,b5,rfl,bb⟩:=vu a9;obtain⟨aa,b6,rfl,bg⟩:=HM bb;obtain⟨w,b7,rfl,bk⟩:=vu bg;obtain⟨u,b8,rfl,bl⟩:=vu bk;obtain⟨s,ca,rfl,bo⟩:=vu bl;obtain⟨G,cc,rfl,br⟩:=vu bo;obtain⟨p,cf,rfl,bs⟩:=vu br;obtain⟨o,bt,rfl,b0⟩:=vu bs;cases bt with
 |cons _ _=>exact b0.elim
 |nil=>
 have q0:=tV (P 5 _ a rfl rfl) (O _ (by simp));have q1:=tV (P 7 _ tp rfl rfl) (O _ (by simp));have q2:=tV (P 8 _ pq rfl rfl) (O _ (by simp));have q3:=tV (P 9 _ sp rfl rfl) (O _ (by simp));have q4:=tV (P 10 _ sg rfl rfl) (O _ (by simp))
 letI:Inhabited dl:=⟨⟨Wd,Q,A,B,C,a3,a,tp,pq,sp,sg⟩⟩
 have s1:dD:=⟨q0,q1,q2,q3,q4⟩;obtain⟨n,hn⟩:=t6 hS s1 aa z x w u s G p o (tV (P 11 _ z rfl rfl) (O _ (by simp))) (tV (P 12 _ x rfl rfl) (O _ (by simp))) (tV (P 14 _ w rfl rfl) (O _ (by simp))) (tV (P 15 _ u rfl rfl) (O _ (by simp))) (tV (P 16 _ s rfl rfl) (O _ (by simp))) (tV (P 17 _ G rfl rfl) (O _ (by simp))) (tV (P 18 _ p rfl rfl) (O _ (by simp))) (aBs (P 17 _ G rfl rfl) (O _ (by simp))) (tV (P 19 _ o rfl rfl) (O _ (by simp)));have ab:=W6 aBo n 6 _ _ _ _ pt6 aBr k6 q6 _ _ _ hn (W8 _) c X (λ_=>hG) P;have b1:um (look TT) [32,35,36,44,37] (nP _ (wk++[.r z,.r x,.i aa,.r w,.r u,.r s,.r G,.r p,.r o]))=L:=h3;rw[b1] at ab;refine ab.mono ?_;intro e g h;cases e with
 |returned v=>
  obtain⟨yh,m,l,N,e3,rfl,hB,_,_⟩:=h;cases l;cases m with
  |nil=>exact N.elim
  |cons y m=>
   cases m with
   |cons _ _=>exact N.2.elim
   |nil=>
    cases y with
    |b q=>
     have:J=q:=N.1;subst this;exact⟨rfl,hB⟩
    |i q=>exact N.1.elim
    |r q=>exact N.1.elim
 |panicked ch=>obtain⟨_,v,l,_⟩:=h;cases l
 |outgrown=>exact h.elim
section
open Go.ChangeShapes Go.RowKit
def aBu{H:Type}{G:TypeId×Value->H}(C:laidOutB O=J){F:World}(B:Below X.heap.size X F):∀{V:gT}{Q:eJ}{N:List (DataW H)}{R:List MemPlace},V.all (λt=>O.readableRec t&&decide (t<O.types.size))=J->DataW.TrodAll G O X 0 (λ_=>J) J V Q N R->(∀x∈R,x.block<X.heap.size)->DataW.TrodAll G O F 0 (λb=>decide (b<X.heap.size)) J V Q N R:=by
 intro V;induction V with
 |nil=>
  intro Q N R _ h _;obtain⟨rfl,rfl,rfl⟩:=trodAll_nil h;exact rfl
 |cons t V A=>
  intro Q N R M h D;obtain⟨v,w,d,u,p,q,rfl,rfl,rfl,z,y⟩:=trodAll_cons h;simp only[aFf,aDc,decide_eq_true_eq] at M;exact⟨p,q,Go.RowKit.Below.trod C M.1.1 M.1.2 z B (λx L=>D x (by simp[L])),A (by simpa using M.2) y (λx L=>D x (by simp[L])),rfl⟩
def aBv:laidOutB Tryz.prog=true:=by kernel_rfl
def rd6:([32,35,36,44,37]:gT).all (λt=>Tryz.prog.readableRec t&&decide (t<Tryz.prog.types.size))=true:=by kernel_rfl
def aBx{H:Type}{P:TypeId×Value->H}{O:World}{D C:List (DataW H)}(V:DataW.Whole P Tryz.prog Tryz.f6.params.toList [] E X L.toList D C R)(N:Below X.heap.size X O):
  Go.Proofs.YtieaiocljdpebaaGreatDoor.Rows.certifySafeSpec.post P Tryz.prog Tryz.f6 E J E E X L (.bool J) O:=by
 have B:=V.lt;have A:=V;obtain⟨p,q,M,z,rfl,_,_⟩:=V;obtain⟨rfl,rfl⟩:=trodVars_none z;have Q:Tryz.f6.params.toList=[32,35,36,44,37]:=by rw[Tryz.params6]
 have G:=M;rw[Q] at G;obtain⟨r,o,n,m,l,k,_,rfl,rfl,_,y⟩:=trodAll_cons G;obtain⟨j,i,g,f,e,d,_,rfl,rfl,_,w⟩:=trodAll_cons y;obtain⟨c,b,a,e3,p3,q3,_,rfl,rfl,_,v⟩:=trodAll_cons w;obtain⟨v4,r4,d4,e4,p4,q4,_,rfl,rfl,_,u⟩:=trodAll_cons v;obtain⟨v5,r5,d5,e5,p5,q5,_,rfl,rfl,_,t⟩:=trodAll_cons u;obtain⟨_,rfl,rfl⟩:=trodAll_nil t;have F:=aBu aBv N rd6 (by rw[<-Q];exact M) (λx s=>B x (by simpa using s));rw[<-Q] at F;exact⟨_,_,_,[],_,[],A,trodAll_mk1 (shut_bool Tryz.underlying4 _),F,rfl,Below.frame N _,λh=>(by cases h)⟩
end
section
open Go.ChangeShapes Go.RowKit Go.ChangeAt
abbrev gn(k:Nat):String:=Go.Proofs.YtieaiocljdpebaaGreatDoor.Rows.certifySafeRow.named.getD k ""
abbrev L3{H:Type}:List (String×DataW H):=[(gn 1,Go.Proofs.YtieaiocljdpebaaGreatDoor.Rows.laid_kinesphere_space_flat),(gn 0,Go.Proofs.YtieaiocljdpebaaGreatDoor.Rows.laid_kinesphere_expand_kinds),(gn 2,Go.Proofs.YtieaiocljdpebaaGreatDoor.Rows.laid_kinesphere_motion_kinds)]
def aBy(ln:gY O F){D:TI}(h:F N=U D)(L:Value.okWide O X .any V N Q):(D.d.isAgg=J/\Q=.agg Q.cells)\/(D.d.isAgg=E/\Q.cells.toList=[Q]):=by
 have M:=(ln N D h).desc;have C:∀d,O.underlying N=U d->(∀R,d≠ .struct R)->(∀n e,d≠ .array n e)->Q.cells.toList=[Q]:=by
  intro d G z y;cases Q<;>try rfl
  case agg B=>
   exfalso;unfold Value.okWide at L;rw[G] at L;cases d<;>first|exact z _ rfl|exact y _ _ rfl|simp[Cell.okWide,Cell.ok,G] at L
 cases x:D.d<;>rw[x] at M
 case one=>
  obtain⟨d,G,⟨A,_⟩,_⟩:=M;exact .inr ⟨rfl,C d G (λR e=>by subst e;exact A) (λn e H=>by subst H;exact A)⟩
 case eP=>obtain⟨m,G⟩:=M;exact .inr ⟨rfl,C _ G (λR e=>by cases e) (λn e H=>by cases H)⟩
 case str=>exact .inr ⟨rfl,C _ M (λR e=>by cases e) (λn e H=>by cases H)⟩
 case slice e=>exact .inr ⟨rfl,C _ M (λR e=>by cases e) (λn e H=>by cases H)⟩
 case map k e n w=>exact .inr ⟨rfl,C _ M (λR e=>by cases e) (λn e H=>by cases H)⟩
 case arr n e=>
  have M:O.underlying N=U (.array n e):=M;unfold Value.okWide at L;rw[M] at L;obtain⟨B,rfl,_⟩:=L;exact .inl ⟨rfl,rfl⟩
 case struct u=>
  obtain⟨R,G,_⟩:=M;unfold Value.okWide at L;rw[G] at L;obtain⟨B,rfl,_⟩:=L;exact .inl ⟨rfl,rfl⟩
def aBz:ownKnob Tryz.prog.godebug=none:=by kernel_rfl
set_option maxRecDepth 100000 in
def aBA (C:TB.Ev 11 [] (.ret [.b J])) {H:Type} {P:TypeId×Value->H} {O N:List (DataW H)} (B:GW X)
  (A:∀(j:Nat) t v,Tryz.f6.params[j]?=U t->L[j]?=U v->Value.okWide Tryz.prog X .any V t v) (M:DataW.Whole P Tryz.prog Tryz.f6.params.toList [] E X L.toList O N R)
  (Q:(DataW.weightsEach Tryz.prog (Tryz.f6.params.toList++[]) (O++N)).all (·<=reachBytes)=J):
  Calls Tryz.prog 6 L X λe G=>∃v,e=.returned v/\Go.Proofs.YtieaiocljdpebaaGreatDoor.Rows.certifySafeSpec.post P Tryz.prog Tryz.f6 E J E E X L v G:=by
 have z:=M;obtain⟨p,q,F,y,rfl,_,_⟩:=M;obtain⟨rfl,rfl⟩:=trodVars_none y;have D:Tryz.f6.params.toList=[32,35,36,44,37]:=by rw[Tryz.params6]
 rw[D] at F Q;simp only[aEO,aDr,decide_eq_true_eq] at Q;have x:=aBt C B F Q (λj t v m w u s=>by
  have r:Tryz.f6.params[j]?=U t:=by rw[<-aE2,D];exact w
  have o:=A j t v r (by rw[<-aE2];exact u);exact aBy Lu s o)
 refine x.mono ?_;rintro e G ⟨rfl,n⟩;exact⟨_,rfl,aBx z n⟩

def aBB(X:Os)(W:jk):laidMetH Tryz.prog L3 ((World.doorLaid Tryz.prog 400 X).forCall (λ_ _=>0) ⟨#[],W,[]⟩).memory:=
 laidMetH_of_parts3 (fuel:=8) (laidMet_of_run' 8 (by kernel_rfl) (by kernel_rfl)) (by kernel_rfl) (by kernel_rfl)
set_option maxHeartbeats 4000000 in
set_option maxRecDepth 100000 in
def aBC (P:TB.Ev 11 [] (.ret [.b J])) (O:∀W,laidMetH Tryz.prog L3 W->GW W) (V:Os) (started:V.Started) (H:Type) (R:TypeId×Value->H):
  ReturnsInHanded {} Tryz.checked V 6 .any (λw Q=>(Go.Proofs.YtieaiocljdpebaaGreatDoor.Rows.certifySafeSpec.pre R Tryz.prog Tryz.f6 [] E w Q/\laidMetH Tryz.prog L3 w)/\sizedMet R Tryz.prog Tryz.f6 (OpenSpec.ofChange Go.Proofs.YtieaiocljdpebaaGreatDoor.Rows.certifySafeSpec) E w Q)
   (Go.Proofs.YtieaiocljdpebaaGreatDoor.Rows.certifySafeSpec.post R Tryz.prog Tryz.f6 E J E E):=by
 refine returnsInHanded_of_change_and (C:=Tryz.checked) (X:=λw _=>laidMetH Tryz.prog L3 w) (λ_ _ _ N h=>h.of_heap N) aBz started (by kernel_rfl) Tryz.func6
  (ChangeSpec.witness_shaped (enc:=R) (C:=Tryz.checked) (os:=V) (X:=λw _=>laidMetH Tryz.prog L3 w) E (World.doorLaid Tryz.prog 400 V) #[.agg #[.int I 0,.int I 0,.int I 0,.int I 0,.int I 0,.slice Z 0 0,.int I 0,.slice Z 0 0,.slice Z 0 0,.slice Z 0 0,.slice Z 0 0],.agg #[.slice Z 0 0],.slice Z 0 0,.agg #[.int I 0,.slice Z 0 0,.slice Z 0 0,.slice Z 0 0,.slice Z 0 0,.slice Z 0 0],.slice Z 0 0] 6 rfl (World.shaped_of_RefB (by kernel_rfl) (by kernel_rfl)) (by kernel_rfl) (by kernel_rfl) (by kernel_rfl) (aBB V _)) ?_
 intro W D Q B A before M L _ G F _;exact aBA P (O W F) M L G
end
section
variable{P:Program}{ty:Ty}{W:World}
def xj{X:Type}(w:Nat):Nat->List X->List (List X)
 |0,_=>[]
 |n+1,l=>l.take w::xj w n (l.drop w)
def Pw{X:Type}{w:Nat}:∀{n:Nat}{l:List X},(xj w n l).length=n
 |0,_=>rfl
 |n+1,l=>by simp[xj,Pw (n:=n)]
def Xx{X:Type}{w:Nat}:∀{n:Nat}{l r:List X}{i:Nat},(xj w n l)[i]?=U r->i<n/\r=(l.drop (i*w)).take w
 |0,l,r,i,h=>by simp[xj] at h
 |n+1,l,r,0,h=>by simp[xj] at h;exact⟨by omega,by simp[h]⟩
 |n+1,l,r,i+1,h=>by
  simp only[xj,aDO] at h;obtain⟨R,V⟩:=Xx h;refine⟨by omega, ?_⟩;rw[V,aFa];congr 2;rw[aEl];omega
def LF{R:Type}{n:Nat}{l r:List R}{i j:Nat}{c:R}(h:(xj V n l)[i]?=U r)(X:r[j]?=U c):i<n/\j<V/\l[i*V+j]?=U c:=by
 obtain⟨Q,rfl⟩:=Xx h;rw[aDK] at X;split at X;rename_i O;rw[aDZ] at X;exact⟨Q,O,X⟩;cases X
def Px{H:Type}(P:Program)(t:TypeId)(d:DataW H)(w n:Nat):am:=xj w n ((aDA (n*w)).map λj=>(mP P 9 t d j).getD default)
def af9{g n w:Nat}{e t:TypeId}{G F:TI}{d:DataW Unit}(ab:ty e=U G)(af:ty t=U F)(hw:Y G.ae=w)(B:Y F.ae=n*w)(ag:(aDA n).map (λi=>(F.ae.drop (i*w)).take w)=aDq n G.ae)(al:xg P ty 9 t=J)
  (an:DataW.trod (λ_=>()) P W 0 (λ_=>J) E V t L.toList=U (d,R))(ap:(DataW.weights P t d).all (·<=reachBytes)=J)(a0:∀i,W.cell? ⟨g,i,Z⟩=L[i]?)(hE:((aDA (n*w)).all λj=>(mP P 9 t d j).isSome)=J)(a2:0<w):
  ∃v,bz W ty (.sl e) (.mk (.slice (U ⟨g,0,Z⟩) n n) v)/\ck (mf g (Px P t d w n)) (.mk (.slice (U ⟨g,0,Z⟩) n n) v):=by
 obtain⟨u,h2⟩:=Pu V 9 t F _ _ af al an (λq hq=>of_decide_eq_true (aDr.1 ap q hq));obtain⟨D,s,r2,r3,r4,r5,r6⟩:=af5 u h2;have a1:Y D=n*w:=by rw[<-aDV (f:=RV.val),s,u,B]
 have A:∀i j,i<n->j<w->F.ae[i*w+j]?=G.ae[j]?:=λi j o hj=>by
  have h:=congrArg (·[i]?) ag;simp only[aDj,aEt o,aEm,if_pos o,aDn,aDh] at h;rw[<-h,aDK,if_pos hj,aDZ]
 have C:bw ty (.sl e)=G.ae:=by simp[bw,ab]
 have bq:∀(i j:Nat)(r:aF)(c:RV),(xj w n D)[i]?=U r->r[j]?=U c->W.cell? ⟨g,0+i*w+j,Z⟩=U c.val:=λi j r c X Q=>by
  obtain⟨_,_,O⟩:=LF X Q;have y:L.toList[i*w+j]?=U c.val:=by rw[<-s,aDj,O];rfl
  rw[aDM,a0,<-aE2];exact y
 have m:∀(i:Nat)(r:aF),(xj w n D)[i]?=U r->Y r=w:=λi r X=>by
  obtain⟨Q,rfl⟩:=Xx X;have:(i+1)*w<=n*w:=aEv w Q;rw[aEl] at this;rw[aEQ,aEJ,a1];omega
 refine⟨xj w n D,.sl e _ n n _ Pw (aDm _) (λi r X=> ?_) (λi j r c k X Q O=> ?_) (λi j r c X Q O=> ?_) (λi j r c z k X Q O=> ?_), ?_⟩;rw[C,hw];have B:=m i r X;refine⟨B,g,0,rfl, ?_,λj c Q=>bq i j r c X Q⟩;obtain⟨c,hc⟩:∃c,r[0]?=U c:=⟨_,aDe (by omega)⟩;exact aq8 (bq i 0 r c X hc);rw[C] at O;obtain⟨M,H,N⟩:=LF X Q;exact r2 _ c k N (by rw[A i j M H];exact O);rw[C] at O;obtain⟨M,H,N⟩:=LF X Q;exact r3 _ c N (by rw[A i j M H];exact O);rw[C] at O;obtain⟨M,H,N⟩:=LF X Q;exact r4 _ c z k N (by rw[A i j M H];exact O);unfold mf Px;rw[Pw];refine ck.sl _ _ _ _ _ _ _ (by rw[Pw,Pw]) (λi r l X Q=> ?_) (λi j r l c c' X Q O y=> ?_);obtain⟨M,rfl⟩:=Xx X;have:(i+1)*w<=n*w:=aEv w M;rw[aEl] at this;rw[m i l Q,aEQ,aEJ,aDV,aFK];omega;obtain⟨M,H,N⟩:=LF X O;obtain⟨_,_,q4⟩:=LF Q y;rw[aDj] at N;have b:i*w+j<n*w:=by
  have:(i+1)*w<=n*w:=aEv w M;rw[aEl] at this;omega
 rw[aEt b] at N;simp only[aDn,aDh] at N;obtain⟨x,a⟩:=aDw.1 (aDr.1 hE _ (aEd.2 b));rw[a,aDS] at N;subst N;exact r6 _ c' x q4 a
end
def aBD:Tryz.prog.globalNamed (gn 1)=U 2:=by kernel_rfl
def aBE:Tryz.prog.globalNamed (gn 0)=U 0:=by kernel_rfl
def aBF:Tryz.prog.globalNamed (gn 2)=U 1:=by kernel_rfl
def aBG:(Tryz.prog.globals[2]?).map (·.type)=U 301:=by kernel_rfl
def aBH:(Tryz.prog.globals[0]?).map (·.type)=U 246:=by kernel_rfl
def aBI:(Tryz.prog.globals[1]?).map (·.type)=U 260:=by kernel_rfl
def aga{n:String}(R:Tryz.prog.globalNamed n=U V)(Q:X.var? Tryz.prog n=U L)(i:Nat):X.cell? ⟨V,i,Z⟩=L[i]?:=World.var?_cell R Q i
def ark:∀(X:aW)(O:ac),∃l,(O.ext X).r=O.r++l
 |[],O=>⟨[],by simp[ac.ext]⟩
 |x::X,O=>by
  obtain⟨l,h⟩:=ark X (O.add x);simp only[ac.ext,h];cases x<;>simp[ac.add]
def arl:kf=[mf 0 (Px Tryz.prog 246 (Go.Proofs.YtieaiocljdpebaaGreatDoor.Rows.laid_kinesphere_expand_kinds:DataW Unit) 6 10),mf 1 (Px Tryz.prog 260 (Go.Proofs.YtieaiocljdpebaaGreatDoor.Rows.laid_kinesphere_motion_kinds:DataW Unit) 2 10),mf 2 (Px Tryz.prog 301 (Go.Proofs.YtieaiocljdpebaaGreatDoor.Rows.laid_kinesphere_space_flat:DataW Unit) 2 8)]:=by kernel_rfl
def arm{X:Type}{p:Nat->X->Prop}{a b c:X}(V:p 0 a)(R:p 1 b)(Q:p 2 c):∀(k:Nat)(x:X),[a,b,c][k]?=U x->p k x
 |0,_,h=>aDQ h▸V
 |1,_,h=>aDQ h▸R
 |2,_,h=>aDQ h▸Q
 |k+3,_,h=>(by simp at h)
def aBJ(h:laidMetH Tryz.prog L3 X):GW X:=by
 rw[MakeChecks.laidMetH_plain _ _ _ (by kernel_rfl)] at h;obtain⟨a,⟨g0,t0,jF,f0,p0,q0,H,C,B,A,⟨g1,t1,ab,f1,p1,q1,G,z,y,u,⟨g2,t2,af,f2,p2,q2,F,s,r,q,_,_⟩,_⟩,_⟩,_,_⟩:=h;obtain rfl:=aDQ (aBD.symm.trans H);obtain rfl:=aDQ (aBE.symm.trans G);obtain rfl:=aDQ (aBF.symm.trans F);obtain rfl:=aDQ (aBG.symm.trans C);obtain rfl:=aDQ (aBH.symm.trans z);obtain rfl:=aDQ (aBI.symm.trans s);obtain⟨R,o,m⟩:=af9 (P:=Tryz.prog) (ty:=look TT) (W:=X) (g:=0) (n:=10) (w:=6) (e:=245) (t:=246) rfl rfl rfl rfl rfl (by kernel_rfl) u (by kernel_rfl) (aga G y) (by kernel_rfl) (by decide);obtain⟨Q,j,i⟩:=af9 (P:=Tryz.prog) (ty:=look TT) (W:=X) (g:=1) (n:=10) (w:=2) (e:=259) (t:=260) rfl rfl rfl rfl rfl (by kernel_rfl) q (by kernel_rfl) (aga F r) (by kernel_rfl) (by decide);obtain⟨O,f,d⟩:=af9 (P:=Tryz.prog) (ty:=look TT) (W:=X) (g:=2) (n:=8) (w:=2) (e:=142) (t:=301) rfl rfl rfl rfl rfl (by kernel_rfl) A (by kernel_rfl) (aga H B) (by kernel_rfl) (by decide);refine⟨[.mk (.slice (U ⟨0,0,Z⟩) 10 10) R,.mk (.slice (U ⟨1,0,Z⟩) 10 10) Q,.mk (.slice (U ⟨2,0,Z⟩) 8 8) O],by rw[arl];rfl,λk v V N L=> ?_,λk e M N L=> ?_,λc x D=> ?_⟩;rw[arl] at N;exact arm (p:=λk v=>∀V,[RV.mk (.slice (U ⟨0,0,Z⟩) 10 10) R,.mk (.slice (U ⟨1,0,Z⟩) 10 10) Q,.mk (.slice (U ⟨2,0,Z⟩) 8 8) O][k]?=U V->ck v V) (λV h=>aDQ h▸m) (λV h=>aDQ h▸i) (λV h=>aDQ h▸d) k v N V L;exact arm (p:=λk e=>∀M,[RV.mk (.slice (U ⟨0,0,Z⟩) 10 10) R,.mk (.slice (U ⟨1,0,Z⟩) 10 10) Q,.mk (.slice (U ⟨2,0,Z⟩) 8 8) O][k]?=U M->bz X (look TT) e M) (λV h=>aDQ h▸o) (λV h=>aDQ h▸j) (λV h=>aDQ h▸f) k e N M L;obtain⟨l,b⟩:=ark c ⟨[],[],[RV.mk (.slice (U ⟨0,0,Z⟩) 10 10) R,.mk (.slice (U ⟨1,0,Z⟩) 10 10) Q,.mk (.slice (U ⟨2,0,Z⟩) 8 8) O],[]⟩;simp only[GL,aDp,aFc,or_false] at D;unfold eL ac.rv;rw[b];rcases D with rfl|rfl|rfl;exact⟨by simp,10,10,rfl⟩;exact⟨by simp,10,10,rfl⟩;exact⟨by simp,8,8,rfl⟩
