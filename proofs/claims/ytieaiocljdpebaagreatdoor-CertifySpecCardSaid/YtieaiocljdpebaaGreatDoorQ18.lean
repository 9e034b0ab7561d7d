/- Part 18 of the proof. -/
import Derived.Test.YtieaiocljdpebaaGreatDoorQ8
import Derived.Test.YtieaiocljdpebaaGreatDoorQ10
import Derived.Test.YtieaiocljdpebaaGreatDoorQ11
import Derived.Test.YtieaiocljdpebaaGreatDoorQ12
import Derived.Test.YtieaiocljdpebaaGreatDoorQ13
import Derived.Test.YtieaiocljdpebaaGreatDoorQ14
import Derived.Test.YtieaiocljdpebaaGreatDoorQ15
import Derived.Test.YtieaiocljdpebaaGreatDoorQ16
import Derived.Test.YtieaiocljdpebaaGreatDoorQ17
import Derived.Test.YtieaiocljdpebaaGreatDoorRows
import Derived.ChangeArms
import Derived.DataReads
import Derived.OpenShut
import Derived.RecoverIn
import Derived.Shelf.Small.Strs
import Derived.Carry
import Derived.ProofKit
import Derived.LaidMore
import Derived.Stop.Joined
import Derived.Handed
set_option linter.all false
open Bool renaming and_eq_true->aIy,false_eq_true->aIU,eq_iff_iff->aJv,and_assoc->aLQ,true->J,false->E
open List renaming getElem?_eq_some_iff->aIz,getElem?_eq_getElem->aIA,getElem?_append_left->aIB,getD_eq_getElem?_getD->aIC,getElem?_map->aIE,getElem?_append_right->aIH,nil_append->aIJ,mem_cons->aIK,replicate->aIL,mem_append->aIM,all_eq_true->aIN,map_cons->aIP,mem_of_getElem?->aIW,mem_map->aI3,range->aI5,getElem?_take->aI6,any_eq_true->aI7,getElem?_cons_succ->aJa,getElem?_of_mem->aJg,getElem?_drop->aJi,getElem_mem->aJl,length_map->aJn,getElem?_replicate->aJD,mem_range->aJQ,length_take->aJS,length_drop->aJT,take_of_length_le->aJW,getElem?_range->aJ1,map_nil->aJ7,mem_of_find?_eq_some->aKc,append_nil->aKf,drop_drop->aKr,not_mem_nil->aKs,all_cons->aKv,take_append_of_le_length->aKI,map->aKR,find?_some->aKW,getElem?_zip_eq_some->aKY,drop_append_of_le_length->aLl,drop_of_length_le->aLM,length->Y
open Option.some renaming injEq->aID,inj->aJb
open Nat renaming le_refl->aIG,zero_add->aI8,eq_zero_or_pos->aJB,add_mul->aJC,mul_le_mul_right->aJM,mod_lt->aKA,mul_comm->aK1,div_lt_of_lt_mul->aLe,div_add_mod->aLf,sub_self->aLg
open Option renaming map_some->aII,isSome_iff_exists->aIS,getD_some->aJd,bind_eq_some_iff->aLH,some->U,none->Z
open Array renaming getElem?_eq_some_iff->aIX,getElem?_modify->aJ9,getElem?_toList->aKm
open Int renaming toNat_natCast->aJ0
open Go.IntKind renaming i64->I
namespace Go.Proofs.YtieaiocljdpebaaGreatDoor.Y
open Go.RowKit
noncomputable section
variable{C:Ty}{X:World}{O:Value}{V:Nat}{H:Nat→Bool}{M:Bool}{N:Program}{B:Act}{L:TypeId}{F:List LK}{D:List XV}{A:RV}{R:List MemPlace}{Q:Array Value}
def Zq:CT->CT->Bool
 |.int k,.int X=>decide (k=X)
 |.bool,.bool=>J
 |.aI _ k,.aI _ X=>decide (k=X)
 |_,_=>E
def Bf:dS->dS->Bool
 |[],[]=>J
 |c::l,X::V=>Zq c X&&Bf l V
 |_,_=>E
def Zr:∀{l V:dS},Bf l V=J->Y l=Y V/\∀(j:Nat)(c X:CT),l[j]?=U c->V[j]?=U X->Zq c X=J
 |[],[],_=>⟨rfl,λj c X h _=>by simp at h⟩
 |[],_::_,h=>by cases h
 |_::_,[],h=>by cases h
 |a::l,b::V,h=>by
  simp only[Bf,aIy] at h;obtain⟨O,N⟩:=Zr h.2;refine⟨by simp[O],λj c X R Q=> ?_⟩;cases j with
  |zero=>simp at R Q;subst R;subst Q;exact h.1
  |succ j=>exact N j c X (by simpa using R) (by simpa using Q)
inductive pN:RV->Prop
 |mk (rv:RV) (h:Y rv.rows<=140737488355328) (h2:∀row∈rv.rows,∀c∈row,pN c):pN rv
def pN.Zs(v:Value):pN (.mk v []):=.mk _ (by simp[RV.lA]) (by simp[RV.lA])
def zl(o:Ty)(W:World)(V:Option RV):CT->Value->Prop
 |.int k,v=>(∃n,v=.int k n/\(Lit.int k n).wf=J)/\∀r,V=U r->r=.mk v []
 |.bool,v=>(∃b,v=.bool b)/\∀r,V=U r->r=.mk v []
 |.aI _ k,v=>∃X:RV,X.val=v/\bu W o k X/\pN X/\∀r,V=U r->cE r X
def zl.aix{V:Option RV}{a b:CT}(h:Zq a b=J)(k:zl C X V b O):zl C X V a O:=by
 cases a<;>cases b<;>simp only[Zq,decide_eq_true_eq,aIU] at h;subst h;exact k;exact k;subst h;exact k
def xB(P:Program)(o:Ty):Nat->TypeId->Bool
 |0,_=>E
 |n+1,t=>match o t with
  |none=>E
  |U X=>match P.underlying t with
   |U (.int k)=>Bf X.ae [.int k]
   |U .bool=>Bf X.ae [.bool]
   |U .string=>Bf X.ae [.aI undef .str]
   |U (.slice e)=>Bf X.ae [.aI undef (.sl e)]&&xB P o n e&&decide (P.cellsOf e=(bq o (.sl e)).length)&&decide (P.cellsOf e≠0)&&decide (P.bytesOf e≠0)
   |U (.struct Q)=>decide (P.cellsOf t=Y X.ae)&&Q.toList.all (λf=>xB P o n f.type&&(match o f.type with
     |U R=>decide (P.cellsOf f.type=Y R.ae)&&Bf ((X.ae.drop f.offset).take (Y R.ae)) R.ae
     |none=>E))&&(aI5 (Y X.ae)).all λj=>Q.toList.any λf=>decide (f.offset<=j)&&decide (j<f.offset+P.cellsOf f.type)
   |U (.array k e)=>decide (P.cellsOf t=Y X.ae)&&xB P o n e&&(match o e with
     |U V=>decide (P.cellsOf e=Y V.ae)&&decide (Y X.ae=k*Y V.ae)&&(aI5 k).all λi=>Bf ((X.ae.drop (i*Y V.ae)).take (Y V.ae)) V.ae
     |none=>E)
   |_=>E
def mS{H:Type}(P:Program):Nat->TypeId->DataW H->Nat->Option RV
 |0,_,_,_=>Z
 |n+1,t,d,j=>match P.underlying t,d with
  |U (.int _),.lit (.int k q)=>U (.mk (.int k q) [])
  |U .bool,.lit (.bool b)=>U (.mk (.bool b) [])
  |U (.slice e),.slice X _=>if(X.all λd=>(aI5 (P.cellsOf e)).all λj=>(mS P n e d j).isSome) then U (.mk (.slice Z (Y X) (Y X)) (X.map λd=>(aI5 (P.cellsOf e)).map λj=>(mS P n e d j).getD default)) else Z
  |U (.slice _),.nil=>U (.mk (.slice Z 0 0) [])
  |U (.struct R),.agg V=>match(R.toList.zip V).find? λf=>decide (f.1.offset<=j)&&decide (j<f.1.offset+P.cellsOf f.1.type) with
   |U f=>mS P n f.1.type f.2 (j-f.1.offset)
   |none=>Z
  |U (.array _ e),.agg V=>match V[j/P.cellsOf e]? with
   |U d=>mS P n e d (j%P.cellsOf e)
   |none=>Z
  |_,_=>Z
section
variable{P:Program}{o:Ty}{W:World}
def Rt{R:Nat->Option RV}{ae:dS}{c:CT}(h:Bf ae [c]=J)(k:zl o W (R 0) c O):[O].length=Y ae/\∀(j:Nat)(X:CT)(u:Value),ae[j]?=U X->[O][j]?=U u->zl o W (R j) X u:=by
 obtain⟨Q,N⟩:=Zr h;refine⟨by simp[Q],λj X u M V=> ?_⟩;cases j with
 |zero=>simp at V;subst V;exact zl.aix (N 0 X c M rfl) k
 |succ j=>simp at V
def aiy:∀{Ecel:Nat->Option RV}{ae:dS}{cs:fe},Y cs=Y ae->(∀(j:Nat)(O:CT)(v:Value),ae[j]?=U O->cs[j]?=U v->zl o W (Ecel j) O v)->
  ∃N:aH,N.map RV.val=cs/\(∀(j:Nat)(c:RV)(k:IntKind),N[j]?=U c->ae[j]?=U (.int k)->∃n,c.val=.int k n)/\(∀(j:Nat)(c:RV),N[j]?=U c->ae[j]?=U .bool->∃x,c.val=.bool x)/\(∀(j:Nat)(c:RV)(z:Value)(k:RK),N[j]?=U c->ae[j]?=U (.aI z k)->bu W o k c)/\(∀c∈N,pN c)/\∀(j:Nat)(c r:RV),N[j]?=U c->Ecel j=U r->cE r c
 |_,[],[],_,_=>⟨[],rfl,λj c k h=>by simp at h,λj c h=>by simp at h,λj c z k h=>by simp at h,by simp,λj c r h=>by simp at h⟩
 |_,[],_::_,h,_=>by simp at h
 |_,_::_,[],h,_=>by simp at h
 |Ecel,O::ae,v::cs,F,h=>by
  obtain⟨N,D,C,B,A,y,w⟩:=aiy (Ecel:=λj=>Ecel (j+1)) (ae:=ae) (cs:=cs) (by simpa using F) (λj c u t M=>h (j+1) c u (by simpa using t) (by simpa using M));obtain⟨r,L,M,s,q,p,m⟩:∃r:RV,r.val=v/\(∀k,O=.int k->∃n,r.val=.int k n)/\(O=.bool->∃x,r.val=.bool x)/\(∀z k,O=.aI z k->bu W o k r)/\pN r/\∀R,Ecel 0=U R->cE R r:=by
   have Q:=h 0 O v rfl rfl;cases O with
   |int k=>exact⟨.mk v [],rfl,λH e=>(by cases e;obtain⟨⟨n,l,_⟩,_⟩:=Q;exact⟨n,l⟩),λe=>(by cases e),λz k e=>(by cases e),pN.Zs v,λR G=>by rw[Q.2 R G];exact cE.refl _⟩
   |bool=>exact⟨.mk v [],rfl,λH e=>(by cases e),λ_=>Q.1,λz k e=>(by cases e),pN.Zs v,λR G=>by rw[Q.2 R G];exact cE.refl _⟩
   |aI z k=>
    obtain⟨r,L,i,g,f⟩:=Q;exact⟨r,L,λH e=>(by cases e),λe=>(by cases e),λd H e=>(by cases e;exact i),g,f⟩
  refine⟨r::N,by simp[L,D],λj c k X V=> ?_,λj c X V=> ?_,λj c z k X V=> ?_,λc Q=>(aIK.1 Q).elim (λe=>e▸p) (λQ=>y c Q),λj c R X V=> ?_⟩;cases j with
  |zero=>simp at X V;subst X;exact M k V
  |succ j=>exact C j c k (by simpa using X) (by simpa using V)
  cases j with
  |zero=>simp at X V;subst X;exact s V
  |succ j=>exact B j c (by simpa using X) (by simpa using V)
  cases j with
  |zero=>simp at X V;subst X;exact q z k V
  |succ j=>exact A j c z k (by simpa using X) (by simpa using V)
  cases j with
  |zero=>simp at X;subst X;exact m R V
  |succ j=>exact w j c R (by simpa using X) V
def avs{α:Type}{R:Nat->α->Prop}:∀(n:Nat),(∀i,i<n->∃x,R i x)->∃l:List α,Y l=n/\∀(i:Nat)(x:α),l[i]?=U x->R i x
 |0,_=>⟨[],rfl,λi x h=>by simp at h⟩
 |n+1,h=>by
  obtain⟨l,V,Q⟩:=avs n (λi O=>h i (by omega));obtain⟨x,N⟩:=h n (by omega);refine⟨l++[x],by simp[V],λi y X=> ?_⟩;by_cases O:i<n;rw[aIB (by omega)] at X;exact Q i y X;rw[aIH (by omega)] at X;have:i=n:=by
   cases M:i-Y l with
   |zero=>omega
   |succ q=>rw[M] at X;simp at X
  subst this;rw[V,aLg] at X;simp at X;subst X;exact N
def aiz{H:Type}{P:Program}{e:TypeId}{q:Nat}:∀{l:List (DataW H)}{d:DataW H},d∈l->q∈DataW.weights P e d->q∈DataW.weightsAll P e l
 |[],_,h,_=>by simp at h
 |x::l,d,h,X=>by
  simp only[DataW.weightsAll,aIM];rcases aIK.1 h with rfl|h;exact .inl X;exact .inr (aiz h X)
def avt{H:Type}{P:Program}{q:Nat}:∀{X:i5}{l:List (DataW H)}{i:Nat}{t:TypeId}{d:DataW H},X[i]?=U t->l[i]?=U d->q∈DataW.weights P t d->q∈DataW.weightsEach P X l
 |[],_,_,_,_,h,_,_=>by simp at h
 |_::_,[],_,_,_,_,h,_=>by simp at h
 |O::X,N::l,i,t,d,V,R,Q=>by
  simp only[DataW.weightsEach,aIM];cases i with
  |zero=>simp at V R;subst V;subst R;exact .inl Q
  |succ i=>exact .inr (avt (i:=i) (by simpa using V) (by simpa using R) Q)
def avu{R:Nat}(h:W.cell? ⟨V,R,Z⟩=U O):∃Q t X,W.heap[V]?=U (.cells Q t X):=by
 unfold World.cell? at h;split at h;rename_i c t X N;exact⟨c,t,X,N⟩;cases h
structure avv{H:Type}(P:Program)(o:Ty)(W:World)(n:Nat)(e:TypeId)(ae:dS)(a:Addr)(elems:List (DataW H×List MemPlace))(i:Nat)(row:aH):Prop where
 len:Y row=Y ae
 sp:a.spot=Z
 jR:∃cs t fr,W.heap[a.block]?=U (.cells cs t fr)
 cell:∀(j:Nat)(c:RV),row[j]?=U c->W.cell? ⟨a.block,a.off+i*Y ae+j,Z⟩=U c.val
 hi:∀(j:Nat)(c:RV)(k:IntKind),row[j]?=U c->ae[j]?=U (.int k)->∃n,c.val=.int k n
 hb:∀(j:Nat)(c:RV),row[j]?=U c->ae[j]?=U .bool->∃x,c.val=.bool x
 ho:∀(j:Nat)(c:RV)(z:Value)(k:RK),row[j]?=U c->ae[j]?=U (.aI z k)->bu W o k c
 bnd:∀c∈row,pN c
 eq:∀(j:Nat)(c r:RV)(x:DataW H×List MemPlace),row[j]?=U c->elems[i]?=U x->mS P n e x.1 j=U r->cE r c
def Ru{H:Type}{b6:TypeId×Value->H}{b7:Nat}{spare:Nat->Bool}{b8:Bool}:∀(ca m:Nat)(t:TypeId)(b:TI)(cs:fe)(x:DataW H×List MemPlace),o t=U b->xB P o m t=J->DataW.trod b6 P W b7 spare b8 ca t cs=U x->(∀q∈DataW.weights P t x.1,q<=reachBytes)->
  Y cs=Y b.ae/\∀(j:Nat)(ct:CT)(v:Value),b.ae[j]?=U ct->cs[j]?=U v->zl o W (mS P m t x.1 j) ct v
 |0,_,_,_,_,_,_,_,h,_=>by simp[DataW.trod] at h
 |_+1,0,_,_,_,_,_,M,_,_=>by simp[xB] at M
 |n+1,m+1,t,b,cs,x,ht,M,h,af=>by
  simp only[xB,ht] at M;cases N:P.underlying t with
  |none=>rw[N] at M;cases M
  |some d=>
   rw[N] at M;cases d<;>simp only[aIU] at M
   case int k=>
    obtain⟨q,rfl,rfl,cc⟩:=DataW.trod_int N h;exact Rt M ⟨⟨q,rfl,cc⟩,λr X=>by simp only[mS,N,aID] at X;exact X.symm⟩
   case bool=>
    obtain⟨q,rfl,rfl⟩:=DataW.trod_bool N h;exact Rt M ⟨⟨q,rfl⟩,λr X=>by simp only[mS,N,aID] at X;exact X.symm⟩
   case string=>
    obtain⟨q,rfl,_⟩:=DataW.trod_string N h;exact Rt M ⟨.mk (.string q) [],rfl,.str q,pN.Zs _,λr X=>by simp[mS,N] at X⟩
   case slice e=>
    simp only[aIy,decide_eq_true_eq] at M;obtain⟨⟨⟨⟨g1,B⟩,G⟩,g4⟩,g6⟩:=M;rcases DataW.trod_slice N h with⟨rfl,F⟩|⟨a,ag,bg,u,bk,n',hn,rfl,F,hb,cf,cO,bl,br,_,_⟩;exact Rt g1 ⟨.mk (.slice Z 0 0) [],rfl,.sl e Z 0 0 [] rfl (aIG _) (λi V X=>by simp at X) (λi j V c k X=>by simp at X) (λi j V c X=>by simp at X) (λi j V c z k X=>by simp at X),pN.Zs _,λr X=>by
     simp only[mS,N,F,aID] at X;subst X;exact cE.refl _⟩
    cases hn;subst F;simp only[DataW.weights,N,aIK,aIM] at af;have cW:ag<=140737488355328:=by
     have A:=af _ (.inl rfl);have Q:(u.map (·.1)).length+(bk.map (·.1)).length<=((u.map (·.1)).length+(bk.map (·.1)).length)*P.bytesOf e:=Nat.le_mul_of_pos_right _ (by omega);simp only[aJn] at A Q;have y:reachBytes<=140737488355328:=by decide
     omega
    have a0:∃L,o e=U L:=by
     cases m with
     |zero=>simp[xB] at B
     |succ m=>
      cases D:o e with
      |none=>simp[xB,D] at B
      |some L=>exact⟨L,rfl⟩
    obtain⟨L,a0⟩:=a0;have an:bq o (.sl e)=L.ae:=by simp[bq,a0]
    rw[an] at G;have ch:∀i,i<ag->∃V:aH,avv P o W m e L.ae a u i V:=by
     intro i s;have Q:=br i s;have al:i<Y u:=by omega
     rw[aIA al,aLH] at Q;obtain⟨ci,Q,y⟩:=Q;obtain⟨q1,q2⟩:=Ru n m e L ci _ a0 B y (λq D=>af q (.inr (.inl (aiz (aI3.2 ⟨_,aJl al,rfl⟩) D))));obtain⟨_,c1,c2⟩:=World.cells?_some Q;obtain⟨V,r1,r2,r3,r4,r5,r6⟩:=aiy q1 q2;have bs:Y V=Y L.ae:=by rw[<-aJn (f:=RV.val),r1,q1]
     have a1:a.spot=none:=by
      have A:=br 0 (by omega);rw[aIA (by omega),aLH] at A;obtain⟨c0,A,_⟩:=A;obtain⟨_,d1,d2⟩:=World.cells?_some A;have d3:=d2 0 (by omega);rw[Nat.zero_mul,aIA (by omega)] at d3;simp only[Addr.add,if_true] at d3;unfold World.cell? at d3;split at d3;split at d3;cases d3;rename_i hs;simpa using hs;cases d3
     have bt:∀(j:Nat)(c:RV),V[j]?=U c->W.cell? ⟨a.block,a.off+i*Y L.ae+j,Z⟩=U c.val:=by
      intro j c C;have c5:j<Y L.ae:=by rw[<-bs];exact(aIz.1 C).1
      have c3:=c2 j (by omega);have c4:ci[j]?=U c.val:=by rw[<-r1,aIE,C];rfl
      rw[c4] at c3;have ha:(a.add (i*P.cellsOf e)).add j=⟨a.block,a.off+i*Y L.ae+j,Z⟩:=by
       rw[G];unfold Addr.add;cases a with
       |mk jR c6 sp=>
        simp only at a1;subst a1;by_cases q5:i*Y L.ae=0<;>by_cases q6:j=0<;>simp[q5,q6]
      rw[ha] at c3;exact c3
     refine⟨V,bs,a1, ?_,bt,r2,r3,r4,r5,λj c r x g1 B G=>r6 j c r g1 (by rw[aIA al] at B;cases B;exact G)⟩;have bx:0<Y L.ae:=by omega
     obtain⟨c,l⟩:∃c,V[0]?=U c:=⟨_,aIA (by omega)⟩;exact avu (bt 0 c l)
    obtain⟨b0,l1,l2⟩:=avs (α:=aH) (R:=avv P o W m e L.ae a u) ag ch;refine Rt g1 ⟨.mk (.slice (U a) ag bg) b0,rfl,.sl e (U a) ag bg b0 l1 cf (λi V X=> ?_) (λi j V c k X l hk=> ?_) (λi j V c X l hk=> ?_) (λi j V c z k X l hk=> ?_),.mk _ (by rw[RV.lA];omega) (λV X c l=> ?_),λr X=> ?_⟩;have p:=l2 i V X;rw[an];refine⟨p.len,a.block,a.off, ?_,p.jR,p.cell⟩;have p2:=p.sp;cases a;simp only at p2;subst p2;rfl;rw[an] at hk;exact(l2 i V X).hi j c k l hk;rw[an] at hk;exact(l2 i V X).hb j c l hk;rw[an] at hk;exact(l2 i V X).ho j c z k l hk;rw[RV.lA] at X;obtain⟨i,s⟩:=aJg X;exact(l2 i V s).bnd c l;simp only[mS,N] at X;split at X;rename_i cl;cases X;have b1:Y u=ag:=by omega
    rw[aJn,b1];have get:∀(i:Nat)(V:aH),(aKR (λd=>aKR (λj=>(mS P m e d j).getD default) (aI5 (P.cellsOf e))) (u.map (·.1)))[i]?=U V->∃x,u[i]?=U x/\V=(aI5 (P.cellsOf e)).map λj=>(mS P m e x.1 j).getD default:=by
     intro i V Q;rw[aIE,aIE] at Q;cases F:u[i]? with
     |none=>rw[F] at Q;cases Q
     |some x=>rw[F] at Q;simp only[aII,aID] at Q;exact⟨x,rfl,Q.symm⟩
    refine cE.sl _ _ _ _ _ _ _ (by simp[l1,b1]) (λi V a3 Q y=> ?_) (λi j V a3 c c' Q y h3 h4=> ?_);obtain⟨x,_,rfl⟩:=get i V Q;rw[(l2 i a3 y).len];simp[G];obtain⟨x,F,rfl⟩:=get i V Q;rw[aIE] at h3;cases C:(aI5 (P.cellsOf e))[j]? with
    |none=>rw[C] at h3;cases h3
    |some j'=>
     have a4:j<P.cellsOf e:=by have:=(aIz.1 C).1;simpa using this
     rw[aJ1 a4] at C;cases C;rw[aJ1 a4] at h3;simp only[aII,aID] at h3;have:=aIN.1 (aIN.1 cl x.1 (aI3.2 ⟨x,aIW F,rfl⟩)) j (aJQ.2 a4);obtain⟨r,X⟩:=aIS.1 this;rw[X] at h3;simp only[aJd] at h3;subst h3;exact(l2 i a3 y).eq j c' r x h4 F X
    cases X
   case struct g=>
    simp only[aIy,decide_eq_true_eq,aIN,aI7,aJQ] at M;obtain⟨⟨g1,B⟩,G⟩:=M;obtain⟨w,n',hn,F,cp,cv,hf⟩:=DataW.trod_struct N h;cases hn;subst F;simp only[DataW.weights,N] at af;refine⟨by omega,λj ct v Q y=> ?_⟩;have C:j<Y b.ae:=(aIz.1 Q).1;obtain⟨f0,cx,cy,cA⟩:=G j C;have c7:(g.toList.zip (w.map (·.1))).length=g.size:=by simp;omega
    obtain⟨fd,a9⟩:∃fd,(g.toList.zip (w.map (·.1))).find? (λf=>decide (f.1.offset<=j)&&decide (j<f.1.offset+P.cellsOf f.1.type))=U fd:=by
     obtain⟨i0,bb⟩:=aJg cx;have cB:i0<g.size:=by have:=(aIz.1 bb).1;simpa using this
     refine aIS.1 (List.find?_isSome.2 ⟨((g.toList.zip (w.map (·.1)))[i0]'(by omega)),aJl _, ?_⟩);have:f0=g.toList[i0]:=by rw[aIA (by simpa using cB)] at bb;exact(aJb bb).symm
     simp only[List.getElem_zip,<-this,aIy,decide_eq_true_eq];exact⟨cy,cA⟩
    have b2:=aKW a9;simp only[aIy,decide_eq_true_eq] at b2;obtain⟨b3,b4⟩:=b2;obtain⟨iz,cC⟩:=aJg (aKc a9);obtain⟨f,dd⟩:=fd;have bd:=aKY.1 cC;have b3:f.offset<=j:=b3;have b4:j<f.offset+P.cellsOf f.type:=b4;have cD:f∈g.toList:=aIW bd.1;obtain⟨k1,k2⟩:=B f cD;cases D:o f.type with
    |none=>rw[D] at k2;cases k2
    |some fi=>
     rw[D] at k2;simp only[aIy,decide_eq_true_eq] at k2;obtain⟨k3,k4⟩:=k2;have s:=bd.1;have al:g[iz]?=U f:=by simpa using s
     have c8:iz<g.size:=(aIX.1 al).1;have e1:=hf iz f al;rw[aIA (by omega)] at e1;obtain⟨q1,q2⟩:=Ru n m f.type fi _ _ D k1 e1 (λq bf=>af q (avt (i:=iz) (by simp[s]) (by simp[show iz<Y w by omega]) bf));obtain⟨_,q4⟩:=Zr k4;have b5:j-f.offset<Y fi.ae:=by omega
     have ej:f.offset+(j-f.offset)=j:=by omega
     have v1:((cs.drop f.offset).take (P.cellsOf f.type))[j-f.offset]?=U v:=by
      rw[aI6,if_pos (by omega),aJi,ej];exact y
     have v2:((b.ae.drop f.offset).take (Y fi.ae))[j-f.offset]?=U ct:=by
      rw[aI6,if_pos b5,aJi,ej];exact Q
     have v3:fi.ae[j-f.offset]?=U fi.ae[j-f.offset]:=aIA b5;have cI:dd=(w[iz]'(by omega)).1:=by
      have:=bd.2;rw[aIE,aIA (by omega)] at this;exact(aJb this).symm
     have hE:mS P (m+1) t (.agg (w.map (·.1))) j=mS P m f.type (w[iz]'(by omega)).1 (j-f.offset):=by
      simp only[mS,N,a9,cI]
     rw[hE];exact zl.aix (q4 _ _ _ v2 v3) (q2 _ _ _ v3 v1)
   case array k e=>
    simp only[aIy,decide_eq_true_eq] at M;obtain⟨⟨g1,B⟩,G⟩:=M;cases D:o e with
    |none=>rw[D] at G;cases G
    |some O=>
     rw[D] at G;simp only[aIy,decide_eq_true_eq,aIN,aJQ] at G;obtain⟨⟨g4,g5⟩,g6⟩:=G;obtain⟨w,n',hn,F,cp,cv,bl⟩:=DataW.trod_array N h;cases hn;subst F;simp only[DataW.weights,N] at af;refine⟨by omega,λj ct v Q y=> ?_⟩;have C:j<Y b.ae:=(aIz.1 Q).1;have bx:0<Y O.ae:=by
      rcases aJB (Y O.ae) with A|A;rw[g5,A] at C;omega;exact A
     have s:j/Y O.ae<k:=aLe (by rw[aK1];omega);have X:j%Y O.ae<Y O.ae:=aKA _ bx;have ej:j/Y O.ae*Y O.ae+j%Y O.ae=j:=by have:=aLf j (Y O.ae);rw[aK1] at this;exact this
     have e1:=bl (j/Y O.ae) s;rw[aIA (by omega)] at e1;obtain⟨q1,q2⟩:=Ru n m e O _ _ D B e1 (λq bf=>af q (aiz (aI3.2 ⟨_,aJl _,rfl⟩) bf));obtain⟨_,q4⟩:=Zr (g6 _ s);have v1:((cs.drop (j/Y O.ae*P.cellsOf e)).take (P.cellsOf e))[j%Y O.ae]?=U v:=by
      rw[g4,aI6,if_pos X,aJi,ej];exact y
     have v2:((b.ae.drop (j/Y O.ae*Y O.ae)).take (Y O.ae))[j%Y O.ae]?=U ct:=by
      rw[aI6,if_pos X,aJi,ej];exact Q
     have v3:O.ae[j%Y O.ae]?=U O.ae[j%Y O.ae]:=aIA X;have hE:mS P (m+1) t (.agg (w.map (·.1))) j=mS P m e (w[j/Y O.ae]'(by omega)).1 (j%Y O.ae):=by
      simp only[mS,N,g4,aIE];rw[aIA (by omega)];rfl
     rw[hE];exact zl.aix (q4 _ _ _ v2 v3) (q2 _ _ _ v3 v1)

def Rv(X:aP)(V:aV):Prop:=∀(q:Nat)(k:IntKind)(n:Int),X[q]?=U (.int k)->V[q]?=U (.i n)->(Lit.int k n).wf=J
def avw:∀{Ecel:Nat->Option RV}{ae:dS}{cs:fe},Y cs=Y ae->(∀(j:Nat)(V:CT)(v:Value),ae[j]?=U V->cs[j]?=U v->zl o W (Ecel j) V v)->
  ∃Q:aV,dU (ae.map sN) Q/\nU (ae.map sN) Q=cs/\yf o W (ae.map sN) Q/\(∀X,XV.r X∈Q->pN X)/\Rv (ae.map sN) Q
 |_,[],[],_,_=>⟨[],trivial,rfl,λq e X h=>by simp at h,by simp,λq k n h=>by simp at h⟩
 |_,[],_::_,h,_=>by simp at h
 |_,_::_,[],h,_=>by simp at h
 |Ecel,V::ae,v::cs,B,h=>by
  obtain⟨Q,R,O,A,y,w⟩:=avw (Ecel:=λj=>Ecel (j+1)) (ae:=ae) (cs:=cs) (by simpa using B) (λj c u H G=>h (j+1) c u (by simpa using H) (by simpa using G));obtain⟨x,H,G,t,s,p⟩:∃x:XV,pT (sN V) x/\x.at (sN V)=v/\(∀e X,sN V=.ref e->x=.r X->bu W o e X)/\(∀X,x=.r X->pN X)/\∀k n,sN V=.int k->x=.i n->(Lit.int k n).wf=true:=by
   have F:=h 0 V v rfl rfl;cases V with
   |int k=>
    obtain⟨⟨n,rfl,m⟩,_⟩:=F;exact⟨.i n,trivial,rfl,λe X h=>(by cases h),λX h=>(by cases h),λD C R O=>(by cases R;cases O;exact m)⟩
   |bool=>
    obtain⟨⟨n,rfl⟩,_⟩:=F;exact⟨.b n,trivial,rfl,λe X h=>(by cases h),λX h=>(by cases h),λD C R O=>(by cases R)⟩
   |aI z k=>
    obtain⟨X,rfl,l,g,_⟩:=F;exact⟨.r X,trivial,rfl,λe f R O=>(by cases R;cases O;exact l),λf h=>(by cases h;exact g),λD C R O=>(by cases R)⟩
  refine⟨x::Q,⟨H,R⟩, ?_,λq e X N M=> ?_,λX L=> ?_,λq k n N M=> ?_⟩;show x.at (sN V)::nU (ae.map sN) Q=_;rw[G,O];cases q with
  |zero=>simp at N M;exact t e X N M
  |succ q=>exact A q e X (by simpa using N) (by simpa using M)
  rcases aIK.1 L with L|L;exact s X L.symm;exact y X L;cases q with
  |zero=>simp at N M;exact p k n N M
  |succ q=>exact w q k n (by simpa using N) (by simpa using M)
def avx:∀{X V:aP}{R Q:aV},dU X R->dU V Q->dU (X++V) (R++Q)/\nU (X++V) (R++Q)=nU X R++nU V Q
 |[],_,[],_,_,h=>⟨h,rfl⟩
 |[],_,_::_,_,h,_=>h.elim
 |_::_,_,[],_,h,_=>h.elim
 |k::X,V,x::R,Q,h,O=>by
  obtain⟨N,M⟩:=avx h.2 O;exact⟨⟨h.1,N⟩,by simp[nU,M]⟩
def aiA:∀{X:aP}{V:aV},dU X V->Y X=Y V
 |[],[],_=>rfl
 |[],_::_,h=>h.elim
 |_::_,[],h=>h.elim
 |k::X,x::V,h=>by simp[aiA h.2]
def aF3{X O:aP}{Q N:aV}(L:dU X Q)(h:yf o W X Q)(H:yf o W O N):yf o W (X++O) (Q++N):=by
 intro q e M V R;have G:=aiA L;by_cases F:q<Y X;rw[aIB F] at V;rw[aIB (by omega)] at R;exact h q e M V R;rw[aIH (by omega)] at V;rw[aIH (by omega),<-G] at R;exact H _ e M V R
def aF4{X O:aP}{Q N:aV}(M:dU X Q)(h:Rv X Q)(L:Rv O N):Rv (X++O) (Q++N):=by
 intro q k n V R;have H:=aiA M;by_cases G:q<Y X;rw[aIB G] at V;rw[aIB (by omega)] at R;exact h q k n V R;rw[aIH (by omega)] at V;rw[aIH (by omega),<-H] at R;exact L _ k n V R
def aF5{X:Type}{m:TypeId×Value->X}(kV:iu P o):∀{Q:i5}{O:fe}{F:List (DataW X)}{z:List MemPlace},Q.all (xB P o 9)=J->DataW.TrodAll m P W V H M Q O F z->(∀q∈DataW.weightsEach P Q F,q<=reachBytes)->
  (∀(j:Nat)(t:TypeId)(v:Value)(R:TI),Q[j]?=U t->O[j]?=U v->o t=U R->(R.d.isAgg=J/\v=.agg v.cells)\/(R.d.isAgg=E/\v.cells.toList=[v]))->
  ∃(D:aP)(N:aV),gJ o Q=U D/\dU D N/\uC o Q (nU D N)=O/\yf o W D N/\(∀G,XV.r G∈N->pN G)/\Rv D N:=by
 intro Q;induction Q with
 |nil=>
  intro O F z _ h _ _;have:O=[]:=by
   cases O with
   |nil=>rfl
   |cons v O=>cases F<;>simp[DataW.TrodAll] at h
  subst this;exact⟨[],[],rfl,trivial,rfl,λq e G h=>by simp at h,by simp,λq k n h=>by simp at h⟩
 |cons t Q l=>
  intro O F z B h i w;obtain⟨v,an,d,g,p,q,rfl,rfl,rfl,⟨f,c⟩,b⟩:=Go.ChangeShapes.trodAll_cons h;simp only[aKv,aIy] at B;obtain⟨R,A⟩:∃R,o t=U R:=by
   cases L:o t with
   |none=>have:=B.1;simp[xB,L] at this
   |some R=>exact⟨R,rfl⟩
  have u:∀q,q∈DataW.weights P t d\/q∈DataW.weightsEach P Q g->q<=reachBytes:=λq L=>i q (by simp only[DataW.weightsEach,aIM];exact L)
  obtain⟨s,a⟩:=Ru f 9 t R _ _ A B.1 c (λq L=>u q (.inl L));obtain⟨N,y,x2,x3,x4,x5⟩:=avw s a;obtain⟨af,ag,y1,y2,y3,y4,y5,y6⟩:=l B.2 b (λq L=>u q (.inr L)) (λj t' v' al q1 q2 q3=>w (j+1) t' v' al (by simpa using q1) (by simpa using q2) q3);obtain⟨z1,z2⟩:=avx y y2;refine⟨R.ae.map sN++af,N++ag,by simp[gJ,A,y1],z1, ?_,aF3 y x3 y4,λG C=> ?_,aF4 y x5 y6⟩;rw[z2,x2];simp only[uC,A];have hl:Y v.cells.toList=Y R.ae:=s;rw[aKI (by omega),aJW (by omega),aLl (by omega),aLM (by omega),aIJ,y3];have e:=w 0 t v R rfl rfl A;congr 1;rcases e with⟨x,e⟩|⟨x,e⟩;rw[if_pos x];exact e.symm;rw[x,e];rfl;rcases aIM.1 C with C|C;exact x4 G C;exact y5 G C
end
def aF6{W R:Oper}{Q:Exit->Act->List Frame->World->Prop}{L H:List Frame}(A:(execOp B.eval W).run N X=.ok .recover X)(x:W.guard=Z)
  (M:recoverD L=U (O,H)\/(recoverD L=Z/\O=.nilIface/\H=L))
  (h:wpOpsIn Fence.wide 0 N #[W,R] (λe G F=>Q e G H F) [1] (B.put W.dst O) X):(Code.region V #[W,R] E).wpSIn Fence.wide 0 N Q B L X:=by
 intro b k u D t l;have s:Y H=Y L:=by
  rcases M with M|⟨_,_,rfl⟩;exact recoverD_length M;rfl
 obtain⟨e,G,F,r,q⟩:=wp_opsIn [1] _ X h b k H (D.trans rfl) t (room_wide _);refine⟨e,G,H,F,s,r,.of_steps (.one (fenced_wide _ _) stepR_region) ?_⟩;have z:(#[W,R]:cT)[0]?=U W:=rfl;have p:Region.wanted W (yielded #[W,R] B.tmps)=true:=by simp[Region.wanted,x]
 have y:=stepGR_op (P:=N) (b:=b) (k:=k) (cs:=L) (w:=X) (rest:=[1]) z p;rw[D,Oper.semAt_none] at y;have o:(b.atR B (.inRegion #[W,R] [0,1]::k)).kind=.deferred:=u;have C:=tryRecover_deferred o L;have n:(b.atR B (.inRegion #[W,R] [0,1]::k)).finish O=b.atR (B.put W.dst O) (.inRegion #[W,R] [1]::k):=by
  rw[Frame.finish_atR,z];rfl
 refine .of_steps (.one (fenced_wide _ _) (step_lone_go ?_)) q;rw[show aI5 (#[W,R]:cT).size=[0,1] from rfl,y,<-n];simp only[Frame.atR,D] at C⊢;rcases M with M|⟨M,m,rfl⟩;simp[stepG.apply,A,C,M];subst m;simp[stepG.apply,A,C,M]
def avy{R W:Oper}{Q:Exit->Act->List Frame->World->Prop}{O cs':List Frame}{v:Value}{f:FuncId}{args:kN}(L:(execOp B.eval R).run N X=.ok .recover X)(H:R.guard=Z)
  (G:recoverD O=U (v,cs')\/(recoverD O=Z/\v=.nilIface/\cs'=O))(F:W.guard=Z)(D:(W.semAt Z (B.put R.dst v).eval).run N X=.ok (.enter f args) X)
  (h:Calls N f args X λe M=>∃u,e=.returned u/\Q .normal ((B.put R.dst v).put W.dst u) cs' M):(Code.region V #[R,W] E).wpSIn Fence.wide 0 N Q B O X:=by
 refine aF6 L H G ?_;show(if Region.wanted W _ then _ else _);rw[if_pos (by simp[Region.wanted,F])];refine⟨λ_ _=>trivial, ?_⟩;show Oper.uponIn Fence.wide 0 N W _ _ _ ((W.semAt Z (B.put R.dst v).eval).run N X);rw[D];refine⟨λh=>by simp[Fence.wide] at h,callsIn_wide.2 (h.mono ?_)⟩;rintro e M ⟨u,rfl,C⟩;exact C
@[local go_sem] def aIw (v:Value) (w:World):(Instr.typeAssert (.iface 45 v) 20 45 J).run Tryz.prog w=.ok (.tuple #[v,.bool J]) w:=by kernel_rfl
set_option maxHeartbeats 1000000 in
set_option maxRecDepth 100000 in
def aF7 (b:Nat) (W:World):Calls Tryz.prog 35 #[.nilIface,.pointer (U ⟨b,0,Z⟩)] W λe X=>e=.returned (.tuple #[])/\X=W:=by
 go_enter Tryz.func35,Tryz.ntmps35;go_wp2
 (try simp only[Exit.inBlock,Exit.then]);refine bodyPost_ret (results_none rfl _ _ _) rfl ?_;exact⟨rfl,rfl⟩
set_option maxHeartbeats 1000000 in
set_option maxRecDepth 100000 in
def aF8 (b:Nat) (X k:Int) (W:World) (R:W.cell? ⟨b,0,Z⟩=U (.int I X)) (Q:W.frozen? ⟨b,0,Z⟩=E):Calls Tryz.prog 35 #[.iface 45 (.int I k),.pointer (U ⟨b,0,Z⟩)] W λe V=>e=.returned (.tuple #[])/\V=W.setCell ⟨b,0,Z⟩ (.int I k):=by
 go_enter Tryz.func35,Tryz.ntmps35;go_wp2
 go_end0
 exact⟨rfl,rfl⟩
def avz{u:Value}(h:X.heap[V]?=U (.cells #[u] L (0,0))):X.setCell ⟨V,0,Z⟩ O=X.putObj V (.cells #[O] L (0,0)):=by
 unfold World.setCell World.putObj;congr 1;apply Array.ext_getElem?;intro i;rw[aJ9,Array.getElem?_setIfInBounds];by_cases R:V=i;subst R;have Q:V<X.heap.size:=(aIX.1 h).1;rw[if_pos rfl,if_pos rfl,h,if_pos Q];rfl;rw[if_neg R,if_neg R]
def aiB{g:FuncId}{X:Func}{C:TypeId}{B A:String}{z y:Array Edge}(N:Tryz.prog.funcs[g]?=U X)(x:uB Tryz.prog g=J)(M:X.ntmps=3)(H:X.results= #[])
  (G:X.body=U (.region V #[⟨U 1,.call {callee:=.builtin .recover,args:= #[],argTypes:= #[]},L,B,z,Z⟩,⟨U 2,.call {callee:=.value (.func 35),args:= #[.tmp 1,.tmp 0],argTypes:= #[20,101]},C,A,y,Z⟩] E)):p9 Tryz.prog g 45:=by
 have F:∀D W,(callFunc 35 D).run Tryz.prog W=.ok (.enter 35 D) W:=wi (by kernel_rfl);refine⟨wi x,λW b=> ?_,λW b w k Q=> ?_⟩;refine callsDIn_of_wpSIn N G (by simp[Fence.wide]) λP O R=> ?_
 rw[M];refine avy (v:=.nilIface) (cs':=P::O) (f:=35) (args:= #[.nilIface,.pointer (U ⟨b,0,Z⟩)]) rfl rfl (.inr ⟨by simp[recoverD,R],rfl,rfl⟩) rfl (by simp[Oper.semAt,go_sem,Act.put,F]) ?_;refine(aF7 b W).mono ?_;rintro e u ⟨rfl,rfl⟩;refine⟨_,rfl,rfl,.returning,by rw[<-R],.tuple #[], ?_,⟨_,rfl⟩,rfl,rfl⟩;simp[results,H];refine callsDIn_of_wpSIn N G (by simp[Fence.wide]) λP O R=> ?_
 rw[M];refine avy (v:=.iface 45 (.int I k)) (cs':={P with mode:=.panicking [{v:=.iface 45 (.int I k),recovered:=J}]}::O) (f:=35) (args:= #[.iface 45 (.int I k),.pointer (U ⟨b,0,Z⟩)]) rfl rfl (.inl (by simp[recoverD,R])) rfl (by simp[Oper.semAt,go_sem,Act.put,F]) ?_;refine(aF8 b w k W (by simp[World.cell?,Q]) (by simp[World.frozen?,Q])).mono ?_;rintro e u ⟨rfl,rfl⟩;refine⟨_,rfl,rfl,_,rfl,.tuple #[], ?_,⟨_,rfl⟩,rfl,avz Q⟩;simp[results,H]
def aF9:p9 Tryz.prog 34 45:=aiB Tryz.func34 (by kernel_rfl) rfl rfl rfl
def aGa:p9 Tryz.prog 46 45:=aiB Tryz.func46 (by kernel_rfl) rfl rfl rfl
def aGb:p9 Tryz.prog 61 45:=aiB Tryz.func61 (by kernel_rfl) rfl rfl rfl
set_option maxHeartbeats 1000000 in
set_option maxRecDepth 100000 in
def aGc (W:World) (b:Nat):CallsDIn Fence.wide 0 Tryz.prog 151 #[.pointer (U ⟨b,0,Z⟩)] .returning W λR u Q=>(∃v,R=.returned v)/\u=.returning/\Q=W:=by
 refine callsDIn_of_wpSIn Tryz.func151 rfl (by simp[Fence.wide]) λV P X=> ?_
 have O:V={V with mode:=.returning}:=by rw[<-X]
 rw[Tryz.ntmps151];apply wpSIn_seq;apply wpSIn_region;simp[wpOpsSIn,go_sem,recoverD,X,Exit.thenS];refine wpSIn_of_wpIn rfl (wpIn_wide.2 ?_);go_wp2;refine⟨rfl,.returning,by rw[<-X],.tuple #[], ?_,⟨_,rfl⟩,rfl,rfl⟩;simp[results,Tryz.results151]
set_option maxHeartbeats 1000000 in
set_option maxRecDepth 100000 in
def aGd (W:World) (b:Nat) (V k:Int) (X:W.heap[b]?=U (.cells #[.int I V] 45 (0,0))):CallsDIn Fence.wide 0 Tryz.prog 151 #[.pointer (U ⟨b,0,Z⟩)] (.panicking [{v:=.iface 45 (.int I k),recovered:=E}]) W λR u Q=>(∃v,R=.returned v)/\u=.panicking [{v:=.iface 45 (.int I k),recovered:=J}]/\Q=W.putObj b (.cells #[.int I k] 45 (0,0)):=by
 have O:W.cell? ⟨b,0,Z⟩=U (.int I V):=by simp[World.cell?,X]
 have N:W.frozen? ⟨b,0,Z⟩=false:=by simp[World.frozen?,X]
 refine callsDIn_of_wpSIn Tryz.func151 rfl (by simp[Fence.wide]) λM L P=> ?_
 rw[Tryz.ntmps151];apply wpSIn_seq;apply wpSIn_region;simp[wpOpsSIn,go_sem,recoverD,P,Exit.thenS];refine wpSIn_of_wpIn rfl (wpIn_wide.2 ?_);go_wp2;refine⟨rfl,_,rfl,.tuple #[], ?_,⟨_,rfl⟩,rfl,avz X⟩;simp[results,Tryz.results151]
def aGe:p9 Tryz.prog 151 45:=⟨wi (by kernel_rfl),aGc,aGd⟩
section
open Go.Shelf
def Tryz.indexB_ren:Go.Shelf.Ren:=⟨λ|137=>272|217=>319|266=>357|n=>n,λ|9=>9|5=>5|3=>3|n=>n,λ|n=>n⟩
def Tryz.indexB:Go.Proofs.Lays.n137 Tryz.prog Tryz.indexB_ren:={mixed:=by kernel_rfl,f137:=dw Tryz.func272 (by kernel_rfl),f217:=dw Tryz.func319 (by kernel_rfl),f266:=dw Tryz.func357 (by kernel_rfl),t3:=Tryz.underlying3,a3:=Tryz.isAgg3,z3:=Tryz.sizeOf3,v3:=Tryz.zeroValue3,t5:=Tryz.underlying5,a5:=Tryz.isAgg5,z5:=Tryz.sizeOf5,v5:=Tryz.zeroValue5,t9:=Tryz.underlying9,a9:=Tryz.isAgg9,z9:=Tryz.sizeOf9,v9:=Tryz.zeroValue9}
def aGf:look PT 272=U [9,5]:=by kernel_rfl
def aGg:look SG 272=U [3]:=by kernel_rfl
def aGh:gJ (look TT) [9,5]=U [.ref .str,.int .u8]:=by kernel_rfl
def aGi:gJ (look TT) [3]=U [.int I]:=by kernel_rfl
def avA:∀(l:List UInt8)(b:UInt8),-1<=Lib.indexByte l b
 |[],_=>by simp[Lib.indexByte]
 |x::l,b=>by
  have:=avA l b;simp only[Lib.indexByte];split;omega;split<;>omega
def avB:∀(l:List UInt8)(b:UInt8)(k:Nat),Fh k l b=if Lib.indexByte l b=-1 then-1 else Lib.indexByte l b+k
 |[],_,_=>by simp[Fh,Lib.indexByte]
 |x::l,b,k=>by
  have V:=avB l b (k+1);have R:=avA l b;simp only[Fh,Lib.indexByte,beq_iff_eq];by_cases X:x=b;simp[X];rw[if_neg X,if_neg X,V];by_cases W:Lib.indexByte l b=-1;simp[W];rw[if_neg W,if_neg W,if_neg (by omega)];omega
def aGj(l:List UInt8)(b:UInt8):Fh 0 l b=Lib.indexByte l b:=by
 rw[avB];split;rename_i h;rw[h];simp
def aGk:qR M 272 Yt:=by
 intro o m l k N L H G F D out O Q P W j A;rw[aGf] at N;cases N;rw[aGg] at L;cases L;rw[aGh] at H;cases H;rw[aGi] at G;cases G;rcases D with _|⟨x,_|⟨y,_|⟨M,D⟩⟩⟩;exact P.elim;exact P.2.elim
 ·obtain⟨C,B,_⟩:=P;cases x with
  |i n=>exact C.elim
  |b n=>exact C.elim
  |r w=>
  cases y with
  |b n=>exact B.elim
  |r n=>exact B.elim
  |i c=>
  have v:=A 0 .str w rfl rfl;cases v with
  |str t=>
  rcases F with _|⟨u,_|⟨s,_|⟨g,F⟩⟩⟩;exact Q.elim;exact Q.2.elim
  ·obtain⟨V,R,_⟩:=Q;cases u with
   |i n=>exact V.elim
   |b n=>exact V.elim
   |r q=>
   cases s with
   |b n=>exact R.elim
   |r n=>exact R.elim
   |i X=>
   have R:X=c:=R;subst R;have V:cE q (.mk (.string t) []):=V;cases V with
   |val=>
   have O:U (bD.ret [.i (Fh 0 t.toList (UInt8.ofNat X.toNat))])=U out:=O;cases O;have h:=Any.strings_IndexByte Tryz.indexB t X W;refine Calls.mono (show Calls Tryz.prog 272 #[.string t,.int .u8 X] W _ from h) ?_;rintro e f ⟨rfl,rfl⟩;refine⟨_,[.i (Lib.indexByte t.data.toList X.toNat.toUInt8)],rfl,⟨?_,trivial⟩,⟨trivial,trivial⟩,rfl,Below.refl _ _,YU (by simp),λb p=>(atV (by simp) p).elim⟩;show Fh 0 t.toList (UInt8.ofNat X.toNat)=_;rw[aGj,ByteArray.toList_eq]
  exact Q.2.2.elim
 exact P.2.2.elim
def avC:∀{n:Nat}{R X:aV},zU R X->dU (aIL n (.int I)) X->∃l:bi,Y l=n/\R=l.map XV.i/\X=l.map XV.i
 |0,R,X,W,V=>by
  cases X with
  |cons _ _=>exact V.elim
  |nil=>
   cases R with
   |cons _ _=>exact W.elim
   |nil=>exact⟨[],rfl,rfl,rfl⟩
 |n+1,R,[],W,V=>V.elim
 |n+1,[],x::X,W,V=>W.elim
 |n+1,y::R,x::X,W,V=>by
  obtain⟨l,P,O,N⟩:=avC (n:=n) W.2 V.2;have e:=W.1;have f:=V.1;cases x with
  |b q=>exact f.elim
  |r q=>exact f.elim
  |i m=>
   cases y with
   |b q=>exact e.elim
   |r q=>exact e.elim
   |i Q=>
    have e:Q=m:=e;subst e;exact⟨Q::l,by simp[P],by simp[O],by simp[N]⟩
def avD(a b c d:Int):aM a b c d=K.ij.valid ⟨⟨a,b⟩,⟨c,d⟩⟩:=by
 rw[aJv];simp[aM,K.ij.valid,K.zd];omega
def aGl(a b c d X W V R:Int):yU a b c d X W V R= !(K.ij.sD ⟨⟨a,b⟩,⟨c,d⟩⟩ ⟨⟨X,W⟩,⟨V,R⟩⟩):=by
 simp only[yU,K.ij.sD,K.Range.sD,aLQ]
def aGm:look PT 26=U [65,65]:=by kernel_rfl
def aGn:look SG 26=U [4,45]:=by kernel_rfl
def k26:gJ (look TT) [65,65]=U (aIL 8 (.int I)):=by kernel_rfl
def q26:gJ (look TT) [4,45]=U [.bool,.int I]:=by kernel_rfl
def aGq(a b c d X W V R:Int):(uC (look TT) [65,65] (nU (aIL 8 (.int I)) [.i a,.i b,.i c,.i d,.i X,.i W,.i V,.i R])).toArray= #[K.ij.v ⟨⟨a,b⟩,⟨c,d⟩⟩,K.ij.v ⟨⟨X,W⟩,⟨V,R⟩⟩]:=by kernel_rfl
def aGr(x:Bool)(e:Int):Gt (uC (look TT) [4,45] (nU [.bool,.int I] [.b x,.i e]))=.tuple #[.bool x,.int I e]:=by kernel_rfl
def aGs{l:bi}(h:Y l=8):∃a b c d X W V R,l=[a,b,c,d,X,W,V,R]:=by
 match l,h with
 |[a,b,c,d,X,W,V,R],_=>exact⟨a,b,c,d,X,W,V,R,rfl⟩
def aGt:qR M 26 Ys:=by
 intro u t s r X V F D q p out L B A W o m;rw[aGm] at X;cases X;rw[aGn] at V;cases V;rw[k26] at F;cases F;rw[q26] at D;cases D;obtain⟨l,y,rfl,rfl⟩:=avC (n:=8) B A;obtain⟨a,b,c,d,Q,P,O,N,rfl⟩:=aGs y;have w:=aGq a b c d Q P O N;simp only[aIP,aJ7] at L⊢;rw[w];simp only[Ys,aID] at L;subst L;have H:∀(x:Bool)(e:Int)(G:World),Below W.heap.size W G->N8 (look TT) [4,45] [.bool,.int I] W (aIL 8 (.int I)) [.i a,.i b,.i c,.i d,.i Q,.i P,.i O,.i N] (.ret [.b x,.i e]) (.returned (.tuple #[.bool x,.int I e])) G:=λx e G R=>
  ⟨_,[.b x,.i e],rfl,⟨rfl,rfl,trivial⟩,⟨trivial,trivial,trivial⟩,(aGr x e).symm,R,YU (by simp),λb v=>(atV (by simp) v).elim⟩
 rw[avD,avD];by_cases X:K.ij.valid ⟨⟨a,b⟩,⟨c,d⟩⟩=J;by_cases V:K.ij.valid ⟨⟨Q,P⟩,⟨O,N⟩⟩=J;rw[X,V];refine(aBG _ _ X V (yU a b c d Q P O N) (by rw[aGl];simp) W).mono ?_;rintro e C ⟨rfl,R⟩;exact H _ _ _ R;have V:K.ij.valid ⟨⟨Q,P⟩,⟨O,N⟩⟩=false:=by simpa using V
 rw[X,V];refine(aBI _ _ X V W).mono ?_;rintro e C ⟨rfl,R⟩;exact H _ _ _ R;have X:K.ij.valid ⟨⟨a,b⟩,⟨c,d⟩⟩=false:=by simpa using X
 rw[X];refine(aBH _ _ X W).mono ?_;rintro e C ⟨rfl,R⟩;exact H _ _ _ R
def aGu(f:FuncId):qR M f (HS f):=by
 unfold HS;by_cases X:f=26;subst X;exact aGt;by_cases W:f=272;subst W;exact aGk;simp only[X,W,if_false];exact ahB f
end
def aGv(f:FuncId)(X:Fn)(h:TB.tree f=U X):bp f X.g X.d X.t:=by
 have h:Mj f=U X:=h;unfold Mj at h;split at h;cases h;exact aDF;cases h;exact aDG;cases h;exact aDH;cases h;exact aDI;cases h;exact aDJ;cases h;exact aDK;cases h;exact au3;cases h;exact au4;cases h;exact au5;cases h;exact aDL;cases h;exact aDM;cases h;exact au6;cases h;exact au7;cases h;exact au8;cases h;exact aDN;cases h;exact aDO;cases h;exact aDP;cases h;exact aDQ;cases h;exact aDR;cases h;exact aDS;cases h;exact aDT;cases h;exact aDU;cases h;exact aDV;cases h;exact aDW;cases h;exact aDX;cases h;exact aDY;cases h;exact aDZ;cases h;exact aD0;cases h;exact aD1;cases h;exact aEA;cases h;exact aEB;cases h;exact aEC;cases h;exact aED;cases h;exact aEE;cases h;exact aEF;cases h;exact aEG;cases h;exact aEH;cases h;exact aEI;cases h;exact aEJ;cases h;exact aEK;cases h;exact aEL;cases h;exact aEM;cases h;exact aEN Iu;cases h;exact aEO;cases h;exact aEP;cases h;exact aEQ;cases h;exact aER;cases h;exact aES Iu;cases h;exact aEU;cases h;exact aEV;cases h;exact aEW;cases h;exact aEX;cases h;exact aEY;cases h;exact aEZ;cases h;exact aE0 Iu;cases h;exact aE1;cases h;exact aE2;cases h;exact aE3 aGe;cases h;exact aE4 aF9;cases h;exact aE5 Iu aGa;cases h;exact aE6;cases h;exact aE7 Iu;cases h;exact aE8;cases h;exact aE9 Iu;cases h;exact aET;cases h;exact aFa;cases h;exact aFb Iu;cases h;exact aFc;cases h;exact aFd aGb;cases h;exact aFe;cases h;exact aFf;cases h;exact aFg;cases h;exact aFh;cases h;exact aFi;cases h;exact aFj;cases h;exact aFk;cases h;exact aFl;cases h;exact aFm;cases h;exact aFn;cases h;exact aFo;cases h;exact aFp;cases h;exact aFq;cases h;exact aFr;cases h;exact aFs;cases h;exact aFt;cases h;exact aFu;cases h;exact aFv;cases h;exact aFw;cases h;exact aFx;cases h;exact aFy;cases h;exact aFz;cases h;exact aFA;cases h;exact aFB;cases h;exact aFC;cases h;exact aFD;cases h;exact aFE;cases h;exact aFF;cases h;exact aFG;cases h;exact aFH;cases h;exact aFI;cases h;exact aFJ;cases h;exact aFK;cases h;exact aFL;cases h;exact aFM;cases h;exact aFN;cases h;exact aFO;cases h;exact aFP;cases h;exact aFQ;cases h;exact aFR;cases h;exact aFS;cases h;exact aFT;cases h;exact aFU;cases h;exact aFV;cases h;exact aFW;cases h;exact aFX;cases h;exact aFY;cases h;exact aFZ;cases h;exact aF0;cases h;exact ok3;cases h
def aGw:ahD TB true:=⟨aGv,λ_ _ _ _=>rfl,aGu⟩
def aGx:([32,35,36,3,37,38,39]:List TypeId).all (xB Tryz.prog (look TT) 9)=true:=by kernel_rfl
def pt3:look PT 3=U [32,35,36,3,37,38,39]:=by kernel_rfl
def aGz:look SG 3=U [4]:=by kernel_rfl
def qk3:gJ (look TT) [4]=U [.bool]:=by kernel_rfl
def k3:gJ (look TT) [32,35,36,3,37,38,39]=U [.int I,.int I,.int I,.int I,.int I,.ref (.sl 173),.int I,.ref (.sl 175),.ref (.sl 312),.ref (.sl 314),.ref (.sl 90),.ref (.sl 73),.ref (.sl 79),.int I,.ref (.sl 4),.ref (.sl 71),.ref (.sl 82)]:=by kernel_rfl
def r82:bq (look TT) (.sl 82)=[.aI (.slice Z 0 0) (.sl 96)]:=by kernel_rfl
def Iv{k:IntKind}(h:dU (.int k::F) D):∃n X,D=.i n::X/\dU F X:=by
 cases D with
 |nil=>exact h.elim
 |cons x D=>
  cases x with
  |i n=>exact⟨n,D,rfl,h.2⟩
  |b n=>exact h.1.elim
  |r n=>exact h.1.elim
def Bg{k:RK}(h:dU (.ref k::F) D):∃n X,D=.r n::X/\dU F X:=by
 cases D with
 |nil=>exact h.elim
 |cons x D=>
  cases x with
  |r n=>exact⟨n,D,rfl,h.2⟩
  |b n=>exact h.1.elim
  |i n=>exact h.1.elim
def zm(h:bu X C (.sl L) A)(R:pN A):Sl A:=by
 cases R with
 |mk A Q O=>
 cases h with
 |sl L V N M H P G F D B z=>
  refine⟨⟨_,_,_,rfl⟩, ?_,Q⟩;simp only[RV.lZ,RV.lA,lenOf,P]
def aGA(h:bu X (look TT) (.sl 82) A)(L:pN A):∀i<Y A.rows,Sl (cr 96 A i):=by
 intro i Q;cases L with
 |mk y x O=>
 cases h with
 |sl e V H G R w v F u t D=>
  rw[RV.lA] at Q O;have P:R[i]?=U R[i]:=aIA Q;have s:(R[i]).length=1:=by have:=(F i _ P).1;rw[r82] at this;exact this
  have N:(R[i])[0]?=U (R[i])[0]:=aIA (by omega);have C:=D i 0 _ _ _ _ P N (by rw[r82];rfl);have B:=O _ (aJl Q) _ (aJl (by omega:0<(R[i]).length));have M:=zm C B;have e:cr 96 (.mk (.slice V H G) R) i=(R[i])[0]:=by
   unfold cr cellAt;simp only[RV.lA,aJ0,aIC,P,N,aJd];obtain⟨a,n,c,z⟩:=M.sl;simp[cz,z]
  rw[e];exact M
def aGB(hS:TB.Ev 11 [] (.ret [.b J])){Q:Type}{ag:TypeId×Value->Q}{L:List Value}{o:List (DataW Q)}(hG:GW X)(hT:DataW.TrodAll ag Tryz.prog X V H M [32,35,36,3,37,38,39] L o R)(hw:∀q∈DataW.weightsEach Tryz.prog [32,35,36,3,37,38,39] o,q<=reachBytes)
  (hv:∀(j:Nat)(t:TypeId)(v:Value)(F:TI),([32,35,36,3,37,38,39]:List TypeId)[j]?=U t->L[j]?=U v->look TT t=U F->(F.d.isAgg=J/\v=.agg v.cells)\/(F.d.isAgg=E/\v.cells.toList=[v])):
  Calls Tryz.prog 3 L.toArray X λe m=>e=.returned (.bool J)/\Below X.heap.size X m:=by
 obtain⟨ks,xs,l,k,h3,P,O,h6⟩:=aF5 Mv aGx hT hw hv;rw[k3] at l;cases l;have hf:=k;obtain⟨Wd,x1,rfl,al⟩:=Iv hf;obtain⟨D,x2,rfl,an⟩:=Iv al;obtain⟨A,x3,rfl,a0⟩:=Iv an;obtain⟨B,x4,rfl,a1⟩:=Iv a0;obtain⟨C,x5,rfl,a3⟩:=Iv a1;obtain⟨g,x6,rfl,a4⟩:=Bg a3;obtain⟨a9,x7,rfl,bb⟩:=Iv a4;obtain⟨f,x8,rfl,bg⟩:=Bg bb;obtain⟨c,x9,rfl,bk⟩:=Bg bg;obtain⟨a,b5,rfl,bl⟩:=Bg bk;obtain⟨sg,b6,rfl,br⟩:=Bg bl;obtain⟨z,b7,rfl,bs⟩:=Bg br;obtain⟨x,Zn,rfl,bt⟩:=Bg bs;obtain⟨ab,b8,rfl,bx⟩:=Iv bt;obtain⟨w,ca,rfl,b0⟩:=Bg bx;obtain⟨u,cc,rfl,b1⟩:=Bg b0;obtain⟨G,b2,rfl,b3⟩:=Bg b1;cases b2 with
 |cons _ _=>exact b3.elim
 |nil=>
 have q0:=zm (P 5 _ g rfl rfl) (O _ (by simp));have q1:=zm (P 7 _ f rfl rfl) (O _ (by simp));have q2:=zm (P 8 _ c rfl rfl) (O _ (by simp));have q3:=zm (P 9 _ a rfl rfl) (O _ (by simp));have q4:=zm (P 10 _ sg rfl rfl) (O _ (by simp))
 letI:Inhabited dJ:=⟨⟨Wd,D,A,B,C,a9,g,f,c,a,sg⟩⟩
 have s1:gH:=⟨q0,q1,q2,q3,q4⟩;obtain⟨n,hn⟩:=t3 hS s1 ab z x w u G (zm (P 11 _ z rfl rfl) (O _ (by simp))) (zm (P 12 _ x rfl rfl) (O _ (by simp))) (zm (P 14 _ w rfl rfl) (O _ (by simp))) (zm (P 15 _ u rfl rfl) (O _ (by simp))) (zm (P 16 _ G rfl rfl) (O _ (by simp))) (aGA (P 16 _ G rfl rfl) (O _ (by simp)));have af:=YR aGw n 3 _ _ _ _ pt3 aGz k3 qk3 _ _ _ hn (YT _) k X (λ_=>hG) P;have b4:uC (look TT) [32,35,36,3,37,38,39] (nU _ (wk++[.r z,.r x,.i ab,.r w,.r u,.r G]))=L:=h3;rw[b4] at af;refine af.mono ?_;intro e m h;cases e with
 |returned v=>
  obtain⟨yh,s,p,N,e3,rfl,hB,_,_⟩:=h;cases p;cases s with
  |nil=>exact N.elim
  |cons y s=>
   cases s with
   |cons _ _=>exact N.2.elim
   |nil=>
    cases y with
    |b q=>
     have:J=q:=N.1;subst this;exact⟨rfl,hB⟩
    |i q=>exact N.1.elim
    |r q=>exact N.1.elim
 |panicked ch=>obtain⟨_,v,p,_⟩:=h;cases p
 |outgrown=>exact h.elim
section
open Go.ChangeShapes Go.RowKit
def aGC{H:Type}{G:TypeId×Value->H}(C:laidOutB N=J){F:World}(B:Below X.heap.size X F):∀{V:List TypeId}{Q:List Value}{O:List (DataW H)}{R:List MemPlace},V.all (λt=>N.readableRec t&&decide (t<N.types.size))=J->DataW.TrodAll G N X 0 (λ_=>J) J V Q O R->(∀x∈R,x.block<X.heap.size)->DataW.TrodAll G N F 0 (λb=>decide (b<X.heap.size)) J V Q O R:=by
 intro V;induction V with
 |nil=>
  intro Q O R _ h _;obtain⟨rfl,rfl,rfl⟩:=trodAll_nil h;exact rfl
 |cons t V A=>
  intro Q O R M h D;obtain⟨v,w,d,u,p,q,rfl,rfl,rfl,z,y⟩:=trodAll_cons h;simp only[aKv,aIy,decide_eq_true_eq] at M;exact⟨p,q,Go.RowKit.Below.trod C M.1.1 M.1.2 z B (λx L=>D x (by simp[L])),A (by simpa using M.2) y (λx L=>D x (by simp[L])),rfl⟩
def aGD:laidOutB Tryz.prog=true:=by kernel_rfl
def rd3:([32,35,36,3,37,38,39]:List TypeId).all (λt=>Tryz.prog.readableRec t&&decide (t<Tryz.prog.types.size))=true:=by kernel_rfl
def aGF{H:Type}{O:TypeId×Value->H}{N:World}{D C:List (DataW H)}(V:DataW.Whole O Tryz.prog Tryz.f3.params.toList [] E X Q.toList D C R)(M:Below X.heap.size X N):
  Go.Proofs.YtieaiocljdpebaaGreatDoor.Rows.certifySpecSpec.post O Tryz.prog Tryz.f3 E J E E X Q (.bool J) N:=by
 have B:=V.lt;have A:=V;obtain⟨p,q,L,z,rfl,_,_⟩:=V;obtain⟨rfl,rfl⟩:=trodVars_none z;have P:Tryz.f3.params.toList=[32,35,36,3,37,38,39]:=by rw[Tryz.params3]
 have G:=L;rw[P] at G;obtain⟨o,n,m,l,k,j,_,rfl,rfl,_,y⟩:=trodAll_cons G;obtain⟨i,g,f,e,d,c,_,rfl,rfl,_,w⟩:=trodAll_cons y;obtain⟨b,a,d3,e3,p3,q3,_,rfl,rfl,_,k3⟩:=trodAll_cons w;obtain⟨v4,r4,d4,e4,p4,q4,_,rfl,rfl,_,v⟩:=trodAll_cons k3;obtain⟨v5,r5,d5,e5,p5,q5,_,rfl,rfl,_,u⟩:=trodAll_cons v;obtain⟨v6,r6,d6,e6,p6,q6,_,rfl,rfl,_,t⟩:=trodAll_cons u;obtain⟨v7,r7,d7,e7,p7,q7,_,rfl,rfl,_,s⟩:=trodAll_cons t;obtain⟨_,rfl,rfl⟩:=trodAll_nil s;have F:=aGC aGD M rd3 (by rw[<-P];exact L) (λx r=>B x (by simpa using r));rw[<-P] at F;exact⟨_,_,_,[],_,[],A,trodAll_mk1 (shut_bool Tryz.underlying4 _),F,rfl,Below.frame M _,λh=>(by cases h)⟩
end
section
open Go.ChangeShapes Go.RowKit Go.ChangeAt
abbrev gn(k:Nat):String:=Go.Proofs.YtieaiocljdpebaaGreatDoor.Rows.certifySpecRow.named.getD k ""
abbrev L3{H:Type}:List (String×DataW H):=[(gn 1,Go.Proofs.YtieaiocljdpebaaGreatDoor.Rows.laid_kinesphere_space_flat),(gn 0,Go.Proofs.YtieaiocljdpebaaGreatDoor.Rows.laid_kinesphere_expand_kinds),(gn 2,Go.Proofs.YtieaiocljdpebaaGreatDoor.Rows.laid_kinesphere_motion_kinds)]
def aGG(kV:iu N C){G:TI}(h:C L=U G)(Q:Value.okWide N X .any V L O):(G.d.isAgg=J/\O=.agg O.cells)\/(G.d.isAgg=E/\O.cells.toList=[O]):=by
 have R:=(kV L G h).desc;have D:∀d,N.underlying L=U d->(∀F,d≠ .struct F)->(∀n e,d≠ .array n e)->O.cells.toList=[O]:=by
  intro d H z y;cases O<;>try rfl
  case agg B=>
   exfalso;unfold Value.okWide at Q;rw[H] at Q;cases d<;>first|exact z _ rfl|exact y _ _ rfl|simp[Cell.okWide,Cell.ok,H] at Q
 cases x:G.d<;>rw[x] at R
 case one=>
  obtain⟨d,H,⟨A,_⟩,_⟩:=R;exact .inr ⟨rfl,D d H (λF e=>by subst e;exact A) (λn e M=>by subst M;exact A)⟩
 case fh=>obtain⟨m,H⟩:=R;exact .inr ⟨rfl,D _ H (λF e=>by cases e) (λn e M=>by cases M)⟩
 case str=>exact .inr ⟨rfl,D _ R (λF e=>by cases e) (λn e M=>by cases M)⟩
 case slice e=>exact .inr ⟨rfl,D _ R (λF e=>by cases e) (λn e M=>by cases M)⟩
 case map k e n w=>exact .inr ⟨rfl,D _ R (λF e=>by cases e) (λn e M=>by cases M)⟩
 case arr n e=>
  have R:N.underlying L=U (.array n e):=R;unfold Value.okWide at Q;rw[R] at Q;obtain⟨B,rfl,_⟩:=Q;exact .inl ⟨rfl,rfl⟩
 case struct u=>
  obtain⟨F,H,_⟩:=R;unfold Value.okWide at Q;rw[H] at Q;obtain⟨B,rfl,_⟩:=Q;exact .inl ⟨rfl,rfl⟩
def aGH:ownKnob Tryz.prog.godebug=none:=by kernel_rfl
set_option maxRecDepth 100000 in
def aGI (C:TB.Ev 11 [] (.ret [.b J])) {H:Type} {O:TypeId×Value->H} {N M:List (DataW H)} (B:GW X)
  (A:∀(j:Nat) t v,Tryz.f3.params[j]?=U t->Q[j]?=U v->Value.okWide Tryz.prog X .any V t v) (L:DataW.Whole O Tryz.prog Tryz.f3.params.toList [] E X Q.toList N M R)
  (P:(DataW.weightsEach Tryz.prog (Tryz.f3.params.toList++[]) (N++M)).all (·<=reachBytes)=J):
  Calls Tryz.prog 3 Q X λe G=>∃v,e=.returned v/\Go.Proofs.YtieaiocljdpebaaGreatDoor.Rows.certifySpecSpec.post O Tryz.prog Tryz.f3 E J E E X Q v G:=by
 have z:=L;obtain⟨p,q,F,y,rfl,_,_⟩:=L;obtain⟨rfl,rfl⟩:=trodVars_none y;have D:Tryz.f3.params.toList=[32,35,36,3,37,38,39]:=by rw[Tryz.params3]
 rw[D] at F P;simp only[aKf,aIN,decide_eq_true_eq] at P;have x:=aGB C B F P (λj t v m w u s=>by
  have r:Tryz.f3.params[j]?=U t:=by rw[<-aKm,D];exact w
  have o:=A j t v r (by rw[<-aKm];exact u);exact aGG Mv s o)
 refine x.mono ?_;rintro e G ⟨rfl,n⟩;exact⟨_,rfl,aGF z n⟩

def aGJ(X:Os)(W:Array Value):laidMetH Tryz.prog L3 ((World.doorLaid Tryz.prog 400 X).forCall (λ_ _=>0) ⟨#[],W,[]⟩).memory:=
 laidMetH_of_parts3 (fuel:=8) (laidMet_of_run' 8 (by kernel_rfl) (by kernel_rfl)) (by kernel_rfl) (by kernel_rfl)
set_option maxHeartbeats 4000000 in
set_option maxRecDepth 100000 in
def aGK (P:TB.Ev 11 [] (.ret [.b J])) (O:∀W,laidMetH Tryz.prog L3 W->GW W) (V:Os) (started:V.Started) (H:Type) (R:TypeId×Value->H):
  ReturnsInHanded {} Tryz.checked V 3 .any (λw Q=>(Go.Proofs.YtieaiocljdpebaaGreatDoor.Rows.certifySpecSpec.pre R Tryz.prog Tryz.f3 [] E w Q/\laidMetH Tryz.prog L3 w)/\sizedMet R Tryz.prog Tryz.f3 (OpenSpec.ofChange Go.Proofs.YtieaiocljdpebaaGreatDoor.Rows.certifySpecSpec) E w Q)
   (Go.Proofs.YtieaiocljdpebaaGreatDoor.Rows.certifySpecSpec.post R Tryz.prog Tryz.f3 E J E E):=by
 refine returnsInHanded_of_change_and (C:=Tryz.checked) (X:=λw _=>laidMetH Tryz.prog L3 w) (λ_ _ _ N h=>h.of_heap N) aGH started (by kernel_rfl) Tryz.func3
  (ChangeSpec.witness_shaped (enc:=R) (C:=Tryz.checked) (os:=V) (X:=λw _=>laidMetH Tryz.prog L3 w) E (World.doorLaid Tryz.prog 400 V) #[.agg #[.int I 0,.int I 0,.int I 0,.int I 0,.int I 0,.slice Z 0 0,.int I 0,.slice Z 0 0,.slice Z 0 0,.slice Z 0 0,.slice Z 0 0],.agg #[.slice Z 0 0],.slice Z 0 0,.int I 0,.slice Z 0 0,.slice Z 0 0,.slice Z 0 0] 8 rfl (World.shaped_of_RefB (by kernel_rfl) (by kernel_rfl)) (by kernel_rfl) (by kernel_rfl) (by kernel_rfl) (aGJ V _)) ?_
 intro W D Q B A before M L _ G F _;exact aGI P (O W F) M L G
end
section
variable{P:Program}{ty:Ty}{W:World}
def xC{X:Type}(w:Nat):Nat->List X->List (List X)
 |0,_=>[]
 |n+1,l=>l.take w::xC w n (l.drop w)
def Rw{X:Type}{w:Nat}:∀{n:Nat}{l:List X},(xC w n l).length=n
 |0,_=>rfl
 |n+1,l=>by simp[xC,Rw (n:=n)]
def Zt{X:Type}{w:Nat}:∀{n:Nat}{l r:List X}{i:Nat},(xC w n l)[i]?=U r->i<n/\r=(l.drop (i*w)).take w
 |0,l,r,i,h=>by simp[xC] at h
 |n+1,l,r,0,h=>by simp[xC] at h;exact⟨by omega,by simp[h]⟩
 |n+1,l,r,i+1,h=>by
  simp only[xC,aJa] at h;obtain⟨R,V⟩:=Zt h;refine⟨by omega, ?_⟩;rw[V,aKr];congr 2;rw[aJC];omega
def MN{R:Type}{n:Nat}{l r:List R}{i j:Nat}{c:R}(h:(xC V n l)[i]?=U r)(X:r[j]?=U c):i<n/\j<V/\l[i*V+j]?=U c:=by
 obtain⟨Q,rfl⟩:=Zt h;rw[aI6] at X;split at X;rename_i O;rw[aJi] at X;exact⟨Q,O,X⟩;cases X
def Rx{H:Type}(P:Program)(t:TypeId)(d:DataW H)(w n:Nat):List (List RV):=xC w n ((aI5 (n*w)).map λj=>(mS P 9 t d j).getD default)
def aiC{g n w:Nat}{e t:TypeId}{H G:TI}{d:DataW Unit}(af:ty e=U H)(ag:ty t=U G)(hw:Y H.ae=w)(C:Y G.ae=n*w)(al:(aI5 n).map (λi=>(G.ae.drop (i*w)).take w)=aIL n H.ae)(an:xB P ty 9 t=J)
  (a0:DataW.trod (λ_=>()) P W 0 (λ_=>J) E V t Q.toList=U (d,R))(a1:(DataW.weights P t d).all (·<=reachBytes)=J)(a3:∀i,W.cell? ⟨g,i,Z⟩=Q[i]?)(hE:((aI5 (n*w)).all λj=>(mS P 9 t d j).isSome)=J)(a9:0<w):
  ∃y,bu W ty (.sl e) (.mk (.slice (U ⟨g,0,Z⟩) n n) y)/\cE (jJ g (Rx P t d w n)) (.mk (.slice (U ⟨g,0,Z⟩) n n) y):=by
 obtain⟨v,h2⟩:=Ru V 9 t G _ _ ag an a0 (λq hq=>of_decide_eq_true (aIN.1 a1 q hq));obtain⟨F,u,r2,r3,r4,r5,r6⟩:=aiy v h2;have a4:Y F=n*w:=by rw[<-aJn (f:=RV.val),u,v,C]
 have B:∀i j,i<n->j<w->G.ae[i*w+j]?=H.ae[j]?:=λi j s hj=>by
  have h:=congrArg (·[i]?) al;simp only[aIE,aJ1 s,aJD,if_pos s,aII,aID] at h;rw[<-h,aI6,if_pos hj,aJi]
 have D:bq ty (.sl e)=H.ae:=by simp[bq,af]
 have o:∀(i j:Nat)(r:List RV)(c:RV),(xC w n F)[i]?=U r->r[j]?=U c->W.cell? ⟨g,0+i*w+j,Z⟩=U c.val:=λi j r c X O=>by
  obtain⟨_,_,N⟩:=MN X O;have A:Q.toList[i*w+j]?=U c.val:=by rw[<-u,aIE,N];rfl
  rw[aI8,a3,<-aKm];exact A
 have m:∀(i:Nat)(r:List RV),(xC w n F)[i]?=U r->Y r=w:=λi r X=>by
  obtain⟨O,rfl⟩:=Zt X;have:(i+1)*w<=n*w:=aJM w O;rw[aJC] at this;rw[aJS,aJT,a4];omega
 refine⟨xC w n F,.sl e _ n n _ Rw (aIG _) (λi r X=> ?_) (λi j r c k X O N=> ?_) (λi j r c X O N=> ?_) (λi j r c z k X O N=> ?_), ?_⟩;rw[D,hw];have C:=m i r X;refine⟨C,g,0,rfl, ?_,λj c O=>o i j r c X O⟩;obtain⟨c,hc⟩:∃c,r[0]?=U c:=⟨_,aIA (by omega)⟩;exact avu (o i 0 r c X hc);rw[D] at N;obtain⟨M,L,q3⟩:=MN X O;exact r2 _ c k q3 (by rw[B i j M L];exact N);rw[D] at N;obtain⟨M,L,q3⟩:=MN X O;exact r3 _ c q3 (by rw[B i j M L];exact N);rw[D] at N;obtain⟨M,L,q3⟩:=MN X O;exact r4 _ c z k q3 (by rw[B i j M L];exact N);unfold jJ Rx;rw[Rw];refine cE.sl _ _ _ _ _ _ _ (by rw[Rw,Rw]) (λi r l X O=> ?_) (λi j r l c c' X O N A=> ?_);obtain⟨M,rfl⟩:=Zt X;have:(i+1)*w<=n*w:=aJM w M;rw[aJC] at this;rw[m i l O,aJS,aJT,aJn,List.length_range];omega;obtain⟨M,L,q3⟩:=MN X N;obtain⟨_,_,q4⟩:=MN O A;rw[aIE] at q3;have b:i*w+j<n*w:=by
  have:(i+1)*w<=n*w:=aJM w M;rw[aJC] at this;omega
 rw[aJ1 b] at q3;simp only[aII,aID] at q3;obtain⟨x,a⟩:=aIS.1 (aIN.1 hE _ (aJQ.2 b));rw[a,aJd] at q3;subst q3;exact r6 _ c' x q4 a
end
def aGL:Tryz.prog.globalNamed (gn 1)=U 2:=by kernel_rfl
def aGM:Tryz.prog.globalNamed (gn 0)=U 0:=by kernel_rfl
def aGN:Tryz.prog.globalNamed (gn 2)=U 1:=by kernel_rfl
def aGO:(Tryz.prog.globals[2]?).map (·.type)=U 301:=by kernel_rfl
def aGP:(Tryz.prog.globals[0]?).map (·.type)=U 246:=by kernel_rfl
def aGQ:(Tryz.prog.globals[1]?).map (·.type)=U 260:=by kernel_rfl
def aiD{n:String}(R:Tryz.prog.globalNamed n=U V)(O:X.var? Tryz.prog n=U Q)(i:Nat):X.cell? ⟨V,i,Z⟩=Q[i]?:=World.var?_cell R O i
def avF:∀(X:List XV)(O:aa),∃l,(O.ext X).r=O.r++l
 |[],O=>⟨[],by simp[aa.ext]⟩
 |x::X,O=>by
  obtain⟨l,h⟩:=avF X (O.add x);simp only[aa.ext,h];cases x<;>simp[aa.add]
def avG:iG=[jJ 0 (Rx Tryz.prog 246 (Go.Proofs.YtieaiocljdpebaaGreatDoor.Rows.laid_kinesphere_expand_kinds:DataW Unit) 6 10),jJ 1 (Rx Tryz.prog 260 (Go.Proofs.YtieaiocljdpebaaGreatDoor.Rows.laid_kinesphere_motion_kinds:DataW Unit) 2 10),jJ 2 (Rx Tryz.prog 301 (Go.Proofs.YtieaiocljdpebaaGreatDoor.Rows.laid_kinesphere_space_flat:DataW Unit) 2 8)]:=by kernel_rfl
def avH{X:Type}{p:Nat->X->Prop}{a b c:X}(V:p 0 a)(R:p 1 b)(Q:p 2 c):∀(k:Nat)(x:X),[a,b,c][k]?=U x->p k x
 |0,_,h=>aJb h▸V
 |1,_,h=>aJb h▸R
 |2,_,h=>aJb h▸Q
 |k+3,_,h=>(by simp at h)
def aGR(h:laidMetH Tryz.prog L3 X):GW X:=by
 rw[MakeChecks.laidMetH_plain _ _ _ (by kernel_rfl)] at h;obtain⟨a,⟨g0,t0,jD,f0,p0,q0,H,C,B,A,⟨g1,t1,af,f1,p1,q1,G,z,y,u,⟨g2,t2,ag,f2,p2,q2,F,s,r,q,_,_⟩,_⟩,_⟩,_,_⟩:=h;obtain rfl:=aJb (aGL.symm.trans H);obtain rfl:=aJb (aGM.symm.trans G);obtain rfl:=aJb (aGN.symm.trans F);obtain rfl:=aJb (aGO.symm.trans C);obtain rfl:=aJb (aGP.symm.trans z);obtain rfl:=aJb (aGQ.symm.trans s);obtain⟨R,o,m⟩:=aiC (P:=Tryz.prog) (ty:=look TT) (W:=X) (g:=0) (n:=10) (w:=6) (e:=245) (t:=246) rfl rfl rfl rfl rfl (by kernel_rfl) u (by kernel_rfl) (aiD G y) (by kernel_rfl) (by decide);obtain⟨Q,j,i⟩:=aiC (P:=Tryz.prog) (ty:=look TT) (W:=X) (g:=1) (n:=10) (w:=2) (e:=259) (t:=260) rfl rfl rfl rfl rfl (by kernel_rfl) q (by kernel_rfl) (aiD F r) (by kernel_rfl) (by decide);obtain⟨O,f,d⟩:=aiC (P:=Tryz.prog) (ty:=look TT) (W:=X) (g:=2) (n:=8) (w:=2) (e:=142) (t:=301) rfl rfl rfl rfl rfl (by kernel_rfl) A (by kernel_rfl) (aiD H B) (by kernel_rfl) (by decide);refine⟨[.mk (.slice (U ⟨0,0,Z⟩) 10 10) R,.mk (.slice (U ⟨1,0,Z⟩) 10 10) Q,.mk (.slice (U ⟨2,0,Z⟩) 8 8) O],by rw[avG];rfl,λk v V N L=> ?_,λk e M N L=> ?_,λc x D=> ?_⟩;rw[avG] at N;exact avH (p:=λk v=>∀V,[RV.mk (.slice (U ⟨0,0,Z⟩) 10 10) R,.mk (.slice (U ⟨1,0,Z⟩) 10 10) Q,.mk (.slice (U ⟨2,0,Z⟩) 8 8) O][k]?=U V->cE v V) (λV h=>aJb h▸m) (λV h=>aJb h▸i) (λV h=>aJb h▸d) k v N V L;exact avH (p:=λk e=>∀M,[RV.mk (.slice (U ⟨0,0,Z⟩) 10 10) R,.mk (.slice (U ⟨1,0,Z⟩) 10 10) Q,.mk (.slice (U ⟨2,0,Z⟩) 8 8) O][k]?=U M->bu X (look TT) e M) (λV h=>aJb h▸o) (λV h=>aJb h▸j) (λV h=>aJb h▸f) k e N M L;obtain⟨l,b⟩:=avF c ⟨[],[],[RV.mk (.slice (U ⟨0,0,Z⟩) 10 10) R,.mk (.slice (U ⟨1,0,Z⟩) 10 10) Q,.mk (.slice (U ⟨2,0,Z⟩) 8 8) O],[]⟩;simp only[GL,aIK,aKs,or_false] at D;unfold fJ aa.rv;rw[b];rcases D with rfl|rfl|rfl;exact⟨by simp,10,10,rfl⟩;exact⟨by simp,10,10,rfl⟩;exact⟨by simp,8,8,rfl⟩
