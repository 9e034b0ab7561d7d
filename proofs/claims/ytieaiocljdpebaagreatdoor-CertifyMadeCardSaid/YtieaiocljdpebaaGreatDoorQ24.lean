/- Part 24 of the proof; the last part says what is shown. -/
import Derived.Test.YtieaiocljdpebaaGreatDoorQ15
import Derived.Test.YtieaiocljdpebaaGreatDoorQ4
import Derived.Test.YtieaiocljdpebaaGreatDoorQ5
import Derived.Test.YtieaiocljdpebaaGreatDoorQ12
import Derived.Test.YtieaiocljdpebaaGreatDoorQ14
import Derived.Test.YtieaiocljdpebaaGreatDoorQ23
import Derived.Test.YtieaiocljdpebaaGreatDoorQ13
import Derived.Test.YtieaiocljdpebaaGreatDoorQ16
import Derived.Test.YtieaiocljdpebaaGreatDoorQ17
import Derived.Test.YtieaiocljdpebaaGreatDoorQ18
import Derived.Test.YtieaiocljdpebaaGreatDoorQ19
import Derived.Test.YtieaiocljdpebaaGreatDoorQ20
import Derived.Test.YtieaiocljdpebaaGreatDoorQ21
import Derived.Test.YtieaiocljdpebaaGreatDoorQ22
import Derived.ChangeArms
import Derived.DataReads
import Derived.OpenShut
import Derived.RecoverIn
import Derived.Shelf.Small.Strs
set_option linter.all false
open Bool renaming and_eq_true->axI,false_eq_true->ax3,eq_iff_iff->ayS,and_assoc->aAX
open List renaming getElem?_eq_some_iff->axJ,getElem?_eq_getElem->axK,getElem?_append_left->axL,getElem?_map->axO,getElem?_append_right->axP,mem_cons->axT,mem_append->axS,nil_append->ax2,map_cons->axV,replicate->axW,all_eq_true->axU,range->ax6,mem_of_getElem?->ax4,mem_map->aya,any_eq_true->ayh,getElem?_take->ayi,getElem?_drop->ayq,getElem?_of_mem->ayx,length_map->ayA,take_of_length_le->ay0,mem_range->ayR,map_nil->ay2,getElem_mem->ayT,getElem?_range->ay7,mem_of_find?_eq_some->azm,map->azC,all_cons->azx,find?_some->az0,take_append_of_le_length->azQ,getElem?_zip_eq_some->az2,drop_append_of_le_length->aAs,drop_of_length_le->aAS
open Option.some renaming injEq->axM,inj->aym
open Nat renaming le_refl->axQ,eq_zero_or_pos->ayW,mul_comm->az6,mod_lt->azX,div_lt_of_lt_mul->aAl,div_add_mod->aAm,sub_self->aAn
open Option renaming map_some->axR,isSome_iff_exists->ax1,getD_some->ayo,bind_eq_some_iff->aAN
open Array renaming getElem?_eq_some_iff->ax9,getElem?_modify->azk
namespace Go.Proofs.YtieaiocljdpebaaGreatDoor.Y
open Go.RowKit
noncomputable section
variable{V:World}{Z:Value}{X:Nat}
section
def TJ:CT->CT->Bool
 |.int k,.int Z=>decide (k=Z)
 |.bool,.bool=>true
 |.aq _ k,.aq _ Z=>decide (k=Z)
 |_,_=>false
def xW:List CT->List CT->Bool
 |[],[]=>true
 |c::l,Z::X=>TJ c Z&&xW l X
 |_,_=>false
def TK:∀{l X:List CT},xW l X=true->l.length=X.length/\∀(j:Nat)(c Z:CT),l[j]?=some c->X[j]?=some Z->TJ c Z=true
 |[],[],_=>⟨rfl,λj c Z h _=>by simp at h⟩
 |[],_::_,h=>by cases h
 |_::_,[],h=>by cases h
 |a::l,b::X,h=>by
  simp only[xW,axI] at h;obtain⟨R,Q⟩:=TK h.2;refine⟨by simp[R],λj c Z V U=> ?_⟩;cases j with
  |zero=>simp at V U;subst V;subst U;exact h.1
  |succ j=>exact Q j c Z (by simpa using V) (by simpa using U)
inductive nR:RV->Prop
 |mk (rv:RV) (h:rv.rows.length<=140737488355328) (h2:∀row∈rv.rows,∀c∈row,nR c):nR rv
def nR.TL(v:Value):nR (.mk v []):=.mk _ (by simp[RV.jz]) (by simp[RV.jz])
def vR(g:Ty)(W:World)(E:Option RV):CT->Value->Prop
 |.int k,v=>(∃n,v=.int k n/\(Lit.int k n).wf=true)/\∀r,E=some r->r=.mk v []
 |.bool,v=>(∃b,v=.bool b)/\∀r,E=some r->r=.mk v []
 |.aq _ k,v=>∃Z:RV,Z.val=v/\aX W g k Z/\nR Z/\∀r,E=some r->bW r Z
def vR.abJ{g:Ty}{E:Option RV}{a b:CT}(h:TJ a b=true)(k:vR g V E b Z):vR g V E a Z:=by
 cases a<;>cases b<;>simp only[TJ,decide_eq_true_eq,ax3] at h;subst h;exact k;exact k;subst h;exact k
def ud(P:Program)(g:Ty):Nat->TypeId->Bool
 |0,_=>false
 |n+1,t=>match g t with
  |none=>false
  |some Z=>match P.underlying t with
   |some (.int k)=>xW Z.ab [.int k]
   |some .bool=>xW Z.ab [.bool]
   |some .string=>xW Z.ab [.aq undef .str]
   |some (.slice e)=>xW Z.ab [.aq undef (.sl e)]&&ud P g n e&&decide (P.cellsOf e=(ba g (.sl e)).length)&&decide (P.cellsOf e≠0)&&decide (P.bytesOf e≠0)
   |some (.struct U)=>decide (P.cellsOf t=Z.ab.length)&&U.toList.all (λf=>ud P g n f.type&&(match g f.type with
     |some V=>decide (P.cellsOf f.type=V.ab.length)&&xW ((Z.ab.drop f.offset).take V.ab.length) V.ab
     |none=>false))&&(ax6 Z.ab.length).all λj=>U.toList.any λf=>decide (f.offset<=j)&&decide (j<f.offset+P.cellsOf f.type)
   |some (.array k e)=>decide (P.cellsOf t=Z.ab.length)&&ud P g n e&&(match g e with
     |some X=>decide (P.cellsOf e=X.ab.length)&&decide (Z.ab.length=k*X.ab.length)&&(ax6 k).all λi=>xW ((Z.ab.drop (i*X.ab.length)).take X.ab.length) X.ab
     |none=>false)
   |_=>false
def kU{H:Type}(P:Program):Nat->TypeId->DataW H->Nat->Option RV
 |0,_,_,_=>none
 |n+1,t,d,j=>match P.underlying t,d with
  |some (.int _),.lit (.int k q)=>some (.mk (.int k q) [])
  |some .bool,.lit (.bool b)=>some (.mk (.bool b) [])
  |some (.slice e),.slice Z _=>if(Z.all λd=>(ax6 (P.cellsOf e)).all λj=>(kU P n e d j).isSome) then some (.mk (.slice none Z.length Z.length) (Z.map λd=>(ax6 (P.cellsOf e)).map λj=>(kU P n e d j).getD default)) else none
  |some (.slice _),.nil=>some (.mk (.slice none 0 0) [])
  |some (.struct V),.agg X=>match(V.toList.zip X).find? λf=>decide (f.1.offset<=j)&&decide (j<f.1.offset+P.cellsOf f.1.type) with
   |some f=>kU P n f.1.type f.2 (j-f.1.offset)
   |none=>none
  |some (.array _ e),.agg X=>match X[j/P.cellsOf e]? with
   |some d=>kU P n e d (j%P.cellsOf e)
   |none=>none
  |_,_=>none
section
variable{P:Program}{g:Ty}{W:World}
def MD{E:Nat->Option RV}{ab:List CT}{c:CT}(h:xW ab [c]=true)(k:vR g W (E 0) c Z):[Z].length=ab.length/\∀(j:Nat)(X:CT)(u:Value),ab[j]?=some X->[Z][j]?=some u->vR g W (E j) X u:=by
 obtain⟨U,R⟩:=TK h;refine⟨by simp[U],λj X u Q V=> ?_⟩;cases j with
 |zero=>simp at V;subst V;exact vR.abJ (R 0 X c Q rfl) k
 |succ j=>simp at V
def abK:∀{E:Nat->Option RV}{ab:List CT}{cs:List Value},cs.length=ab.length->(∀(j:Nat)(R:CT)(v:Value),ab[j]?=some R->cs[j]?=some v->vR g W (E j) R v)->
  ∃Q:List RV,Q.map RV.val=cs/\(∀(j:Nat)(c:RV)(k:IntKind),Q[j]?=some c->ab[j]?=some (.int k)->∃n,c.val=.int k n)/\(∀(j:Nat)(c:RV),Q[j]?=some c->ab[j]?=some .bool->∃x,c.val=.bool x)/\(∀(j:Nat)(c:RV)(z:Value)(k:RK),Q[j]?=some c->ab[j]?=some (.aq z k)->aX W g k c)/\(∀c∈Q,nR c)/\∀(j:Nat)(c r:RV),Q[j]?=some c->E j=some r->bW r c
 |_,[],[],_,_=>⟨[],rfl,λj c k h=>by simp at h,λj c h=>by simp at h,λj c z k h=>by simp at h,by simp,λj c r h=>by simp at h⟩
 |_,[],_::_,h,_=>by simp at h
 |_,_::_,[],h,_=>by simp at h
 |E,R::ab,v::cs,J,h=>by
  obtain⟨Q,I,H,G,F,D,C⟩:=abK (E:=λj=>E (j+1)) (ab:=ab) (cs:=cs) (by simpa using J) (λj c u B O=>h (j+1) c u (by simpa using B) (by simpa using O));obtain⟨r,N,O,A,y,w,t⟩:∃r:RV,r.val=v/\(∀k,R=.int k->∃n,r.val=.int k n)/\(R=.bool->∃x,r.val=.bool x)/\(∀z k,R=.aq z k->aX W g k r)/\nR r/\∀V,E 0=some V->bW V r:=by
   have U:=h 0 R v rfl rfl;cases R with
   |int k=>exact⟨.mk v [],rfl,λM e=>(by cases e;obtain⟨⟨n,s,_⟩,_⟩:=U;exact⟨n,s⟩),λe=>(by cases e),λz k e=>(by cases e),nR.TL v,λV L=>by rw[U.2 V L];exact bW.refl _⟩
   |bool=>exact⟨.mk v [],rfl,λM e=>(by cases e),λ_=>U.1,λz k e=>(by cases e),nR.TL v,λV L=>by rw[U.2 V L];exact bW.refl _⟩
   |aq z k=>
    obtain⟨r,N,q,bv,p⟩:=U;exact⟨r,N,λM e=>(by cases e),λe=>(by cases e),λo M e=>(by cases e;exact q),bv,p⟩
  refine⟨r::Q,by simp[N,I],λj c k Z X=> ?_,λj c Z X=> ?_,λj c z k Z X=> ?_,λc U=>(axT.1 U).elim (λe=>e▸w) (λU=>D c U),λj c V Z X=> ?_⟩;cases j with
  |zero=>simp at Z X;subst Z;exact O k X
  |succ j=>exact H j c k (by simpa using Z) (by simpa using X)
  cases j with
  |zero=>simp at Z X;subst Z;exact A X
  |succ j=>exact G j c (by simpa using Z) (by simpa using X)
  cases j with
  |zero=>simp at Z X;subst Z;exact y z k X
  |succ j=>exact F j c z k (by simpa using Z) (by simpa using X)
  cases j with
  |zero=>simp at Z;subst Z;exact t V X
  |succ j=>exact C j c V (by simpa using Z) X
def amf{α:Type}{R:Nat->α->Prop}:∀(n:Nat),(∀i,i<n->∃x,R i x)->∃l:List α,l.length=n/\∀(i:Nat)(x:α),l[i]?=some x->R i x
 |0,_=>⟨[],rfl,λi x h=>by simp at h⟩
 |n+1,h=>by
  obtain⟨l,X,V⟩:=amf n (λi U=>h i (by omega));obtain⟨x,Q⟩:=h n (by omega);refine⟨l++[x],by simp[X],λi y Z=> ?_⟩;by_cases U:i<n;rw[axL (by omega)] at Z;exact V i y Z;rw[axP (by omega)] at Z;have:i=n:=by
   cases O:i-l.length with
   |zero=>omega
   |succ q=>rw[O] at Z;simp at Z
  subst this;rw[X,aAn] at Z;simp at Z;subst Z;exact Q
def abL{H:Type}{P:Program}{e:TypeId}{q:Nat}:∀{l:List (DataW H)}{d:DataW H},d∈l->q∈DataW.weights P e d->q∈DataW.weightsAll P e l
 |[],_,h,_=>by simp at h
 |x::l,d,h,Z=>by
  simp only[DataW.weightsAll,axS];rcases axT.1 h with rfl|h;exact .inl Z;exact .inr (abL h Z)
def amg{H:Type}{P:Program}{q:Nat}:∀{Z:List TypeId}{l:List (DataW H)}{i:Nat}{t:TypeId}{d:DataW H},Z[i]?=some t->l[i]?=some d->q∈DataW.weights P t d->q∈DataW.weightsEach P Z l
 |[],_,_,_,_,h,_,_=>by simp at h
 |_::_,[],_,_,_,_,h,_=>by simp at h
 |R::Z,Q::l,i,t,d,X,V,U=>by
  simp only[DataW.weightsEach,axS];cases i with
  |zero=>simp at X V;subst X;subst V;exact .inl U
  |succ i=>exact .inr (amg (i:=i) (by simpa using X) (by simpa using V) U)
def amh{U:Nat}(h:W.cell? ⟨X,U,none⟩=some Z):∃R t V,W.heap[X]?=some (.cells R t V):=by
 unfold World.cell? at h;split at h;rename_i c t V Q;exact⟨c,t,V,Q⟩;cases h
structure ami{H:Type}(P:Program)(g:Ty)(W:World)(n:Nat)(e:TypeId)(ab:List CT)(a:Addr)(elems:List (DataW H×List MemPlace))(i:Nat)(row:List RV):Prop where
 len:row.length=ab.length
 sp:a.spot=none
 iN:∃cs t fr,W.heap[a.block]?=some (.cells cs t fr)
 cell:∀(j:Nat)(c:RV),row[j]?=some c->W.cell? ⟨a.block,a.off+i*ab.length+j,none⟩=some c.val
 hi:∀(j:Nat)(c:RV)(k:IntKind),row[j]?=some c->ab[j]?=some (.int k)->∃n,c.val=.int k n
 hb:∀(j:Nat)(c:RV),row[j]?=some c->ab[j]?=some .bool->∃x,c.val=.bool x
 ho:∀(j:Nat)(c:RV)(z:Value)(k:RK),row[j]?=some c->ab[j]?=some (.aq z k)->aX W g k c
 bnd:∀c∈row,nR c
 eq:∀(j:Nat)(c r:RV)(x:DataW H×List MemPlace),row[j]?=some c->elems[i]?=some x->kU P n e x.1 j=some r->bW r c
def ME{H:Type}{b0:TypeId×Value->H}{b1:Nat}{spare:Nat->Bool}{b2:Bool}:∀(b3 m:Nat)(t:TypeId)(w:TI)(cs:List Value)(x:DataW H×List MemPlace),g t=some w->ud P g m t=true->DataW.trod b0 P W b1 spare b2 b3 t cs=some x->(∀q∈DataW.weights P t x.1,q<=reachBytes)->
  cs.length=w.ab.length/\∀(j:Nat)(ct:CT)(v:Value),w.ab[j]?=some ct->cs[j]?=some v->vR g W (kU P m t x.1 j) ct v
 |0,_,_,_,_,_,_,_,h,_=>by simp[DataW.trod] at h
 |_+1,0,_,_,_,_,_,O,_,_=>by simp[ud] at O
 |n+1,m+1,t,w,cs,x,ht,O,h,o=>by
  simp only[ud,ht] at O;cases Q:P.underlying t with
  |none=>rw[Q] at O;cases O
  |some d=>
   rw[Q] at O;cases d<;>simp only[ax3] at O
   case int k=>
    obtain⟨q,rfl,rfl,b4⟩:=DataW.trod_int Q h;exact MD O ⟨⟨q,rfl,b4⟩,λr Z=>by simp only[kU,Q,axM] at Z;exact Z.symm⟩
   case bool=>
    obtain⟨q,rfl,rfl⟩:=DataW.trod_bool Q h;exact MD O ⟨⟨q,rfl⟩,λr Z=>by simp only[kU,Q,axM] at Z;exact Z.symm⟩
   case string=>
    obtain⟨q,rfl,_⟩:=DataW.trod_string Q h;exact MD O ⟨.mk (.string q) [],rfl,.str q,nR.TL _,λr Z=>by simp[kU,Q] at Z⟩
   case slice e=>
    simp only[axI,decide_eq_true_eq] at O;obtain⟨⟨⟨⟨g1,G⟩,M⟩,g4⟩,g6⟩:=O;rcases DataW.trod_slice Q h with⟨rfl,L⟩|⟨a,ac,a6,C,a7,n',hn,rfl,L,hb,b5,cy,a8,a9,_,_⟩;exact MD g1 ⟨.mk (.slice none 0 0) [],rfl,.sl e none 0 0 [] rfl (axQ _) (λi X Z=>by simp at Z) (λi j X c k Z=>by simp at Z) (λi j X c Z=>by simp at Z) (λi j X c z k Z=>by simp at Z),nR.TL _,λr Z=>by
     simp only[kU,Q,L,axM] at Z;subst Z;exact bW.refl _⟩
    cases hn;subst L;simp only[DataW.weights,Q,axT,axS] at o;have cI:ac<=140737488355328:=by
     have F:=o _ (.inl rfl);have V:(C.map (·.1)).length+(a7.map (·.1)).length<=((C.map (·.1)).length+(a7.map (·.1)).length)*P.bytesOf e:=Nat.le_mul_of_pos_right _ (by omega);simp only[ayA] at F V;have E:reachBytes<=140737488355328:=by decide
     omega
    have al:∃N,g e=some N:=by
     cases m with
     |zero=>simp[ud] at G
     |succ m=>
      cases J:g e with
      |none=>simp[ud,J] at G
      |some N=>exact⟨N,rfl⟩
    obtain⟨N,al⟩:=al;have ag:ba g (.sl e)=N.ab:=by simp[ba,al]
    rw[ag] at M;have b6:∀i,i<ac->∃X:List RV,ami P g W m e N.ab a C i X:=by
     intro i B;have V:=a9 i B;have af:i<C.length:=by omega
     rw[axK af,aAN] at V;obtain⟨ci,V,E⟩:=V;obtain⟨q1,q2⟩:=ME n m e N ci _ al G E (λq J=>o q (.inr (.inl (abL (aya.2 ⟨_,ayT af,rfl⟩) J))));obtain⟨_,c1,c2⟩:=World.cells?_some V;obtain⟨X,r1,r2,r3,r4,r5,r6⟩:=abK q1 q2;have bb:X.length=N.ab.length:=by rw[<-ayA (f:=RV.val),r1,q1]
     have an:a.spot=none:=by
      have F:=a9 0 (by omega);rw[axK (by omega),aAN] at F;obtain⟨c0,F,_⟩:=F;obtain⟨_,d1,d2⟩:=World.cells?_some F;have l:=d2 0 (by omega);rw[Nat.zero_mul,axK (by omega)] at l;simp only[Addr.add,if_true] at l;unfold World.cell? at l;split at l;split at l;cases l;rename_i hs;simpa using hs;cases l
     have bd:∀(j:Nat)(c:RV),X[j]?=some c->W.cell? ⟨a.block,a.off+i*N.ab.length+j,none⟩=some c.val:=by
      intro j c I;have c5:j<N.ab.length:=by rw[<-bb];exact(axJ.1 I).1
      have c3:=c2 j (by omega);have c4:ci[j]?=some c.val:=by rw[<-r1,axO,I];rfl
      rw[c4] at c3;have ha:(a.add (i*P.cellsOf e)).add j=⟨a.block,a.off+i*N.ab.length+j,none⟩:=by
       rw[M];unfold Addr.add;cases a with
       |mk iN c6 sp=>
        simp only at an;subst an;by_cases q5:i*N.ab.length=0<;>by_cases q6:j=0<;>simp[q5,q6]
      rw[ha] at c3;exact c3
     refine⟨X,bb,an, ?_,bd,r2,r3,r4,r5,λj c r x g1 G M=>r6 j c r g1 (by rw[axK af] at G;cases G;exact M)⟩;have bf:0<N.ab.length:=by omega
     obtain⟨c,A⟩:∃c,X[0]?=some c:=⟨_,axK (by omega)⟩;exact amh (bd 0 c A)
    obtain⟨bk,l1,b⟩:=amf (α:=List RV) (R:=ami P g W m e N.ab a C) ac b6;refine MD g1 ⟨.mk (.slice (some a) ac a6) bk,rfl,.sl e (some a) ac a6 bk l1 b5 (λi X Z=> ?_) (λi j X c k Z A u=> ?_) (λi j X c Z A u=> ?_) (λi j X c z k Z A u=> ?_),.mk _ (by rw[RV.jz];omega) (λX Z c A=> ?_),λr Z=> ?_⟩;have p:=b i X Z;rw[ag];refine⟨p.len,a.block,a.off, ?_,p.iN,p.cell⟩;have p2:=p.sp;cases a;simp only at p2;subst p2;rfl;rw[ag] at u;exact(b i X Z).hi j c k A u;rw[ag] at u;exact(b i X Z).hb j c A u;rw[ag] at u;exact(b i X Z).ho j c z k A u;rw[RV.jz] at Z;obtain⟨i,B⟩:=ayx Z;exact(b i X B).bnd c A;simp only[kU,Q] at Z;split at Z;rename_i b7;cases Z;have br:C.length=ac:=by omega
    rw[ayA,br];have get:∀(i:Nat)(X:List RV),(azC (λd=>azC (λj=>(kU P m e d j).getD default) (ax6 (P.cellsOf e))) (C.map (·.1)))[i]?=some X->∃x,C[i]?=some x/\X=(ax6 (P.cellsOf e)).map λj=>(kU P m e x.1 j).getD default:=by
     intro i X V;rw[axO,axO] at V;cases L:C[i]? with
     |none=>rw[L] at V;cases V
     |some x=>rw[L] at V;simp only[axR,axM] at V;exact⟨x,rfl,V.symm⟩
    refine bW.sl _ _ _ _ _ _ _ (by simp[l1,br]) (λi X a0 V E=> ?_) (λi j X a0 c c' V E s h4=> ?_);obtain⟨x,_,rfl⟩:=get i X V;rw[(b i a0 E).len];simp[M];obtain⟨x,L,rfl⟩:=get i X V;rw[axO] at s;cases I:(ax6 (P.cellsOf e))[j]? with
    |none=>rw[I] at s;cases s
    |some j'=>
     have a1:j<P.cellsOf e:=by have:=(axJ.1 I).1;simpa using this
     rw[ay7 a1] at I;cases I;rw[ay7 a1] at s;simp only[axR,axM] at s;have:=axU.1 (axU.1 b7 x.1 (aya.2 ⟨x,ax4 L,rfl⟩)) j (ayR.2 a1);obtain⟨r,Z⟩:=ax1.1 this;rw[Z] at s;simp only[ayo] at s;subst s;exact(b i a0 E).eq j c' r x h4 L Z
    cases Z
   case struct y=>
    simp only[axI,decide_eq_true_eq,axU,ayh,ayR] at O;obtain⟨⟨g1,G⟩,M⟩:=O;obtain⟨D,n',hn,L,b8,ca,hf⟩:=DataW.trod_struct Q h;cases hn;subst L;simp only[DataW.weights,Q] at o;refine⟨by omega,λj ct v V E=> ?_⟩;have I:j<w.ab.length:=(axJ.1 V).1;obtain⟨f0,cc,cf,ch⟩:=M j I;have c7:(y.toList.zip (D.map (·.1))).length=y.size:=by simp;omega
    obtain⟨fd,a2⟩:∃fd,(y.toList.zip (D.map (·.1))).find? (λf=>decide (f.1.offset<=j)&&decide (j<f.1.offset+P.cellsOf f.1.type))=some fd:=by
     obtain⟨i0,a3⟩:=ayx cc;have cl:i0<y.size:=by have:=(axJ.1 a3).1;simpa using this
     refine ax1.1 (List.find?_isSome.2 ⟨((y.toList.zip (D.map (·.1)))[i0]'(by omega)),ayT _, ?_⟩);have:f0=y.toList[i0]:=by rw[axK (by simpa using cl)] at a3;exact(aym a3).symm
     simp only[List.getElem_zip,<-this,axI,decide_eq_true_eq];exact⟨cf,ch⟩
    have bs:=az0 a2;simp only[axI,decide_eq_true_eq] at bs;obtain⟨bt,bx⟩:=bs;obtain⟨iz,cp⟩:=ayx (azm a2);obtain⟨f,dd⟩:=fd;have a4:=az2.1 cp;have bt:f.offset<=j:=bt;have bx:j<f.offset+P.cellsOf f.type:=bx;have cv:f∈y.toList:=ax4 a4.1;obtain⟨k1,k2⟩:=G f cv;cases J:g f.type with
    |none=>rw[J] at k2;cases k2
    |some fi=>
     rw[J] at k2;simp only[axI,decide_eq_true_eq] at k2;obtain⟨k3,k4⟩:=k2;have B:=a4.1;have af:y[iz]?=some f:=by simpa using B
     have c8:iz<y.size:=(ax9.1 af).1;have e1:=hf iz f af;rw[axK (by omega)] at e1;obtain⟨q1,q2⟩:=ME n m f.type fi _ _ J k1 e1 (λq a5=>o q (amg (i:=iz) (by simp[B]) (by simp[show iz<D.length by omega]) a5));obtain⟨_,q4⟩:=TK k4;have bX:j-f.offset<fi.ab.length:=by omega
     have ej:f.offset+(j-f.offset)=j:=by omega
     have v1:((cs.drop f.offset).take (P.cellsOf f.type))[j-f.offset]?=some v:=by
      rw[ayi,if_pos (by omega),ayq,ej];exact E
     have v2:((w.ab.drop f.offset).take fi.ab.length)[j-f.offset]?=some ct:=by
      rw[ayi,if_pos bX,ayq,ej];exact V
     have v3:fi.ab[j-f.offset]?=some fi.ab[j-f.offset]:=axK bX;have cx:dd=(D[iz]'(by omega)).1:=by
      have:=a4.2;rw[axO,axK (by omega)] at this;exact(aym this).symm
     have hE:kU P (m+1) t (.agg (D.map (·.1))) j=kU P m f.type (D[iz]'(by omega)).1 (j-f.offset):=by
      simp only[kU,Q,a2,cx]
     rw[hE];exact vR.abJ (q4 _ _ _ v2 v3) (q2 _ _ _ v3 v1)
   case array k e=>
    simp only[axI,decide_eq_true_eq] at O;obtain⟨⟨g1,G⟩,M⟩:=O;cases J:g e with
    |none=>rw[J] at M;cases M
    |some U=>
     rw[J] at M;simp only[axI,decide_eq_true_eq,axU,ayR] at M;obtain⟨⟨g4,g5⟩,g6⟩:=M;obtain⟨D,n',hn,L,b8,ca,a8⟩:=DataW.trod_array Q h;cases hn;subst L;simp only[DataW.weights,Q] at o;refine⟨by omega,λj ct v V E=> ?_⟩;have I:j<w.ab.length:=(axJ.1 V).1;have bf:0<U.ab.length:=by
      rcases ayW U.ab.length with F|F;rw[g5,F] at I;omega;exact F
     have B:j/U.ab.length<k:=aAl (by rw[az6];omega);have Z:j%U.ab.length<U.ab.length:=azX _ bf;have ej:j/U.ab.length*U.ab.length+j%U.ab.length=j:=by have:=aAm j U.ab.length;rw[az6] at this;exact this
     have e1:=a8 (j/U.ab.length) B;rw[axK (by omega)] at e1;obtain⟨q1,q2⟩:=ME n m e U _ _ J G e1 (λq a5=>o q (abL (aya.2 ⟨_,ayT _,rfl⟩) a5));obtain⟨_,q4⟩:=TK (g6 _ B);have v1:((cs.drop (j/U.ab.length*P.cellsOf e)).take (P.cellsOf e))[j%U.ab.length]?=some v:=by
      rw[g4,ayi,if_pos Z,ayq,ej];exact E
     have v2:((w.ab.drop (j/U.ab.length*U.ab.length)).take U.ab.length)[j%U.ab.length]?=some ct:=by
      rw[ayi,if_pos Z,ayq,ej];exact V
     have v3:U.ab[j%U.ab.length]?=some U.ab[j%U.ab.length]:=axK Z;have hE:kU P (m+1) t (.agg (D.map (·.1))) j=kU P m e (D[j/U.ab.length]'(by omega)).1 (j%U.ab.length):=by
      simp only[kU,Q,g4,axO];rw[axK (by omega)];rfl
     rw[hE];exact vR.abJ (q4 _ _ _ v2 v3) (q2 _ _ _ v3 v1)
end
end
section
section
variable{P:Program}{a:Ty}{W:World}
def MF(Z:List LK)(X:List XV):Prop:=∀(q:Nat)(k:IntKind)(n:Int),Z[q]?=some (.int k)->X[q]?=some (.i n)->(Lit.int k n).wf=true
def amj:∀{E:Nat->Option RV}{ab:List CT}{cs:List Value},cs.length=ab.length->(∀(j:Nat)(X:CT)(v:Value),ab[j]?=some X->cs[j]?=some v->vR a W (E j) X v)->
  ∃U:List XV,cV (ab.map pL) U/\lS (ab.map pL) U=cs/\uK a W (ab.map pL) U/\(∀Z,XV.r Z∈U->nR Z)/\MF (ab.map pL) U
 |_,[],[],_,_=>⟨[],trivial,rfl,λq e Z h=>by simp at h,by simp,λq k n h=>by simp at h⟩
 |_,[],_::_,h,_=>by simp at h
 |_,_::_,[],h,_=>by simp at h
 |E,X::ab,v::cs,G,h=>by
  obtain⟨U,V,R,F,D,C⟩:=amj (E:=λj=>E (j+1)) (ab:=ab) (cs:=cs) (by simpa using G) (λj c u M L=>h (j+1) c u (by simpa using M) (by simpa using L));obtain⟨x,M,L,B,A,y⟩:∃x:XV,nX (pL X) x/\x.at (pL X)=v/\(∀e Z,pL X=.ref e->x=.r Z->aX W a e Z)/\(∀Z,x=.r Z->nR Z)/\∀k n,pL X=.int k->x=.i n->(Lit.int k n).wf=true:=by
   have J:=h 0 X v rfl rfl;cases X with
   |int k=>
    obtain⟨⟨n,rfl,w⟩,_⟩:=J;exact⟨.i n,trivial,rfl,λe Z h=>(by cases h),λZ h=>(by cases h),λI H V R=>(by cases V;cases R;exact w)⟩
   |bool=>
    obtain⟨⟨n,rfl⟩,_⟩:=J;exact⟨.b n,trivial,rfl,λe Z h=>(by cases h),λZ h=>(by cases h),λI H V R=>(by cases V)⟩
   |aq z k=>
    obtain⟨Z,rfl,t,s,_⟩:=J;exact⟨.r Z,trivial,rfl,λe p V R=>(by cases V;cases R;exact t),λp h=>(by cases h;exact s),λI H V R=>(by cases V)⟩
  refine⟨x::U,⟨M,V⟩, ?_,λq e Z Q O=> ?_,λZ N=> ?_,λq k n Q O=> ?_⟩;show x.at (pL X)::lS (ab.map pL) U=_;rw[L,R];cases q with
  |zero=>simp at Q O;exact B e Z Q O
  |succ q=>exact F q e Z (by simpa using Q) (by simpa using O)
  rcases axT.1 N with N|N;exact A Z N.symm;exact D Z N;cases q with
  |zero=>simp at Q O;exact y k n Q O
  |succ q=>exact C q k n (by simpa using Q) (by simpa using O)
def amk:∀{Z X:List LK}{V U:List XV},cV Z V->cV X U->cV (Z++X) (V++U)/\lS (Z++X) (V++U)=lS Z V++lS X U
 |[],_,[],_,_,h=>⟨h,rfl⟩
 |[],_,_::_,_,h,_=>h.elim
 |_::_,_,[],_,h,_=>h.elim
 |k::Z,X,x::V,U,h,R=>by
  obtain⟨Q,O⟩:=amk h.2 R;exact⟨⟨h.1,Q⟩,by simp[lS,O]⟩
def abM:∀{Z:List LK}{X:List XV},cV Z X->Z.length=X.length
 |[],[],_=>rfl
 |[],_::_,h=>h.elim
 |_::_,[],h=>h.elim
 |k::Z,x::X,h=>by simp[abM h.2]
def avo{Z R:List LK}{U Q:List XV}(N:cV Z U)(h:uK a W Z U)(M:uK a W R Q):uK a W (Z++R) (U++Q):=by
 intro q e O X V;have L:=abM N;by_cases J:q<Z.length;rw[axL J] at X;rw[axL (by omega)] at V;exact h q e O X V;rw[axP (by omega)] at X;rw[axP (by omega),<-L] at V;exact M _ e O X V
def avp{Z R:List LK}{U Q:List XV}(O:cV Z U)(h:MF Z U)(N:MF R Q):MF (Z++R) (U++Q):=by
 intro q k n X V;have M:=abM O;by_cases L:q<Z.length;rw[axL L] at X;rw[axL (by omega)] at V;exact h q k n X V;rw[axP (by omega)] at X;rw[axP (by omega),<-M] at V;exact N _ k n X V
def avq{H:Type}{A:TypeId×Value->H}{spare:Nat->Bool}{z:Bool}(jF:fK P a):∀{V:List TypeId}{U:List Value}{N:List (DataW H)}{G:List MemPlace},V.all (ud P a 9)=true->DataW.TrodAll A P W X spare z V U N G->(∀q∈DataW.weightsEach P V N,q<=reachBytes)->
  (∀(j:Nat)(t:TypeId)(v:Value)(Z:TI),V[j]?=some t->U[j]?=some v->a t=some Z->(Z.d.isAgg=true/\v=.agg v.cells)\/(Z.d.isAgg=false/\v.cells.toList=[v]))->
  ∃(M:List LK)(R:List XV),fb a V=some M/\cV M R/\aaA a V (lS M R)=U/\uK a W M R/\(∀O,XV.r O∈R->nR O)/\MF M R:=by
 intro V;induction V with
 |nil=>
  intro U N G _ h _ _;have:U=[]:=by
   cases U with
   |nil=>rfl
   |cons v U=>cases N<;>simp[DataW.TrodAll] at h
  subst this;exact⟨[],[],rfl,trivial,rfl,λq e O h=>by simp at h,by simp,λq k n h=>by simp at h⟩
 |cons t V y=>
  intro U N G J h x D;obtain⟨v,af,d,w,p,q,rfl,rfl,rfl,⟨u,s⟩,o⟩:=Go.ChangeShapes.trodAll_cons h;simp only[azx,axI] at J;obtain⟨Z,I⟩:∃Z,a t=some Z:=by
   cases Q:a t with
   |none=>have:=J.1;simp[ud,Q] at this
   |some Z=>exact⟨Z,rfl⟩
  have C:∀q,q∈DataW.weights P t d\/q∈DataW.weightsEach P V w->q<=reachBytes:=λq Q=>x q (by simp only[DataW.weightsEach,axS];exact Q)
  obtain⟨B,m⟩:=ME u 9 t Z _ _ I J.1 s (λq Q=>C q (.inl Q));obtain⟨R,F,l,i,g,f⟩:=amj B m;obtain⟨c,b,y1,y2,y3,y4,y5,y6⟩:=y J.2 o (λq Q=>C q (.inr Q)) (λj t' v' ac q1 q2 q3=>D (j+1) t' v' ac (by simpa using q1) (by simpa using q2) q3);obtain⟨z1,z2⟩:=amk F y2;refine⟨Z.ab.map pL++c,R++b,by simp[fb,I,y1],z1, ?_,avo F i y4,λO L=> ?_,avp F f y6⟩;rw[z2,l];simp only[aaA,I];have hl:v.cells.toList.length=Z.ab.length:=B;rw[azQ (by omega),ay0 (by omega),aAs (by omega),aAS (by omega),ax2,y3];have e:=D 0 t v Z rfl rfl I;congr 1;rcases e with⟨E,e⟩|⟨E,e⟩;rw[if_pos E];exact e.symm;rw[E,e];rfl;rcases axS.1 L with L|L;exact g O L;exact y5 O L
end
end
variable{U:Program}{R:Act}
section
def avr{W O:Oper}{Q:Exit->Act->List Frame->World->Prop}{M L:List Frame}(F:(execOp R.eval W).run U V=.ok .recover V)(C:W.guard=none)
  (N:recoverD M=some (Z,L)\/(recoverD M=none/\Z=.nilIface/\L=M))
  (h:wpOpsIn Fence.wide 0 U #[W,O] (λe J I=>Q e J L I) [1] (R.put W.dst Z) V):(Code.region X #[W,O] false).wpSIn Fence.wide 0 U Q R M V:=by
 intro b k B H A q;have z:L.length=M.length:=by
  rcases N with N|⟨_,_,rfl⟩;exact recoverD_length N;rfl
 obtain⟨e,J,I,y,x⟩:=wp_opsIn [1] _ V h b k L (H.trans rfl) A (room_wide _);refine⟨e,J,L,I,z,y,.of_steps (.one (fenced_wide _ _) stepR_region) ?_⟩;have E:(#[W,O]:Array Oper)[0]?=some W:=rfl;have u:Region.wanted W (yielded #[W,O] R.tmps)=true:=by simp[Region.wanted,C]
 have D:=stepGR_op (P:=U) (b:=b) (k:=k) (cs:=M) (w:=V) (rest:=[1]) E u;rw[H,Oper.semAt_none] at D;have t:(b.atR R (.inRegion #[W,O] [0,1]::k)).kind=.deferred:=B;have G:=tryRecover_deferred t M;have s:(b.atR R (.inRegion #[W,O] [0,1]::k)).finish Z=b.atR (R.put W.dst Z) (.inRegion #[W,O] [1]::k):=by
  rw[Frame.finish_atR,E];rfl
 refine .of_steps (.one (fenced_wide _ _) (step_lone_go ?_)) x;rw[show ax6 (#[W,O]:Array Oper).size=[0,1] from rfl,D,<-s];simp only[Frame.atR,H] at G⊢;rcases N with N|⟨N,r,rfl⟩;simp[stepG.apply,F,G,N];subst r;simp[stepG.apply,F,G,N]
def aml{W Z:Oper}{Q:Exit->Act->List Frame->World->Prop}{O cs':List Frame}{v:Value}{f:FuncId}{args:Array Value}(M:(execOp R.eval W).run U V=.ok .recover V)(L:W.guard=none)
  (J:recoverD O=some (v,cs')\/(recoverD O=none/\v=.nilIface/\cs'=O))(I:Z.guard=none)(H:(Z.semAt none (R.put W.dst v).eval).run U V=.ok (.enter f args) V)
  (h:Calls U f args V λe N=>∃u,e=.returned u/\Q .normal ((R.put W.dst v).put Z.dst u) cs' N):(Code.region X #[W,Z] false).wpSIn Fence.wide 0 U Q R O V:=by
 refine avr M L J ?_;show(if Region.wanted Z _ then _ else _);rw[if_pos (by simp[Region.wanted,I])];refine⟨λ_ _=>trivial, ?_⟩;show Oper.uponIn Fence.wide 0 U Z _ _ _ ((Z.semAt none (R.put W.dst v).eval).run U V);rw[H];refine⟨λh=>by simp[Fence.wide] at h,callsIn_wide.2 (h.mono ?_)⟩;rintro e N ⟨u,rfl,G⟩;exact G
@[local go_sem] def axG (v:Value) (w:World):(Instr.typeAssert (.iface 45 v) 20 45 true).run Tryz.prog w=.ok (.tuple #[v,.bool true]) w:=by kernel_rfl
set_option maxHeartbeats 1000000 in
set_option maxRecDepth 100000 in
def avs (b:Nat) (W:World):Calls Tryz.prog 35 #[.nilIface,.pointer (some ⟨b,0,none⟩)] W λe Z=>e=.returned (.tuple #[])/\Z=W:=by
 go_enter Tryz.func35,Tryz.ntmps35;go_wp2
 (try simp only[Exit.inBlock,Exit.then]);refine bodyPost_ret (results_none rfl _ _ _) rfl ?_;exact⟨rfl,rfl⟩
set_option maxHeartbeats 1000000 in
set_option maxRecDepth 100000 in
def avt (b:Nat) (Z k:Int) (W:World) (V:W.cell? ⟨b,0,none⟩=some (.int .i64 Z)) (U:W.frozen? ⟨b,0,none⟩=false):Calls Tryz.prog 35 #[.iface 45 (.int .i64 k),.pointer (some ⟨b,0,none⟩)] W λe X=>e=.returned (.tuple #[])/\X=W.setCell ⟨b,0,none⟩ (.int .i64 k):=by
 go_enter Tryz.func35,Tryz.ntmps35;go_wp2
 go_end0
 exact⟨rfl,rfl⟩
def amm{u:Value}{e:TypeId}(h:V.heap[X]?=some (.cells #[u] e (0,0))):V.setCell ⟨X,0,none⟩ Z=V.putObj X (.cells #[Z] e (0,0)):=by
 unfold World.setCell World.putObj;congr 1;apply Array.ext_getElem?;intro i;rw[azk,Array.getElem?_setIfInBounds];by_cases U:X=i;subst U;have R:X<V.heap.size:=(ax9.1 h).1;rw[if_pos rfl,if_pos rfl,h,if_pos R];rfl;rw[if_neg U,if_neg U]
def abN{g:FuncId}{Z:Func}{J I:TypeId}{H G:String}{F E:Array Edge}(P:Tryz.prog.funcs[g]?=some Z)(D:aay Tryz.prog g=true)(O:Z.ntmps=3)(bp:Z.results= #[])
  (N:Z.body=some (.region X #[⟨some 1,.call {callee:=.builtin .recover,args:= #[],argTypes:= #[]},J,H,F,none⟩,⟨some 2,.call {callee:=.value (.func 35),args:= #[.tmp 1,.tmp 0],argTypes:= #[20,101]},I,G,E,none⟩] false)):oa Tryz.prog g 45:=by
 have M:∀L W,(callFunc 35 L).run Tryz.prog W=.ok (.enter 35 L) W:=uG (by kernel_rfl);refine⟨uG D,λW b=> ?_,λW b C k U=> ?_⟩;refine callsDIn_of_wpSIn P N (by simp[Fence.wide]) λR Q V=> ?_
 rw[O];refine aml (v:=.nilIface) (cs':=R::Q) (f:=35) (args:= #[.nilIface,.pointer (some ⟨b,0,none⟩)]) rfl rfl (.inr ⟨by simp[recoverD,V],rfl,rfl⟩) rfl (by simp[Oper.semAt,go_sem,Act.put,M]) ?_;refine(avs b W).mono ?_;rintro e B ⟨rfl,rfl⟩;refine⟨_,rfl,rfl,.returning,by rw[<-V],.tuple #[], ?_,⟨_,rfl⟩,rfl,rfl⟩;simp[results,bp];refine callsDIn_of_wpSIn P N (by simp[Fence.wide]) λR Q V=> ?_
 rw[O];refine aml (v:=.iface 45 (.int .i64 k)) (cs':={R with mode:=.panicking [{v:=.iface 45 (.int .i64 k),recovered:=true}]}::Q) (f:=35) (args:= #[.iface 45 (.int .i64 k),.pointer (some ⟨b,0,none⟩)]) rfl rfl (.inl (by simp[recoverD,V])) rfl (by simp[Oper.semAt,go_sem,Act.put,M]) ?_;refine(avt b C k W (by simp[World.cell?,U]) (by simp[World.frozen?,U])).mono ?_;rintro e B ⟨rfl,rfl⟩;refine⟨_,rfl,rfl,_,rfl,.tuple #[], ?_,⟨_,rfl⟩,rfl,amm U⟩;simp[results,bp]
def avu:oa Tryz.prog 34 45:=abN Tryz.func34 (by kernel_rfl) rfl rfl rfl
def avv:oa Tryz.prog 46 45:=abN Tryz.func46 (by kernel_rfl) rfl rfl rfl
def avw:oa Tryz.prog 61 45:=abN Tryz.func61 (by kernel_rfl) rfl rfl rfl
set_option maxHeartbeats 1000000 in
set_option maxRecDepth 100000 in
def avx (W:World) (b:Nat):CallsDIn Fence.wide 0 Tryz.prog 151 #[.pointer (some ⟨b,0,none⟩)] .returning W λV u U=>(∃v,V=.returned v)/\u=.returning/\U=W:=by
 refine callsDIn_of_wpSIn Tryz.func151 rfl (by simp[Fence.wide]) λX R Z=> ?_
 have Q:X={X with mode:=.returning}:=by rw[<-Z]
 rw[Tryz.ntmps151];apply wpSIn_seq;apply wpSIn_region;simp[wpOpsSIn,go_sem,recoverD,Z,Exit.thenS];refine wpSIn_of_wpIn rfl (wpIn_wide.2 ?_);go_wp2;refine⟨rfl,.returning,by rw[<-Z],.tuple #[], ?_,⟨_,rfl⟩,rfl,rfl⟩;simp[results,Tryz.results151]
set_option maxHeartbeats 1000000 in
set_option maxRecDepth 100000 in
def avy (W:World) (b:Nat) (X k:Int) (Z:W.heap[b]?=some (.cells #[.int .i64 X] 45 (0,0))):CallsDIn Fence.wide 0 Tryz.prog 151 #[.pointer (some ⟨b,0,none⟩)] (.panicking [{v:=.iface 45 (.int .i64 k),recovered:=false}]) W λV u U=>(∃v,V=.returned v)/\u=.panicking [{v:=.iface 45 (.int .i64 k),recovered:=true}]/\U=W.putObj b (.cells #[.int .i64 k] 45 (0,0)):=by
 have bi:W.cell? ⟨b,0,none⟩=some (.int .i64 X):=by simp[World.cell?,Z]
 have Q:W.frozen? ⟨b,0,none⟩=false:=by simp[World.frozen?,Z]
 refine callsDIn_of_wpSIn Tryz.func151 rfl (by simp[Fence.wide]) λP O R=> ?_
 rw[Tryz.ntmps151];apply wpSIn_seq;apply wpSIn_region;simp[wpOpsSIn,go_sem,recoverD,R,Exit.thenS];refine wpSIn_of_wpIn rfl (wpIn_wide.2 ?_);go_wp2;refine⟨rfl,_,rfl,.tuple #[], ?_,⟨_,rfl⟩,rfl,amm Z⟩;simp[results,Tryz.results151]
def avz:oa Tryz.prog 151 45:=⟨uG (by kernel_rfl),avx,avy⟩
end
section
open Go.Shelf
def Tryz.indexB_ren:Go.Shelf.Ren:=⟨λ|137=>272|217=>319|266=>357|n=>n,λ|9=>9|5=>5|3=>3|n=>n,λ|n=>n⟩
def Tryz.indexB:Go.Proofs.Lays.n137 Tryz.prog Tryz.indexB_ren:={mixed:=by kernel_rfl,f137:=cG Tryz.func272 (by kernel_rfl),f217:=cG Tryz.func319 (by kernel_rfl),f266:=cG Tryz.func357 (by kernel_rfl),t3:=Tryz.underlying3,a3:=Tryz.isAgg3,z3:=Tryz.sizeOf3,v3:=Tryz.zeroValue3,t5:=Tryz.underlying5,a5:=Tryz.isAgg5,z5:=Tryz.sizeOf5,v5:=Tryz.zeroValue5,t9:=Tryz.underlying9,a9:=Tryz.isAgg9,z9:=Tryz.sizeOf9,v9:=Tryz.zeroValue9}
def avA:look PT 272=some [9,5]:=by kernel_rfl
def avB:look SG 272=some [3]:=by kernel_rfl
def avD:fb (look TT) [9,5]=some [.ref .str,.int .u8]:=by kernel_rfl
def avE:fb (look TT) [3]=some [.int .i64]:=by kernel_rfl
def amn:∀(l:List UInt8)(b:UInt8),-1<=Lib.indexByte l b
 |[],_=>by simp[Lib.indexByte]
 |x::l,b=>by
  have:=amn l b;simp only[Lib.indexByte];split;omega;split<;>omega
def amo:∀(l:List UInt8)(b:UInt8)(k:Nat),B4 k l b=if Lib.indexByte l b=-1 then-1 else Lib.indexByte l b+k
 |[],_,_=>by simp[B4,Lib.indexByte]
 |x::l,b,k=>by
  have W:=amo l b (k+1);have V:=amn l b;simp only[B4,Lib.indexByte,beq_iff_eq];by_cases Z:x=b;simp[Z];rw[if_neg Z,if_neg Z,W];by_cases X:Lib.indexByte l b=-1;simp[X];rw[if_neg X,if_neg X,if_neg (by omega)];omega
def avF(l:List UInt8)(b:UInt8):B4 0 l b=Lib.indexByte l b:=by
 rw[amo];split;rename_i h;rw[h];simp
def avG{z:Bool}:oN z 272 Ss:=by
 intro w v u s P O N M L J out Q U R W q G;rw[avA] at P;cases P;rw[avB] at O;cases O;rw[avD] at N;cases N;rw[avE] at M;cases M;rcases J with _|⟨x,_|⟨y,_|⟨z,J⟩⟩⟩;exact R.elim;exact R.2.elim
 ·obtain⟨I,H,_⟩:=R;cases x with
  |i n=>exact I.elim
  |b n=>exact I.elim
  |r F=>
  cases y with
  |b n=>exact H.elim
  |r n=>exact H.elim
  |i c=>
  have E:=G 0 .str F rfl rfl;cases E with
  |str t=>
  rcases L with _|⟨D,_|⟨C,_|⟨p,L⟩⟩⟩;exact U.elim;exact U.2.elim
  ·obtain⟨X,V,_⟩:=U;cases D with
   |i n=>exact X.elim
   |b n=>exact X.elim
   |r B=>
   cases C with
   |b n=>exact V.elim
   |r n=>exact V.elim
   |i Z=>
   have V:Z=c:=V;subst V;have X:bW B (.mk (.string t) []):=X;cases X with
   |val=>
   have Q:some (aT.ret [.i (B4 0 t.toList (UInt8.ofNat Z.toNat))])=some out:=Q;cases Q;have h:=Any.strings_IndexByte Tryz.indexB t Z W;refine Calls.mono (show Calls Tryz.prog 272 #[.string t,.int .u8 Z] W _ from h) ?_;rintro e o ⟨rfl,rfl⟩;refine⟨_,[.i (Lib.indexByte t.data.toList Z.toNat.toUInt8)],rfl,⟨?_,trivial⟩,⟨trivial,trivial⟩,rfl,Below.refl _ _,Tk (by simp),λb A=>(alm (by simp) A).elim⟩;show B4 0 t.toList (UInt8.ofNat Z.toNat)=_;rw[avF,ByteArray.toList_eq]
  exact U.2.2.elim
 exact R.2.2.elim
def amp:∀{n:Nat}{V Z:List XV},wB V Z->cV (axW n (.int .i64)) Z->∃l:List Int,l.length=n/\V=l.map XV.i/\Z=l.map XV.i
 |0,V,Z,X,W=>by
  cases Z with
  |cons _ _=>exact W.elim
  |nil=>
   cases V with
   |cons _ _=>exact X.elim
   |nil=>exact⟨[],rfl,rfl,rfl⟩
 |n+1,V,[],X,W=>W.elim
 |n+1,[],x::Z,X,W=>X.elim
 |n+1,y::V,x::Z,X,W=>by
  obtain⟨l,R,Q,P⟩:=amp (n:=n) X.2 W.2;have e:=X.1;have f:=W.1;cases x with
  |b q=>exact f.elim
  |r q=>exact f.elim
  |i m=>
   cases y with
   |b q=>exact e.elim
   |r q=>exact e.elim
   |i U=>
    have e:U=m:=e;subst e;exact⟨U::l,by simp[R],by simp[Q],by simp[P]⟩
def amq(a b c d:Int):cK a b c d=K.gq.valid ⟨⟨a,b⟩,⟨c,d⟩⟩:=by
 rw[ayS];simp[cK,K.gq.valid,K.vN];omega
def avH(a b c d Z X W V:Int):vu a b c d Z X W V= !(K.gq.pI ⟨⟨a,b⟩,⟨c,d⟩⟩ ⟨⟨Z,X⟩,⟨W,V⟩⟩):=by
 simp only[vu,K.gq.pI,K.Range.pI,aAX]
def avI:look PT 26=some [65,65]:=by kernel_rfl
def avJ:look SG 26=some [4,45]:=by kernel_rfl
def k26:fb (look TT) [65,65]=some (axW 8 (.int .i64)):=by kernel_rfl
def q26:fb (look TT) [4,45]=some [.bool,.int .i64]:=by kernel_rfl
def avN(a b c d Z X W V:Int):(aaA (look TT) [65,65] (lS (axW 8 (.int .i64)) [.i a,.i b,.i c,.i d,.i Z,.i X,.i W,.i V])).toArray= #[K.gq.v ⟨⟨a,b⟩,⟨c,d⟩⟩,K.gq.v ⟨⟨Z,X⟩,⟨W,V⟩⟩]:=by kernel_rfl
def avO(x:Bool)(e:Int):Df (aaA (look TT) [4,45] (lS [.bool,.int .i64] [.b x,.i e]))=.tuple #[.bool x,.int .i64 e]:=by kernel_rfl
def avP{l:List Int}(h:l.length=8):∃a b c d Z X W V,l=[a,b,c,d,Z,X,W,V]:=by
 match l,h with
 |[a,b,c,d,Z,X,W,V],_=>exact⟨a,b,c,d,Z,X,W,V,rfl⟩
def avQ{z:Bool}:oN z 26 Sr:=by
 intro C B A y Z X L J w v out O H G W u t;rw[avI] at Z;cases Z;rw[avJ] at X;cases X;rw[k26] at L;cases L;rw[q26] at J;cases J;obtain⟨l,F,rfl,rfl⟩:=amp (n:=8) H G;obtain⟨a,b,c,d,U,R,Q,P,rfl⟩:=avP F;have E:=avN a b c d U R Q P;simp only[axV,ay2] at O⊢;rw[E];simp only[Sr,axM] at O;subst O;have N:∀(x:Bool)(e:Int)(M:World),Below W.heap.size W M->Ki (look TT) [4,45] [.bool,.int .i64] W (axW 8 (.int .i64)) [.i a,.i b,.i c,.i d,.i U,.i R,.i Q,.i P] (.ret [.b x,.i e]) (.returned (.tuple #[.bool x,.int .i64 e])) M:=λx e M V=>
  ⟨_,[.b x,.i e],rfl,⟨rfl,rfl,trivial⟩,⟨trivial,trivial,trivial⟩,(avO x e).symm,V,Tk (by simp),λb D=>(alm (by simp) D).elim⟩
 rw[amq,amq];by_cases Z:K.gq.valid ⟨⟨a,b⟩,⟨c,d⟩⟩=true;by_cases X:K.gq.valid ⟨⟨U,R⟩,⟨Q,P⟩⟩=true;rw[Z,X];refine(aty _ _ Z X (vu a b c d U R Q P) (by rw[avH];simp) W).mono ?_;rintro e I ⟨rfl,V⟩;exact N _ _ _ V;have X:K.gq.valid ⟨⟨U,R⟩,⟨Q,P⟩⟩=false:=by simpa using X
 rw[Z,X];refine(atA _ _ Z X W).mono ?_;rintro e I ⟨rfl,V⟩;exact N _ _ _ V;have Z:K.gq.valid ⟨⟨a,b⟩,⟨c,d⟩⟩=false:=by simpa using Z
 rw[Z];refine(atz _ _ Z W).mono ?_;rintro e I ⟨rfl,V⟩;exact N _ _ _ V
def avR{z:Bool}(f:FuncId):oN z f (Et f):=by
 unfold Et;by_cases Z:f=26;subst Z;exact avQ;by_cases X:f=272;subst X;exact avG;simp only[Z,X,if_false];exact abe f
end
def avS(f:FuncId)(Z:Fn)(h:TB.tree f=some Z):bL f Z.g Z.d Z.t:=by
 have h:In f=some Z:=h;unfold In at h;split at h;cases h;exact as1;cases h;exact as2;cases h;exact as3;cases h;exact as4;cases h;exact as5;cases h;exact as6;cases h;exact as7;cases h;exact aln;cases h;exact alo;cases h;exact alp;cases h;exact as8;cases h;exact as9;cases h;exact alq;cases h;exact alr;cases h;exact als;cases h;exact ata;cases h;exact atb;cases h;exact atc;cases h;exact atd;cases h;exact ate;cases h;exact atf;cases h;exact atg;cases h;exact ath;cases h;exact ati;cases h;exact atj;cases h;exact atk;cases h;exact atl;cases h;exact atm;cases h;exact atn;cases h;exact ato;cases h;exact atp;cases h;exact atq;cases h;exact auB;cases h;exact auC;cases h;exact auD;cases h;exact auE;cases h;exact auF;cases h;exact auG;cases h;exact auH;cases h;exact auI;cases h;exact auJ;cases h;exact auK;cases h;exact auL;cases h;exact auM;cases h;exact auN;cases h;exact auO;cases h;exact auP I0;cases h;exact auQ;cases h;exact auR;cases h;exact auS;cases h;exact auT;cases h;exact auU;cases h;exact auV I0;cases h;exact auW;cases h;exact auX;cases h;exact auY;cases h;exact auZ;cases h;exact au0;cases h;exact au1;cases h;exact au2 I0;cases h;exact au3;cases h;exact au4;cases h;exact au5 avz;cases h;exact au6 avu;cases h;exact au7 I0 avv;cases h;exact au8;cases h;exact au9 I0;cases h;exact ave;cases h;exact avf I0;cases h;exact avb;cases h;exact avg;cases h;exact avh;cases h;exact avi;cases h;exact avj avw;cases h;exact avk;cases h;exact ok9;cases h;exact aCV;cases h;exact aCW;cases h;exact aCX;cases h;exact aCY;cases h;exact aCZ;cases h;exact aC0;cases h
def avT:abg TB true:=⟨avS,λ_ _ _ _=>rfl,avR⟩
end
end Go.Proofs.YtieaiocljdpebaaGreatDoor.Y
