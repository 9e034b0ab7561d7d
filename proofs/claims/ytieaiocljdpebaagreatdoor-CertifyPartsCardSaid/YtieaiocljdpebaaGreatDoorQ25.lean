/- Part 25 of the proof; the last part says what is shown. -/
import Derived.Test.YtieaiocljdpebaaGreatDoorQ16
import Derived.Test.YtieaiocljdpebaaGreatDoorQ4
import Derived.Test.YtieaiocljdpebaaGreatDoorQ5
import Derived.Test.YtieaiocljdpebaaGreatDoorQ13
import Derived.Test.YtieaiocljdpebaaGreatDoorQ15
import Derived.Test.YtieaiocljdpebaaGreatDoorQ24
import Derived.Test.YtieaiocljdpebaaGreatDoorQ14
import Derived.Test.YtieaiocljdpebaaGreatDoorQ17
import Derived.Test.YtieaiocljdpebaaGreatDoorQ18
import Derived.Test.YtieaiocljdpebaaGreatDoorQ19
import Derived.Test.YtieaiocljdpebaaGreatDoorQ20
import Derived.Test.YtieaiocljdpebaaGreatDoorQ21
import Derived.Test.YtieaiocljdpebaaGreatDoorQ22
import Derived.Test.YtieaiocljdpebaaGreatDoorQ23
import Derived.ChangeArms
import Derived.DataReads
import Derived.OpenShut
import Derived.RecoverIn
import Derived.Shelf.Small.Strs
set_option linter.all false
open Bool renaming and_eq_true->ayz,false_eq_true->ayV,eq_iff_iff->azJ,and_assoc->aBR
open List renaming getElem?_eq_some_iff->ayA,getElem?_eq_getElem->ayB,getElem?_append_left->ayD,getElem?_map->ayF,getElem?_append_right->ayG,replicate->ayJ,mem_cons->ayK,mem_append->ayL,all_eq_true->ayM,map_cons->ayO,range->ayQ,nil_append->ayU,mem_of_getElem?->ayW,mem_map->ay1,getElem?_take->ay7,any_eq_true->ay8,length_map->azg,getElem?_of_mem->azh,getElem?_drop->azj,mem_range->azz,getElem?_range->azM,getElem_mem->azR,map_nil->azT,take_of_length_le->azX,mem_of_find?_eq_some->azZ,all_cons->aAv,find?_some->aAx,map->aAE,take_append_of_le_length->aAF,getElem?_zip_eq_some->aAT,drop_append_of_le_length->aBg,drop_of_length_le->aBN
open Option.some renaming injEq->ayE,inj->azd
open Nat renaming le_refl->ayH,eq_zero_or_pos->azO,mul_comm->aAV,mod_lt->aAY,div_lt_of_lt_mul->aA9,div_add_mod->aBa,sub_self->aBb
open Option renaming map_some->ayI,isSome_iff_exists->ayT,getD_some->azf,bind_eq_some_iff->aBG
open Array renaming getElem?_eq_some_iff->ay0,getElem?_modify->az7
namespace Go.Proofs.YtieaiocljdpebaaGreatDoor.Y
open Go.RowKit
noncomputable section
variable{V:World}{Z:Value}{X:Nat}
section
def TG:CT->CT->Bool
 |.int k,.int Z=>decide (k=Z)
 |.bool,.bool=>true
 |.ax _ k,.ax _ Z=>decide (k=Z)
 |_,_=>false
def xE:List CT->List CT->Bool
 |[],[]=>true
 |c::l,Z::X=>TG c Z&&xE l X
 |_,_=>false
def TH:∀{l X:List CT},xE l X=true->l.length=X.length/\∀(j:Nat)(c Z:CT),l[j]?=some c->X[j]?=some Z->TG c Z=true
 |[],[],_=>⟨rfl,λj c Z h _=>by simp at h⟩
 |[],_::_,h=>by cases h
 |_::_,[],h=>by cases h
 |a::l,b::X,h=>by
  simp only[xE,ayz] at h;obtain⟨R,Q⟩:=TH h.2;refine⟨by simp[R],λj c Z V U=> ?_⟩;cases j with
  |zero=>simp at V U;subst V;subst U;exact h.1
  |succ j=>exact Q j c Z (by simpa using V) (by simpa using U)
inductive m7:RV->Prop
 |mk (rv:RV) (h:rv.rows.length<=140737488355328) (h2:∀row∈rv.rows,∀c∈row,m7 c):m7 rv
def m7.TJ(v:Value):m7 (.mk v []):=.mk _ (by simp[RV.jk]) (by simp[RV.jk])
def vy(g:Ty)(W:World)(E:Option RV):CT->Value->Prop
 |.int k,v=>(∃n,v=.int k n/\(Lit.int k n).wf=true)/\∀r,E=some r->r=.mk v []
 |.bool,v=>(∃b,v=.bool b)/\∀r,E=some r->r=.mk v []
 |.ax _ k,v=>∃Z:RV,Z.val=v/\aW W g k Z/\m7 Z/\∀r,E=some r->bj r Z
def vy.acd{g:Ty}{E:Option RV}{a b:CT}(h:TG a b=true)(k:vy g V E b Z):vy g V E a Z:=by
 cases a<;>cases b<;>simp only[TG,decide_eq_true_eq,ayV] at h;subst h;exact k;exact k;subst h;exact k
def tR(P:Program)(g:Ty):Nat->TypeId->Bool
 |0,_=>false
 |n+1,t=>match g t with
  |none=>false
  |some Z=>match P.underlying t with
   |some (.int k)=>xE Z.ae [.int k]
   |some .bool=>xE Z.ae [.bool]
   |some .string=>xE Z.ae [.ax undef .str]
   |some (.slice e)=>xE Z.ae [.ax undef (.sl e)]&&tR P g n e&&decide (P.cellsOf e=(aV g (.sl e)).length)&&decide (P.cellsOf e≠0)&&decide (P.bytesOf e≠0)
   |some (.struct U)=>decide (P.cellsOf t=Z.ae.length)&&U.toList.all (λf=>tR P g n f.type&&(match g f.type with
     |some V=>decide (P.cellsOf f.type=V.ae.length)&&xE ((Z.ae.drop f.offset).take V.ae.length) V.ae
     |none=>false))&&(ayQ Z.ae.length).all λj=>U.toList.any λf=>decide (f.offset<=j)&&decide (j<f.offset+P.cellsOf f.type)
   |some (.array k e)=>decide (P.cellsOf t=Z.ae.length)&&tR P g n e&&(match g e with
     |some X=>decide (P.cellsOf e=X.ae.length)&&decide (Z.ae.length=k*X.ae.length)&&(ayQ k).all λi=>xE ((Z.ae.drop (i*X.ae.length)).take X.ae.length) X.ae
     |none=>false)
   |_=>false
def ku{H:Type}(P:Program):Nat->TypeId->DataW H->Nat->Option RV
 |0,_,_,_=>none
 |n+1,t,d,j=>match P.underlying t,d with
  |some (.int _),.lit (.int k q)=>some (.mk (.int k q) [])
  |some .bool,.lit (.bool b)=>some (.mk (.bool b) [])
  |some (.slice e),.slice Z _=>if(Z.all λd=>(ayQ (P.cellsOf e)).all λj=>(ku P n e d j).isSome) then some (.mk (.slice none Z.length Z.length) (Z.map λd=>(ayQ (P.cellsOf e)).map λj=>(ku P n e d j).getD default)) else none
  |some (.slice _),.nil=>some (.mk (.slice none 0 0) [])
  |some (.struct V),.agg X=>match(V.toList.zip X).find? λf=>decide (f.1.offset<=j)&&decide (j<f.1.offset+P.cellsOf f.1.type) with
   |some f=>ku P n f.1.type f.2 (j-f.1.offset)
   |none=>none
  |some (.array _ e),.agg X=>match X[j/P.cellsOf e]? with
   |some d=>ku P n e d (j%P.cellsOf e)
   |none=>none
  |_,_=>none
section
variable{P:Program}{g:Ty}{W:World}
def Mo{E:Nat->Option RV}{ae:List CT}{c:CT}(h:xE ae [c]=true)(k:vy g W (E 0) c Z):[Z].length=ae.length/\∀(j:Nat)(X:CT)(u:Value),ae[j]?=some X->[Z][j]?=some u->vy g W (E j) X u:=by
 obtain⟨U,R⟩:=TH h;refine⟨by simp[U],λj X u Q V=> ?_⟩;cases j with
 |zero=>simp at V;subst V;exact vy.acd (R 0 X c Q rfl) k
 |succ j=>simp at V
def ace:∀{E:Nat->Option RV}{ae:List CT}{cs:List Value},cs.length=ae.length->(∀(j:Nat)(R:CT)(v:Value),ae[j]?=some R->cs[j]?=some v->vy g W (E j) R v)->
  ∃Q:List RV,Q.map RV.val=cs/\(∀(j:Nat)(c:RV)(k:IntKind),Q[j]?=some c->ae[j]?=some (.int k)->∃n,c.val=.int k n)/\(∀(j:Nat)(c:RV),Q[j]?=some c->ae[j]?=some .bool->∃x,c.val=.bool x)/\(∀(j:Nat)(c:RV)(z:Value)(k:RK),Q[j]?=some c->ae[j]?=some (.ax z k)->aW W g k c)/\(∀c∈Q,m7 c)/\∀(j:Nat)(c r:RV),Q[j]?=some c->E j=some r->bj r c
 |_,[],[],_,_=>⟨[],rfl,λj c k h=>by simp at h,λj c h=>by simp at h,λj c z k h=>by simp at h,by simp,λj c r h=>by simp at h⟩
 |_,[],_::_,h,_=>by simp at h
 |_,_::_,[],h,_=>by simp at h
 |E,R::ae,v::cs,J,h=>by
  obtain⟨Q,I,H,G,F,D,C⟩:=ace (E:=λj=>E (j+1)) (ae:=ae) (cs:=cs) (by simpa using J) (λj c u B O=>h (j+1) c u (by simpa using B) (by simpa using O));obtain⟨r,N,O,A,y,w,t⟩:∃r:RV,r.val=v/\(∀k,R=.int k->∃n,r.val=.int k n)/\(R=.bool->∃x,r.val=.bool x)/\(∀z k,R=.ax z k->aW W g k r)/\m7 r/\∀V,E 0=some V->bj V r:=by
   have U:=h 0 R v rfl rfl;cases R with
   |int k=>exact⟨.mk v [],rfl,λM e=>(by cases e;obtain⟨⟨n,s,_⟩,_⟩:=U;exact⟨n,s⟩),λe=>(by cases e),λz k e=>(by cases e),m7.TJ v,λV L=>by rw[U.2 V L];exact bj.refl _⟩
   |bool=>exact⟨.mk v [],rfl,λM e=>(by cases e),λ_=>U.1,λz k e=>(by cases e),m7.TJ v,λV L=>by rw[U.2 V L];exact bj.refl _⟩
   |ax z k=>
    obtain⟨r,N,q,bU,p⟩:=U;exact⟨r,N,λM e=>(by cases e),λe=>(by cases e),λo M e=>(by cases e;exact q),bU,p⟩
  refine⟨r::Q,by simp[N,I],λj c k Z X=> ?_,λj c Z X=> ?_,λj c z k Z X=> ?_,λc U=>(ayK.1 U).elim (λe=>e▸w) (λU=>D c U),λj c V Z X=> ?_⟩;cases j with
  |zero=>simp at Z X;subst Z;exact O k X
  |succ j=>exact H j c k (by simpa using Z) (by simpa using X)
  cases j with
  |zero=>simp at Z X;subst Z;exact A X
  |succ j=>exact G j c (by simpa using Z) (by simpa using X)
  cases j with
  |zero=>simp at Z X;subst Z;exact y z k X
  |succ j=>exact F j c z k (by simpa using Z) (by simpa using X)
  cases j with
  |zero=>simp at Z;subst Z;exact t V X
  |succ j=>exact C j c V (by simpa using Z) X
def amM{α:Type}{R:Nat->α->Prop}:∀(n:Nat),(∀i,i<n->∃x,R i x)->∃l:List α,l.length=n/\∀(i:Nat)(x:α),l[i]?=some x->R i x
 |0,_=>⟨[],rfl,λi x h=>by simp at h⟩
 |n+1,h=>by
  obtain⟨l,X,V⟩:=amM n (λi U=>h i (by omega));obtain⟨x,Q⟩:=h n (by omega);refine⟨l++[x],by simp[X],λi y Z=> ?_⟩;by_cases U:i<n;rw[ayD (by omega)] at Z;exact V i y Z;rw[ayG (by omega)] at Z;have:i=n:=by
   cases O:i-l.length with
   |zero=>omega
   |succ q=>rw[O] at Z;simp at Z
  subst this;rw[X,aBb] at Z;simp at Z;subst Z;exact Q
def acf{H:Type}{P:Program}{e:TypeId}{q:Nat}:∀{l:List (DataW H)}{d:DataW H},d∈l->q∈DataW.weights P e d->q∈DataW.weightsAll P e l
 |[],_,h,_=>by simp at h
 |x::l,d,h,Z=>by
  simp only[DataW.weightsAll,ayL];rcases ayK.1 h with rfl|h;exact .inl Z;exact .inr (acf h Z)
def amN{H:Type}{P:Program}{q:Nat}:∀{Z:List TypeId}{l:List (DataW H)}{i:Nat}{t:TypeId}{d:DataW H},Z[i]?=some t->l[i]?=some d->q∈DataW.weights P t d->q∈DataW.weightsEach P Z l
 |[],_,_,_,_,h,_,_=>by simp at h
 |_::_,[],_,_,_,_,h,_=>by simp at h
 |R::Z,Q::l,i,t,d,X,V,U=>by
  simp only[DataW.weightsEach,ayL];cases i with
  |zero=>simp at X V;subst X;subst V;exact .inl U
  |succ i=>exact .inr (amN (i:=i) (by simpa using X) (by simpa using V) U)
def amO{U:Nat}(h:W.cell? ⟨X,U,none⟩=some Z):∃R t V,W.heap[X]?=some (.cells R t V):=by
 unfold World.cell? at h;split at h;rename_i c t V Q;exact⟨c,t,V,Q⟩;cases h
structure amP{H:Type}(P:Program)(g:Ty)(W:World)(n:Nat)(e:TypeId)(ae:List CT)(a:Addr)(elems:List (DataW H×List MemPlace))(i:Nat)(row:List RV):Prop where
 len:row.length=ae.length
 sp:a.spot=none
 hU:∃cs t fr,W.heap[a.block]?=some (.cells cs t fr)
 cell:∀(j:Nat)(c:RV),row[j]?=some c->W.cell? ⟨a.block,a.off+i*ae.length+j,none⟩=some c.val
 hi:∀(j:Nat)(c:RV)(k:IntKind),row[j]?=some c->ae[j]?=some (.int k)->∃n,c.val=.int k n
 hb:∀(j:Nat)(c:RV),row[j]?=some c->ae[j]?=some .bool->∃x,c.val=.bool x
 ho:∀(j:Nat)(c:RV)(z:Value)(k:RK),row[j]?=some c->ae[j]?=some (.ax z k)->aW W g k c
 bnd:∀c∈row,m7 c
 eq:∀(j:Nat)(c r:RV)(x:DataW H×List MemPlace),row[j]?=some c->elems[i]?=some x->ku P n e x.1 j=some r->bj r c
def Mp{H:Type}{bt:TypeId×Value->H}{bx:Nat}{spare:Nat->Bool}{b0:Bool}:∀(b1 m:Nat)(t:TypeId)(w:TI)(cs:List Value)(x:DataW H×List MemPlace),g t=some w->tR P g m t=true->DataW.trod bt P W bx spare b0 b1 t cs=some x->(∀q∈DataW.weights P t x.1,q<=reachBytes)->
  cs.length=w.ae.length/\∀(j:Nat)(ct:CT)(v:Value),w.ae[j]?=some ct->cs[j]?=some v->vy g W (ku P m t x.1 j) ct v
 |0,_,_,_,_,_,_,_,h,_=>by simp[DataW.trod] at h
 |_+1,0,_,_,_,_,_,O,_,_=>by simp[tR] at O
 |n+1,m+1,t,w,cs,x,ht,O,h,o=>by
  simp only[tR,ht] at O;cases Q:P.underlying t with
  |none=>rw[Q] at O;cases O
  |some d=>
   rw[Q] at O;cases d<;>simp only[ayV] at O
   case int k=>
    obtain⟨q,rfl,rfl,b2⟩:=DataW.trod_int Q h;exact Mo O ⟨⟨q,rfl,b2⟩,λr Z=>by simp only[ku,Q,ayE] at Z;exact Z.symm⟩
   case bool=>
    obtain⟨q,rfl,rfl⟩:=DataW.trod_bool Q h;exact Mo O ⟨⟨q,rfl⟩,λr Z=>by simp only[ku,Q,ayE] at Z;exact Z.symm⟩
   case string=>
    obtain⟨q,rfl,_⟩:=DataW.trod_string Q h;exact Mo O ⟨.mk (.string q) [],rfl,.str q,m7.TJ _,λr Z=>by simp[ku,Q] at Z⟩
   case slice e=>
    simp only[ayz,decide_eq_true_eq] at O;obtain⟨⟨⟨⟨g1,G⟩,M⟩,g4⟩,g6⟩:=O;rcases DataW.trod_slice Q h with⟨rfl,L⟩|⟨a,ab,a6,C,a7,n',hn,rfl,L,hb,b3,cv,a8,a9,_,_⟩;exact Mo g1 ⟨.mk (.slice none 0 0) [],rfl,.sl e none 0 0 [] rfl (ayH _) (λi X Z=>by simp at Z) (λi j X c k Z=>by simp at Z) (λi j X c Z=>by simp at Z) (λi j X c z k Z=>by simp at Z),m7.TJ _,λr Z=>by
     simp only[ku,Q,L,ayE] at Z;subst Z;exact bj.refl _⟩
    cases hn;subst L;simp only[DataW.weights,Q,ayK,ayL] at o;have cx:ab<=140737488355328:=by
     have F:=o _ (.inl rfl);have V:(C.map (·.1)).length+(a7.map (·.1)).length<=((C.map (·.1)).length+(a7.map (·.1)).length)*P.bytesOf e:=Nat.le_mul_of_pos_right _ (by omega);simp only[azg] at F V;have E:reachBytes<=140737488355328:=by decide
     omega
    have al:∃N,g e=some N:=by
     cases m with
     |zero=>simp[tR] at G
     |succ m=>
      cases J:g e with
      |none=>simp[tR,J] at G
      |some N=>exact⟨N,rfl⟩
    obtain⟨N,al⟩:=al;have ag:aV g (.sl e)=N.ae:=by simp[aV,al]
    rw[ag] at M;have b4:∀i,i<ab->∃X:List RV,amP P g W m e N.ae a C i X:=by
     intro i B;have V:=a9 i B;have af:i<C.length:=by omega
     rw[ayB af,aBG] at V;obtain⟨ci,V,E⟩:=V;obtain⟨q1,q2⟩:=Mp n m e N ci _ al G E (λq J=>o q (.inr (.inl (acf (ay1.2 ⟨_,azR af,rfl⟩) J))));obtain⟨_,c1,c2⟩:=World.cells?_some V;obtain⟨X,r1,r2,r3,r4,r5,r6⟩:=ace q1 q2;have bb:X.length=N.ae.length:=by rw[<-azg (f:=RV.val),r1,q1]
     have an:a.spot=none:=by
      have F:=a9 0 (by omega);rw[ayB (by omega),aBG] at F;obtain⟨c0,F,_⟩:=F;obtain⟨_,d1,d2⟩:=World.cells?_some F;have l:=d2 0 (by omega);rw[Nat.zero_mul,ayB (by omega)] at l;simp only[Addr.add,if_true] at l;unfold World.cell? at l;split at l;split at l;cases l;rename_i hs;simpa using hs;cases l
     have bd:∀(j:Nat)(c:RV),X[j]?=some c->W.cell? ⟨a.block,a.off+i*N.ae.length+j,none⟩=some c.val:=by
      intro j c I;have cy:j<N.ae.length:=by rw[<-bb];exact(ayA.1 I).1
      have c3:=c2 j (by omega);have c4:ci[j]?=some c.val:=by rw[<-r1,ayF,I];rfl
      rw[c4] at c3;have ha:(a.add (i*P.cellsOf e)).add j=⟨a.block,a.off+i*N.ae.length+j,none⟩:=by
       rw[M];unfold Addr.add;cases a with
       |mk hU cI sp=>
        simp only at an;subst an;by_cases q5:i*N.ae.length=0<;>by_cases q6:j=0<;>simp[q5,q6]
      rw[ha] at c3;exact c3
     refine⟨X,bb,an, ?_,bd,r2,r3,r4,r5,λj c r x g1 G M=>r6 j c r g1 (by rw[ayB af] at G;cases G;exact M)⟩;have bf:0<N.ae.length:=by omega
     obtain⟨c,A⟩:∃c,X[0]?=some c:=⟨_,ayB (by omega)⟩;exact amO (bd 0 c A)
    obtain⟨bg,l1,b⟩:=amM (α:=List RV) (R:=amP P g W m e N.ae a C) ab b4;refine Mo g1 ⟨.mk (.slice (some a) ab a6) bg,rfl,.sl e (some a) ab a6 bg l1 b3 (λi X Z=> ?_) (λi j X c k Z A u=> ?_) (λi j X c Z A u=> ?_) (λi j X c z k Z A u=> ?_),.mk _ (by rw[RV.jk];omega) (λX Z c A=> ?_),λr Z=> ?_⟩;have p:=b i X Z;rw[ag];refine⟨p.len,a.block,a.off, ?_,p.hU,p.cell⟩;have p2:=p.sp;cases a;simp only at p2;subst p2;rfl;rw[ag] at u;exact(b i X Z).hi j c k A u;rw[ag] at u;exact(b i X Z).hb j c A u;rw[ag] at u;exact(b i X Z).ho j c z k A u;rw[RV.jk] at Z;obtain⟨i,B⟩:=azh Z;exact(b i X B).bnd c A;simp only[ku,Q] at Z;split at Z;rename_i b5;cases Z;have bk:C.length=ab:=by omega
    rw[azg,bk];have get:∀(i:Nat)(X:List RV),(aAE (λd=>aAE (λj=>(ku P m e d j).getD default) (ayQ (P.cellsOf e))) (C.map (·.1)))[i]?=some X->∃x,C[i]?=some x/\X=(ayQ (P.cellsOf e)).map λj=>(ku P m e x.1 j).getD default:=by
     intro i X V;rw[ayF,ayF] at V;cases L:C[i]? with
     |none=>rw[L] at V;cases V
     |some x=>rw[L] at V;simp only[ayI,ayE] at V;exact⟨x,rfl,V.symm⟩
    refine bj.sl _ _ _ _ _ _ _ (by simp[l1,bk]) (λi X a0 V E=> ?_) (λi j X a0 c c' V E s h4=> ?_);obtain⟨x,_,rfl⟩:=get i X V;rw[(b i a0 E).len];simp[M];obtain⟨x,L,rfl⟩:=get i X V;rw[ayF] at s;cases I:(ayQ (P.cellsOf e))[j]? with
    |none=>rw[I] at s;cases s
    |some j'=>
     have a1:j<P.cellsOf e:=by have:=(ayA.1 I).1;simpa using this
     rw[azM a1] at I;cases I;rw[azM a1] at s;simp only[ayI,ayE] at s;have:=ayM.1 (ayM.1 b5 x.1 (ay1.2 ⟨x,ayW L,rfl⟩)) j (azz.2 a1);obtain⟨r,Z⟩:=ayT.1 this;rw[Z] at s;simp only[azf] at s;subst s;exact(b i a0 E).eq j c' r x h4 L Z
    cases Z
   case struct y=>
    simp only[ayz,decide_eq_true_eq,ayM,ay8,azz] at O;obtain⟨⟨g1,G⟩,M⟩:=O;obtain⟨D,n',hn,L,b6,b7,hf⟩:=DataW.trod_struct Q h;cases hn;subst L;simp only[DataW.weights,Q] at o;refine⟨by omega,λj ct v V E=> ?_⟩;have I:j<w.ae.length:=(ayA.1 V).1;obtain⟨f0,b8,ca,cc⟩:=M j I;have c5:(y.toList.zip (D.map (·.1))).length=y.size:=by simp;omega
    obtain⟨fd,a2⟩:∃fd,(y.toList.zip (D.map (·.1))).find? (λf=>decide (f.1.offset<=j)&&decide (j<f.1.offset+P.cellsOf f.1.type))=some fd:=by
     obtain⟨i0,a3⟩:=azh b8;have cf:i0<y.size:=by have:=(ayA.1 a3).1;simpa using this
     refine ayT.1 (List.find?_isSome.2 ⟨((y.toList.zip (D.map (·.1)))[i0]'(by omega)),azR _, ?_⟩);have:f0=y.toList[i0]:=by rw[ayB (by simpa using cf)] at a3;exact(azd a3).symm
     simp only[List.getElem_zip,<-this,ayz,decide_eq_true_eq];exact⟨ca,cc⟩
    have bl:=aAx a2;simp only[ayz,decide_eq_true_eq] at bl;obtain⟨bo,br⟩:=bl;obtain⟨iz,ch⟩:=azh (azZ a2);obtain⟨f,dd⟩:=fd;have a4:=aAT.1 ch;have bo:f.offset<=j:=bo;have br:j<f.offset+P.cellsOf f.type:=br;have cl:f∈y.toList:=ayW a4.1;obtain⟨k1,k2⟩:=G f cl;cases J:g f.type with
    |none=>rw[J] at k2;cases k2
    |some fi=>
     rw[J] at k2;simp only[ayz,decide_eq_true_eq] at k2;obtain⟨k3,k4⟩:=k2;have B:=a4.1;have af:y[iz]?=some f:=by simpa using B
     have c6:iz<y.size:=(ay0.1 af).1;have e1:=hf iz f af;rw[ayB (by omega)] at e1;obtain⟨q1,q2⟩:=Mp n m f.type fi _ _ J k1 e1 (λq a5=>o q (amN (i:=iz) (by simp[B]) (by simp[show iz<D.length by omega]) a5));obtain⟨_,q4⟩:=TH k4;have bs:j-f.offset<fi.ae.length:=by omega
     have ej:f.offset+(j-f.offset)=j:=by omega
     have v1:((cs.drop f.offset).take (P.cellsOf f.type))[j-f.offset]?=some v:=by
      rw[ay7,if_pos (by omega),azj,ej];exact E
     have v2:((w.ae.drop f.offset).take fi.ae.length)[j-f.offset]?=some ct:=by
      rw[ay7,if_pos bs,azj,ej];exact V
     have v3:fi.ae[j-f.offset]?=some fi.ae[j-f.offset]:=ayB bs;have cp:dd=(D[iz]'(by omega)).1:=by
      have:=a4.2;rw[ayF,ayB (by omega)] at this;exact(azd this).symm
     have hE:ku P (m+1) t (.agg (D.map (·.1))) j=ku P m f.type (D[iz]'(by omega)).1 (j-f.offset):=by
      simp only[ku,Q,a2,cp]
     rw[hE];exact vy.acd (q4 _ _ _ v2 v3) (q2 _ _ _ v3 v1)
   case array k e=>
    simp only[ayz,decide_eq_true_eq] at O;obtain⟨⟨g1,G⟩,M⟩:=O;cases J:g e with
    |none=>rw[J] at M;cases M
    |some U=>
     rw[J] at M;simp only[ayz,decide_eq_true_eq,ayM,azz] at M;obtain⟨⟨g4,g5⟩,g6⟩:=M;obtain⟨D,n',hn,L,b6,b7,a8⟩:=DataW.trod_array Q h;cases hn;subst L;simp only[DataW.weights,Q] at o;refine⟨by omega,λj ct v V E=> ?_⟩;have I:j<w.ae.length:=(ayA.1 V).1;have bf:0<U.ae.length:=by
      rcases azO U.ae.length with F|F;rw[g5,F] at I;omega;exact F
     have B:j/U.ae.length<k:=aA9 (by rw[aAV];omega);have Z:j%U.ae.length<U.ae.length:=aAY _ bf;have ej:j/U.ae.length*U.ae.length+j%U.ae.length=j:=by have:=aBa j U.ae.length;rw[aAV] at this;exact this
     have e1:=a8 (j/U.ae.length) B;rw[ayB (by omega)] at e1;obtain⟨q1,q2⟩:=Mp n m e U _ _ J G e1 (λq a5=>o q (acf (ay1.2 ⟨_,azR _,rfl⟩) a5));obtain⟨_,q4⟩:=TH (g6 _ B);have v1:((cs.drop (j/U.ae.length*P.cellsOf e)).take (P.cellsOf e))[j%U.ae.length]?=some v:=by
      rw[g4,ay7,if_pos Z,azj,ej];exact E
     have v2:((w.ae.drop (j/U.ae.length*U.ae.length)).take U.ae.length)[j%U.ae.length]?=some ct:=by
      rw[ay7,if_pos Z,azj,ej];exact V
     have v3:U.ae[j%U.ae.length]?=some U.ae[j%U.ae.length]:=ayB Z;have hE:ku P (m+1) t (.agg (D.map (·.1))) j=ku P m e (D[j/U.ae.length]'(by omega)).1 (j%U.ae.length):=by
      simp only[ku,Q,g4,ayF];rw[ayB (by omega)];rfl
     rw[hE];exact vy.acd (q4 _ _ _ v2 v3) (q2 _ _ _ v3 v1)
end
end
variable{U:Bool}
section
section
variable{P:Program}{a:Ty}{W:World}
def Mq(Z:List LK)(X:List XV):Prop:=∀(q:Nat)(k:IntKind)(n:Int),Z[q]?=some (.int k)->X[q]?=some (.i n)->(Lit.int k n).wf=true
def amQ:∀{E:Nat->Option RV}{ae:List CT}{cs:List Value},cs.length=ae.length->(∀(j:Nat)(X:CT)(v:Value),ae[j]?=some X->cs[j]?=some v->vy a W (E j) X v)->
  ∃U:List XV,cR (ae.map pm) U/\lq (ae.map pm) U=cs/\uw a W (ae.map pm) U/\(∀Z,XV.r Z∈U->m7 Z)/\Mq (ae.map pm) U
 |_,[],[],_,_=>⟨[],trivial,rfl,λq e Z h=>by simp at h,by simp,λq k n h=>by simp at h⟩
 |_,[],_::_,h,_=>by simp at h
 |_,_::_,[],h,_=>by simp at h
 |E,X::ae,v::cs,G,h=>by
  obtain⟨U,V,R,F,D,C⟩:=amQ (E:=λj=>E (j+1)) (ae:=ae) (cs:=cs) (by simpa using G) (λj c u M L=>h (j+1) c u (by simpa using M) (by simpa using L));obtain⟨x,M,L,B,A,y⟩:∃x:XV,ng (pm X) x/\x.at (pm X)=v/\(∀e Z,pm X=.ref e->x=.r Z->aW W a e Z)/\(∀Z,x=.r Z->m7 Z)/\∀k n,pm X=.int k->x=.i n->(Lit.int k n).wf=true:=by
   have J:=h 0 X v rfl rfl;cases X with
   |int k=>
    obtain⟨⟨n,rfl,w⟩,_⟩:=J;exact⟨.i n,trivial,rfl,λe Z h=>(by cases h),λZ h=>(by cases h),λI H V R=>(by cases V;cases R;exact w)⟩
   |bool=>
    obtain⟨⟨n,rfl⟩,_⟩:=J;exact⟨.b n,trivial,rfl,λe Z h=>(by cases h),λZ h=>(by cases h),λI H V R=>(by cases V)⟩
   |ax z k=>
    obtain⟨Z,rfl,t,s,_⟩:=J;exact⟨.r Z,trivial,rfl,λe p V R=>(by cases V;cases R;exact t),λp h=>(by cases h;exact s),λI H V R=>(by cases V)⟩
  refine⟨x::U,⟨M,V⟩, ?_,λq e Z Q O=> ?_,λZ N=> ?_,λq k n Q O=> ?_⟩;show x.at (pm X)::lq (ae.map pm) U=_;rw[L,R];cases q with
  |zero=>simp at Q O;exact B e Z Q O
  |succ q=>exact F q e Z (by simpa using Q) (by simpa using O)
  rcases ayK.1 N with N|N;exact A Z N.symm;exact D Z N;cases q with
  |zero=>simp at Q O;exact y k n Q O
  |succ q=>exact C q k n (by simpa using Q) (by simpa using O)
def amR:∀{Z X:List LK}{V U:List XV},cR Z V->cR X U->cR (Z++X) (V++U)/\lq (Z++X) (V++U)=lq Z V++lq X U
 |[],_,[],_,_,h=>⟨h,rfl⟩
 |[],_,_::_,_,h,_=>h.elim
 |_::_,_,[],_,h,_=>h.elim
 |k::Z,X,x::V,U,h,R=>by
  obtain⟨Q,O⟩:=amR h.2 R;exact⟨⟨h.1,Q⟩,by simp[lq,O]⟩
def acg:∀{Z:List LK}{X:List XV},cR Z X->Z.length=X.length
 |[],[],_=>rfl
 |[],_::_,h=>h.elim
 |_::_,[],h=>h.elim
 |k::Z,x::X,h=>by simp[acg h.2]
def av6{Z R:List LK}{U Q:List XV}(N:cR Z U)(h:uw a W Z U)(M:uw a W R Q):uw a W (Z++R) (U++Q):=by
 intro q e O X V;have L:=acg N;by_cases J:q<Z.length;rw[ayD J] at X;rw[ayD (by omega)] at V;exact h q e O X V;rw[ayG (by omega)] at X;rw[ayG (by omega),<-L] at V;exact M _ e O X V
def av7{Z R:List LK}{U Q:List XV}(O:cR Z U)(h:Mq Z U)(N:Mq R Q):Mq (Z++R) (U++Q):=by
 intro q k n X V;have M:=acg O;by_cases L:q<Z.length;rw[ayD L] at X;rw[ayD (by omega)] at V;exact h q k n X V;rw[ayG (by omega)] at X;rw[ayG (by omega),<-M] at V;exact N _ k n X V
def av8{H:Type}{z:TypeId×Value->H}{spare:Nat->Bool}(jo:fz P a):∀{V:List TypeId}{R:List Value}{M:List (DataW H)}{F:List MemPlace},V.all (tR P a 9)=true->DataW.TrodAll z P W X spare U V R M F->(∀q∈DataW.weightsEach P V M,q<=reachBytes)->
  (∀(j:Nat)(t:TypeId)(v:Value)(Z:TI),V[j]?=some t->R[j]?=some v->a t=some Z->(Z.d.isAgg=true/\v=.agg v.cells)\/(Z.d.isAgg=false/\v.cells.toList=[v]))->
  ∃(L:List LK)(Q:List XV),eV a V=some L/\cR L Q/\qL a V (lq L Q)=R/\uw a W L Q/\(∀N,XV.r N∈Q->m7 N)/\Mq L Q:=by
 intro V;induction V with
 |nil=>
  intro R M F _ h _ _;have:R=[]:=by
   cases R with
   |nil=>rfl
   |cons v R=>cases M<;>simp[DataW.TrodAll] at h
  subst this;exact⟨[],[],rfl,trivial,rfl,λq e N h=>by simp at h,by simp,λq k n h=>by simp at h⟩
 |cons t V y=>
  intro R M F I h x C;obtain⟨v,af,d,w,p,q,rfl,rfl,rfl,⟨u,s⟩,o⟩:=Go.ChangeShapes.trodAll_cons h;simp only[aAv,ayz] at I;obtain⟨Z,G⟩:∃Z,a t=some Z:=by
   cases O:a t with
   |none=>have:=I.1;simp[tR,O] at this
   |some Z=>exact⟨Z,rfl⟩
  have B:∀q,q∈DataW.weights P t d\/q∈DataW.weightsEach P V w->q<=reachBytes:=λq O=>x q (by simp only[DataW.weightsEach,ayL];exact O)
  obtain⟨A,m⟩:=Mp u 9 t Z _ _ G I.1 s (λq O=>B q (.inl O));obtain⟨Q,E,l,i,g,f⟩:=amQ A m;obtain⟨c,b,y1,y2,y3,y4,y5,y6⟩:=y I.2 o (λq O=>B q (.inr O)) (λj t' v' ab q1 q2 q3=>C (j+1) t' v' ab (by simpa using q1) (by simpa using q2) q3);obtain⟨z1,z2⟩:=amR E y2;refine⟨Z.ae.map pm++c,Q++b,by simp[eV,G,y1],z1, ?_,av6 E i y4,λN J=> ?_,av7 E f y6⟩;rw[z2,l];simp only[qL,G];have hl:v.cells.toList.length=Z.ae.length:=A;rw[aAF (by omega),azX (by omega),aBg (by omega),aBN (by omega),ayU,y3];have e:=C 0 t v Z rfl rfl G;congr 1;rcases e with⟨D,e⟩|⟨D,e⟩;rw[if_pos D];exact e.symm;rw[D,e];rfl;rcases ayL.1 J with J|J;exact g N J;exact y5 N J
end
end
variable{R:Program}{Q:Act}
section
def av9{U O:Oper}{W:Exit->Act->List Frame->World->Prop}{M L:List Frame}(G:(execOp Q.eval U).run R V=.ok .recover V)(D:U.guard=none)
  (N:recoverD M=some (Z,L)\/(recoverD M=none/\Z=.nilIface/\L=M))
  (h:wpOpsIn Fence.wide 0 R #[U,O] (λe J w'=>W e J L w') [1] (Q.put U.dst Z) V):(Code.region X #[U,O] false).wpSIn Fence.wide 0 R W Q M V:=by
 intro b k C I B r;have A:L.length=M.length:=by
  rcases N with N|⟨_,_,rfl⟩;exact recoverD_length N;rfl
 obtain⟨e,J,w',z,y⟩:=wp_opsIn [1] _ V h b k L (I.trans rfl) B (room_wide _);refine⟨e,J,L,w',A,z,.of_steps (.one (fenced_wide _ _) stepR_region) ?_⟩;have F:(#[U,O]:Array Oper)[0]?=some U:=rfl;have x:Region.wanted U (yielded #[U,O] Q.tmps)=true:=by simp[Region.wanted,D]
 have E:=stepGR_op (P:=R) (b:=b) (k:=k) (cs:=M) (w:=V) (rest:=[1]) F x;rw[I,Oper.semAt_none] at E;have u:(b.atR Q (.inRegion #[U,O] [0,1]::k)).kind=.deferred:=C;have H:=tryRecover_deferred u M;have t:(b.atR Q (.inRegion #[U,O] [0,1]::k)).finish Z=b.atR (Q.put U.dst Z) (.inRegion #[U,O] [1]::k):=by
  rw[Frame.finish_atR,F];rfl
 refine .of_steps (.one (fenced_wide _ _) (step_lone_go ?_)) y;rw[show ayQ (#[U,O]:Array Oper).size=[0,1] from rfl,E,<-t];simp only[Frame.atR,I] at H⊢;rcases N with N|⟨N,s,rfl⟩;simp[stepG.apply,G,H,N];subst s;simp[stepG.apply,G,H,N]
def amS{U W:Oper}{Z:Exit->Act->List Frame->World->Prop}{O cs':List Frame}{v:Value}{f:FuncId}{args:Array Value}(N:(execOp Q.eval U).run R V=.ok .recover V)(M:U.guard=none)
  (L:recoverD O=some (v,cs')\/(recoverD O=none/\v=.nilIface/\cs'=O))(J:W.guard=none)(I:(W.semAt none (Q.put U.dst v).eval).run R V=.ok (.enter f args) V)
  (h:Calls R f args V λe w'=>∃u,e=.returned u/\Z .normal ((Q.put U.dst v).put W.dst u) cs' w'):(Code.region X #[U,W] false).wpSIn Fence.wide 0 R Z Q O V:=by
 refine av9 N M L ?_;show(if Region.wanted W _ then _ else _);rw[if_pos (by simp[Region.wanted,J])];refine⟨λ_ _=>trivial, ?_⟩;show Oper.uponIn Fence.wide 0 R W _ _ _ ((W.semAt none (Q.put U.dst v).eval).run R V);rw[I];refine⟨λh=>by simp[Fence.wide] at h,callsIn_wide.2 (h.mono ?_)⟩;rintro e w' ⟨u,rfl,H⟩;exact H
@[local go_sem] def ayx (v:Value) (w:World):(Instr.typeAssert (.iface 45 v) 20 45 true).run Tryz.prog w=.ok (.tuple #[v,.bool true]) w:=by kernel_rfl
set_option maxHeartbeats 1000000 in
set_option maxRecDepth 100000 in
def awa (b:Nat) (W:World):Calls Tryz.prog 35 #[.nilIface,.pointer (some ⟨b,0,none⟩)] W λe w'=>e=.returned (.tuple #[])/\w'=W:=by
 go_enter Tryz.func35,Tryz.ntmps35;go_wp2
 (try simp only[Exit.inBlock,Exit.then]);refine bodyPost_ret (results_none rfl _ _ _) rfl ?_;exact⟨rfl,rfl⟩
set_option maxHeartbeats 1000000 in
set_option maxRecDepth 100000 in
def awb (b:Nat) (Z k:Int) (W:World) (X:W.cell? ⟨b,0,none⟩=some (.int .i64 Z)) (V:W.frozen? ⟨b,0,none⟩=false):Calls Tryz.prog 35 #[.iface 45 (.int .i64 k),.pointer (some ⟨b,0,none⟩)] W λe w'=>e=.returned (.tuple #[])/\w'=W.setCell ⟨b,0,none⟩ (.int .i64 k):=by
 go_enter Tryz.func35,Tryz.ntmps35;go_wp2
 go_end0
 exact⟨rfl,rfl⟩
def amT{u:Value}{e:TypeId}(h:V.heap[X]?=some (.cells #[u] e (0,0))):V.setCell ⟨X,0,none⟩ Z=V.putObj X (.cells #[Z] e (0,0)):=by
 unfold World.setCell World.putObj;congr 1;apply Array.ext_getElem?;intro i;rw[az7,Array.getElem?_setIfInBounds];by_cases U:X=i;subst U;have R:X<V.heap.size:=(ay0.1 h).1;rw[if_pos rfl,if_pos rfl,h,if_pos R];rfl;rw[if_neg U,if_neg U]
def ach{g:FuncId}{Z:Func}{J I:TypeId}{H G:String}{F E:Array Edge}(P:Tryz.prog.funcs[g]?=some Z)(D:qK Tryz.prog g=true)(O:Z.ntmps=3)(bA:Z.results= #[])
  (N:Z.body=some (.region X #[⟨some 1,.call {callee:=.builtin .recover,args:= #[],argTypes:= #[]},J,H,F,none⟩,⟨some 2,.call {callee:=.value (.func 35),args:= #[.tmp 1,.tmp 0],argTypes:= #[20,101]},I,G,E,none⟩] false)):nC Tryz.prog g 45:=by
 have M:∀L W,(callFunc 35 L).run Tryz.prog W=.ok (.enter 35 L) W:=sw (by kernel_rfl);refine⟨sw D,λW b=> ?_,λW b C k U=> ?_⟩;refine callsDIn_of_wpSIn P N (by simp[Fence.wide]) λR Q V=> ?_
 rw[O];refine amS (v:=.nilIface) (cs':=R::Q) (f:=35) (args:= #[.nilIface,.pointer (some ⟨b,0,none⟩)]) rfl rfl (.inr ⟨by simp[recoverD,V],rfl,rfl⟩) rfl (by simp[Oper.semAt,go_sem,Act.put,M]) ?_;refine(awa b W).mono ?_;rintro e w' ⟨rfl,rfl⟩;refine⟨_,rfl,rfl,.returning,by rw[<-V],.tuple #[], ?_,⟨_,rfl⟩,rfl,rfl⟩;simp[results,bA];refine callsDIn_of_wpSIn P N (by simp[Fence.wide]) λR Q V=> ?_
 rw[O];refine amS (v:=.iface 45 (.int .i64 k)) (cs':={R with mode:=.panicking [{v:=.iface 45 (.int .i64 k),recovered:=true}]}::Q) (f:=35) (args:= #[.iface 45 (.int .i64 k),.pointer (some ⟨b,0,none⟩)]) rfl rfl (.inl (by simp[recoverD,V])) rfl (by simp[Oper.semAt,go_sem,Act.put,M]) ?_;refine(awb b C k W (by simp[World.cell?,U]) (by simp[World.frozen?,U])).mono ?_;rintro e w' ⟨rfl,rfl⟩;refine⟨_,rfl,rfl,_,rfl,.tuple #[], ?_,⟨_,rfl⟩,rfl,amT U⟩;simp[results,bA]
def awc:nC Tryz.prog 34 45:=ach Tryz.func34 (by kernel_rfl) rfl rfl rfl
def awd:nC Tryz.prog 46 45:=ach Tryz.func46 (by kernel_rfl) rfl rfl rfl
def awe:nC Tryz.prog 61 45:=ach Tryz.func61 (by kernel_rfl) rfl rfl rfl
set_option maxHeartbeats 1000000 in
set_option maxRecDepth 100000 in
def awf (W:World) (b:Nat):CallsDIn Fence.wide 0 Tryz.prog 151 #[.pointer (some ⟨b,0,none⟩)] .returning W λV u U=>(∃v,V=.returned v)/\u=.returning/\U=W:=by
 refine callsDIn_of_wpSIn Tryz.func151 rfl (by simp[Fence.wide]) λX R Z=> ?_
 have Q:X={X with mode:=.returning}:=by rw[<-Z]
 rw[Tryz.ntmps151];apply wpSIn_seq;apply wpSIn_region;simp[wpOpsSIn,go_sem,recoverD,Z,Exit.thenS];refine wpSIn_of_wpIn rfl (wpIn_wide.2 ?_);go_wp2;refine⟨rfl,.returning,by rw[<-Z],.tuple #[], ?_,⟨_,rfl⟩,rfl,rfl⟩;simp[results,Tryz.results151]
set_option maxHeartbeats 1000000 in
set_option maxRecDepth 100000 in
def awg (W:World) (b:Nat) (X k:Int) (Z:W.heap[b]?=some (.cells #[.int .i64 X] 45 (0,0))):CallsDIn Fence.wide 0 Tryz.prog 151 #[.pointer (some ⟨b,0,none⟩)] (.panicking [{v:=.iface 45 (.int .i64 k),recovered:=false}]) W λV u U=>(∃v,V=.returned v)/\u=.panicking [{v:=.iface 45 (.int .i64 k),recovered:=true}]/\U=W.putObj b (.cells #[.int .i64 k] 45 (0,0)):=by
 have bZ:W.cell? ⟨b,0,none⟩=some (.int .i64 X):=by simp[World.cell?,Z]
 have Q:W.frozen? ⟨b,0,none⟩=false:=by simp[World.frozen?,Z]
 refine callsDIn_of_wpSIn Tryz.func151 rfl (by simp[Fence.wide]) λP O R=> ?_
 rw[Tryz.ntmps151];apply wpSIn_seq;apply wpSIn_region;simp[wpOpsSIn,go_sem,recoverD,R,Exit.thenS];refine wpSIn_of_wpIn rfl (wpIn_wide.2 ?_);go_wp2;refine⟨rfl,_,rfl,.tuple #[], ?_,⟨_,rfl⟩,rfl,amT Z⟩;simp[results,Tryz.results151]
def awh:nC Tryz.prog 151 45:=⟨sw (by kernel_rfl),awf,awg⟩
end
section
open Go.Shelf
def Tryz.indexB_ren:Go.Shelf.Ren:=⟨λ|137=>272|217=>319|266=>357|n=>n,λ|9=>9|5=>5|3=>3|n=>n,λ|n=>n⟩
def Tryz.indexB:Go.Proofs.Lays.n137 Tryz.prog Tryz.indexB_ren:={mixed:=by kernel_rfl,f137:=cz Tryz.func272 (by kernel_rfl),f217:=cz Tryz.func319 (by kernel_rfl),f266:=cz Tryz.func357 (by kernel_rfl),t3:=Tryz.underlying3,a3:=Tryz.isAgg3,z3:=Tryz.sizeOf3,v3:=Tryz.zeroValue3,t5:=Tryz.underlying5,a5:=Tryz.isAgg5,z5:=Tryz.sizeOf5,v5:=Tryz.zeroValue5,t9:=Tryz.underlying9,a9:=Tryz.isAgg9,z9:=Tryz.sizeOf9,v9:=Tryz.zeroValue9}
def awi:look PT 272=some [9,5]:=by kernel_rfl
def awj:look SG 272=some [3]:=by kernel_rfl
def awk:eV (look TT) [9,5]=some [.ref .str,.int .u8]:=by kernel_rfl
def awl:eV (look TT) [3]=some [.int .i64]:=by kernel_rfl
def amU:∀(l:List UInt8)(b:UInt8),-1<=Lib.indexByte l b
 |[],_=>by simp[Lib.indexByte]
 |x::l,b=>by
  have:=amU l b;simp only[Lib.indexByte];split;omega;split<;>omega
def amV:∀(l:List UInt8)(b:UInt8)(k:Nat),BL k l b=if Lib.indexByte l b=-1 then-1 else Lib.indexByte l b+k
 |[],_,_=>by simp[BL,Lib.indexByte]
 |x::l,b,k=>by
  have W:=amV l b (k+1);have V:=amU l b;simp only[BL,Lib.indexByte,beq_iff_eq];by_cases Z:x=b;simp[Z];rw[if_neg Z,if_neg Z,W];by_cases X:Lib.indexByte l b=-1;simp[X];rw[if_neg X,if_neg X,if_neg (by omega)];omega
def awm(l:List UInt8)(b:UInt8):BL 0 l b=Lib.indexByte l b:=by
 rw[amV];split;rename_i h;rw[h];simp
def awn:nZ U 272 LF:=by
 intro v u s q O N M L J I out P R Q W p F;rw[awi] at O;cases O;rw[awj] at N;cases N;rw[awk] at M;cases M;rw[awl] at L;cases L;rcases I with _|⟨x,_|⟨y,_|⟨U,I⟩⟩⟩;exact Q.elim;exact Q.2.elim
 ·obtain⟨H,G,_⟩:=Q;cases x with
  |i n=>exact H.elim
  |b n=>exact H.elim
  |r E=>
  cases y with
  |b n=>exact G.elim
  |r n=>exact G.elim
  |i c=>
  have D:=F 0 .str E rfl rfl;cases D with
  |str t=>
  rcases J with _|⟨C,_|⟨B,_|⟨o,J⟩⟩⟩;exact R.elim;exact R.2.elim
  ·obtain⟨X,V,_⟩:=R;cases C with
   |i n=>exact X.elim
   |b n=>exact X.elim
   |r A=>
   cases B with
   |b n=>exact V.elim
   |r n=>exact V.elim
   |i Z=>
   have V:Z=c:=V;subst V;have X:bj A (.mk (.string t) []):=X;cases X with
   |val=>
   have P:some (aQ.ret [.i (BL 0 t.toList (UInt8.ofNat Z.toNat))])=some out:=P;cases P;have h:=Any.strings_IndexByte Tryz.indexB t Z W;refine Calls.mono (show Calls Tryz.prog 272 #[.string t,.int .u8 Z] W _ from h) ?_;rintro e w' ⟨rfl,rfl⟩;refine⟨_,[.i (Lib.indexByte t.data.toList Z.toNat.toUInt8)],rfl,⟨?_,trivial⟩,⟨trivial,trivial⟩,rfl,Below.refl _ _,Th (by simp),λb w=>(alO (by simp) w).elim⟩;show BL 0 t.toList (UInt8.ofNat Z.toNat)=_;rw[awm,ByteArray.toList_eq]
  exact R.2.2.elim
 exact Q.2.2.elim
def amW:∀{n:Nat}{V Z:List XV},jD V Z->cR (ayJ n (.int .i64)) Z->∃l:List Int,l.length=n/\V=l.map XV.i/\Z=l.map XV.i
 |0,V,Z,X,W=>by
  cases Z with
  |cons _ _=>exact W.elim
  |nil=>
   cases V with
   |cons _ _=>exact X.elim
   |nil=>exact⟨[],rfl,rfl,rfl⟩
 |n+1,V,[],X,W=>W.elim
 |n+1,[],x::Z,X,W=>X.elim
 |n+1,y::V,x::Z,X,W=>by
  obtain⟨l,R,Q,P⟩:=amW (n:=n) X.2 W.2;have e:=X.1;have f:=W.1;cases x with
  |b q=>exact f.elim
  |r q=>exact f.elim
  |i m=>
   cases y with
   |b q=>exact e.elim
   |r q=>exact e.elim
   |i U=>
    have e:U=m:=e;subst e;exact⟨U::l,by simp[R],by simp[Q],by simp[P]⟩
def amX(a b c d:Int):bE a b c d=K.fq.valid ⟨⟨a,b⟩,⟨c,d⟩⟩:=by
 rw[azJ];simp[bE,K.fq.valid,K.vq];omega
def awo(a b c d Z X W V:Int):u9 a b c d Z X W V= !(K.fq.pg ⟨⟨a,b⟩,⟨c,d⟩⟩ ⟨⟨Z,X⟩,⟨W,V⟩⟩):=by
 simp only[u9,K.fq.pg,K.Range.pg,aBR]
def awp:look PT 26=some [65,65]:=by kernel_rfl
def awq:look SG 26=some [4,45]:=by kernel_rfl
def k26:eV (look TT) [65,65]=some (ayJ 8 (.int .i64)):=by kernel_rfl
def q26:eV (look TT) [4,45]=some [.bool,.int .i64]:=by kernel_rfl
def awt(a b c d Z X W V:Int):(qL (look TT) [65,65] (lq (ayJ 8 (.int .i64)) [.i a,.i b,.i c,.i d,.i Z,.i X,.i W,.i V])).toArray= #[K.fq.v ⟨⟨a,b⟩,⟨c,d⟩⟩,K.fq.v ⟨⟨Z,X⟩,⟨W,V⟩⟩]:=by kernel_rfl
def awu(x:Bool)(e:Int):C2 (qL (look TT) [4,45] (lq [.bool,.int .i64] [.b x,.i e]))=.tuple #[.bool x,.int .i64 e]:=by kernel_rfl
def awv{l:List Int}(h:l.length=8):∃a b c d Z X W V,l=[a,b,c,d,Z,X,W,V]:=by
 match l,h with
 |[a,b,c,d,Z,X,W,V],_=>exact⟨a,b,c,d,Z,X,W,V,rfl⟩
def aww:nZ U 26 LD:=by
 intro C B A y Z X J I w v out N H G W u t;rw[awp] at Z;cases Z;rw[awq] at X;cases X;rw[k26] at J;cases J;rw[q26] at I;cases I;obtain⟨l,F,rfl,rfl⟩:=amW (n:=8) H G;obtain⟨a,b,c,d,R,Q,P,O,rfl⟩:=awv F;have E:=awt a b c d R Q P O;simp only[ayO,azT] at N⊢;rw[E];simp only[LD,ayE] at N;subst N;have M:∀(x:Bool)(e:Int)(L:World),Below W.heap.size W L->JW (look TT) [4,45] [.bool,.int .i64] W (ayJ 8 (.int .i64)) [.i a,.i b,.i c,.i d,.i R,.i Q,.i P,.i O] (.ret [.b x,.i e]) (.returned (.tuple #[.bool x,.int .i64 e])) L:=λx e L V=>
  ⟨_,[.b x,.i e],rfl,⟨rfl,rfl,trivial⟩,⟨trivial,trivial,trivial⟩,(awu x e).symm,V,Th (by simp),λb D=>(alO (by simp) D).elim⟩
 rw[amX,amX];by_cases Z:K.fq.valid ⟨⟨a,b⟩,⟨c,d⟩⟩=true;by_cases X:K.fq.valid ⟨⟨R,Q⟩,⟨P,O⟩⟩=true;rw[Z,X];refine(auf _ _ Z X (u9 a b c d R Q P O) (by rw[awo];simp) W).mono ?_;rintro e w' ⟨rfl,V⟩;exact M _ _ _ V;have X:K.fq.valid ⟨⟨R,Q⟩,⟨P,O⟩⟩=false:=by simpa using X
 rw[Z,X];refine(auh _ _ Z X W).mono ?_;rintro e w' ⟨rfl,V⟩;exact M _ _ _ V;have Z:K.fq.valid ⟨⟨a,b⟩,⟨c,d⟩⟩=false:=by simpa using Z
 rw[Z];refine(aug _ _ Z W).mono ?_;rintro e w' ⟨rfl,V⟩;exact M _ _ _ V
def awx(f:FuncId):nZ U f (tG f):=by
 unfold tG;by_cases Z:f=26;subst Z;exact aww;by_cases X:f=272;subst X;exact awn;simp only[Z,X,if_false];exact abG f
end
def awy(f:FuncId)(Z:Fn)(h:TB.tree f=some Z):bL f Z.g Z.d Z.t:=by
 have h:BM f=some Z:=h;unfold BM at h;split at h;cases h;exact atK;cases h;exact atL;cases h;exact atM;cases h;exact atN;cases h;exact atO;cases h;exact atP;cases h;exact alP;cases h;exact alQ;cases h;exact alR;cases h;exact atQ;cases h;exact atS;cases h;exact alS;cases h;exact alT;cases h;exact alU;cases h;exact atT;cases h;exact atU;cases h;exact atV;cases h;exact atW;cases h;exact atX;cases h;exact atY;cases h;exact atZ;cases h;exact at0;cases h;exact at1;cases h;exact at2;cases h;exact at3;cases h;exact at4;cases h;exact at5;cases h;exact at6;cases h;exact at7;cases h;exact avk;cases h;exact avl;cases h;exact avm;cases h;exact avn;cases h;exact avo;cases h;exact avp;cases h;exact avq;cases h;exact avr;cases h;exact avs;cases h;exact avt;cases h;exact avu;cases h;exact avv;cases h;exact avw;cases h;exact avx EC;cases h;exact avy;cases h;exact avz;cases h;exact avA;cases h;exact avB;cases h;exact avC EC;cases h;exact avD;cases h;exact avE;cases h;exact avF;cases h;exact avG;cases h;exact avH;cases h;exact avI;cases h;exact avJ EC;cases h;exact avK;cases h;exact avL;cases h;exact avM awh;cases h;exact avN awc;cases h;exact avO EC awd;cases h;exact avP;cases h;exact avQ EC;cases h;exact avS;cases h;exact avT EC;cases h;exact avR;cases h;exact avU;cases h;exact avV EC;cases h;exact avW;cases h;exact avX awe;cases h;exact avY;cases h;exact avZ;cases h;exact av0;cases h;exact av1;cases h;exact av2;cases h;exact av3;cases h;exact ok7;cases h
def awz:abI TB true:=⟨awy,λ_ _ _ _=>rfl,awx⟩
end
end Go.Proofs.YtieaiocljdpebaaGreatDoor.Y
