/- Part 24 of the proof; the last part says what is shown. -/
import Derived.Test.YtieaiocljdpebaaGreatDoorQ14
import Derived.Test.YtieaiocljdpebaaGreatDoorQ4
import Derived.Test.YtieaiocljdpebaaGreatDoorQ5
import Derived.Test.YtieaiocljdpebaaGreatDoorQ11
import Derived.Test.YtieaiocljdpebaaGreatDoorQ13
import Derived.Test.YtieaiocljdpebaaGreatDoorQ23
import Derived.Test.YtieaiocljdpebaaGreatDoorQ15
import Derived.Test.YtieaiocljdpebaaGreatDoorQ16
import Derived.Test.YtieaiocljdpebaaGreatDoorQ17
import Derived.Test.YtieaiocljdpebaaGreatDoorQ18
import Derived.Test.YtieaiocljdpebaaGreatDoorQ19
import Derived.Test.YtieaiocljdpebaaGreatDoorQ20
import Derived.Test.YtieaiocljdpebaaGreatDoorQ21
import Derived.Test.YtieaiocljdpebaaGreatDoorQ22
import Derived.ChangeArms
import Derived.DataReads
import Derived.OpenShut
import Derived.RecoverIn
import Derived.Shelf.Small.Strs
set_option linter.defProp false
set_option linter.unusedVariables false
set_option linter.unusedSimpArgs false
set_option linter.unnecessarySimpa false
open Bool renaming and_eq_true→awF,false_eq_true→aw0,eq_iff_iff→axO,and_assoc→azU
open List renaming getElem?_eq_some_iff→awG,getElem?_eq_getElem→awH,getElem?_append_left→awI,getElem?_map→awL,getElem?_append_right→awM,mem_cons→awP,mem_append→awR,replicate→awS,map_cons→awT,all_eq_true→awU,nil_append→awX,mem_of_getElem?→aw1,range→aw3,mem_map→aw7,getElem?_take→axc,any_eq_true→axe,getElem?_drop→axl,getElem?_of_mem→axv,length_map→axB,mem_range→axR,take_of_length_le→axX,map_nil→ax0,getElem?_range→ax3,getElem_mem→ax6,mem_of_find?_eq_some→ayg,map→ayy,all_cons→ayF,take_append_of_le_length→ayP,find?_some→ayY,getElem?_zip_eq_some→ay0,drop_append_of_le_length→azr,drop_of_length_le→azQ
open Option.some renaming injEq→awJ,inj→axj
open Nat renaming le_refl→awN,eq_zero_or_pos→axT,mod_lt→ayI,mul_comm→ay3,div_lt_of_lt_mul→azj,div_add_mod→azk,sub_self→azl
open Option renaming map_some→awO,isSome_iff_exists→awZ,getD_some→axi,bind_eq_some_iff→azM
open Array renaming getElem?_eq_some_iff→aw6,getElem?_modify→aye
namespace Go.Proofs.YtieaiocljdpebaaGreatDoor.Y
open Go.RowKit
noncomputable section
section
def SB:CT->CT->Bool
 |.int k,.int Z=>decide (k=Z)
 |.bool,.bool=>true
 |.ar _ k,.ar _ Z=>decide (k=Z)
 |_,_=>false
def xu:List CT->List CT->Bool
 |[],[]=>true
 |c::l,Z::X=>SB c Z&&xu l X
 |_,_=>false
def SC:∀{l X:List CT},xu l X=true->l.length=X.length/\∀(j:Nat)(c Z:CT),l[j]?=some c->X[j]?=some Z->SB c Z=true
 |[],[],_=>⟨rfl,λj c Z h _=>by simp at h⟩
 |[],_::_,h=>by cases h
 |_::_,[],h=>by cases h
 |a::l,b::X,h=>by
  simp only[xu,awF] at h;obtain⟨R,Q⟩:=SC h.2;refine⟨by simp[R],λj c Z V U=> ?_⟩;cases j with
  |zero=>simp at V U;subst V;subst U;exact h.1
  |succ j=>exact Q j c Z (by simpa using V) (by simpa using U)
inductive nf:RV->Prop
 |mk (rv:RV) (h:rv.rows.length<=140737488355328) (h2:∀row∈rv.rows,∀c∈row,nf c):nf rv
def nf.SD(v:Value):nf (.mk v []):=.mk _ (by simp[RV.jl]) (by simp[RV.jl])
def vy(ty:Ty)(W:World)(E:Option RV):CT->Value->Prop
 |.int k,v=>(∃n,v=.int k n/\(Lit.int k n).wf=true)/\∀r,E=some r->r=.mk v []
 |.bool,v=>(∃b,v=.bool b)/\∀r,E=some r->r=.mk v []
 |.ar _ k,v=>∃rv:RV,rv.val=v/\aT W ty k rv/\nf rv/\∀r,E=some r->bQ r rv
def vy.aaO{ty:Ty}{W:World}{E:Option RV}{a b:CT}{v:Value}(h:SB a b=true)(k:vy ty W E b v):vy ty W E a v:=by
 cases a<;>cases b<;>simp only[SB,decide_eq_true_eq,aw0] at h;subst h;exact k;exact k;subst h;exact k
def tJ(P:Program)(ty:Ty):Nat->TypeId->Bool
 |0,_=>false
 |n+1,t=>match ty t with
  |none=>false
  |some Z=>match P.underlying t with
   |some (.int k)=>xu Z.ab [.int k]
   |some .bool=>xu Z.ab [.bool]
   |some .string=>xu Z.ab [.ar undef .str]
   |some (.slice e)=>xu Z.ab [.ar undef (.sl e)]&&tJ P ty n e&&decide (P.cellsOf e=(aW ty (.sl e)).length)&&decide (P.cellsOf e≠0)&&decide (P.bytesOf e≠0)
   |some (.struct V)=>decide (P.cellsOf t=Z.ab.length)&&V.toList.all (λf=>tJ P ty n f.type&&(match ty f.type with
     |some X=>decide (P.cellsOf f.type=X.ab.length)&&xu ((Z.ab.drop f.offset).take X.ab.length) X.ab
     |none=>false))&&(aw3 Z.ab.length).all λj=>V.toList.any λf=>decide (f.offset<=j)&&decide (j<f.offset+P.cellsOf f.type)
   |some (.array k e)=>decide (P.cellsOf t=Z.ab.length)&&tJ P ty n e&&(match ty e with
     |some ei=>decide (P.cellsOf e=ei.ab.length)&&decide (Z.ab.length=k*ei.ab.length)&&(aw3 k).all λi=>xu ((Z.ab.drop (i*ei.ab.length)).take ei.ab.length) ei.ab
     |none=>false)
   |_=>false
def kN{H:Type}(P:Program):Nat->TypeId->DataW H->Nat->Option RV
 |0,_,_,_=>none
 |n+1,t,d,j=>match P.underlying t,d with
  |some (.int _),.lit (.int k q)=>some (.mk (.int k q) [])
  |some .bool,.lit (.bool b)=>some (.mk (.bool b) [])
  |some (.slice e),.slice Z _=>if(Z.all λd=>(aw3 (P.cellsOf e)).all λj=>(kN P n e d j).isSome) then some (.mk (.slice none Z.length Z.length) (Z.map λd=>(aw3 (P.cellsOf e)).map λj=>(kN P n e d j).getD default)) else none
  |some (.slice _),.nil=>some (.mk (.slice none 0 0) [])
  |some (.struct X),.agg xs=>match(X.toList.zip xs).find? λf=>decide (f.1.offset<=j)&&decide (j<f.1.offset+P.cellsOf f.1.type) with
   |some f=>kN P n f.1.type f.2 (j-f.1.offset)
   |none=>none
  |some (.array _ e),.agg xs=>match xs[j/P.cellsOf e]? with
   |some d=>kN P n e d (j%P.cellsOf e)
   |none=>none
  |_,_=>none
section
variable{P:Program}{ty:Ty}{W:World}
def L8{E:Nat->Option RV}{ab:List CT}{c:CT}{v:Value}(h:xu ab [c]=true)(k:vy ty W (E 0) c v):[v].length=ab.length/\∀(j:Nat)(Z:CT)(u:Value),ab[j]?=some Z->[v][j]?=some u->vy ty W (E j) Z u:=by
 obtain⟨V,U⟩:=SC h;refine⟨by simp[V],λj Z u R X=> ?_⟩;cases j with
 |zero=>simp at X;subst X;exact vy.aaO (U 0 Z c R rfl) k
 |succ j=>simp at X
def aaP:∀{E:Nat->Option RV}{ab:List CT}{cs:List Value},cs.length=ab.length->(∀(j:Nat)(R:CT)(v:Value),ab[j]?=some R->cs[j]?=some v->vy ty W (E j) R v)->
  ∃row:List RV,row.map RV.val=cs/\(∀(j:Nat)(c:RV)(k:IntKind),row[j]?=some c->ab[j]?=some (.int k)->∃n,c.val=.int k n)/\(∀(j:Nat)(c:RV),row[j]?=some c->ab[j]?=some .bool->∃x,c.val=.bool x)/\(∀(j:Nat)(c:RV)(z:Value)(k:RK),row[j]?=some c->ab[j]?=some (.ar z k)->aT W ty k c)/\(∀c∈row,nf c)/\∀(j:Nat)(c r:RV),row[j]?=some c->E j=some r->bQ r c
 |_,[],[],_,_=>⟨[],rfl,λj c k h=>by simp at h,λj c h=>by simp at h,λj c z k h=>by simp at h,by simp,λj c r h=>by simp at h⟩
 |_,[],_::_,h,_=>by simp at h
 |_,_::_,[],h,_=>by simp at h
 |E,R::ab,v::cs,L,h=>by
  obtain⟨row,J,I,H,G,F,D⟩:=aaP (E:=λj=>E (j+1)) (ab:=ab) (cs:=cs) (by simpa using L) (λj c u C Q=>h (j+1) c u (by simpa using C) (by simpa using Q));obtain⟨r,O,Q,B,A,y,w⟩:∃r:RV,r.val=v/\(∀k,R=.int k->∃n,r.val=.int k n)/\(R=.bool->∃x,r.val=.bool x)/\(∀z k,R=.ar z k->aT W ty k r)/\nf r/\∀V,E 0=some V->bQ V r:=by
   have U:=h 0 R v rfl rfl;cases R with
   |int k=>exact⟨.mk v [],rfl,λN e=>(by cases e;obtain⟨⟨n,t,_⟩,_⟩:=U;exact⟨n,t⟩),λe=>(by cases e),λz k e=>(by cases e),nf.SD v,λV M=>by rw[U.2 V M];exact bQ.refl _⟩
   |bool=>exact⟨.mk v [],rfl,λN e=>(by cases e),λ_=>U.1,λz k e=>(by cases e),nf.SD v,λV M=>by rw[U.2 V M];exact bQ.refl _⟩
   |ar z k=>
    obtain⟨r,O,s,aO,q⟩:=U;exact⟨r,O,λN e=>(by cases e),λe=>(by cases e),λp N e=>(by cases e;exact s),aO,q⟩
  refine⟨r::row,by simp[O,J],λj c k Z X=> ?_,λj c Z X=> ?_,λj c z k Z X=> ?_,λc U=>(awP.1 U).elim (λe=>e▸y) (λU=>F c U),λj c V Z X=> ?_⟩;cases j with
  |zero=>simp at Z X;subst Z;exact Q k X
  |succ j=>exact I j c k (by simpa using Z) (by simpa using X)
  cases j with
  |zero=>simp at Z X;subst Z;exact B X
  |succ j=>exact H j c (by simpa using Z) (by simpa using X)
  cases j with
  |zero=>simp at Z X;subst Z;exact A z k X
  |succ j=>exact G j c z k (by simpa using Z) (by simpa using X)
  cases j with
  |zero=>simp at Z;subst Z;exact w V X
  |succ j=>exact D j c V (by simpa using Z) X
def alg{α:Type}{R:Nat->α->Prop}:∀(n:Nat),(∀i,i<n->∃x,R i x)->∃l:List α,l.length=n/\∀(i:Nat)(x:α),l[i]?=some x->R i x
 |0,_=>⟨[],rfl,λi x h=>by simp at h⟩
 |n+1,h=>by
  obtain⟨l,X,V⟩:=alg n (λi hi=>h i (by omega));obtain⟨x,U⟩:=h n (by omega);refine⟨l++[x],by simp[X],λi y Z=> ?_⟩;by_cases hi:i<n;rw[awI (by omega)] at Z;exact V i y Z;rw[awM (by omega)] at Z;have:i=n:=by
   cases Q:i-l.length with
   |zero=>omega
   |succ q=>rw[Q] at Z;simp at Z
  subst this;rw[X,azl] at Z;simp at Z;subst Z;exact U
def aaQ{H:Type}{P:Program}{e:TypeId}{q:Nat}:∀{l:List (DataW H)}{d:DataW H},d∈l->q∈DataW.weights P e d->q∈DataW.weightsAll P e l
 |[],_,h,_=>by simp at h
 |x::l,d,h,Z=>by
  simp only[DataW.weightsAll,awR];rcases awP.1 h with rfl|h;exact .inl Z;exact .inr (aaQ h Z)
def alh{H:Type}{P:Program}{q:Nat}:∀{Z:List TypeId}{l:List (DataW H)}{i:Nat}{t:TypeId}{d:DataW H},Z[i]?=some t->l[i]?=some d->q∈DataW.weights P t d->q∈DataW.weightsEach P Z l
 |[],_,_,_,_,h,_,_=>by simp at h
 |_::_,[],_,_,_,_,h,_=>by simp at h
 |t0::Z,R::l,i,t,d,X,V,U=>by
  simp only[DataW.weightsEach,awR];cases i with
  |zero=>simp at X V;subst X;subst V;exact .inl U
  |succ i=>exact .inr (alh (i:=i) (by simpa using X) (by simpa using V) U)
def ali{b off:Nat}{v:Value}(h:W.cell? ⟨b,off,none⟩=some v):∃cs t fr,W.heap[b]?=some (.cells cs t fr):=by
 unfold World.cell? at h;split at h;rename_i c t fr Z;exact⟨c,t,fr,Z⟩;cases h
structure alj{H:Type}(P:Program)(ty:Ty)(W:World)(n:Nat)(e:TypeId)(ab:List CT)(a:Addr)(elems:List (DataW H×List MemPlace))(i:Nat)(row:List RV):Prop where
 len:row.length=ab.length
 sp:a.spot=none
 iC:∃cs t fr,W.heap[a.block]?=some (.cells cs t fr)
 cell:∀(j:Nat)(c:RV),row[j]?=some c->W.cell? ⟨a.block,a.off+i*ab.length+j,none⟩=some c.val
 hi:∀(j:Nat)(c:RV)(k:IntKind),row[j]?=some c->ab[j]?=some (.int k)->∃n,c.val=.int k n
 hb:∀(j:Nat)(c:RV),row[j]?=some c->ab[j]?=some .bool->∃x,c.val=.bool x
 ho:∀(j:Nat)(c:RV)(z:Value)(k:RK),row[j]?=some c->ab[j]?=some (.ar z k)->aT W ty k c
 bnd:∀c∈row,nf c
 eq:∀(j:Nat)(c r:RV)(x:DataW H×List MemPlace),row[j]?=some c->elems[i]?=some x->kN P n e x.1 j=some r->bQ r c
def L9{H:Type}{enc:TypeId×Value->H}{base:Nat}{spare:Nat->Bool}{bt:Bool}:∀(fuel m:Nat)(t:TypeId)(C:TI)(cs:List Value)(x:DataW H×List MemPlace),ty t=some C->tJ P ty m t=true->DataW.trod enc P W base spare bt fuel t cs=some x->(∀q∈DataW.weights P t x.1,q<=reachBytes)->
  cs.length=C.ab.length/\∀(j:Nat)(o:CT)(v:Value),C.ab[j]?=some o->cs[j]?=some v->vy ty W (kN P m t x.1 j) o v
 |0,_,_,_,_,_,_,_,h,_=>by simp[DataW.trod] at h
 |_+1,0,_,_,_,_,_,U,_,_=>by simp[tJ] at U
 |n+1,m+1,t,C,cs,x,ht,U,h,y=>by
  simp only[tJ,ht] at U;cases V:P.underlying t with
  |none=>rw[V] at U;cases U
  |some d=>
   rw[V] at U;cases d<;>simp only[aw0] at U
   case int k=>
    obtain⟨q,rfl,rfl,bx⟩:=DataW.trod_int V h;exact L8 U ⟨⟨q,rfl,bx⟩,λr Z=>by simp only[kN,V,awJ] at Z;exact Z.symm⟩
   case bool=>
    obtain⟨q,rfl,rfl⟩:=DataW.trod_bool V h;exact L8 U ⟨⟨q,rfl⟩,λr Z=>by simp only[kN,V,awJ] at Z;exact Z.symm⟩
   case string=>
    obtain⟨q,rfl,_⟩:=DataW.trod_string V h;exact L8 U ⟨.mk (.string q) [],rfl,.str q,nf.SD _,λr Z=>by simp[kN,V] at Z⟩
   case slice e=>
    simp only[awF,decide_eq_true_eq] at U;obtain⟨⟨⟨⟨l,J⟩,O⟩,g4⟩,g6⟩:=U;rcases DataW.trod_slice V h with⟨rfl,N⟩|⟨a,g,cap,F,rest,n',hn,rfl,N,hb,b0,ch,a6,a7,_,_⟩;exact L8 l ⟨.mk (.slice none 0 0) [],rfl,.sl e none 0 0 [] rfl (awN _) (λi row Z=>by simp at Z) (λi j row c k Z=>by simp at Z) (λi j row c Z=>by simp at Z) (λi j row c z k Z=>by simp at Z),nf.SD _,λr Z=>by
     simp only[kN,V,N,awJ] at Z;subst Z;exact bQ.refl _⟩
    cases hn;subst N;simp only[DataW.weights,V,awP,awR] at y;have cl:g<=140737488355328:=by
     have I:=y _ (.inl rfl);have X:(F.map (·.1)).length+(rest.map (·.1)).length<=((F.map (·.1)).length+(rest.map (·.1)).length)*P.bytesOf e:=Nat.le_mul_of_pos_right _ (by omega);simp only[axB] at I X;have G:reachBytes<=140737488355328:=by decide
     omega
    have ag:∃Q,ty e=some Q:=by
     cases m with
     |zero=>simp[tJ] at J
     |succ m=>
      cases M:ty e with
      |none=>simp[tJ,M] at J
      |some Q=>exact⟨Q,rfl⟩
    obtain⟨Q,ag⟩:=ag;have af:aW ty (.sl e)=Q.ab:=by simp[aW,ag]
    rw[af] at O;have b1:∀i,i<g->∃row:List RV,alj P ty W m e Q.ab a F i row:=by
     intro i hi;have X:=a7 i hi;have b:i<F.length:=by omega
     rw[awH b,azM] at X;obtain⟨ci,X,G⟩:=X;obtain⟨q1,q2⟩:=L9 n m e Q ci _ ag J G (λq M=>y q (.inr (.inl (aaQ (aw7.2 ⟨_,ax6 b,rfl⟩) M))));obtain⟨_,c1,c2⟩:=World.cells?_some X;obtain⟨row,r1,r2,r3,r4,r5,r6⟩:=aaP q1 q2;have a8:row.length=Q.ab.length:=by rw[<-axB (f:=RV.val),r1,q1]
     have an:a.spot=none:=by
      have I:=a7 0 (by omega);rw[awH (by omega),azM] at I;obtain⟨c0,I,_⟩:=I;obtain⟨_,d1,d2⟩:=World.cells?_some I;have w:=d2 0 (by omega);rw[Nat.zero_mul,awH (by omega)] at w;simp only[Addr.add,if_true] at w;unfold World.cell? at w;split at w;split at w;cases w;rename_i hs;simpa using hs;cases w
     have a9:∀(j:Nat)(c:RV),row[j]?=some c->W.cell? ⟨a.block,a.off+i*Q.ab.length+j,none⟩=some c.val:=by
      intro j c L;have cp:j<Q.ab.length:=by rw[<-a8];exact(awG.1 L).1
      have c3:=c2 j (by omega);have c4:ci[j]?=some c.val:=by rw[<-r1,awL,L];rfl
      rw[c4] at c3;have ha:(a.add (i*P.cellsOf e)).add j=⟨a.block,a.off+i*Q.ab.length+j,none⟩:=by
       rw[O];unfold Addr.add;cases a with
       |mk iC off sp=>
        simp only at an;subst an;by_cases q5:i*Q.ab.length=0<;>by_cases q6:j=0<;>simp[q5,q6]
      rw[ha] at c3;exact c3
     refine⟨row,a8,an, ?_,a9,r2,r3,r4,r5,λj c r x l J O=>r6 j c r l (by rw[awH b] at J;cases J;exact O)⟩;have bb:0<Q.ab.length:=by omega
     obtain⟨c,E⟩:∃c,row[0]?=some c:=⟨_,awH (by omega)⟩;exact ali (a9 0 c E)
    obtain⟨rows,l1,u⟩:=alg (α:=List RV) (R:=alj P ty W m e Q.ab a F) g b1;refine L8 l ⟨.mk (.slice (some a) g cap) rows,rfl,.sl e (some a) g cap rows l1 b0 (λi row Z=> ?_) (λi j row c k Z E B=> ?_) (λi j row c Z E B=> ?_) (λi j row c z k Z E B=> ?_),.mk _ (by rw[RV.jl];omega) (λrow Z c E=> ?_),λr Z=> ?_⟩;have p:=u i row Z;rw[af];refine⟨p.len,a.block,a.off, ?_,p.iC,p.cell⟩;have p2:=p.sp;cases a;simp only at p2;subst p2;rfl;rw[af] at B;exact(u i row Z).hi j c k E B;rw[af] at B;exact(u i row Z).hb j c E B;rw[af] at B;exact(u i row Z).ho j c z k E B;rw[RV.jl] at Z;obtain⟨i,hi⟩:=axv Z;exact(u i row hi).bnd c E;simp only[kN,V] at Z;split at Z;rename_i b2;cases Z;have bd:F.length=g:=by omega
    rw[axB,bd];have get:∀(i:Nat)(row:List RV),(ayy (λd=>ayy (λj=>(kN P m e d j).getD default) (aw3 (P.cellsOf e))) (F.map (·.1)))[i]?=some row->∃x,F[i]?=some x/\row=(aw3 (P.cellsOf e)).map λj=>(kN P m e x.1 j).getD default:=by
     intro i row X;rw[awL,awL] at X;cases N:F[i]? with
     |none=>rw[N] at X;cases X
     |some x=>rw[N] at X;simp only[awO,awJ] at X;exact⟨x,rfl,X.symm⟩
    refine bQ.sl _ _ _ _ _ _ _ (by simp[l1,bd]) (λi row a0 X G=> ?_) (λi j row a0 c c' X G A h4=> ?_);obtain⟨x,_,rfl⟩:=get i row X;rw[(u i a0 G).len];simp[O];obtain⟨x,N,rfl⟩:=get i row X;rw[awL] at A;cases L:(aw3 (P.cellsOf e))[j]? with
    |none=>rw[L] at A;cases A
    |some j'=>
     have a1:j<P.cellsOf e:=by have:=(awG.1 L).1;simpa using this
     rw[ax3 a1] at L;cases L;rw[ax3 a1] at A;simp only[awO,awJ] at A;have:=awU.1 (awU.1 b2 x.1 (aw7.2 ⟨x,aw1 N,rfl⟩)) j (axR.2 a1);obtain⟨r,Z⟩:=awZ.1 this;rw[Z] at A;simp only[axi] at A;subst A;exact(u i a0 G).eq j c' r x h4 N Z
    cases Z
   case struct D=>
    simp only[awF,decide_eq_true_eq,awU,axe,axR] at U;obtain⟨⟨l,J⟩,O⟩:=U;obtain⟨xs,n',hn,N,b3,b4,hf⟩:=DataW.trod_struct V h;cases hn;subst N;simp only[DataW.weights,V] at y;refine⟨by omega,λj o v X G=> ?_⟩;have L:j<C.ab.length:=(awG.1 X).1;obtain⟨f0,b5,b6,b7⟩:=O j L;have cv:(D.toList.zip (xs.map (·.1))).length=D.size:=by simp;omega
    obtain⟨fd,a2⟩:∃fd,(D.toList.zip (xs.map (·.1))).find? (λf=>decide (f.1.offset<=j)&&decide (j<f.1.offset+P.cellsOf f.1.type))=some fd:=by
     obtain⟨i0,a3⟩:=axv b5;have b8:i0<D.size:=by have:=(awG.1 a3).1;simpa using this
     refine awZ.1 (List.find?_isSome.2 ⟨((D.toList.zip (xs.map (·.1)))[i0]'(by omega)),ax6 _, ?_⟩);have:f0=D.toList[i0]:=by rw[awH (by simpa using b8)] at a3;exact(axj a3).symm
     simp only[List.getElem_zip,<-this,awF,decide_eq_true_eq];exact⟨b6,b7⟩
    have bf:=ayY a2;simp only[awF,decide_eq_true_eq] at bf;obtain⟨bk,br⟩:=bf;obtain⟨s,ca⟩:=axv (ayg a2);obtain⟨f,dd⟩:=fd;have a4:=ay0.1 ca;have bk:f.offset<=j:=bk;have br:j<f.offset+P.cellsOf f.type:=br;have cc:f∈D.toList:=aw1 a4.1;obtain⟨k1,k2⟩:=J f cc;cases M:ty f.type with
    |none=>rw[M] at k2;cases k2
    |some fi=>
     rw[M] at k2;simp only[awF,decide_eq_true_eq] at k2;obtain⟨k3,k4⟩:=k2;have hi:=a4.1;have b:D[s]?=some f:=by simpa using hi
     have cx:s<D.size:=(aw6.1 b).1;have e1:=hf s f b;rw[awH (by omega)] at e1;obtain⟨q1,q2⟩:=L9 n m f.type fi _ _ M k1 e1 (λq a5=>y q (alh (i:=s) (by simp[hi]) (by simp[show s<xs.length by omega]) a5));obtain⟨_,q4⟩:=SC k4;have bs:j-f.offset<fi.ab.length:=by omega
     have ej:f.offset+(j-f.offset)=j:=by omega
     have v1:((cs.drop f.offset).take (P.cellsOf f.type))[j-f.offset]?=some v:=by
      rw[axc,if_pos (by omega),axl,ej];exact G
     have v2:((C.ab.drop f.offset).take fi.ab.length)[j-f.offset]?=some o:=by
      rw[axc,if_pos bs,axl,ej];exact X
     have v3:fi.ab[j-f.offset]?=some fi.ab[j-f.offset]:=awH bs;have cf:dd=(xs[s]'(by omega)).1:=by
      have:=a4.2;rw[awL,awH (by omega)] at this;exact(axj this).symm
     have hE:kN P (m+1) t (.agg (xs.map (·.1))) j=kN P m f.type (xs[s]'(by omega)).1 (j-f.offset):=by
      simp only[kN,V,a2,cf]
     rw[hE];exact vy.aaO (q4 _ _ _ v2 v3) (q2 _ _ _ v3 v1)
   case array k e=>
    simp only[awF,decide_eq_true_eq] at U;obtain⟨⟨l,J⟩,O⟩:=U;cases M:ty e with
    |none=>rw[M] at O;cases O
    |some ei=>
     rw[M] at O;simp only[awF,decide_eq_true_eq,awU,axR] at O;obtain⟨⟨g4,g5⟩,g6⟩:=O;obtain⟨xs,n',hn,N,b3,b4,a6⟩:=DataW.trod_array V h;cases hn;subst N;simp only[DataW.weights,V] at y;refine⟨by omega,λj o v X G=> ?_⟩;have L:j<C.ab.length:=(awG.1 X).1;have bb:0<ei.ab.length:=by
      rcases axT ei.ab.length with I|I;rw[g5,I] at L;omega;exact I
     have hi:j/ei.ab.length<k:=azj (by rw[ay3];omega);have Z:j%ei.ab.length<ei.ab.length:=ayI _ bb;have ej:j/ei.ab.length*ei.ab.length+j%ei.ab.length=j:=by have:=azk j ei.ab.length;rw[ay3] at this;exact this
     have e1:=a6 (j/ei.ab.length) hi;rw[awH (by omega)] at e1;obtain⟨q1,q2⟩:=L9 n m e ei _ _ M J e1 (λq a5=>y q (aaQ (aw7.2 ⟨_,ax6 _,rfl⟩) a5));obtain⟨_,q4⟩:=SC (g6 _ hi);have v1:((cs.drop (j/ei.ab.length*P.cellsOf e)).take (P.cellsOf e))[j%ei.ab.length]?=some v:=by
      rw[g4,axc,if_pos Z,axl,ej];exact G
     have v2:((C.ab.drop (j/ei.ab.length*ei.ab.length)).take ei.ab.length)[j%ei.ab.length]?=some o:=by
      rw[axc,if_pos Z,axl,ej];exact X
     have v3:ei.ab[j%ei.ab.length]?=some ei.ab[j%ei.ab.length]:=awH Z;have hE:kN P (m+1) t (.agg (xs.map (·.1))) j=kN P m e (xs[j/ei.ab.length]'(by omega)).1 (j%ei.ab.length):=by
      simp only[kN,V,g4,awL];rw[awH (by omega)];rfl
     rw[hE];exact vy.aaO (q4 _ _ _ v2 v3) (q2 _ _ _ v3 v1)
end
end
section
section
variable{P:Program}{ty:Ty}{W:World}
def Ma(ks:List LK)(xs:List XV):Prop:=∀(q:Nat)(k:IntKind)(n:Int),ks[q]?=some (.int k)->xs[q]?=some (.i n)->(Lit.int k n).wf=true
def alk:∀{E:Nat->Option RV}{ab:List CT}{cs:List Value},cs.length=ab.length->(∀(j:Nat)(Z:CT)(v:Value),ab[j]?=some Z->cs[j]?=some v->vy ty W (E j) Z v)->
  ∃xs:List XV,cR (ab.map rQ) xs/\lL (ab.map rQ) xs=cs/\um ty W (ab.map rQ) xs/\(∀rv,XV.r rv∈xs->nf rv)/\Ma (ab.map rQ) xs
 |_,[],[],_,_=>⟨[],trivial,rfl,λq e rv h=>by simp at h,by simp,λq k n h=>by simp at h⟩
 |_,[],_::_,h,_=>by simp at h
 |_,_::_,[],h,_=>by simp at h
 |E,Z::ab,v::cs,J,h=>by
  obtain⟨xs,X,V,I,H,G⟩:=alk (E:=λj=>E (j+1)) (ab:=ab) (cs:=cs) (by simpa using J) (λj c u O N=>h (j+1) c u (by simpa using O) (by simpa using N));obtain⟨x,O,N,F,D,C⟩:∃x:XV,nx (rQ Z) x/\x.at (rQ Z)=v/\(∀e rv,rQ Z=.ref e->x=.r rv->aT W ty e rv)/\(∀rv,x=.r rv->nf rv)/\∀k n,rQ Z=.int k->x=.i n->(Lit.int k n).wf=true:=by
   have M:=h 0 Z v rfl rfl;cases Z with
   |int k=>
    obtain⟨⟨n,rfl,B⟩,_⟩:=M;exact⟨.i n,trivial,rfl,λe rv h=>(by cases h),λrv h=>(by cases h),λL n' X V=>(by cases X;cases V;exact B)⟩
   |bool=>
    obtain⟨⟨n,rfl⟩,_⟩:=M;exact⟨.b n,trivial,rfl,λe rv h=>(by cases h),λrv h=>(by cases h),λL n' X V=>(by cases X)⟩
   |ar z k=>
    obtain⟨rv,rfl,A,y,_⟩:=M;exact⟨.r rv,trivial,rfl,λe w X V=>(by cases X;cases V;exact A),λw h=>(by cases h;exact y),λL n' X V=>(by cases X)⟩
  refine⟨x::xs,⟨O,X⟩, ?_,λq e rv U R=> ?_,λrv Q=> ?_,λq k n U R=> ?_⟩;show x.at (rQ Z)::lL (ab.map rQ) xs=_;rw[N,V];cases q with
  |zero=>simp at U R;exact F e rv U R
  |succ q=>exact I q e rv (by simpa using U) (by simpa using R)
  rcases awP.1 Q with Q|Q;exact D rv Q.symm;exact H rv Q;cases q with
  |zero=>simp at U R;exact C k n U R
  |succ q=>exact G q k n (by simpa using U) (by simpa using R)
def alm:∀{ks Z:List LK}{xs X:List XV},cR ks xs->cR Z X->cR (ks++Z) (xs++X)/\lL (ks++Z) (xs++X)=lL ks xs++lL Z X
 |[],_,[],_,_,h=>⟨h,rfl⟩
 |[],_,_::_,_,h,_=>h.elim
 |_::_,_,[],_,h,_=>h.elim
 |k::ks,Z,x::xs,X,h,V=>by
  obtain⟨U,R⟩:=alm h.2 V;exact⟨⟨h.1,U⟩,by simp[lL,R]⟩
def aaR:∀{ks:List LK}{xs:List XV},cR ks xs->ks.length=xs.length
 |[],[],_=>rfl
 |[],_::_,h=>h.elim
 |_::_,[],h=>h.elim
 |k::ks,x::xs,h=>by simp[aaR h.2]
def aup{ks V:List LK}{xs U:List XV}(R:cR ks xs)(h:um ty W ks xs)(Q:um ty W V U):um ty W (ks++V) (xs++U):=by
 intro q e rv Z X;have O:=aaR R;by_cases N:q<ks.length;rw[awI N] at Z;rw[awI (by omega)] at X;exact h q e rv Z X;rw[awM (by omega)] at Z;rw[awM (by omega),<-O] at X;exact Q _ e rv Z X
def auq{ks V:List LK}{xs U:List XV}(R:cR ks xs)(h:Ma ks xs)(Q:Ma V U):Ma (ks++V) (xs++U):=by
 intro q k n Z X;have O:=aaR R;by_cases N:q<ks.length;rw[awI N] at Z;rw[awI (by omega)] at X;exact h q k n Z X;rw[awM (by omega)] at Z;rw[awM (by omega),<-O] at X;exact Q _ k n Z X
def aur{H:Type}{enc:TypeId×Value->H}{base:Nat}{spare:Nat->Bool}{I:Bool}(jt:fA P ty):∀{X:List TypeId}{vs:List Value}{ds:List (DataW H)}{ps:List MemPlace},X.all (tJ P ty 9)=true->DataW.TrodAll enc P W base spare I X vs ds ps->(∀q∈DataW.weightsEach P X ds,q<=reachBytes)->
  (∀(j:Nat)(t:TypeId)(v:Value)(Z:TI),X[j]?=some t->vs[j]?=some v->ty t=some Z->(Z.d.isAgg=true/\v=.agg v.cells)\/(Z.d.isAgg=false/\v.cells.toList=[v]))->
  ∃(ks:List LK)(xs:List XV),eZ ty X=some ks/\cR ks xs/\qB ty X (lL ks xs)=vs/\um ty W ks xs/\(∀rv,XV.r rv∈xs->nf rv)/\Ma ks xs:=by
 intro X;induction X with
 |nil=>
  intro vs ds ps _ h _ _;have:vs=[]:=by
   cases vs with
   |nil=>rfl
   |cons v vs=>cases ds<;>simp[DataW.TrodAll] at h
  subst this;exact⟨[],[],rfl,trivial,rfl,λq e rv h=>by simp at h,by simp,λq k n h=>by simp at h⟩
 |cons t X G=>
  intro vs ds ps R h F M;obtain⟨v,af,d,E,p,q,rfl,rfl,rfl,⟨fuel,D⟩,C⟩:=Go.ChangeShapes.trodAll_cons h;simp only[ayF,awF] at R;obtain⟨Z,Q⟩:∃Z,ty t=some Z:=by
   cases V:ty t with
   |none=>have:=R.1;simp[tJ,V] at this
   |some Z=>exact⟨Z,rfl⟩
  have L:∀q,q∈DataW.weights P t d\/q∈DataW.weightsEach P X E->q<=reachBytes:=λq V=>F q (by simp only[DataW.weightsEach,awR];exact V)
  obtain⟨J,B⟩:=L9 fuel 9 t Z _ _ Q R.1 D (λq V=>L q (.inl V));obtain⟨xs,O,A,z,y,x⟩:=alk J B;obtain⟨w,u,s,o,m,l,i,g⟩:=G R.2 C (λq V=>L q (.inr V)) (λj f c b a q2 q3=>M (j+1) f c b (by simpa using a) (by simpa using q2) q3);obtain⟨z1,z2⟩:=alm O o;refine⟨Z.ab.map rQ++w,xs++u,by simp[eZ,Q,s],z1, ?_,aup O z l,λrv U=> ?_,auq O x g⟩;rw[z2,A];simp only[qB,Q];have hl:v.cells.toList.length=Z.ab.length:=J;rw[ayP (by omega),axX (by omega),azr (by omega),azQ (by omega),awX,m];have e:=M 0 t v Z rfl rfl Q;congr 1;rcases e with⟨N,e⟩|⟨N,e⟩;rw[if_pos N];exact e.symm;rw[N,e];rfl;rcases awR.1 U with U|U;exact y rv U;exact i rv U
end
end
section
def aus{P:Program}{id:Nat}{Z X:Oper}{Q:Exit->Act->List Frame->World->Prop}{a:Act}{cs cs':List Frame}{w:World}{v:Value}(O:(execOp a.eval Z).run P w=.ok .recover w)(L:Z.guard=none)
  (W:recoverD cs=some (v,cs')\/(recoverD cs=none/\v=.nilIface/\cs'=cs))
  (h:wpOpsIn Fence.wide 0 P #[Z,X] (λe a' V=>Q e a' cs' V) [1] (a.put Z.dst v) w):(Code.region id #[Z,X] false).wpSIn Fence.wide 0 P Q a cs w:=by
 intro b k J U I A;have H:cs'.length=cs.length:=by
  rcases W with W|⟨_,_,rfl⟩;exact recoverD_length W;rfl
 obtain⟨e,a',V,G,F⟩:=wp_opsIn [1] _ w h b k cs' (U.trans rfl) I (room_wide _);refine⟨e,a',cs',V,H,G,.of_steps (.one (fenced_wide _ _) stepR_region) ?_⟩;have N:(#[Z,X]:Array Oper)[0]?=some Z:=rfl;have E:Region.wanted Z (yielded #[Z,X] a.tmps)=true:=by simp[Region.wanted,L]
 have M:=stepGR_op (P:=P) (b:=b) (k:=k) (cs:=cs) (w:=w) (rest:=[1]) N E;rw[U,Oper.semAt_none] at M;have D:(b.atR a (.inRegion #[Z,X] [0,1]::k)).kind=.deferred:=J;have R:=tryRecover_deferred D cs;have C:(b.atR a (.inRegion #[Z,X] [0,1]::k)).finish v=b.atR (a.put Z.dst v) (.inRegion #[Z,X] [1]::k):=by
  rw[Frame.finish_atR,N];rfl
 refine .of_steps (.one (fenced_wide _ _) (step_lone_go ?_)) F;rw[show aw3 (#[Z,X]:Array Oper).size=[0,1] from rfl,M,<-C];simp only[Frame.atR,U] at R⊢;rcases W with W|⟨W,B,rfl⟩;simp[stepG.apply,O,R,W];subst B;simp[stepG.apply,O,R,W]
def aln{P:Program}{id:Nat}{X Z:Oper}{Q:Exit->Act->List Frame->World->Prop}{a:Act}{cs cs':List Frame}{w:World}{v:Value}{f:FuncId}{args:Array Value}(V:(execOp a.eval X).run P w=.ok .recover w)(U:X.guard=none)
  (R:recoverD cs=some (v,cs')\/(recoverD cs=none/\v=.nilIface/\cs'=cs))(O:Z.guard=none)(N:(Z.semAt none (a.put X.dst v).eval).run P w=.ok (.enter f args) w)
  (h:Calls P f args w λe W=>∃u,e=.returned u/\Q .normal ((a.put X.dst v).put Z.dst u) cs' W):(Code.region id #[X,Z] false).wpSIn Fence.wide 0 P Q a cs w:=by
 refine aus V U R ?_;show(if Region.wanted Z _ then _ else _);rw[if_pos (by simp[Region.wanted,O])];refine⟨λ_ _=>trivial, ?_⟩;show Oper.uponIn Fence.wide 0 P Z _ _ _ ((Z.semAt none (a.put X.dst v).eval).run P w);rw[N];refine⟨λh=>by simp[Fence.wide] at h,callsIn_wide.2 (h.mono ?_)⟩;rintro e W ⟨u,rfl,M⟩;exact M
@[local go_sem] def awD (v:Value) (w:World):(Instr.typeAssert (.iface 45 v) 20 45 true).run Tryz.prog w=.ok (.tuple #[v,.bool true]) w:=by kernel_rfl
set_option maxHeartbeats 1000000 in
set_option maxRecDepth 100000 in
def aut (b:Nat) (W:World):Calls Tryz.prog 35 #[.nilIface,.pointer (some ⟨b,0,none⟩)] W λe Z=>e=.returned (.tuple #[])/\Z=W:=by
 go_enter Tryz.func35,Tryz.ntmps35;go_wp2
 (try simp only[Exit.inBlock,Exit.then]);refine bodyPost_ret (results_none rfl _ _ _) rfl ?_;exact⟨rfl,rfl⟩
set_option maxHeartbeats 1000000 in
set_option maxRecDepth 100000 in
def auu (b:Nat) (Z k:Int) (W:World) (V:W.cell? ⟨b,0,none⟩=some (.int .i64 Z)) (U:W.frozen? ⟨b,0,none⟩=false):Calls Tryz.prog 35 #[.iface 45 (.int .i64 k),.pointer (some ⟨b,0,none⟩)] W λe X=>e=.returned (.tuple #[])/\X=W.setCell ⟨b,0,none⟩ (.int .i64 k):=by
 go_enter Tryz.func35,Tryz.ntmps35;go_wp2
 go_end0
 exact⟨rfl,rfl⟩
def alo{W:World}{b:Nat}{v u:Value}{e:TypeId}(h:W.heap[b]?=some (.cells #[u] e (0,0))):W.setCell ⟨b,0,none⟩ v=W.putObj b (.cells #[v] e (0,0)):=by
 unfold World.setCell World.putObj;congr 1;apply Array.ext_getElem?;intro i;rw[aye,Array.getElem?_setIfInBounds];by_cases hi:b=i;subst hi;have Z:b<W.heap.size:=(aw6.1 h).1;rw[if_pos rfl,if_pos rfl,h,if_pos Z];rfl;rw[if_neg hi,if_neg hi]
def aaS{g:FuncId}{fn:Func}{id:Nat}{O t2:TypeId}{N M:String}{L J:Array Edge}(U:Tryz.prog.funcs[g]?=some fn)(I:qz Tryz.prog g=true)(R:fn.ntmps=3)(aM:fn.results= #[])
  (Q:fn.body=some (.region id #[⟨some 1,.call {callee:=.builtin .recover,args:= #[],argTypes:= #[]},O,N,L,none⟩,⟨some 2,.call {callee:=.value (.func 35),args:= #[.tmp 1,.tmp 0],argTypes:= #[20,101]},t2,M,J,none⟩] false)):nE Tryz.prog g 45:=by
 have P:∀args W,(callFunc 35 args).run Tryz.prog W=.ok (.enter 35 args) W:=ui (by kernel_rfl);refine⟨ui I,λW b=> ?_,λW b H k X=> ?_⟩;refine callsDIn_of_wpSIn U Q (by simp[Fence.wide]) λV cs Z=> ?_
 rw[R];refine aln (v:=.nilIface) (cs':=V::cs) (f:=35) (args:= #[.nilIface,.pointer (some ⟨b,0,none⟩)]) rfl rfl (.inr ⟨by simp[recoverD,Z],rfl,rfl⟩) rfl (by simp[Oper.semAt,go_sem,Act.put,P]) ?_;refine(aut b W).mono ?_;rintro e G ⟨rfl,rfl⟩;refine⟨_,rfl,rfl,.returning,by rw[<-Z],.tuple #[], ?_,⟨_,rfl⟩,rfl,rfl⟩;simp[results,aM];refine callsDIn_of_wpSIn U Q (by simp[Fence.wide]) λV cs Z=> ?_
 rw[R];refine aln (v:=.iface 45 (.int .i64 k)) (cs':={V with mode:=.panicking [{v:=.iface 45 (.int .i64 k),recovered:=true}]}::cs) (f:=35) (args:= #[.iface 45 (.int .i64 k),.pointer (some ⟨b,0,none⟩)]) rfl rfl (.inl (by simp[recoverD,Z])) rfl (by simp[Oper.semAt,go_sem,Act.put,P]) ?_;refine(auu b H k W (by simp[World.cell?,X]) (by simp[World.frozen?,X])).mono ?_;rintro e G ⟨rfl,rfl⟩;refine⟨_,rfl,rfl,_,rfl,.tuple #[], ?_,⟨_,rfl⟩,rfl,alo X⟩;simp[results,aM]
def auv:nE Tryz.prog 34 45:=aaS Tryz.func34 (by kernel_rfl) rfl rfl rfl
def auw:nE Tryz.prog 46 45:=aaS Tryz.func46 (by kernel_rfl) rfl rfl rfl
def aux:nE Tryz.prog 61 45:=aaS Tryz.func61 (by kernel_rfl) rfl rfl rfl
set_option maxHeartbeats 1000000 in
set_option maxRecDepth 100000 in
def auy (W:World) (b:Nat):CallsDIn Fence.wide 0 Tryz.prog 151 #[.pointer (some ⟨b,0,none⟩)] .returning W λV u W'=>(∃v,V=.returned v)/\u=.returning/\W'=W:=by
 refine callsDIn_of_wpSIn Tryz.func151 rfl (by simp[Fence.wide]) λX cs Z=> ?_
 have U:X={X with mode:=.returning}:=by rw[<-Z]
 rw[Tryz.ntmps151];apply wpSIn_seq;apply wpSIn_region;simp[wpOpsSIn,go_sem,recoverD,Z,Exit.thenS];refine wpSIn_of_wpIn rfl (wpIn_wide.2 ?_);go_wp2;refine⟨rfl,.returning,by rw[<-Z],.tuple #[], ?_,⟨_,rfl⟩,rfl,rfl⟩;simp[results,Tryz.results151]
set_option maxHeartbeats 1000000 in
set_option maxRecDepth 100000 in
def auz (W:World) (b:Nat) (X k:Int) (Z:W.heap[b]?=some (.cells #[.int .i64 X] 45 (0,0))):CallsDIn Fence.wide 0 Tryz.prog 151 #[.pointer (some ⟨b,0,none⟩)] (.panicking [{v:=.iface 45 (.int .i64 k),recovered:=false}]) W λV u W'=>(∃v,V=.returned v)/\u=.panicking [{v:=.iface 45 (.int .i64 k),recovered:=true}]/\W'=W.putObj b (.cells #[.int .i64 k] 45 (0,0)):=by
 have bg:W.cell? ⟨b,0,none⟩=some (.int .i64 X):=by simp[World.cell?,Z]
 have R:W.frozen? ⟨b,0,none⟩=false:=by simp[World.frozen?,Z]
 refine callsDIn_of_wpSIn Tryz.func151 rfl (by simp[Fence.wide]) λQ cs U=> ?_
 rw[Tryz.ntmps151];apply wpSIn_seq;apply wpSIn_region;simp[wpOpsSIn,go_sem,recoverD,U,Exit.thenS];refine wpSIn_of_wpIn rfl (wpIn_wide.2 ?_);go_wp2;refine⟨rfl,_,rfl,.tuple #[], ?_,⟨_,rfl⟩,rfl,alo Z⟩;simp[results,Tryz.results151]
def auA:nE Tryz.prog 151 45:=⟨ui (by kernel_rfl),auy,auz⟩
end
section
open Go.Shelf
def Tryz.indexB_ren:Go.Shelf.Ren:=⟨λ|137=>272|217=>319|266=>357|n=>n,λ|9=>9|5=>5|3=>3|n=>n,λ|n=>n⟩
def Tryz.indexB:Go.Proofs.Lays.n137 Tryz.prog Tryz.indexB_ren:={mixed:=by kernel_rfl,f137:=cB Tryz.func272 (by kernel_rfl),f217:=cB Tryz.func319 (by kernel_rfl),f266:=cB Tryz.func357 (by kernel_rfl),t3:=Tryz.underlying3,a3:=Tryz.isAgg3,z3:=Tryz.sizeOf3,v3:=Tryz.zeroValue3,t5:=Tryz.underlying5,a5:=Tryz.isAgg5,z5:=Tryz.sizeOf5,v5:=Tryz.zeroValue5,t9:=Tryz.underlying9,a9:=Tryz.isAgg9,z9:=Tryz.sizeOf9,v9:=Tryz.zeroValue9}
def auB:look PT 272=some [9,5]:=by kernel_rfl
def auC:look SG 272=some [3]:=by kernel_rfl
def auD:eZ (look TT) [9,5]=some [.ref .str,.int .u8]:=by kernel_rfl
def auE:eZ (look TT) [3]=some [.int .i64]:=by kernel_rfl
def alp:∀(l:List UInt8)(b:UInt8),-1<=Lib.indexByte l b
 |[],_=>by simp[Lib.indexByte]
 |x::l,b=>by
  have:=alp l b;simp only[Lib.indexByte];split;omega;split<;>omega
def alq:∀(l:List UInt8)(b:UInt8)(k:Nat),Bv k l b=if Lib.indexByte l b=-1 then-1 else Lib.indexByte l b+k
 |[],_,_=>by simp[Bv,Lib.indexByte]
 |x::l,b,k=>by
  have W:=alq l b (k+1);have V:=alp l b;simp only[Bv,Lib.indexByte,beq_iff_eq];by_cases Z:x=b;simp[Z];rw[if_neg Z,if_neg Z,W];by_cases X:Lib.indexByte l b=-1;simp[X];rw[if_neg X,if_neg X,if_neg (by omega)];omega
def auF(l:List UInt8)(b:UInt8):Bv 0 l b=Lib.indexByte l b:=by
 rw[alq];split;rename_i h;rw[h];simp
def alr{ty:Ty}{W:World}{ks:List LK}{ys:List XV}(h:∀e,LK.ref e∉ks):um ty W ks ys:=λq e rv Z _=>(h e (aw1 Z)).elim
def als{ty:Ty}{ks:List LK}{ys:List XV}{b:Nat}(h:∀e,LK.ref e∉ks):¬ul ty ks ys b:=λ⟨q,e,rv,Z,_,_⟩=>h e (aw1 Z)
def auG:n9 272 Ri:=by
 intro ps C B A Q P O N M xs out R V U W w I;rw[auB] at Q;cases Q;rw[auC] at P;cases P;rw[auD] at O;cases O;rw[auE] at N;cases N;rcases xs with _|⟨x,_|⟨y,_|⟨z,xs⟩⟩⟩;exact U.elim;exact U.2.elim
 ·obtain⟨L,J,_⟩:=U;cases x with
  |i n=>exact L.elim
  |b n=>exact L.elim
  |r rv=>
  cases y with
  |b n=>exact J.elim
  |r n=>exact J.elim
  |i c=>
  have H:=I 0 .str rv rfl rfl;cases H with
  |str t=>
  rcases M with _|⟨G,_|⟨F,_|⟨v,M⟩⟩⟩;exact V.elim;exact V.2.elim
  ·obtain⟨e1,X,_⟩:=V;cases G with
   |i n=>exact e1.elim
   |b n=>exact e1.elim
   |r E=>
   cases F with
   |b n=>exact X.elim
   |r n=>exact X.elim
   |i Z=>
   have X:Z=c:=X;subst X;have e1:bQ E (.mk (.string t) []):=e1;cases e1 with
   |val=>
   have R:some (aV.ret [.i (Bv 0 t.toList (UInt8.ofNat Z.toNat))])=some out:=R;cases R;have h:=Any.strings_IndexByte Tryz.indexB t Z W;refine Calls.mono (show Calls Tryz.prog 272 #[.string t,.int .u8 Z] W _ from h) ?_;rintro e u ⟨rfl,rfl⟩;refine⟨_,[.i (Lib.indexByte t.data.toList Z.toNat.toUInt8)],rfl,⟨?_,trivial⟩,⟨trivial,trivial⟩,rfl,Below.refl _ _,alr (by simp),λb D=>(als (by simp) D).elim⟩;show Bv 0 t.toList (UInt8.ofNat Z.toNat)=_;rw[auF,ByteArray.toList_eq]
  exact V.2.2.elim
 exact U.2.2.elim
def alu:∀{n:Nat}{W xs:List XV},wa W xs->cR (awS n (.int .i64)) xs->∃l:List Int,l.length=n/\W=l.map XV.i/\xs=l.map XV.i
 |0,W,xs,Z,X=>by
  cases xs with
  |cons _ _=>exact X.elim
  |nil=>
   cases W with
   |cons _ _=>exact Z.elim
   |nil=>exact⟨[],rfl,rfl,rfl⟩
 |n+1,W,[],Z,X=>X.elim
 |n+1,[],x::xs,Z,X=>Z.elim
 |n+1,y::W,x::xs,Z,X=>by
  obtain⟨l,U,R,Q⟩:=alu (n:=n) Z.2 X.2;have e:=Z.1;have f:=X.1;cases x with
  |b q=>exact f.elim
  |r q=>exact f.elim
  |i m=>
   cases y with
   |b q=>exact e.elim
   |r q=>exact e.elim
   |i V=>
    have e:V=m:=e;subst e;exact⟨V::l,by simp[U],by simp[R],by simp[Q]⟩
def alv(a b c d:Int):cE a b c d=K.gh.valid ⟨⟨a,b⟩,⟨c,d⟩⟩:=by
 rw[axO];simp[cE,K.gh.valid,K.vx];omega
def auH(a b c d a' Z X W:Int):uY a b c d a' Z X W= !(K.gh.oW ⟨⟨a,b⟩,⟨c,d⟩⟩ ⟨⟨a',Z⟩,⟨X,W⟩⟩):=by
 simp only[uY,K.gh.oW,K.Range.oW,azU]
def auI:look PT 26=some [65,65]:=by kernel_rfl
def auJ:look SG 26=some [4,45]:=by kernel_rfl
def k26:eZ (look TT) [65,65]=some (awS 8 (.int .i64)):=by kernel_rfl
def q26:eZ (look TT) [4,45]=some [.bool,.int .i64]:=by kernel_rfl
def auM(a b c d a' Z X W:Int):(qB (look TT) [65,65] (lL (awS 8 (.int .i64)) [.i a,.i b,.i c,.i d,.i a',.i Z,.i X,.i W])).toArray= #[K.gh.v ⟨⟨a,b⟩,⟨c,d⟩⟩,K.gh.v ⟨⟨a',Z⟩,⟨X,W⟩⟩]:=by kernel_rfl
def auN(x:Bool)(e:Int):CQ (qB (look TT) [4,45] (lL [.bool,.int .i64] [.b x,.i e]))=.tuple #[.bool x,.int .i64 e]:=by kernel_rfl
def auO{l:List Int}(h:l.length=8):∃a b c d a' Z X W,l=[a,b,c,d,a',Z,X,W]:=by
 match l,h with
 |[a,b,c,d,a',Z,X,W],_=>exact⟨a,b,c,d,a',Z,X,W,rfl⟩
def auP:n9 26 Rh:=by
 intro ps E D C Z X N M B xs out P J I W A z;rw[auI] at Z;cases Z;rw[auJ] at X;cases X;rw[k26] at N;cases N;rw[q26] at M;cases M;obtain⟨l,H,rfl,rfl⟩:=alu (n:=8) J I;obtain⟨a,b,c,d,a',U,R,Q,rfl⟩:=auO H;have G:=auM a b c d a' U R Q;simp only[awT,ax0] at P⊢;rw[G];simp only[Rh,awJ] at P;subst P;have O:∀(x:Bool)(e:Int)(W':World),Below W.heap.size W W'->JT (look TT) [4,45] [.bool,.int .i64] W (awS 8 (.int .i64)) [.i a,.i b,.i c,.i d,.i a',.i U,.i R,.i Q] (.ret [.b x,.i e]) (.returned (.tuple #[.bool x,.int .i64 e])) W':=λx e W' V=>
  ⟨_,[.b x,.i e],rfl,⟨rfl,rfl,trivial⟩,⟨trivial,trivial,trivial⟩,(auN x e).symm,V,alr (by simp),λb F=>(als (by simp) F).elim⟩
 rw[alv,alv];by_cases Z:K.gh.valid ⟨⟨a,b⟩,⟨c,d⟩⟩=true;by_cases X:K.gh.valid ⟨⟨a',U⟩,⟨R,Q⟩⟩=true;rw[Z,X];refine(asy _ _ Z X (uY a b c d a' U R Q) (by rw[auH];simp) W).mono ?_;rintro e L ⟨rfl,V⟩;exact O _ _ _ V;have X:K.gh.valid ⟨⟨a',U⟩,⟨R,Q⟩⟩=false:=by simpa using X
 rw[Z,X];refine(asF _ _ Z X W).mono ?_;rintro e L ⟨rfl,V⟩;exact O _ _ _ V;have Z:K.gh.valid ⟨⟨a,b⟩,⟨c,d⟩⟩=false:=by simpa using Z
 rw[Z];refine(asE _ _ Z W).mono ?_;rintro e L ⟨rfl,V⟩;exact O _ _ _ V
def auQ(f:FuncId):n9 f (DZ f):=by
 unfold DZ;by_cases Z:f=26;subst Z;exact auP;by_cases X:f=272;subst X;exact auG;simp only[Z,X,if_false];exact akk f
end
def auR(f:FuncId)(fn:Fn)(h:TB.tree f=some fn):bG f fn.g fn.d fn.t:=by
 have h:HO f=some fn:=h;unfold HO at h;split at h;cases h;exact as9;cases h;exact ata;cases h;exact atb;cases h;exact atc;cases h;exact atd;cases h;exact ate;cases h;exact atf;cases h;exact atg;cases h;exact ath;cases h;exact ati;cases h;exact atj;cases h;exact atk;cases h;exact atl;cases h;exact atm;cases h;exact atn;cases h;exact ato;cases h;exact atp;cases h;exact atq;cases h;exact atr;cases h;exact ats;cases h;exact att;cases h;exact atu;cases h;exact atv;cases h;exact atw;cases h;exact atx;cases h;exact aty;cases h;exact atz;cases h;exact atA;cases h;exact atB;cases h;exact atC;cases h;exact atD;cases h;exact atE;cases h;exact atF;cases h;exact atG;cases h;exact atH;cases h;exact atI;cases h;exact atJ;cases h;exact atK;cases h;exact atL;cases h;exact atM;cases h;exact atN;cases h;exact atO;cases h;exact atP;cases h;exact atQ;cases h;exact atS;cases h;exact atT;cases h;exact atU Iu;cases h;exact atV;cases h;exact atW;cases h;exact atX;cases h;exact atY;cases h;exact atZ;cases h;exact at0 Iu;cases h;exact at1;cases h;exact at2;cases h;exact at3;cases h;exact at4;cases h;exact at5;cases h;exact at6;cases h;exact at7 Iu;cases h;exact at8;cases h;exact at9;cases h;exact aua auA;cases h;exact aub auv;cases h;exact auc Iu auw;cases h;exact aud;cases h;exact aue Iu;cases h;exact ok8;cases h;exact auh;cases h;exact aui Iu;cases h;exact aug;cases h;exact auj;cases h;exact auk;cases h;exact aul;cases h;exact aum aux;cases h;exact aun;cases h
def auS:akm TB:=⟨auR,auQ⟩
end
end Go.Proofs.YtieaiocljdpebaaGreatDoor.Y
