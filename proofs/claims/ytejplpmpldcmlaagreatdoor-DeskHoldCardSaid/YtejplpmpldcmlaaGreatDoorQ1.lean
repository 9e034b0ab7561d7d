/- Part 1 of the proof; the last part says what is shown. -/
import GoSem.Step
import Derived.Below
import Derived.Laws.AppendOwn
import Derived.Deep.Draws
import Derived.RangeFuncRecord
import Derived.CallsIn
import Derived.OrdersIn
import Derived.Sort.LoopGhostIn
import Derived.RangeFuncCalls
import Derived.Laws.Cells
import Derived.MapKept
import Derived.IntWalk
set_option linter.all false
set_option maxRecDepth 100000
set_option maxHeartbeats 100000000
open Bool renaming and_eq_true->aw,not_eq_true'->ik,false_eq_true->jp,or_eq_true->jy,eq_iff_iff->uD,not_eq_false->G8,rec->J6,or_eq_true_iff->au1,and_assoc->avi,true_or->avo,true->J,false->E
open Nat renaming lor->bZ,le_refl->b9,zero_add->iX,beq->jd,gcd->lq,shiftLeft->mG,le_trans->pw,add_mul->pz,add_zero->zl,eq_zero_or_pos->A5,mul_le_mul_right->EV,testBit_or->E1,min_eq_left->Hd,add_assoc->He,zero_le->Hh,mod_lt->Hj,rec->Hk,mul_le_mul->J5,testBit_add_one->SL,mul_comm->SR,lt_of_lt_of_le->Zn,sub_self->Zz,div_add_mod->aiY,beq_eq->ai7,testBit_shiftLeft->auY,div_lt_of_lt_mul->au0,one_shiftLeft->au5,testBit_zero->au9,eq_of_beq_eq_true->aIn,testBit_two_pow->aIu,lt_or_gt_of_ne->aIz
open List renaming getElem?_eq_some_iff->ck,getD_eq_getElem?_getD->cz,getElem?_eq_getElem->cS,getElem?_append_left->dH,mem_cons->dP,map_cons->dU,getElem?_map->dW,replicate->eN,mem_append->eV,range->fw,all_eq_true->fO,length_append->gc,mem_map->iq,getElem?_append_right->iE,mem_of_getElem?->jI,map_congr_left->jT,getElem?_eq_none->kg,ext_getElem?->kG,any_eq_true->kH,length_cons->lH,getElem?_take->nj,map_map->ov,length_eq_one_iff->oR,getElem_mem->ql,length_map->qX,getElem?_set_ne->rX,eq_nil_of_length_eq_zero->tw,getElem?_cons_succ->tA,getElem?_of_mem->tB,getElem?_drop->uC,getElem?_set->v6,range'->xJ,rec->zm,append_assoc->A6,drop_eq_getElem_cons->CU,getElem?_eq_none_iff->CV,mem_cons_of_mem->CX,mem_of_mem_drop->CY,getElem?_range->CZ,length_drop->C1,mem_of_mem_take->EW,length_take->EY,foldl_cons->EZ,getElem?_replicate->G4,take_of_length_le->G5,getElem?_set_self->G6,size_toArray->G9,mem_singleton->J1,find?_cons->J2,length_singleton->N0,drop_drop->N6,all_cons->N7,mem_of_find?_eq_some->SF,range_eq_range'->SJ,find?_some->SO,toList_toArray->Zl,zip_cons_cons->Zo,flatMap_cons->Zq,range'_succ->Zr,getElem?_toArray->aiN,getElem?_modify->aiO,drop_eq_nil_of_le->auX,drop_zero->avj,mapM_cons->avk,length->Y
open Go.Result renaming andThen_ok->dv
open Go.Sem renaming run_bind->dA,run_pure->fq
open Option renaming map_some->eh,isSome_iff_exists->ln,getD_some->pu,bind_some->Zs,getD_none->aiU,some->U,none->Z
open Go.Op renaming operands->iF,equalIn->C3,equal->E3
open Go.Region renaming binds->avp
open Array renaming ext'->nq,getElem?_eq_some_iff->oQ,toList_map->xG,length_toList->EX,getElem?_modify->SI,getElem?_toList->Zj,getElem?_setIfInBounds_ne->aiH,range->ai3,getElem?_eq_getElem->auV,toList_range->au3,mapM_eq_mapM_toList->aId,getElem?_eq_none->aIk,foldl_toList->aIy
open Go.World renaming cell?->ow,putObj_heap_other->uB,putObj->Hg,alloc_heap_new->SK,setCell->Zw,frozen?->Zx,grownBy_alloc->aIv
open Int renaming toNat_natCast->v7,natCast_mul->avb
open List.cons renaming injEq->xH
open Go.Call renaming operands->A7
open Prod.mk renaming injEq->C2
open Go.IntKind renaming i64->I
namespace Go.Proofs.YtejplpmpldcmlaaGreatDoor.Y
variable{R Q i:Nat}
def aa{p:Prop}(h:p:=by omega):p:=h
def av{p:Prop}(h:p:=by simp):p:=h
def pA{p:Prop}(h:p:=by assumption):p:=h
def dQ{p:Prop}(h:p:=by decide):p:=h
def dh{p:Prop}(h:p:=by simp;omega):p:=h
def cK{p:Prop}(h:p:=by simp[iF]):p:=h
def oS{p:Prop}(h:p:=by dsimp only;decide):p:=h
def cm:= @decide_eq_true_eq
def dE:= @beq_iff_eq
def aJ:= @if_pos
def aQ:= @if_neg
def cN:= @if_true
def gf:= @if_false
def aZ:= @absurd
def kh:= @congrArg
def uE:= @of_decide_eq_true
def cU:= @Option.some.injEq
def mH:= @Option.some.inj
structure Sh where
 kt:TypeId
 vt:TypeId
 nk:Nat
 ka:Bool
 va:Bool
 deriving DecidableEq
abbrev ar:=List Nat
abbrev cM:=Option Nat
abbrev bz:=List Int
abbrev jU:=List TypeId
abbrev rY:=Option (List TypeId)
abbrev dN:=Array Oper
abbrev pB:=List Oper
abbrev nu:=List (Nat×Nat×Nat)
abbrev nV:=List ResultVar
abbrev C4:=List (Nat×Nat)
abbrev gt:=List Value
abbrev mI:=Array Value
abbrev ma:=List Bool
abbrev oz:=Option Addr
abbrev tC:=List (Value×Value)
inductive RK where
 |sl (e:TypeId)
 |str
 |ae
 |own (e:TypeId)
 |am
 |mr (sh:Sh)
 deriving DecidableEq
abbrev bv:=List RK
def RK.rd:RK->RK
 |.own e=>.sl e
 |k=>k
inductive CT where
 |int (k:IntKind)
 |bool
 |ae (z:Value) (k:RK)
abbrev fj:=List CT
inductive TD where
 |one
 |gX
 |str
 |slice (e:TypeId)
 |arr (n:Nat) (e:TypeId)
 |struct (fs:List (Nat×TypeId))
 |map (k e:TypeId) (n:Nat) (ag:Bool)
structure TI where
 d:TD
 aj:fj
 eq:Bool:=E
abbrev E4:=Option TI
mutual
inductive K where
 |c (n:Int)
 |v (k:Nat)
 |bin (op:BinOp) (k:IntKind) (a b:K)
 |conv(k:IntKind) (a:K)
 |len (r:RE)
 |mm (mx:Bool) (a b:K)
 |eo (b:BE) (x y:K)
 |cell (r:RE) (i:K) (j:Nat)
 |nW (r:RE) (i:K)
 |look (r:RE) (n:Nat) (a b c:K) (j:Nat)
inductive BE where
 |c (b:Bool)
 |v (k:Nat)
 |cmp (op:BinOp) (a b:K)
 |not (a:BE)
 |and (a b:BE)
 |beq (a b:BE)
 |eo (b x y:BE)
 |cell (r:RE) (i:K) (j:Nat)
 |seq (a b:RE)
 |look (r:RE) (n:Nat) (a b c:K) (j:Nat)
 |has (r:RE) (n:Nat) (a b c:K)
inductive RE where
 |v (k:Nat)
 |cell (r:RE) (i:K) (j:Nat) (k:RK)
 |k (v:Value)
end
inductive C where
 |int (k:IntKind) (e:K)
 |bool (b:BE)
 |ah (r:RE)
 |loc (i off:Nat)
 |el (r:RE) (w:Nat) (i:K) (off:Nat)
 |jf (i off len cap:Nat)
 |agg (l:List C)
 |bM (l:List C)
 |fn (f:FuncId) (caps:List C)
 |gX (t:TypeId) (x:C)
 |yl (n:Nat)
 |any
 |mp (i:Nat)
 |gg (e:K) (ks:List Int) (vs:List C)
abbrev aq:=List C
abbrev xK:=List (List C)
abbrev Hl:=Option (List C)
inductive PX where
 |ret
 |exit (id:Nat)
 deriving DecidableEq
inductive Hm where
 |ready
 |busy
 |done (e:PX)
 deriving DecidableEq
abbrev uF:=List Hm
abbrev bG:=List (Option (TypeId×aq))
structure S where
 tmps:aq
 ap:bG
 ni:Nat
 nb:Nat
 rs:bv
 ax:Nat
 lk:Nat
 pd:uF
noncomputable def cw(l:bG)(i:Nat):Option (TypeId×aq):=zm (motive:=λ_=>Nat->Option (TypeId×aq)) (λ_=>Z) (λx _ X t=>Hk (motive:=λ_=>Option (TypeId×aq)) x (λm _=>X m) t) l i
def cV:∀(l:bG)(i:Nat),cw l i=(match l[i]? with
  |U (U b)=>U b
  |_=>Z)
 |[],_=>rfl
 |Z::_,0=>rfl
 |U _::_,0=>rfl
 |_::l,i+1=>by rw[tA];exact cV l i
noncomputable section
def uG:TypeId:=1099511627776
def wa:TypeId:=1099511627777
def xL:TypeId:=1099511627778
def qY(t:TypeId):Bool:=decide (uG<=t)
def mb(l:bG)(i:Nat):Option (TypeId×aq):=match cw l i with
 |U (t,X)=>if qY t then Z else U (t,X)
 |none=>Z
inductive LK where
 |int (k:IntKind)
 |bool
 |ah (k:RK)
 deriving DecidableEq
abbrev aS:=List LK
inductive XE where
 |normal
 |ret
 |exit (id:Nat)
 |bI (v:C)
inductive LE where
 |ah (r:RE)
 |lit (l:List (List C))
 |kJ (a b:LE)
 |wb (n:K) (row:List C)
 |set (a:LE) (i:K) (off:Nat) (cs:List C)
 |sub (a:LE) (lo hi:K)
 |ins (a:LE) (n:Nat) (cs:List C)
inductive bp where
 |lex (cs:List Nat) (desc:Bool)
 |ratio (n d:Nat)
 |dw (k:Nat) (o:bp) (as:List K)
abbrev A9:=List (FuncId×FuncId×TypeId×bp×Bool)
inductive T where
 |out (e:XE) (s:S)
 |ret (v:C) (bx:bG) (rs:List RK)
 |bI (v:C)
 |aT (b:BE) (t f:T)
 |be (b:BE) (t:T)
 |call (f:FuncId) (args:List C) (bx:bG) (rs:List RK) (ks:List LK) (jz:C) (t:T)
 |loop (ax:Nat) (ks:List LK) (x0:List C) (t:T)
 |back (ax:Nat) (x:List C)
 |new (e:TypeId) (x:LE) (rs rsn:List RK) (t:T)
 |ac (k:RK) (x:LE) (rs:List RK) (t:T)
 |gF (g h:BE) (t f:T)
 |pick (n:K) (g h:BE) (t f:T)
 |eE (f g:FuncId) (e:TypeId) (sp:bp) (st:Bool) (r:RE) (rs:List RK) (t:T)
 |stuck (msg:String)
def J7:Value->C
 |.int k n=>.int k (.c n)
 |.bool b=>.bool (.c b)
 |v=>.ah (.k v)
def Ob:Value->C
 |.int k n=>.int k (.c n)
 |.bool b=>.bool (.c b)
 |.agg X=>.agg (X.toList.map J7)
 |v=>.ah (.k v)
def ZB(l:aq)(t:Nat):C:=zm (motive:=λ_=>Nat->C) (λ_=>.any) (λx _ X t=>Hk (motive:=λ_=>C) x (λm _=>X m) t) l t
def ai9(l:aq)(d:Nat)(v:C):aq:=zm (motive:=λ_=>Nat->aq) (λ_=>[]) (λx X W d=>Hk (motive:=λ_=>aq) (v::X) (λm _=>x::W m) d) l d
@[simp] def xM:∀(l:aq)(t:Nat),ZB l t=l.getD t .any
 |[],_=>rfl
 |_::_,0=>rfl
 |_::X,t+1=>xM X t
@[simp] def wc:∀(l:aq)(d:Nat)(v:C),ai9 l d v=l.set d v
 |[],_,_=>rfl
 |_::_,0,_=>rfl
 |x::X,d+1,v=>kh (x::·) (wc X d v)
def S.ev(X:nu)(s:S):Operand->C
 |.tmp t=>ZB s.tmps t
 |.const v=>Ob v
 |.global g=>match X.find? (λx=>x.1==g) with
  |U (_,k,w)=>.el (.v k) w (.c 0) 0
  |none=>.any
 |.func f=>.fn f []
def S.put(s:S)(X:cM)(v:C):S:=
 match X with
 |U d=>{s with tmps:=ai9 s.tmps d v}
 |none=>s
def E5(r:RE)(i:K)(j:Nat):CT->C
 |.int k=>.int k (.cell r i j)
 |.bool=>.bool (.cell r i j)
 |.ae _ k=>.ah (.cell r i j k)
def C5:CT->C
 |.int k=>.int k (.c 0)
 |.bool=>.bool (.c E)
 |.ae z _=>.ah (.k z)
def TD.isAgg:TD->Bool
 |.arr _ _|.struct _=>J
 |_=>E
def C.cells:C->aq
 |.agg l=>l
 |v=>[v]
def jr:Value->Bool
 |.agg _|.tuple _=>E
 |_=>J
def RE.Hn:RE->Bool
 |.k w=>jr w
 |_=>J
def C.Ho:C->Bool
 |.ah (.k w)=>jr w
 |_=>J
def C.single:C->Bool
 |.ah (.k w)=>jr w
 |.agg _|.bM _|.any=>E
 |_=>J
noncomputable def E6(l:aq):Bool:=zm (motive:=λ_=>Bool) J (λx _ X=>J6 (motive:=λ_=>Bool) E X x.single) l
def SU:(E6 []=J)/\(∀x X,E6 (x::X)=(x.single&&E6 X)):=⟨rfl,λx X=>by
 show J6 (motive:=λ_=>Bool) E (E6 X) x.single=_;cases x.single<;>rfl⟩
def xN(l:aq)(X n:Nat):aq:=(l.drop X).take n
def xO(X:TI)(l:aq)(W:Nat):Option C:=
 if X.d.isAgg then(if W+Y X.aj<=Y l then U (.agg (xN l W (Y X.aj))) else Z) else l[W]?
def lI(l:aq)(X:Nat):aq->aq
 |[]=>l
 |v::r=>lI (l.set X v) (X+1) r
def zn(place:Nat->Option (Nat×Nat))(cells:aq):List (Nat×C)->Hl
 |[]=>U cells
 |(i,v)::V=>
  match place i with
  |none=>Z
  |U (X,W)=>if Y v.cells !=W||decide (Y cells<X+W)|| !v.Ho then Z else zn place (lI cells X v.cells) V
def eA(X:TI):aq:=X.aj.map C5
def xP(n:Nat)(l:aq):aq:=match n with
 |0=>[]
 |n+1=>l++xP n l
def SX:BinOp->Bool
 |.eql|.neq|.lss|.leq|.gtr|.geq=>J
 |_=>E
def fy:BinOp->Int->Int->Bool
 |.eql,x,y=>x==y
 |.neq,x,y=>x !=y
 |.lss,x,y=>decide (x<y)
 |.leq,x,y=>decide (x<=y)
 |.gtr,x,y=>decide (x>y)
 |.geq,x,y=>decide (x>=y)
 |_,_,_=>E
def aF:BinOp->IntKind->Int->Int->Int
 |.add,k,x,y=>k.wrap (x+y)
 |.sub,k,x,y=>k.wrap (x-y)
 |.mul,k,x,y=>k.wrap (x*y)
 |.quo,k,x,y=>k.wrap (x.tdiv y)
 |.rem,_,x,y=>x.tmod y
 |.shr,k,x,y=>x.fdiv (2^min y.toNat k.bits)
 |_,_,_,_=>0
def ZC:BinOp->Bool
 |.add|.sub|.mul=>J
 |_=>E
def ZD:BinOp->Bool
 |.quo|.rem=>J
 |_=>E
def aja:BinOp->Bool
 |.shr=>J
 |_=>E
inductive PR where
 |ok (v:C)
 |be (b:BE) (v:C)
 |no (why:String)
def Hp(X:BinOp)(k:IntKind):K->K->K
 |.c x,.c y=>.c (aF X k x y)
 |a,b=>.bin X k a b
def qo(X:BinOp):K->K->BE
 |.c x,.c y=>.c (fy X x y)
 |a,b=>.cmp X a b
def E7:BE->BE
 |.c b=>.c (!b)
 |b=>.not b
def we:BE->BE->BE
 |.c J,b=>b
 |.c E,_=>.c E
 |a,.c J=>a
 |a,b=>.and a b
def Oc:BE->BE->BE
 |.c a,.c b=>.c (a==b)
 |.c J,b=>b
 |.c E,b=>E7 b
 |a,.c J=>a
 |a,.c E=>E7 a
 |a,b=>.beq a b
def wh(i:K)(n:K):BE:=we (qo .leq (.c 0) i) (qo .lss i n)
def SY(X:Bool):K->K->K
 |.c x,.c y=>.c (if X then max x y else min x y)
 |a,b=>.mm X a b
def Hq(X:Bool)(k:IntKind):K->aq->Option K
 |e,[]=>U e
 |e,.int W x::r=>if k=W then Hq X k (SY X e x) r else Z
 |_,_=>Z
abbrev Ty:=TypeId->E4
def bD(W:Ty):RK->fj
 |.sl e=>match W e with
  |U X=>X.aj
  |none=>[]
 |.mr V=>(match W V.kt with
  |U X=>X.aj
  |none=>[])++(match W V.vt with
  |U X=>X.aj
  |none=>[])
 |_=>[]
def Ht:Option CT->RK
 |U (.ae _ k)=>k
 |_=>.ae
def RE.kind(X:Ty)(s:S):RE->RK
 |.v n=>(s.rs.getD n .ae).rd
 |.cell r _ j W=>match RE.kind X s r with
  |.sl e=>if Ht (bD X (.sl e))[j]?=W then W else .ae
  |_=>.ae
 |.k (.string _)=>.str
 |.k _=>.ae
def J8(X:Ty)(s:S):CT->C->C->Option BE
 |.int k,.int W a,.int V b=>if W=k/\V=k then U (qo .eql a b) else Z
 |.bool,.bool a,.bool b=>U (Oc a b)
 |.ae _ .str,.ah a,.ah b=>if a.kind X s=.str/\b.kind X s=.str then U (.seq a b) else Z
 |_,_,_=>Z
def rZ(X:Ty)(s:S):fj->aq->aq->Option BE
 |[],[],[]=>U (.c J)
 |c::W,x::V,y::R=>match J8 X s c x y,rZ X s W V R with
  |U a,U b=>U (we a b)
  |_,_=>Z
 |_,_,_=>Z
def J9(X:Ty)(s:S)(W:E4)(a b:aq):Option BE:=match W with
 |U ⟨_,aj,J⟩=>rZ X s aj a b
 |_=>Z
def ZE(X:Ty)(W:List (Nat×TypeId))(i:Nat):Option (Nat×Nat):=match W[i]? with
 |U (o,V)=>(X V).map λf=>(o,Y f.aj)
 |none=>Z
def RE.nil:RE->Bool
 |.k (.slice Z 0 0)=>J
 |_=>E
def RE.oT(X:Ty)(s:S)(W:Sh)(r:RE):Bool:=decide (r.kind X s=.mr W)||r.nil
def Hu(n:Nat)(X:Bool):C->Option (K×K×K)
 |.int I a=>if n==1&& !X then U (a,.c 0,.c 0) else Z
 |.agg [.int I a]=>if n==1&&X then U (a,.c 0,.c 0) else Z
 |.agg [.int I a,.int I b]=>if n==2&&X then U (a,b,.c 0) else Z
 |.agg [.int I a,.int I b,.int I c]=>if n==3&&X then U (a,b,c) else Z
 |_=>Z
def nx:CT->Bool
 |.ae _ _=>E
 |_=>J
def qZ(r:RE)(n:Nat)(a b c:K):Nat->fj->aq
 |_,[]=>[]
 |j,.int k::X=>.int k (.look r n a b c j)::qZ r n a b c (j+1) X
 |j,.bool::X=>.bool (.look r n a b c j)::qZ r n a b c (j+1) X
 |j,.ae z _::X=>.ah (.k z)::qZ r n a b c (j+1) X
def tD(X:Bool)(l:aq):C:=if X then .agg l else l.getD 0 .any
def rf:aq->Option bz
 |[]=>U []
 |.int I (.c k)::_::r=>(rf r).map (k::·)
 |_=>Z
def mJ:aq->aq
 |_::v::r=>v::mJ r
 |_=>[]
def Ba(e:K):bz->aq->Option K
 |k::X,.int _ x::W=>(Ba e X W).map λy=>.eo (.cmp .eql e (.c k)) x y
 |[],[]=>U (.c 0)
 |_,_=>Z
def C6(e:K):bz->aq->Option BE
 |k::X,.bool x::W=>(C6 e X W).map λy=>.eo (.cmp .eql e (.c k)) x y
 |[],[]=>U (.c E)
 |_,_=>Z
def Ka:C->Bool
 |.fn _ _=>J
 |.ah (.k .nilFunc)=>J
 |_=>E
def Od:E4->Bool
 |U ⟨.one,[.ae .nilFunc _],_⟩=>J
 |_=>E
def C7(e:K):bz->aq->BE
 |k::X,.fn _ _::W=>.eo (.cmp .eql e (.c k)) (.c E) (C7 e X W)
 |k::X,_::W=>.eo (.cmp .eql e (.c k)) (.c J) (C7 e X W)
 |_,_=>.c J
def ZF(e:K)(W:bz)(X:aq):CT->Option C
 |.int k=>if X.all λv=>match v with|.int V _=>decide (k=V)|_=>E then(Ba e W X).map (.int k) else Z
 |.bool=>(C6 e W X).map .bool
 |.ae .nilFunc _=>if X.all Ka&&Y W==Y X then U (.gg e W X) else Z
 |_=>Z
def C8(e:K)(X:bz)(W:xK):Nat->fj->Hl
 |_,[]=>U []
 |j,c::V=>match ZF e X (W.map λr=>r.getD j .any) c,C8 e X W (j+1) V with
  |U v,U r=>U (v::r)
  |_,_=>Z
def Hv(e:K):bz->BE
 |[]=>.c E
 |k::X=>.eo (.cmp .eql e (.c k)) (.c J) (Hv e X)
def eY{X:Type}(x:Int):bz->List X->Option X
 |k::W,v::V=>if x=k then U v else eY x W V
 |_,_=>Z
def Bb(X:TI)(v:C):Bool:=Y v.cells==Y X.aj&&v.Ho&&(match v with
 |.agg _=>X.d.isAgg
 |_=> !X.d.isAgg)
def ajb(X:TI)(e:K)(W:aq):Option (C×BE):=match rf W with
 |U V=>match e with
  |.c x=>match eY x V (mJ W) with
   |U v=>U (v,.c J)
   |none=>U (tD X.d.isAgg (eA X),.c E)
  |e=>if(mJ W).all (Bb X) then(C8 e V ((mJ W).map C.cells) 0 X.aj).map λl=>(tD X.d.isAgg l,Hv e V) else Z
 |none=>Z
def ZG:CT->Bool
 |.int I=>J
 |_=>E
def tE(X:Ty)(k:TypeId)(n:Nat)(W:Bool):Bool:=match X k with
 |U tk=>Y tk.aj==n&&tk.aj.all ZG&&tk.d.isAgg==W
 |none=>E
def SZ(X:Bool)(v:C)(b:BE):PR:=.ok (if X then .bM [v,.bool b] else v)
def S2(V:Ty)(s:S)(k e:TypeId)(n:Nat)(W R:Bool)(i:Nat)(O:C):PR:=match V e,Hu n W O,cw s.ap i with
 |U X,U (a,b,c),U (Q,P)=>if !tE V k n W then .no "" else
  if Q==wa then(match P with
   |[.ah r,.int I (.c N),.bool (.c M),.bool (.c L)]=>if r.oT V s ⟨k,e,n,W,X.d.isAgg⟩&&N==(n:Int)&&M==W&&L==X.d.isAgg&&X.aj.all nx&&Y X.aj !=0 then SZ R (tD X.d.isAgg (qZ r n a b c n X.aj)) (.has r n a b c) else .no ""
   |_=>.no "")
  else if Q==uG then(if n==1&& !W then(match ajb X a P with
   |U (v,x)=>SZ R v x
   |none=>.no "") else .no "")
  else .no ""
 |_,_,_=>.no ""
def C9(n:Nat):bz:=(fw n).map λ(i:Nat)=>(i:Int)
def S3(X:TI)(e:K)(V:bz)(W:aq):Option C:=if W.all (Bb X) then(C8 e V (W.map C.cells) 0 X.aj).map (tD X.d.isAgg) else Z
def zo(X:aq):cM:=match X with
 |.loc i _::_=>if X.all λv=>match v with
  |.loc j _=>i==j
  |_=>E then U i else Z
 |_=>Z
def E8{X:Type}:List (Option X)->Option (List X)
 |[]=>U []
 |U x::r=>(E8 r).map (x::·)
 |Z::_=>Z
def ZH(X:TI)(W:aq):C->Option C
 |.loc _ V=>xO X W V
 |_=>Z
def cE(X:Ty)(W:nu)(s:S):Op->PR
 |.move x|.assign x=>.ok (s.ev W x)
 |.pick c a b=>match s.ev W c with
  |.bool (.c J)=>.ok (s.ev W a)
  |.bool (.c E)=>.ok (s.ev W b)
  |_=>.no ""
 |.load t a=>match X t,s.ev W a with
  |U P,.loc i V=>match mb s.ap i with
   |U (_,H)=>match xO P H V with
    |U v=>.ok v
    |none=>.no ""
   |none=>.no ""
  |U P,.el r w i V=>match r.kind X s with
   |.sl e=>
    if(bD X (.sl e)).length !=w then .no "" else
    match xO P ((fw w).map λj=>E5 r i j ((bD X (.sl e)).getD j .bool)) V with
    |U v=>.be (wh i (.len r)) v
    |none=>.no ""
   |_=>.no ""
  |U P,.gg e M N=>match(zo N).bind λi=>mb s.ap i with
   |U (_,H)=>match(E8 (N.map (ZH P H))).bind (S3 P e M) with
    |U v=>if Y M==Y N then .be (Hv e M) v else .no ""
    |none=>.no ""
   |none=>.no ""
  |_,_=>.no ""
 |.fieldAddr G x f=>match X G,s.ev W x with
  |U ⟨.struct O,_,_⟩,.loc i V=>match O[f]? with
   |U (o,t)=>match X t with
    |U P=>if Y P.aj==0 then .no "" else .ok (.loc i (V+o))
    |none=>.no ""
   |none=>.no ""
  |U ⟨.struct O,_,_⟩,.el r w i V=>match O[f]? with
   |U (o,t)=>match X t with
    |U P=>if Y P.aj==0 then .no "" else .ok (.el r w i (V+o))
    |none=>.no ""
   |none=>.no ""
  |_,_=>.no ""
 |.field G x f=>match X G,s.ev W x with
  |U ⟨.struct O,_,_⟩,.agg l=>match O[f]? with
   |U (o,t)=>match X t with
    |U P=>match xO P l o with
     |U v=>.ok v
     |none=>.no ""
    |none=>.no ""
   |none=>.no ""
  |_,_=>.no ""
 |.indexAddr t x L=>match X t,s.ev W x,s.ev W L with
  |U ⟨.arr n e,_,_⟩,.loc i V,.int _ (.c m)=>match X e with
   |U R=>if decide (0<=m)&&decide (m<(n:Int)) then .ok (.loc i (V+m.toNat*Y R.aj)) else .no ""
   |none=>.no ""
  |U ⟨.arr n e,_,_⟩,.el r w (.c i) V,.int _ m=>match X e with
   |U R=>if Y R.aj==w&&i==0&&V==0&&Y R.aj !=0 then .be (wh m (.c n)) (.el r w m 0) else
    match m with
    |.c m=>if decide (0<=m)&&decide (m<(n:Int)) then .ok (.el r w (.c i) (V+m.toNat*Y R.aj)) else .no ""
    |_=>.no ""
   |none=>.no ""
  |U ⟨.arr n e,_,_⟩,.el r w i V,.int _ (.c m)=>match X e with
   |U R=>if decide (0<=m)&&decide (m<(n:Int)) then .ok (.el r w i (V+m.toNat*Y R.aj)) else .no ""
   |none=>.no ""
  |U ⟨.slice e,_,_⟩,.ah r,.int _ m=>match X e,r.kind X s with
   |U R,.sl _=>.be (wh m (.len r)) (.el r (Y R.aj) m 0)
   |_,_=>.no ""
  |U ⟨.slice e,_,_⟩,.jf i V D _,.int _ (.c m)=>match X e with
   |U R=>if decide (0<=m)&&decide (m<(D:Int)) then .ok (.loc i (V+m.toNat*Y R.aj)) else .no ""
   |none=>.no ""
  |U ⟨.arr n e,_,_⟩,.loc i V,.int _ m=>match X e with
   |U R=>.be (wh m (.c n)) (.gg m (C9 n) ((fw n).map λj=>.loc i (V+j*Y R.aj)))
   |none=>.no ""
  |_,_,_=>.no ""
 |.index t x L=>match X t,s.ev W x,s.ev W L with
  |U ⟨.arr n e,_,_⟩,.agg l,.int _ (.c m)=>match X e with
   |U R=>if decide (0<=m)&&decide (m<(n:Int)) then(match xO R l (m.toNat*Y R.aj) with
    |U v=>.ok v
    |none=>.no "") else .no ""
   |none=>.no ""
  |U ⟨.arr n e,_,_⟩,.agg l,.int _ m=>match X e with
   |U R=>match(E8 ((fw n).map λj=>xO R l (j*Y R.aj))).bind (S3 R m (C9 n)) with
    |U v=>.be (wh m (.c n)) v
    |none=>.no ""
   |none=>.no ""
  |U ⟨.str,_,_⟩,.ah r,.int _ m=>match r.kind X s with
   |.str=>.be (wh m (.len r)) (.int .u8 (.nW r m))
   |_=>.no ""
  |_,_,_=>.no ""
 |.binOp Q t x y _=>match s.ev W x,s.ev W y with
  |.int k a,.int B b=>
   if aja Q then(match b with
    |.c n=>if decide (0<=n) then .ok (.int k (Hp Q k a (.c n))) else .no ""
    |_=>.no "") else
   if k≠B then .no "" else
   if SX Q then .ok (.bool (qo Q a b)) else
   if ZC Q then .ok (.int k (Hp Q k a b)) else
   if ZD Q then(match b with
    |.c n=>if n==0 then .no "" else .ok (.int k (Hp Q k a b))
    |_=>.be (qo .neq b (.c 0)) (.int k (Hp Q k a b))) else .no ""
  |.bool a,.bool b=>match X t,Q with
   |U ⟨.one,[.bool],_⟩,.eql=>.ok (.bool (Oc a b))
   |U ⟨.one,[.bool],_⟩,.neq=>.ok (.bool (E7 (Oc a b)))
   |_,_=>.no ""
  |.ah (.k .nilFunc),.ah (.k .nilFunc)=>if !Od (X t) then .no "" else match Q with
   |.eql=>.ok (.bool (.c J))
   |.neq=>.ok (.bool (.c E))
   |_=>.no ""
  |.ah a,.ah b=>match a.kind X s,b.kind X s,Q with
   |.str,.str,.eql=>.ok (.bool (.seq a b))
   |.str,.str,.neq=>.ok (.bool (.not (.seq a b)))
   |_,_,_=>.no ""
  |.fn _ _,.ah (.k .nilFunc)=>if !Od (X t) then .no "" else match Q with
   |.eql=>.ok (.bool (.c E))
   |.neq=>.ok (.bool (.c J))
   |_=>.no ""
  |.gg e M N,.ah (.k .nilFunc)=>if N.all Ka&&Y M==Y N&&Od (X t) then(match Q with
   |.eql=>.ok (.bool (C7 e M N))
   |.neq=>.ok (.bool (E7 (C7 e M N)))
   |_=>.no "") else .no ""
  |.agg a,.agg b=>match Q,J9 X s (X t) a b with
   |.eql,U e=>.ok (.bool e)
   |.neq,U e=>.ok (.bool (E7 e))
   |_,_=>.no ""
  |_,_=>.no ""
 |.unOp Q _ x=>match Q,s.ev W x with
  |.not,.bool b=>.ok (.bool (E7 b))
  |.neg,.int k e=>.ok (.int k (Hp .sub k (.c 0) e))
  |_,_=>.no ""
 |.convert A z x=>match X A,X z,s.ev W x with
  |U ⟨.one,[.int _],_⟩,U ⟨.one,[.int k],_⟩,.int _ (.c n)=>.ok (.int k (.c (k.wrap n)))
  |U ⟨.one,[.int _],_⟩,U ⟨.one,[.int k],_⟩,.int _ e=>.ok (.int k (.conv k e))
  |_,_,_=>.no ""
 |.makeInterface t x=>match X t with
  |U ⟨.gX,_,_⟩=>.no ""
  |U _=>.ok (.gX t (s.ev W x))
  |none=>.no ""
 |.makeFunc u first F=>match u,first.toList with
  |.func f,[]=>.ok (.fn f (F.toList.map (s.ev W)))
  |_,_=>.no ""
 |.extract x i=>match s.ev W x with
  |.bM l=>match l[i]? with
   |U v=>.ok v
   |none=>.no ""
  |_=>.no ""
 |.nilCheck x=>match s.ev W x with
  |.loc i V=>.ok (.loc i V)
  |.el r w i V=>.ok (.el r w i V)
  |.fn f F=>.ok (.fn f F)
  |_=>.no ""
 |.slice t x h g d=>match X t,s.ev W x,d with
  |U ⟨.arr n e,_,_⟩,.loc i V,Z=>match X e,h.map (s.ev W),g.map (s.ev W) with
   |U _,Z,Z=>.ok (.jf i V n n)
   |U R,U (.int _ (.c l)),Z=>if decide (0<=l)&&decide (l<(n:Int)) then .ok (.jf i (V+l.toNat*Y R.aj) (n-l.toNat) (n-l.toNat)) else .no ""
   |_,_,_=>.no ""
  |_,_,_=>.no ""
 |.build t parts=>match X t with
  |U ⟨.struct O,aj,q⟩=>if !(O.all λf=>(X f.2).isSome) then .no "" else match zn (ZE X O) (eA ⟨.struct O,aj,q⟩) (parts.toList.map λp=>(p.1,s.ev W p.2)) with
   |U l=>.ok (.agg l)
   |none=>.no ""
  |U ⟨.arr n e,aj,q⟩=>match X e with
   |U R=>match zn (λi=>U (i*Y R.aj,Y R.aj)) (eA ⟨.arr n e,aj,q⟩) (parts.toList.map λp=>(p.1,s.ev W p.2)) with
    |U l=>.ok (.agg l)
    |none=>.no ""
   |none=>.no ""
  |_=>.no ""
 |.call c=>match c.callee with
  |.builtin .len=>match c.argTypes.toList,c.args.toList.map (s.ev W) with
   |[t],[.ah (.k (.slice Z 0 0))]=>match X t with
    |U ⟨.slice _,_,_⟩=>.ok (.int I (.c 0))
    |_=>.no ""
   |[t],[.ah r]=>match X t,r.kind X s with
    |U ⟨.slice _,_,_⟩,.sl _=>.ok (.int I (.len r))
    |U ⟨.str,_,_⟩,.str=>.ok (.int I (.len r))
    |_,_=>.no ""
   |[t],[.jf _ _ n _]=>match X t with
    |U ⟨.slice _,_,_⟩=>.ok (.int I (.c n))
    |_=>.no ""
   |_,_=>.no ""
  |.builtin .min=>match c.args.toList.map (s.ev W) with
   |.int k x::r=>match Hq E k x r with
    |U e=>.ok (.int k e)
    |none=>.no ""
   |_=>.no ""
  |.builtin .max=>match c.args.toList.map (s.ev W) with
   |.int k x::r=>match Hq J k x r with
    |U e=>.ok (.int k e)
    |none=>.no ""
   |_=>.no ""
  |_=>.no ""
 |.lookup t x L ok=>match X t,s.ev W x with
  |U ⟨.map k e n ag,_,_⟩,.mp i=>S2 X s k e n ag ok i (s.ev W L)
  |_,_=>.no ""
 |_=>.no ""
def Bc(X:nu)(s:S):Op->cM
 |.load _ x=>match s.ev X x with
  |.loc i _=>U i
  |.gg _ _ W=>zo W
  |_=>Z
 |.lookup _ x _ _=>match s.ev X x with
  |.mp i=>U i
  |_=>Z
 |_=>Z
def Hx:Value->Value->Bool
 |.string a,.string b=>a.data.toList==b.data.toList
 |.slice Z a b,.slice Z c d=>a==c&&b==d
 |.pointer Z,.pointer Z=>J
 |.nilFunc,.nilFunc=>J
 |.nilIface,.nilIface=>J
 |.map Z,.map Z=>J
 |_,_=>E
def Be(a b:BinOp):Bool:=decide (a=b)
noncomputable def K.aN(e:K):K->Bool:=K.rec (motive_1:=λ_=>K->Bool) (motive_2:=λ_=>BE->Bool) (motive_3:=λ_=>RE->Bool) (λn e=>match e with|K.c N=>n==N|_=>E) (λk e=>match e with|K.v O=>k==O|_=>E) (λo k _ _ X W e=>match e with|K.bin D O V R=>Be o D&&decide (k=O)&&X V&&W R|_=>E) (λk _ X e=>match e with|K.conv O V=>decide (k=O)&&X V|_=>E) (λ_ Q e=>match e with|K.len P=>Q P|_=>E) (λm _ _ X W e=>match e with|K.mm x V R=>m==x&&X V&&W R|_=>E) (λ_ _ _ W B A e=>match e with|K.eo R z y=>W R&&B z&&A y|_=>E) (λ_ _ j Q L e=>match e with|K.cell P H M=>Q P&&L H&&j==M|_=>E) (λ_ _ Q L e=>match e with|K.nW P H=>Q P&&L H|_=>E) (λ_ n _ _ _ j Q X W G e=>match e with|K.look P N V R F M=>Q P&&n==N&&X V&&W R&&G F&&j==M|_=>E) (λn e=>match e with|BE.c N=>n==N|_=>E) (λk e=>match e with|BE.v O=>k==O|_=>E) (λo _ _ X W e=>match e with|BE.cmp D V R=>Be o D&&X V&&W R|_=>E) (λ_ X e=>match e with|BE.not V=>X V|_=>E) (λ_ _ X W e=>match e with|BE.and V R=>X V&&W R|_=>E) (λ_ _ X W e=>match e with|BE.beq V R=>X V&&W R|_=>E) (λ_ _ _ W B A e=>match e with|BE.eo R z y=>W R&&B z&&A y|_=>E) (λ_ _ j Q L e=>match e with|BE.cell P H M=>Q P&&L H&&j==M|_=>E) (λ_ _ X W e=>match e with|BE.seq V R=>X V&&W R|_=>E) (λ_ n _ _ _ j Q X W G e=>match e with|BE.look P N V R F M=>Q P&&n==N&&X V&&W R&&G F&&j==M|_=>E) (λ_ n _ _ _ Q X W G e=>match e with|BE.has P N V R F=>Q P&&n==N&&X V&&W R&&G F|_=>E) (λk e=>match e with|RE.v O=>k==O|_=>E) (λ_ _ j k Q L e=>match e with|RE.cell P H M O=>Q P&&L H&&j==M&&decide (k=O)|_=>E) (λv e=>match e with|RE.k w=>Hx v w|_=>E) e
noncomputable def BE.aN(e:BE):BE->Bool:=BE.rec (motive_1:=λ_=>K->Bool) (motive_2:=λ_=>BE->Bool) (motive_3:=λ_=>RE->Bool) (λn e=>match e with|K.c N=>n==N|_=>E) (λk e=>match e with|K.v O=>k==O|_=>E) (λo k _ _ X W e=>match e with|K.bin D O V R=>Be o D&&decide (k=O)&&X V&&W R|_=>E) (λk _ X e=>match e with|K.conv O V=>decide (k=O)&&X V|_=>E) (λ_ Q e=>match e with|K.len P=>Q P|_=>E) (λm _ _ X W e=>match e with|K.mm x V R=>m==x&&X V&&W R|_=>E) (λ_ _ _ W B A e=>match e with|K.eo R z y=>W R&&B z&&A y|_=>E) (λ_ _ j Q L e=>match e with|K.cell P H M=>Q P&&L H&&j==M|_=>E) (λ_ _ Q L e=>match e with|K.nW P H=>Q P&&L H|_=>E) (λ_ n _ _ _ j Q X W G e=>match e with|K.look P N V R F M=>Q P&&n==N&&X V&&W R&&G F&&j==M|_=>E) (λn e=>match e with|BE.c N=>n==N|_=>E) (λk e=>match e with|BE.v O=>k==O|_=>E) (λo _ _ X W e=>match e with|BE.cmp D V R=>Be o D&&X V&&W R|_=>E) (λ_ X e=>match e with|BE.not V=>X V|_=>E) (λ_ _ X W e=>match e with|BE.and V R=>X V&&W R|_=>E) (λ_ _ X W e=>match e with|BE.beq V R=>X V&&W R|_=>E) (λ_ _ _ W B A e=>match e with|BE.eo R z y=>W R&&B z&&A y|_=>E) (λ_ _ j Q L e=>match e with|BE.cell P H M=>Q P&&L H&&j==M|_=>E) (λ_ _ X W e=>match e with|BE.seq V R=>X V&&W R|_=>E) (λ_ n _ _ _ j Q X W G e=>match e with|BE.look P N V R F M=>Q P&&n==N&&X V&&W R&&G F&&j==M|_=>E) (λ_ n _ _ _ Q X W G e=>match e with|BE.has P N V R F=>Q P&&n==N&&X V&&W R&&G F|_=>E) (λk e=>match e with|RE.v O=>k==O|_=>E) (λ_ _ j k Q L e=>match e with|RE.cell P H M O=>Q P&&L H&&j==M&&decide (k=O)|_=>E) (λv e=>match e with|RE.k w=>Hx v w|_=>E) e
noncomputable def RE.aN(e:RE):RE->Bool:=RE.rec (motive_1:=λ_=>K->Bool) (motive_2:=λ_=>BE->Bool) (motive_3:=λ_=>RE->Bool) (λn e=>match e with|K.c N=>n==N|_=>E) (λk e=>match e with|K.v O=>k==O|_=>E) (λo k _ _ X W e=>match e with|K.bin D O V R=>Be o D&&decide (k=O)&&X V&&W R|_=>E) (λk _ X e=>match e with|K.conv O V=>decide (k=O)&&X V|_=>E) (λ_ Q e=>match e with|K.len P=>Q P|_=>E) (λm _ _ X W e=>match e with|K.mm x V R=>m==x&&X V&&W R|_=>E) (λ_ _ _ W B A e=>match e with|K.eo R z y=>W R&&B z&&A y|_=>E) (λ_ _ j Q L e=>match e with|K.cell P H M=>Q P&&L H&&j==M|_=>E) (λ_ _ Q L e=>match e with|K.nW P H=>Q P&&L H|_=>E) (λ_ n _ _ _ j Q X W G e=>match e with|K.look P N V R F M=>Q P&&n==N&&X V&&W R&&G F&&j==M|_=>E) (λn e=>match e with|BE.c N=>n==N|_=>E) (λk e=>match e with|BE.v O=>k==O|_=>E) (λo _ _ X W e=>match e with|BE.cmp D V R=>Be o D&&X V&&W R|_=>E) (λ_ X e=>match e with|BE.not V=>X V|_=>E) (λ_ _ X W e=>match e with|BE.and V R=>X V&&W R|_=>E) (λ_ _ X W e=>match e with|BE.beq V R=>X V&&W R|_=>E) (λ_ _ _ W B A e=>match e with|BE.eo R z y=>W R&&B z&&A y|_=>E) (λ_ _ j Q L e=>match e with|BE.cell P H M=>Q P&&L H&&j==M|_=>E) (λ_ _ X W e=>match e with|BE.seq V R=>X V&&W R|_=>E) (λ_ n _ _ _ j Q X W G e=>match e with|BE.look P N V R F M=>Q P&&n==N&&X V&&W R&&G F&&j==M|_=>E) (λ_ n _ _ _ Q X W G e=>match e with|BE.has P N V R F=>Q P&&n==N&&X V&&W R&&G F|_=>E) (λk e=>match e with|RE.v O=>k==O|_=>E) (λ_ _ j k Q L e=>match e with|RE.cell P H M O=>Q P&&L H&&j==M&&decide (k=O)|_=>E) (λv e=>match e with|RE.k w=>Hx v w|_=>E) e
def K.iu:(∀n e,K.aN (.c n) e=match e with|K.c Q=>n==Q|_=>E)/\(∀k e,K.aN (.v k) e=match e with|K.v R=>k==R|_=>E)/\(∀o k a b e,K.aN (.bin o k a b) e=match e with|K.bin N R X W=>Be o N&&decide (k=R)&&K.aN a X&&K.aN b W|_=>E)/\(∀k a e,K.aN (.conv k a) e=match e with|K.conv R X=>decide (k=R)&&K.aN a X|_=>E)/\(∀r e,K.aN (.len r) e=match e with|K.len V=>RE.aN r V|_=>E)/\(∀m a b e,K.aN (.mm m a b) e=match e with|K.mm M X W=>m==M&&K.aN a X&&K.aN b W|_=>E)/\(∀b x y e,K.aN (.eo b x y) e=match e with|K.eo W L H=>BE.aN b W&&K.aN x L&&K.aN y H|_=>E)/\(∀r i j e,K.aN (.cell r i j) e=match e with|K.cell V P O=>RE.aN r V&&K.aN i P&&j==O|_=>E)/\(∀r i e,K.aN (.nW r i) e=match e with|K.nW V P=>RE.aN r V&&K.aN i P|_=>E)/\(∀r n a b c j e,K.aN (.look r n a b c j) e=match e with|K.look V Q X W G O=>RE.aN r V&&n==Q&&K.aN a X&&K.aN b W&&K.aN c G&&j==O|_=>E):=⟨λ_ _=>rfl,λ_ _=>rfl,λ_ _ _ _ _=>rfl,λ_ _ _=>rfl,λ_ _=>rfl,λ_ _ _ _=>rfl,λ_ _ _ _=>rfl,λ_ _ _ _=>rfl,λ_ _ _=>rfl,λ_ _ _ _ _ _ _=>rfl⟩
def BE.iu:(∀n e,BE.aN (.c n) e=match e with|BE.c V=>n==V|_=>E)/\(∀k e,BE.aN (.v k) e=match e with|BE.v O=>k==O|_=>E)/\(∀o a b e,BE.aN (.cmp o a b) e=match e with|BE.cmp N X W=>Be o N&&K.aN a X&&K.aN b W|_=>E)/\(∀a e,BE.aN (.not a) e=match e with|BE.not X=>BE.aN a X|_=>E)/\(∀a b e,BE.aN (.and a b) e=match e with|BE.and X W=>BE.aN a X&&BE.aN b W|_=>E)/\(∀a b e,BE.aN (.beq a b) e=match e with|BE.beq X W=>BE.aN a X&&BE.aN b W|_=>E)/\(∀b x y e,BE.aN (.eo b x y) e=match e with|BE.eo W M L=>BE.aN b W&&BE.aN x M&&BE.aN y L|_=>E)/\(∀r i j e,BE.aN (.cell r i j) e=match e with|BE.cell R H Q=>RE.aN r R&&K.aN i H&&j==Q|_=>E)/\(∀a b e,BE.aN (.seq a b) e=match e with|BE.seq X W=>RE.aN a X&&RE.aN b W|_=>E)/\(∀r n a b c j e,BE.aN (.look r n a b c j) e=match e with|BE.look R V X W P Q=>RE.aN r R&&n==V&&K.aN a X&&K.aN b W&&K.aN c P&&j==Q|_=>E)/\(∀r n a b c e,BE.aN (.has r n a b c) e=match e with|BE.has R V X W P=>RE.aN r R&&n==V&&K.aN a X&&K.aN b W&&K.aN c P|_=>E):=⟨λ_ _=>rfl,λ_ _=>rfl,λ_ _ _ _=>rfl,λ_ _=>rfl,λ_ _ _=>rfl,λ_ _ _=>rfl,λ_ _ _ _=>rfl,λ_ _ _ _=>rfl,λ_ _ _=>rfl,λ_ _ _ _ _ _ _=>rfl,λ_ _ _ _ _ _=>rfl⟩
def RE.iu:(∀k e,RE.aN (.v k) e=match e with|RE.v X=>k==X|_=>E)/\(∀r i j k e,RE.aN (.cell r i j k) e=match e with|RE.cell W V R X=>RE.aN r W&&K.aN i V&&j==R&&decide (k=X)|_=>E)/\(∀v e,RE.aN (.k v) e=match e with|RE.k Q=>Hx v Q|_=>E):=⟨λ_ _=>rfl,λ_ _ _ _ _=>rfl,λ_ _=>rfl⟩
noncomputable def C.aN(v:C):C->Bool:=C.rec (motive_1:=λ_=>C->Bool) (motive_2:=λ_=>aq->Bool) (λk e v=>match v with|C.int O V=>decide (k=O)&&e.aN V|_=>E) (λb v=>match v with|C.bool R=>b.aN R|_=>E) (λr v=>match v with|C.ah Q=>r.aN Q|_=>E) (λi o v=>match v with|C.loc X P=>i==X&&o==P|_=>E) (λr w i o v=>match v with|C.el Q N X P=>r.aN Q&&w==N&&i.aN X&&o==P|_=>E) (λa b c d v=>match v with|C.jf M R L H=>a==M&&b==R&&c==L&&d==H|_=>E) (λ_ h v=>match v with|C.agg W=>h W|_=>E) (λ_ h v=>match v with|C.bM W=>h W|_=>E) (λf _ h v=>match v with|C.fn G W=>f==G&&h W|_=>E) (λt _ h v=>match v with|C.gX F D=>t==F&&h D|_=>E) (λn v=>match v with|C.yl B=>n==B|_=>E) (λv=>match v with|C.any=>J|_=>E) (λi v=>match v with|C.mp X=>i==X|_=>E) (λe A _ h v=>match v with|C.gg V z x=>e.aN V&&A==z&&h x|_=>E) (λl=>match l with|[]=>J|_=>E) (λ_ _ h u l=>match l with|y::s=>h y&&u s|_=>E) v
noncomputable def C.rg(l:aq):aq->Bool:=C.rec_1 (motive_1:=λ_=>C->Bool) (motive_2:=λ_=>aq->Bool) (λk e v=>match v with|C.int O V=>decide (k=O)&&e.aN V|_=>E) (λb v=>match v with|C.bool R=>b.aN R|_=>E) (λr v=>match v with|C.ah Q=>r.aN Q|_=>E) (λi o v=>match v with|C.loc X P=>i==X&&o==P|_=>E) (λr w i o v=>match v with|C.el Q N X P=>r.aN Q&&w==N&&i.aN X&&o==P|_=>E) (λa b c d v=>match v with|C.jf M R L H=>a==M&&b==R&&c==L&&d==H|_=>E) (λ_ h v=>match v with|C.agg W=>h W|_=>E) (λ_ h v=>match v with|C.bM W=>h W|_=>E) (λf _ h v=>match v with|C.fn G W=>f==G&&h W|_=>E) (λt _ h v=>match v with|C.gX F D=>t==F&&h D|_=>E) (λn v=>match v with|C.yl B=>n==B|_=>E) (λv=>match v with|C.any=>J|_=>E) (λi v=>match v with|C.mp X=>i==X|_=>E) (λe A _ h v=>match v with|C.gg V z x=>e.aN V&&A==z&&h x|_=>E) (λl=>match l with|[]=>J|_=>E) (λ_ _ h u l=>match l with|y::s=>h y&&u s|_=>E) l
def C.iu:(∀k e v,C.aN (.int k e) v=match v with|C.int M V=>decide (k=M)&&e.aN V|_=>E)/\(∀b v,C.aN (.bool b) v=match v with|C.bool R=>b.aN R|_=>E)/\(∀r v,C.aN (.ah r) v=match v with|C.ah Q=>r.aN Q|_=>E)/\(∀i o v,C.aN (.loc i o) v=match v with|C.loc X P=>i==X&&o==P|_=>E)/\(∀r w i o v,C.aN (.el r w i o) v=match v with|C.el Q L X P=>r.aN Q&&w==L&&i.aN X&&o==P|_=>E)/\(∀a b c d v,C.aN (.jf a b c d) v=match v with|C.jf H R G F=>a==H&&b==R&&c==G&&d==F|_=>E)/\(∀l v,C.aN (.agg l) v=match v with|C.agg W=>C.rg l W|_=>E)/\(∀l v,C.aN (.bM l) v=match v with|C.bM W=>C.rg l W|_=>E)/\(∀f l v,C.aN (.fn f l) v=match v with|C.fn D W=>f==D&&C.rg l W|_=>E)/\(∀t x v,C.aN (.gX t x) v=match v with|C.gX B A=>t==B&&C.aN x A|_=>E)/\(∀n v,C.aN (.yl n) v=match v with|C.yl z=>n==z|_=>E)/\(∀v,C.aN (.any) v=match v with|C.any=>J|_=>E)/\(∀i v,C.aN (.mp i) v=match v with|C.mp X=>i==X|_=>E)/\(∀e O N v,C.aN (.gg e O N) v=match v with|C.gg V y u=>e.aN V&&O==y&&C.rg N u|_=>E):=⟨λ_ _ _=>rfl,λ_ _=>rfl,λ_ _=>rfl,λ_ _ _=>rfl,λ_ _ _ _ _=>rfl,λ_ _ _ _ _=>rfl,λ_ _=>rfl,λ_ _=>rfl,λ_ _ _=>rfl,λ_ _ _=>rfl,λ_ _=>rfl,λ_=>rfl,λ_ _=>rfl,λ_ _ _ _=>rfl⟩
def C.ajc:(∀l,C.rg [] l=match l with|[]=>J|_=>E)/\(∀x X l,C.rg (x::X) l=match l with|y::W=>C.aN x y&&C.rg X W|_=>E):=⟨λ_=>rfl,λ_ _ _=>rfl⟩
def ajd:∀n:Nat,∃q,8^n=7*q+1
 |0=>⟨0,rfl⟩
 |n+1=>by
  obtain⟨q,h⟩:=ajd n;exact⟨8*q+1,by rw[Nat.pow_succ,h];omega⟩
def A3(n:Nat):Nat:=Nat.div (Nat.sub (Nat.pow 8 n) 1) 7
def aje(n:Nat):8^n=7*A3 n+1:=by
 obtain⟨q,h⟩:=ajd n;have:A3 n=q:=by
  show(8^n-1)/7=q;rw[h];omega
 rw[this];exact h
def S4(n:Nat):A3 (n+1)=8*A3 n+1:=by
 have X:=aje n;have W:=aje (n+1);rw[Nat.pow_succ,X] at W;omega
def ajf:∀(n j:Nat),(A3 n).testBit j=(decide (j%3=0)&&decide (j/3<n))
 |0,j=>by simp[show A3 0=0 from rfl]
 |n+1,0=>by rw[S4,au9];simp;omega
 |n+1,1=>by rw[S4,SL,show(8*A3 n+1)/2=4*A3 n from aa,au9];simp;omega
 |n+1,2=>by rw[S4,SL,SL,show(8*A3 n+1)/2/2=2*A3 n from aa,au9];simp
 |n+1,j+3=>by
  rw[S4,SL,SL,SL,show(8*A3 n+1)/2/2/2=A3 n from aa,ajf n j,Nat.add_mod_right,Nat.add_div_right _ aa];simp
def mK(X W V:Nat):Nat:=bZ (A3 X) (bZ (mG (A3 W) 1) (mG (A3 V) 2))
def ZI(X W V j:Nat):(mK X W V).testBit j=if j%3=0 then decide (j/3<X) else if j%3=1 then decide (j/3<W) else decide (j/3<V):=by
 change(A3 X|||(A3 W<<<1|||A3 V<<<2)).testBit j=_;simp only[E1,auY,ajf];rw[uD];simp only[jy,aw,cm];split;simp only[cm];omega;split;simp only[cm];omega;simp only[cm];omega
def Oe:jd (bZ R Q) Q=J<->∀j,R.testBit j=J->Q.testBit j=true:=by
 rw[ai7];constructor;intro h j X;have:(R|||Q).testBit j=Q.testBit j:=kh (λx=>Nat.testBit x j) h;rw[<-this,E1,X,avo];intro h;refine Nat.eq_of_testBit_eq λj=> ?_
 change(R|||Q).testBit j=_;rw[E1];cases W:R.testBit j with
 |true=>rw[h j W];rfl
 |false=>simp
def lJ(a b A:Nat):jd (bZ (bZ a b) A) A=(jd (bZ a A) A&&jd (bZ b A) A):=by
 rw[uD,aw,Oe,Oe,Oe];change(∀j,(a|||b).testBit j=J->_)<->_;simp only[E1,jy];exact⟨λh=>⟨λj k=>h j (.inl k),λj k=>h j (.inr k)⟩,λh j k=>k.elim (h.1 j) (h.2 j)⟩
def ZJ(k A:Nat):jd (bZ (mG 1 k) A) A=A.testBit k:=by
 rw[uD,Oe];change(∀j,(1<<<k).testBit j=J->_)<->_;simp only[au5,aIu,cm];exact⟨λh=>h k rfl,λh j e=>e▸h⟩
def Hy(A:Nat):jd (bZ 0 A) A=true:=Oe.2 λj h=>by simp at h
noncomputable def K.mL(e:K):Nat:=K.rec (motive_1:=λ_=>Nat) (motive_2:=λ_=>Nat) (motive_3:=λ_=>Nat) (λ_=>0) (λk=>mG 1 (3*k)) (λ_ _ _ _ a b=>bZ a b) (λ_ _ a=>a) (λ_ r=>r) (λ_ _ _ a b=>bZ a b) (λ_ _ _ b x y=>bZ (bZ b x) y) (λ_ _ _ r i=>bZ r i) (λ_ _ r i=>bZ r i) (λ_ _ _ _ _ _ r a b c=>bZ (bZ (bZ r a) b) c) (λ_=>0) (λk=>mG 1 (3*k+1)) (λ_ _ _ a b=>bZ a b) (λ_ a=>a) (λ_ _ a b=>bZ a b) (λ_ _ a b=>bZ a b) (λ_ _ _ b x y=>bZ (bZ b x) y) (λ_ _ _ r i=>bZ r i) (λ_ _ a b=>bZ a b) (λ_ _ _ _ _ _ r a b c=>bZ (bZ (bZ r a) b) c) (λ_ _ _ _ _ r a b c=>bZ (bZ (bZ r a) b) c) (λk=>mG 1 (3*k+2)) (λ_ _ _ _ r i=>bZ r i) (λ_=>0) e
noncomputable def BE.mL(e:BE):Nat:=BE.rec (motive_1:=λ_=>Nat) (motive_2:=λ_=>Nat) (motive_3:=λ_=>Nat) (λ_=>0) (λk=>mG 1 (3*k)) (λ_ _ _ _ a b=>bZ a b) (λ_ _ a=>a) (λ_ r=>r) (λ_ _ _ a b=>bZ a b) (λ_ _ _ b x y=>bZ (bZ b x) y) (λ_ _ _ r i=>bZ r i) (λ_ _ r i=>bZ r i) (λ_ _ _ _ _ _ r a b c=>bZ (bZ (bZ r a) b) c) (λ_=>0) (λk=>mG 1 (3*k+1)) (λ_ _ _ a b=>bZ a b) (λ_ a=>a) (λ_ _ a b=>bZ a b) (λ_ _ a b=>bZ a b) (λ_ _ _ b x y=>bZ (bZ b x) y) (λ_ _ _ r i=>bZ r i) (λ_ _ a b=>bZ a b) (λ_ _ _ _ _ _ r a b c=>bZ (bZ (bZ r a) b) c) (λ_ _ _ _ _ r a b c=>bZ (bZ (bZ r a) b) c) (λk=>mG 1 (3*k+2)) (λ_ _ _ _ r i=>bZ r i) (λ_=>0) e
noncomputable def RE.mL(e:RE):Nat:=RE.rec (motive_1:=λ_=>Nat) (motive_2:=λ_=>Nat) (motive_3:=λ_=>Nat) (λ_=>0) (λk=>mG 1 (3*k)) (λ_ _ _ _ a b=>bZ a b) (λ_ _ a=>a) (λ_ r=>r) (λ_ _ _ a b=>bZ a b) (λ_ _ _ b x y=>bZ (bZ b x) y) (λ_ _ _ r i=>bZ r i) (λ_ _ r i=>bZ r i) (λ_ _ _ _ _ _ r a b c=>bZ (bZ (bZ r a) b) c) (λ_=>0) (λk=>mG 1 (3*k+1)) (λ_ _ _ a b=>bZ a b) (λ_ a=>a) (λ_ _ a b=>bZ a b) (λ_ _ a b=>bZ a b) (λ_ _ _ b x y=>bZ (bZ b x) y) (λ_ _ _ r i=>bZ r i) (λ_ _ a b=>bZ a b) (λ_ _ _ _ _ _ r a b c=>bZ (bZ (bZ r a) b) c) (λ_ _ _ _ _ r a b c=>bZ (bZ (bZ r a) b) c) (λk=>mG 1 (3*k+2)) (λ_ _ _ _ r i=>bZ r i) (λ_=>0) e
noncomputable def K.bd(X W V:Nat)(e:K):Bool:=jd (bZ e.mL (mK X W V)) (mK X W V)
noncomputable def BE.bd(X W V:Nat)(e:BE):Bool:=jd (bZ e.mL (mK X W V)) (mK X W V)
noncomputable def RE.bd(X W V:Nat)(e:RE):Bool:=jd (bZ e.mL (mK X W V)) (mK X W V)
def avs(X W V k:Nat):(mK X W V).testBit (3*k)=decide (k<X):=by
 rw[ZI,aJ aa,show 3*k/3=k from aa]
def avt(W X V k:Nat):(mK W X V).testBit (3*k+1)=decide (k<X):=by
 rw[ZI,aQ aa,aJ aa,show(3*k+1)/3=k from aa]
def avu(W V X k:Nat):(mK W V X).testBit (3*k+2)=decide (k<X):=by
 rw[ZI,aQ aa,aQ aa,show(3*k+2)/3=k from aa]
def K.bj:(∀n,K.bd R Q i (.c n)=J)/\(∀k,K.bd R Q i (.v k)=decide (k<R))/\(∀o k a b,K.bd R Q i (.bin o k a b)=(K.bd R Q i a&&K.bd R Q i b))/\(∀k a,K.bd R Q i (.conv k a)=(K.bd R Q i a))/\(∀r,K.bd R Q i (.len r)=(RE.bd R Q i r))/\(∀m a b,K.bd R Q i (.mm m a b)=(K.bd R Q i a&&K.bd R Q i b))/\(∀b x y,K.bd R Q i (.eo b x y)=(BE.bd R Q i b&&K.bd R Q i x&&K.bd R Q i y))/\(∀r X j,K.bd R Q i (.cell r X j)=(RE.bd R Q i r&&K.bd R Q i X))/\(∀r X,K.bd R Q i (.nW r X)=(RE.bd R Q i r&&K.bd R Q i X))/\(∀r n a b c j,K.bd R Q i (.look r n a b c j)=(RE.bd R Q i r&&K.bd R Q i a&&K.bd R Q i b&&K.bd R Q i c)):=⟨λ_=>Hy _,λ_=>(ZJ _ _).trans (avs _ _ _ _),λ_ _ _ _=>lJ _ _ _,λ_ _=>rfl,λ_=>rfl,λ_ _ _=>lJ _ _ _,λ_ _ _=>(lJ _ _ _).trans (kh (· &&_) (lJ _ _ _)),λ_ _ _=>lJ _ _ _,λ_ _=>lJ _ _ _,λ_ _ _ _ _ _=>(lJ _ _ _).trans (kh (· &&_) ((lJ _ _ _).trans (kh (· &&_) (lJ _ _ _))))⟩
def BE.bj:(∀n,BE.bd R Q i (.c n)=J)/\(∀k,BE.bd R Q i (.v k)=decide (k<Q))/\(∀o a b,BE.bd R Q i (.cmp o a b)=(K.bd R Q i a&&K.bd R Q i b))/\(∀a,BE.bd R Q i (.not a)=(BE.bd R Q i a))/\(∀a b,BE.bd R Q i (.and a b)=(BE.bd R Q i a&&BE.bd R Q i b))/\(∀a b,BE.bd R Q i (.beq a b)=(BE.bd R Q i a&&BE.bd R Q i b))/\(∀b x y,BE.bd R Q i (.eo b x y)=(BE.bd R Q i b&&BE.bd R Q i x&&BE.bd R Q i y))/\(∀r X j,BE.bd R Q i (.cell r X j)=(RE.bd R Q i r&&K.bd R Q i X))/\(∀a b,BE.bd R Q i (.seq a b)=(RE.bd R Q i a&&RE.bd R Q i b))/\(∀r n a b c j,BE.bd R Q i (.look r n a b c j)=(RE.bd R Q i r&&K.bd R Q i a&&K.bd R Q i b&&K.bd R Q i c))/\(∀r n a b c,BE.bd R Q i (.has r n a b c)=(RE.bd R Q i r&&K.bd R Q i a&&K.bd R Q i b&&K.bd R Q i c)):=⟨λ_=>Hy _,λ_=>(ZJ _ _).trans (avt _ _ _ _),λ_ _ _=>lJ _ _ _,λ_=>rfl,λ_ _=>lJ _ _ _,λ_ _=>lJ _ _ _,λ_ _ _=>(lJ _ _ _).trans (kh (· &&_) (lJ _ _ _)),λ_ _ _=>lJ _ _ _,λ_ _=>lJ _ _ _,λ_ _ _ _ _ _=>(lJ _ _ _).trans (kh (· &&_) ((lJ _ _ _).trans (kh (· &&_) (lJ _ _ _)))),λ_ _ _ _ _=>(lJ _ _ _).trans (kh (· &&_) ((lJ _ _ _).trans (kh (· &&_) (lJ _ _ _))))⟩
def RE.bj:(∀k,RE.bd R Q i (.v k)=decide (k<i))/\(∀r X j k,RE.bd R Q i (.cell r X j k)=(RE.bd R Q i r&&K.bd R Q i X))/\(∀v,RE.bd R Q i (.k v)=J):=⟨λ_=>(ZJ _ _).trans (avu _ _ _ _),λ_ _ _ _=>lJ _ _ _,λ_=>Hy _⟩
noncomputable def C.mL(v:C):Nat:=C.rec (motive_1:=λ_=>Nat) (motive_2:=λ_=>Nat) (λ_ e=>e.mL) (λb=>b.mL) (λr=>r.mL) (λ_ _=>0) (λr _ i _=>bZ r.mL i.mL) (λ_ _ _ _=>0) (λ_ l=>l) (λ_ l=>l) (λ_ _ l=>l) (λ_ _ x=>x) (λ_=>0) 0 (λ_=>0) (λe _ _ l=>bZ e.mL l) 0 (λ_ _ a b=>bZ a b) v
noncomputable def C.Kb(l:aq):Nat:=C.rec_1 (motive_1:=λ_=>Nat) (motive_2:=λ_=>Nat) (λ_ e=>e.mL) (λb=>b.mL) (λr=>r.mL) (λ_ _=>0) (λr _ i _=>bZ r.mL i.mL) (λ_ _ _ _=>0) (λ_ l=>l) (λ_ l=>l) (λ_ _ l=>l) (λ_ _ x=>x) (λ_=>0) 0 (λ_=>0) (λe _ _ l=>bZ e.mL l) 0 (λ_ _ a b=>bZ a b) l
noncomputable def C.Bf(v:C):Nat:=C.rec (motive_1:=λ_=>Nat) (motive_2:=λ_=>Nat) (λ_ _=>0) (λ_=>0) (λ_=>0) (λi _=>mG 1 i) (λ_ _ _ _=>0) (λi _ _ _=>mG 1 i) (λ_ l=>l) (λ_ l=>l) (λ_ _ l=>l) (λ_ _ x=>x) (λ_=>0) 0 (λi=>mG 1 i) (λ_ _ _ l=>l) 0 (λ_ _ a b=>bZ a b) v
noncomputable def C.Hz(l:aq):Nat:=C.rec_1 (motive_1:=λ_=>Nat) (motive_2:=λ_=>Nat) (λ_ _=>0) (λ_=>0) (λ_=>0) (λi _=>mG 1 i) (λ_ _ _ _=>0) (λi _ _ _=>mG 1 i) (λ_ l=>l) (λ_ l=>l) (λ_ _ l=>l) (λ_ _ x=>x) (λ_=>0) 0 (λi=>mG 1 i) (λ_ _ _ l=>l) 0 (λ_ _ a b=>bZ a b) l
noncomputable def C.Kc(X:Nat->Bool)(v:C):Bool:=C.rec (motive_1:=λ_=>Bool) (motive_2:=λ_=>Bool) (λ_ _=>J) (λ_=>J) (λ_=>J) (λi _=>X i) (λ_ _ _ _=>J) (λi _ _ _=>X i) (λ_ l=>l) (λ_ l=>l) (λ_ _ l=>l) (λ_ _ x=>x) (λ_=>J) J (λi=>X i) (λ_ _ _ l=>l) J (λ_ _ a b=>a&&b) v
noncomputable def C.Kd(X:Nat->Bool)(l:aq):Bool:=C.rec_1 (motive_1:=λ_=>Bool) (motive_2:=λ_=>Bool) (λ_ _=>J) (λ_=>J) (λ_=>J) (λi _=>X i) (λ_ _ _ _=>J) (λi _ _ _=>X i) (λ_ l=>l) (λ_ l=>l) (λ_ _ l=>l) (λ_ _ x=>x) (λ_=>J) J (λi=>X i) (λ_ _ _ l=>l) J (λ_ _ a b=>a&&b) l
noncomputable def C.bd(X W V:Nat)(R:Nat->Bool)(v:C):Bool:=J6 (motive:=λ_=>Bool) E (J6 (motive:=λ_=>Bool) (v.Kc R) J (jd v.Bf 0)) (jd (bZ v.mL (mK X W V)) (mK X W V))
def C.ajg(X W V:Nat)(R:Nat->Bool)(v:C):C.bd X W V R v=(jd (bZ v.mL (mK X W V)) (mK X W V)&&(jd v.Bf 0||v.Kc R)):=by
 unfold C.bd;cases jd (bZ v.mL (mK X W V)) (mK X W V)<;>cases jd v.Bf 0<;>rfl
noncomputable def C.ec(X W V:Nat)(R:Nat->Bool)(l:aq):Bool:=zm (motive:=λ_=>Bool) J (λx _ Q=>J6 (motive:=λ_=>Bool) E Q (C.bd X W V R x)) l
def C.iQ{X:Nat->Bool}:(C.ec R Q i X []=J)/\(∀x W,C.ec R Q i X (x::W)=(C.bd R Q i X x&&C.ec R Q i X W)):=⟨rfl,λx W=>by
 show J6 (motive:=λ_=>Bool) E (C.ec R Q i X W) (C.bd R Q i X x)=_;cases C.bd R Q i X x<;>rfl⟩
def ajh:jd (bZ R Q) 0=(jd R 0&&jd Q 0):=by
 rw[uD,aw,ai7,ai7,ai7];exact Nat.or_eq_zero_iff
def S5(i:Nat):jd (mG 1 i) 0=false:=by
 have:mG 1 i≠0:=by
  change 1<<<i≠0;rw[au5];exact Nat.ne_of_gt (Nat.two_pow_pos i)
 cases h:jd (mG 1 i) 0 with
 |false=>rfl
 |true=>exact aZ (aIn h) this
mutual
def ZK(X:Nat->Bool):∀v:C,jd v.Bf 0=J->v.Kc X=J
 |.int _ _,_=>rfl
 |.bool _,_=>rfl
 |.ah _,_=>rfl
 |.loc i _,h=>by rw[show(C.loc i _).Bf=mG 1 i from rfl,S5] at h;cases h
 |.el _ _ _ _,_=>rfl
 |.jf i _ _ _,h=>by rw[show(C.jf i _ _ _).Bf=mG 1 i from rfl,S5] at h;cases h
 |.agg l,h=>Ke X l h
 |.bM l,h=>Ke X l h
 |.fn _ l,h=>Ke X l h
 |.gX _ x,h=>ZK X x h
 |.yl _,_=>rfl
 |.any,_=>rfl
 |.mp i,h=>by rw[show(C.mp i).Bf=mG 1 i from rfl,S5] at h;cases h
 |.gg _ _ l,h=>Ke X l h
def Ke(X:Nat->Bool):∀l:aq,jd (C.Hz l) 0=J->C.Kd X l=J
 |[],_=>rfl
 |x::W,h=>by
  rw[show C.Hz (x::W)=bZ x.Bf (C.Hz W) from rfl,ajh,aw] at h;show(x.Kc X&&C.Kd X W)=J;rw[ZK X x h.1,Ke X W h.2];rfl
end
def Of(V R Q:Nat)(W:Nat->Bool):∀l:aq,(jd (bZ (C.Kb l) (mK V R Q)) (mK V R Q)&&(jd (C.Hz l) 0||C.Kd W l))=C.ec V R Q W l
 |[]=>by rw[show C.Kb []=0 from rfl,Hy];rfl
 |x::X=>by
  rw[C.iQ.2,<-Of V R Q W X,C.ajg,show C.Kb (x::X)=bZ x.mL (C.Kb X) from rfl,show C.Hz (x::X)=bZ x.Bf (C.Hz X) from rfl,lJ,ajh,show C.Kd W (x::X)=(x.Kc W&&C.Kd W X) from rfl];have P:=ZK W x;have O:=Ke W X;cases N:jd x.Bf 0<;>cases M:jd (C.Hz X) 0<;>cases L:x.Kc W<;>cases H:C.Kd W X<;>cases jd (bZ x.mL (mK V R Q)) (mK V R Q)<;>cases jd (bZ (C.Kb X) (mK V R Q)) (mK V R Q)<;>simp_all
def C.bj{W:Nat->Bool}:(∀k e,C.bd R Q i W (.int k e)=e.bd R Q i)/\(∀b,C.bd R Q i W (.bool b)=b.bd R Q i)/\(∀r,C.bd R Q i W (.ah r)=r.bd R Q i)/\(∀X o,C.bd R Q i W (.loc X o)=W X)/\(∀X a b c,C.bd R Q i W (.jf X a b c)=W X)/\(∀r w X o,C.bd R Q i W (.el r w X o)=(r.bd R Q i&&X.bd R Q i))/\(∀l,C.bd R Q i W (.agg l)=C.ec R Q i W l)/\(∀l,C.bd R Q i W (.bM l)=C.ec R Q i W l)/\(∀f l,C.bd R Q i W (.fn f l)=C.ec R Q i W l)/\(∀t x,C.bd R Q i W (.gX t x)=C.bd R Q i W x)/\(∀n,C.bd R Q i W (.yl n)=J)/\(C.bd R Q i W .any=J)/\(∀X,C.bd R Q i W (.mp X)=W X)/\(∀e N O,C.bd R Q i W (.gg e N O)=(e.bd R Q i&&C.ec R Q i W O)):=by
 have V:∀b:Bool,(b&&(jd 0 0||J))=b:=λb=>by cases b<;>rfl
 have P:∀X,(jd (bZ 0 (mK R Q i)) (mK R Q i)&&(jd (mG 1 X) 0||W X))=W X:=λX=>by rw[Hy,S5];rfl
 simp only[C.ajg];refine⟨λ_ _=>V _,λ_=>V _,λ_=>V _,λ_ _=>P _,λ_ _ _ _=>P _,λr _ X _=> ?_,λl=>Of _ _ _ _ l,λl=>Of _ _ _ _ l,λ_ l=>Of _ _ _ _ l,λ_ _=>rfl,λ_=>(V _).trans (Hy _),(V _).trans (Hy _),λ_=>P _,λe _ l=> ?_⟩;exact(V _).trans (lJ _ _ _);rw[<-Of];show(jd (bZ (bZ e.mL (C.Kb l)) _) _&&_)=_;rw[lJ,avi];rfl
def C.rh(X W V:Nat)(R:Nat->Bool):bG->Bool
 |[]=>J
 |U x::Q=>C.ec X W V R x.2&&C.rh X W V R Q
 |Z::Q=>C.rh X W V R Q
def aK(l:bG)(i:Nat):Bool:=(cw l i).isSome
def S.bd(s:S):Bool:=C.ec s.ni s.nb (Y s.rs) (aK s.ap) s.tmps&&C.rh s.ni s.nb (Y s.rs) (aK s.ap) s.ap
def S.e9(s:S)(l:aq):Bool:=s.bd&&C.ec s.ni s.nb (Y s.rs) (aK s.ap) l
structure fH where
 tm:List (Nat×LK)
 cl:List (Nat×Nat×LK)
inductive avv where
 |avw
 |inv (a:fH)
inductive FK where
 |box
 |slot (t:Nat) (vs:List Int)
 |cell (b j:Nat) (vs:bz)
structure bE where
 ty:Ty
 gl:nu
 inl:FuncId->Option (Code×Nat×nV)
 sig:FuncId->rY
 loop:FuncId->Nat->avv
 aji:TypeId:=3
 zp:FuncId->FuncId->Option (TypeId×bp×Bool):=λ_ _=>Z
 lK:Bool:=E
 Og:FuncId->Nat->Bool:=λ_ _=>E
 frk:FuncId->Nat->Option FK:=λ_ _=>Z
def S.fresh(s:S):LK->C×S
 |.int k=>(.int k (.v s.ni),{s with ni:=s.ni+1})
 |.bool=>(.bool (.v s.nb),{s with nb:=s.nb+1})
 |.ah e=>(.ah (.v (Y s.rs)),{s with rs:=s.rs++[e]})
def uH:CT->LK
 |.int k=>.int k
 |.bool=>.bool
 |.ae _ k=>.ah k
def S.cP(s:S):aS->aq×S
 |[]=>([],s)
 |k::X=>let r:=s.fresh k;let q:=r.2.cP X;(r.1::q.1,q.2)
def Bg(W:Ty):jU->aq->Hl
 |[],_=>U []
 |t::V,l=>match W t with
  |U X=>match Bg W V (l.drop (Y X.aj)) with
   |U r=>U ((if X.d.isAgg then .agg (l.take (Y X.aj)) else l.getD 0 .any)::r)
   |none=>Z
  |none=>Z
def iG(X:Ty):jU->Option aS
 |[]=>U []
 |t::W=>match X t,iG X W with
  |U V,U r=>U (V.aj.map uH++r)
  |_,_=>Z
def one(l:aq):C:=match l with
 |[v]=>v
 |l=>.bM l
def Code.oU:Code->ar
 |.region _ X _=>X.toList.filterMap (·.dst)
 |.seq a b=>Code.oU a++Code.oU b
 |.cond _ a b=>Code.oU a++Code.oU b
 |.block _ c=>Code.oU c
 |.loop c=>Code.oU c
 |.scope c=>Code.oU c
 |.rangeFunc _ W a b=>W.toList++Code.oU a++Code.oU b
 |_=>[]
def Code.first:Code->cM
 |.region id _ _=>U id
 |.seq a b=>match Code.first a with
  |U i=>U i
  |none=>Code.first b
 |.cond _ a b=>match Code.first a with
  |U i=>U i
  |none=>Code.first b
 |.block _ c=>Code.first c
 |.loop c=>Code.first c
 |.scope c=>Code.first c
 |_=>Z
mutual
def C.HA:C->ar
 |.loc i _=>[i]
 |.jf i _ _ _=>[i]
 |.agg l=>C.pC l
 |.bM l=>C.pC l
 |.fn _ l=>C.pC l
 |.gX _ x=>C.HA x
 |.mp i=>[i]
 |.gg _ _ X=>C.pC X
 |_=>[]
def C.pC:aq->ar
 |[]=>[]
 |x::X=>C.HA x++C.pC X
end
def sa(X:ar):Nat->bG->bG
 |_,[]=>[]
 |n,x::W=>(if X.contains n then x else Z)::sa X (n+1) W
def wj:bG->bG
 |[]=>[]
 |x::X=>match x,wj X with
  |Z,[]=>[]
  |x,r=>x::r
def C.eO:C->Bool
 |.any=>J
 |_=>E
inductive HB where
 |fn (g:FuncId)
 |yl (n:Nat)
abbrev qp:=HB->aq->S->(C->S->T)->(C->S->T)->T
abbrev YH:=Nat->aq->S->(C->S->T)->(C->S->T)->T
def iY:YH:=λ_ _ _ _ _=>.stuck ""
structure OM where
 o:Oper
 ix:Nat
 bS:Bool
 j:Nat
 dr:Bool
 so:Bool
abbrev cX:=List OM
inductive OR where
 |ok (s:S)
 |be (b:BE) (s:S)
 |split(b:BE) (s1 s2:S)
 |no (why:String)
def RE.isNil:RE->Bool
 |.k (.slice Z 0 0)=>J
 |_=>E
def RE.fits(X:Ty)(s:S)(k:RK)(r:RE):Bool:=match k with
 |.sl e=>decide (r.kind X s=.sl e)||r.isNil
 |.str=>decide (r.kind X s=.str)
 |_=>E
def tF(X:Ty)(s:S):CT->C->Bool
 |.int k,.int W _=>decide (k=W)
 |.bool,.bool _=>J
 |.ae _ k,.ah r=>r.fits X s k
 |_,_=>E
def mM(X:Ty)(s:S):fj->aq->Bool
 |[],[]=>J
 |c::W,v::V=>tF X s c v&&mM X s W V
 |_,_=>E
def nX(X:Ty)(s:S)(aj:fj):xK->Bool
 |[]=>J
 |r::W=>mM X s aj r&&nX X s aj W
def jJ(w:Nat):Nat->aq->xK
 |0,_=>[]
 |n+1,l=>l.take w::jJ w n (l.drop w)
def LE.bd(X W V:Nat):LE->Bool
 |.ah r=>r.bd X W V
 |.lit l=>l.all (C.ec X W V λ_=>E)
 |.kJ a b=>LE.bd X W V a&&LE.bd X W V b
 |.wb n Q=>n.bd X W V&&C.ec X W V (λ_=>E) Q
 |.set a i _ R=>LE.bd X W V a&&i.bd X W V&&C.ec X W V (λ_=>E) R
 |.sub a P O=>LE.bd X W V a&&P.bd X W V&&O.bd X W V
 |.ins a _ R=>LE.bd X W V a&&C.ec X W V (λ_=>E) R
def RE.root:RE->cM
 |.v n=>U n
 |.cell r _ _ _=>r.root
 |.k _=>Z
mutual
def C.ZL:C->ar
 |.ah r=>r.root.toList
 |.el r _ _ _=>r.root.toList
 |.agg l=>C.pD l
 |.bM l=>C.pD l
 |.fn _ l=>C.pD l
 |.gX _ x=>C.ZL x
 |.gg _ _ X=>C.pD X
 |_=>[]
def C.pD:aq->ar
 |[]=>[]
 |x::X=>C.ZL x++C.pD X
end
def zq(b:Bool):RK->RK
 |.own e=>if b then .sl e else .own e
 |x=>x
def Oi(b:Bool):RK->RK
 |.own e=>if b then .sl e else .am
 |x=>x
def kB(X:ar):Nat->bv->bv
 |_,[]=>[]
 |n,x::W=>zq (X.contains n) x::kB X (n+1) W
def ju(X:ar):Nat->bv->bv
 |_,[]=>[]
 |n,x::W=>(if X.contains n then .am else x)::ju X (n+1) W
def Da(X:ar):Nat->bv->bv
 |_,[]=>[]
 |n,x::W=>Oi (X.contains n) x::Da X (n+1) W
mutual
def C.iB(k n:Nat):C->C
 |.ah (.v j)=>if j==k then .ah (.v n) else .ah (.v j)
 |.el (.v j) w i o=>if j==k then .el (.v n) w i o else .el (.v j) w i o
 |.agg l=>.agg (C.pE k n l)
 |.bM l=>.bM (C.pE k n l)
 |.fn f l=>.fn f (C.pE k n l)
 |.gX t x=>.gX t (C.iB k n x)
 |.gg e X W=>.gg e X (C.pE k n W)
 |v=>v
def C.pE(k n:Nat):aq->aq
 |[]=>[]
 |x::X=>C.iB k n x::C.pE k n X
end
def uI(k n:Nat):bG->bG
 |[]=>[]
 |Z::X=>Z::uI k n X
 |U (t,W)::X=>U (t,if qY t then W else C.pE k n W)::uI k n X
def S.iB(s:S)(k n:Nat):S:={s with tmps:=C.pE k n s.tmps,ap:=uI k n s.ap}
structure BI where
 be:BE
 e:TypeId
 x:LE
 s:S
def Kf:Int:=536870912
def Kg(n:K):BE:=qo .leq n (.c Kf)
def sd(Q:Ty)(s:S)(e:TypeId)(X:TI):C->Option (LE×BE×ar)
 |.ah r=>if r.isNil then U (.lit [],.c J,[]) else if r.kind Q s=.sl e then U (.ah r,Kg (.len r),[]) else Z
 |.jf i V W _=>match mb s.ap i with
  |U (_,R)=>if nX Q s X.aj (jJ (Y X.aj) W (xN R V (W*Y X.aj)))&&decide (V+W*Y X.aj<=Y R)&&decide ((W:Int)<=Kf) then U (.lit (jJ (Y X.aj) W (xN R V (W*Y X.aj))),.c J,C.pD (xN R V (W*Y X.aj))) else Z
  |none=>Z
 |_=>Z
def xQ(s:S)(e:TypeId)(bS:Bool):C->Option (LE×BE×ar)
 |.ah (.v k)=>if s.rs[k]?=U (.own e)/\ !(bS&&s.lk.testBit (2*k+1)) then U (.ah (.v k),Kg (.len (.v k)),[k]) else Z
 |.ah r=>if r.isNil then U (.lit [],.c J,[]) else Z
 |.jf _ _ 0 0=>U (.lit [],.c J,[])
 |_=>Z
def kC(s:S)(d:cM)(be:BE)(e:TypeId)(k:RK)(x:LE)(X dq:ar):Option BI:=
 if s.bd&&X.all (λk=> !dq.contains k)&&LE.bd s.ni s.nb (Y s.rs) x&&be.bd s.ni s.nb (Y s.rs) then U ⟨be,e,x,{s with rs:=kB dq 0 (ju X 0 s.rs)++[k]}.put d (.ah (.v (Y s.rs)))⟩ else Z
def eZ(X:bE)(o:Oper)(bS R:Bool)(s:S):Option BI:=match o.op with
 |.call c=>match c.callee with
  |.builtin .append=>match c.argTypes.toList,c.args.toList.map (s.ev X.gl) with
   |[t,O],[x,y]=>match X.ty t,X.ty O with
    |U ⟨.slice e,_,_⟩,U ⟨.slice N,_,_⟩=>match X.ty e with
     |U W=>if e≠N\/Y W.aj=0 then Z else match xQ s e bS x,sd X.ty s e W y with
      |U (a,M,L),U (b,H,dq)=>kC s o.dst (we M H) e (.own e) (.kJ a b) L dq
      |_,_=>Z
     |none=>Z
    |_,_=>Z
   |_,_=>Z
  |_=>Z
 |.makeSlice t n m=>match X.ty t,s.ev X.gl n,s.ev X.gl m with
  |U ⟨.slice e,_,_⟩,.int I n,.int I m=>match X.ty e with
   |U W=>if n.aN m&&nX X.ty s W.aj [eA W]&&Y W.aj !=0 then kC s o.dst (we (qo .leq (.c 0) n) (Kg n)) e (.own e) (.wb n (eA W)) [] [] else Z
   |none=>Z
  |_,_,_=>Z
 |.buildSlice t V parts=>if R|| !X.lK then Z else match X.ty t with
  |U ⟨.slice e,_,_⟩=>match X.ty e with
   |U W=>match zn (λi=>U (i*Y W.aj,Y W.aj)) (xP V (eA W)) (parts.toList.map λp=>(p.1,s.ev X.gl p.2)) with
    |U l=>if(Y l==V*Y W.aj&&nX X.ty s W.aj (jJ (Y W.aj) V l)&&Y W.aj !=0&&decide ((V:Int)<=Kf)&&decide (V*Y W.aj<=16777216)&& !(parts.toList.any λp=>(s.ev X.gl p.2).eO)) then kC s o.dst (.c J) e (.own e) (.lit (jJ (Y W.aj) V l)) [] (C.pD l) else Z
    |none=>Z
   |none=>Z
  |_=>Z
 |.slice t x G F D=>if R then Z else match X.ty t,s.ev X.gl x,D.map (s.ev X.gl),F.map (s.ev X.gl),G.map (s.ev X.gl) with
  |U ⟨.slice e,_,_⟩,.ah r,U (.int _ (.c 0)),U (.int _ (.c 0)),Z=>match X.ty e with
   |U _=>if r.kind X.ty s=.sl e\/r.isNil then kC s o.dst (.c J) e (.own e) (.lit []) [] [] else Z
   |none=>Z
  |U ⟨.slice e,_,_⟩,.ah r,Z,U (.int I h),U (.int I l)=>match X.ty e with
   |U _=>if r.kind X.ty s=.sl e then kC s o.dst (we (qo .leq (.c 0) l) (we (qo .leq l h) (qo .leq h (.len r)))) e (.sl e) (.sub (.ah r) l h) [] r.root.toList else Z
   |none=>Z
  |U ⟨.slice e,_,_⟩,.ah r,Z,U (.int I h),Z=>match X.ty e with
   |U _=>if r.kind X.ty s=.sl e then kC s o.dst (we (qo .leq (.c 0) h) (qo .leq h (.len r))) e (.sl e) (.sub (.ah r) (.c 0) h) [] r.root.toList else Z
   |none=>Z
  |U ⟨.slice e,_,_⟩,.ah r,Z,Z,U (.int I l)=>match X.ty e with
   |U _=>if r.kind X.ty s=.sl e then kC s o.dst (we (qo .leq (.c 0) l) (qo .leq l (.len r))) e (.sl e) (.sub (.ah r) l (.len r)) [] r.root.toList else Z
   |none=>Z
  |_,_,_,_,_=>Z
 |.store t a x=>if R then Z else match X.ty t,s.ev X.gl a with
  |U Q,.el (.v k) w i P=>match s.rs[k]? with
   |U (.own e)=>match X.ty e with
    |U W=>if(Y W.aj==w&&(s.ev X.gl x).cells.length==Y Q.aj&&decide (P+Y Q.aj<=w)&&mM X.ty s ((W.aj.drop P).take (Y Q.aj)) (s.ev X.gl x).cells&&(s.ev X.gl x).Ho) then
      (kC s Z (wh i (.len (.v k))) e (.own e) (.set (.ah (.v k)) i P (s.ev X.gl x).cells) [k] (C.pD (s.ev X.gl x).cells)).map λb=>{b with s:=(b.s.iB k (Y s.rs)).put o.dst (.bM [])} else Z
    |none=>Z
   |_=>Z
  |_,_=>Z
 |_=>Z
def S.dt(s:S)(n:Nat)(t:TypeId)(X:aq):S:={s with ap:=s.ap.set n (U (t,X))}
def Oj(bS:Bool):C->Nat
 |.loc i _=>if bS then 1<<<(2*i) else 0
 |.el r _ _ _=>if bS then(match r.root with
  |U k=>1<<<(2*k+1)
  |none=>0) else 0
 |.gg _ _ X=>if bS then(match zo X with
  |U i=>1<<<(2*i)
  |none=>0) else 0
 |_=>0
def S.dF(s:S)(d:cM)(v:C)(l:Nat):S:={s with lk:=s.lk|||l}.put d v
def tG(s:S)(d:cM)(l:Nat):PR->OR
 |.ok v=>.ok (s.dF d v l)
 |.be b v=>if b.bd s.ni s.nb (Y s.rs) then .be b (s.dF d v l) else .no ""
 |.no w=>.no w
def gu(l:bG)(n:Nat):Bool:=match l[n]? with
 |U Z=>J
 |_=>E
def qr(l:bG)(n:Nat)(t:TypeId):Bool:=gu l n&& !qY t
def gG(X:bE)(m:OM)(s:S):OR:=
 if m.o.op.operands.toList.any λx=>(s.ev X.gl x).eO then .no (""++toString m.j++ ""++toString m.o.dst) else
 match m.o.op with
 |.alloc t=>match X.ty t with
  |U W=>if s.e9 (eA W)&&qr s.ap m.ix t then .ok ((s.dt m.ix t (eA W)).put m.o.dst (.loc m.ix 0)) else .no ""
  |none=>.no ""
 |.box t x=>match X.ty t with
  |U W=>if(s.ev X.gl x).cells.length==Y W.aj&&s.e9 (s.ev X.gl x).cells&&(s.ev X.gl x).Ho&&qr s.ap m.ix t then .ok ((s.dt m.ix t (s.ev X.gl x).cells).put m.o.dst (.loc m.ix 0)) else .no ""
  |none=>.no ""
 |.buildSlice t V parts=>match X.ty t with
  |U ⟨.slice e,_,_⟩=>match X.ty e with
   |U R=>match zn (λi=>U (i*Y R.aj,Y R.aj)) (xP V (eA R)) (parts.toList.map λp=>(p.1,s.ev X.gl p.2)) with
    |U l=>if s.e9 l&&decide (V*Y R.aj<=16777216)&&qr s.ap m.ix e then .ok ((s.dt m.ix e l).put m.o.dst (.jf m.ix 0 V V)) else .no ""
    |none=>.no ""
   |none=>.no ""
  |_=>.no ""
 |.store t a x=>match X.ty t,s.ev X.gl a with
  |U W,.loc i Q=>match mb s.ap i with
   |U (O,P)=>if(s.ev X.gl x).cells.length==Y W.aj&&decide (Q+(s.ev X.gl x).cells.length<=Y P)&&E6 (s.ev X.gl x).cells&&(s.ev X.gl x).Ho&& !(m.bS&&s.lk.testBit (2*i)) then .ok ((s.dt i O (lI P Q (s.ev X.gl x).cells)).put m.o.dst (.bM [])) else .no ""
   |none=>.no ""
  |_,_=>.no ""
 |.pick c x y=>match s.ev X.gl c with
  |.bool b=>.split b (s.put m.o.dst (s.ev X.gl x)) (s.put m.o.dst (s.ev X.gl y))
  |_=>.no ""
 |.load t a=>tG s m.o.dst (Oj m.bS (s.ev X.gl a)) (cE X.ty X.gl s (.load t a))
 |op=>tG s m.o.dst 0 (cE X.ty X.gl s op)
inductive MR where
 |ok (s:S)
 |ac (k:RK) (x:LE) (s:S)
def HC(X:TI)(n:Nat)(W:Bool):TypeId×aq:=if X.aj.all nx&&Y X.aj !=0 then(wa,[.ah (.k (.slice Z 0 0)),.int I (.c n),.bool (.c W),.bool (.c X.d.isAgg)]) else(uG,[])
def S.zr(s:S)(b:TypeId×aq):S:={s with ap:=s.ap++[U b]}
def Bh(V:bE)(s:S)(k e:TypeId)(n:Nat)(W:Bool)(X:TI):aq->Option RE
 |[.ah r,.int I (.c R),.bool (.c Q),.bool (.c P)]=>if r.oT V.ty s ⟨k,e,n,W,X.d.isAgg⟩&&R==(n:Int)&&Q==W&&P==X.d.isAgg&&X.aj.all nx then U r else Z
 |_=>Z
def E9(V:bE)(d:cM)(s:S)(t:TypeId)(O R v:C):Option MR:=match V.ty t,O with
 |U ⟨.map k e n X,_,_⟩,.mp i=>match V.ty e,Hu n X R,cw s.ap i with
  |U W,U (N,_,_),U (P,Q)=>if !tE V.ty k n X|| !s.e9 [R,v]|| !Bb W v then Z else
   if P==wa then(match Bh V s k e n X W Q with
    |U r=>if mM V.ty s W.aj v.cells then
      U (.ac (RK.mr ⟨k,e,n,X,W.d.isAgg⟩) (.ins (.ah r) n (R.cells++v.cells)) (S.put {s with rs:=s.rs++[RK.mr ⟨k,e,n,X,W.d.isAgg⟩],ap:=s.ap.set i (U (wa,[.ah (.v (Y s.rs)),.int I (.c n),.bool (.c X),.bool (.c W.d.isAgg)]))} d (.bM []))) else Z
    |none=>Z)
   else if P==uG&&n==1&& !X then(match N,rf Q with
    |.c x,U M=>if M.contains x then Z else U (.ok ((s.dt i uG (Q++[.int I (.c x),v])).put d (.bM [])))
    |_,_=>Z)
   else Z
  |_,_,_=>Z
 |_,_=>Z
def S7(X:bE)(d:cM)(s:S)(t:TypeId):Option S:=match X.ty t with
 |U ⟨.map k e n W,_,_⟩=>match X.ty e with
  |U V=>if s.bd&&tE X.ty k n W then U ((s.zr (HC V n W)).put d (.mp (Y s.ap))) else Z
  |none=>Z
 |_=>Z
def xR(X:bE):Sh:=⟨X.aji,xL,1,E,E⟩
def HD(X:bE):Bool:=tE X.ty X.aji 1 E&&(X.ty xL).isNone
def ZM(R:bE)(s:S)(k e:TypeId)(n:Nat)(X:Bool)(Q:TI)(i:Nat):Option K:=match cw s.ap i with
 |U (W,V)=>if W==wa then(Bh R s k e n X Q V).map .len
  else if W==uG&&n==1&& !X then(rf V).map λP=>.c (Y P) else Z
 |none=>Z
def S8(X:bE)(d:cM)(s:S)(t:TypeId)(W:C):Option S:=match X.ty t,W with
 |U ⟨.map k e n V,_,_⟩,.mp i=>match X.ty e with
  |U R=>match ZM X s k e n V R i with
   |U c=>if s.bd&&c.bd s.ni s.nb (Y s.rs)&&aK s.ap i then U ((s.zr (xL,[.mp i,.int I (.c t),.int I c,.ah (.k (.slice Z 0 0))])).put d (.loc (Y s.ap) 0)) else Z
   |none=>Z
  |none=>Z
 |_,_=>Z
def uJ(r:RE)(i:K):Nat->fj->aq
 |_,[]=>[]
 |j,c::X=>E5 r i j c::uJ r i (j+1) X
def Kh(r:RE)(i:K)(n:Nat)(X:Bool):C:=tD X ((fw n).map λj=>.int I (.cell r i j))
def ZN(X:bE)(d:cM)(s:S)(q W:Nat)(i t:Nat)(c:K)(V v:C):S:=
 S.put {s with ni:=W,rs:=s.rs++[RK.mr (xR X)],ap:=s.ap.set q (U (xL,[.mp i,.int I (.c t),.int I c,.ah (.v (Y s.rs))]))} d (.bM [.bool (.c J),V,v])
def S9(X:RE)(j:K):BE:=.not (.has X 1 j (.c 0) (.c 0))
def Ta(X:TI)(e:K)(W:bz)(V:aq):Option (C×C):=if V.all (Bb X) then(match Ba e (C9 (Y W)) (W.map λk=>.int I (.c k)),C8 e (C9 (Y W)) (V.map C.cells) 0 X.aj with
 |U a,U l=>U (.int I a,tD X.d.isAgg l)
 |_,_=>Z) else Z
def Tb(W:bE)(s:S)(c:K)(X:RE)(t V:T):T:=
 .pick c (S9 X (.v s.ni)) (.cmp .leq c (.len X)) (.ac (.mr (xR W)) (.ins (.ah X) 1 [.int I (.v s.ni)]) s.rs t) V
def ZO(X:bE)(d:cM)(s:S)(L:C)(P O:S->T):Option T:=match L with
 |.loc q 0=>match cw s.ap q with
  |U (H,[.mp i,.int I (.c t),.int I c,.ah R])=>if !(H==xL&&HD X&&R.oT X.ty s (xR X)&&s.bd&&({s with ni:=s.ni+1}:S).bd&&decide (0<=t)) then Z else match X.ty t.toNat,cw s.ap i with
   |U ⟨.map k e n V,_,_⟩,U (N,Q)=>match X.ty e with
    |U W=>if !tE X.ty k n V then Z else
     if N==wa then(match Bh X s k e n V W Q with
      |U r=>if c.aN (.len r)&&Y W.aj !=0 then U (Tb X s c R (P (ZN X d s q (s.ni+1) i t.toNat c (Kh r (.v s.ni) n V) (tD W.d.isAgg (uJ r (.v s.ni) n W.aj)))) (O (s.put d (.bM [.bool (.c E)])))) else Z
      |none=>Z)
     else if N==uG&&n==1&& !V then(match rf Q with
      |U M=>if c.aN (.c (Y M)) then(match Ta W (.v s.ni) M (mJ Q) with
       |U (G,v)=>U (Tb X s c R (P (ZN X d s q (s.ni+1) i t.toNat c G v)) (O (s.put d (.bM [.bool (.c E)]))))
       |none=>Z) else Z
      |none=>Z)
     else Z
    |none=>Z
   |_,_=>Z
  |_=>Z
 |_=>Z
def wl(X:RE):K:=.cell X (.bin .sub I (.len X) (.c 1)) 0
def ZP(c:K)(X:RE):BE:=we (we (qo .leq (.c 1) (.len X)) (Kg (.len X))) (wh (wl X) c)
def ZQ(X:bE)(d:cM)(s:S)(M:C)(P:S->T):Option T:=match M with
 |.loc q 0=>match cw s.ap q with
  |U (L,[.mp i,.int I (.c t),.int I c,.ah W])=>if !(L==xL&&HD X&&W.oT X.ty s (xR X)&&s.bd&&decide (0<=t)) then Z else match X.ty t.toNat,cw s.ap i with
   |U ⟨.map k e n V,_,_⟩,U (O,Q)=>match X.ty e with
    |U R=>if !tE X.ty k n V then Z else
     if O==wa then(match Bh X s k e n V R Q with
      |U r=>if c.aN (.len r) then U (.be (ZP c W) (P (s.put d (.bM [Kh r (wl W) n V,tD R.d.isAgg (uJ r (wl W) n R.aj)])))) else Z
      |none=>Z)
     else if O==uG&&n==1&& !V then(match rf Q with
      |U N=>if c.aN (.c (Y N)) then(match Ta R (wl W) N (mJ Q) with
       |U (H,v)=>U (.be (ZP c W) (P (s.put d (.bM [H,v]))))
       |none=>Z) else Z
      |none=>Z)
     else Z
    |none=>Z
   |_,_=>Z
  |_=>Z
 |_=>Z
def Td(X:bE)(d:cM)(s:S)(t:TypeId)(W:Bool)(x y:C)(V:S->T):Option T:=match X.ty t,x,y with
 |U ⟨.slice e,_,_⟩,.ah r,.ah (.k (.slice Z 0 0))=>if r.kind X.ty s=.sl e then U (.gF (.c J) (.cmp .leq (.len r) (.c 0)) (V (s.put d (.bool (.c W)))) (V (s.put d (.bool (.c (!W)))))) else Z
 |_,_,_=>Z
abbrev Fx:=List (BE×Bool)
def Ol(X:Fx):BE->Option Bool
 |.c v=>U v
 |b=>(X.find? λx=>x.1.aN b).map (·.2)
def Db(s:S)(X:Fx)(b:BE)(t f:Fx->T):T:=match Ol X b with
 |U J=>t X
 |U E=>f X
 |none=>if b.bd s.ni s.nb (Y s.rs) then .aT b (t ((b,J)::X)) (f ((b,E)::X)) else .stuck ""
inductive CK where
 |call (g:HB) (args:List C)
 |bI (v:C)
 |op
 |no
def eB(X:bE)(s:S)(o:Oper):CK:=
 match o.op with
 |.panic x=>match s.ev X.gl x with
  |.gX t y=>.bI (.gX t y)
  |_=>.no
 |.call c=>match c.callee with
  |.value f=>match s.ev X.gl f with
   |.fn g W=>if c.args.toList.any λx=>(s.ev X.gl x).eO then .no else .call (.fn g) (c.args.toList.map (s.ev X.gl)++W)
   |.yl n=>if c.args.toList.any λx=>(s.ev X.gl x).eO then .no else .call (.yl n) (c.args.toList.map (s.ev X.gl))
   |_=>.no
  |.invoke _ _=>.no
  |.builtin .panic=>match c.args.toList with
   |[x]=>match s.ev X.gl x with
    |.gX t y=>.bI (.gX t y)
    |_=>.no
   |_=>.no
  |.builtin _=>.op
 |_=>.op
def pF(s:S)(X:Fx):Fx:=X.filter λx=>x.1.bd s.ni s.nb (Y s.rs)
def ZR(b:BE):C->C->Option C
 |.int k x,.int X y=>if k=X then U (.int k (.eo b x y)) else Z
 |.bool x,.bool y=>U (.bool (.eo b x y))
 |_,_=>Z
def Om(b:BE):aq->Nat->aq->Hl
 |[],_,X=>U X
 |x::V,W,X=>match X[W]? with
  |U R=>match ZR b x R with
   |U c=>Om b V (W+1) (X.set W c)
   |none=>Z
  |none=>Z
def HE(e:K)(W:aq):bz->aq->aq->Hl
 |[],[],X=>U X
 |k::V,.loc _ R::Q,X=>match Om (.cmp .eql e (.c k)) W R X with
  |U P=>HE e W V Q P
  |none=>Z
 |_,_,_=>Z
def Te:bz->Bool
 |[]=>J
 |x::X=> !X.contains x&&Te X
def On:C->Bool
 |.int _ _|.bool _=>J
 |_=>E
def Ki:aq->Bool
 |[]=>E
 |[x]=>On x
 |x::X=>On x&&Ki X
def ZS(d:cM)(s:S)(R:TI)(e:K)(X:bz)(W:aq)(V:C)(k:S->T):Option T:=match zo W with
 |U i=>match mb s.ap i with
  |U (Q,P)=>match HE e V.cells X W P with
   |U O=>if Y R.aj==Y V.cells&&Y X==Y W&&Te X&&Ki V.cells then U (.be (Hv e X) (k ((s.dt i Q O).put d (.bM [])))) else Z
   |none=>Z
  |none=>Z
 |none=>Z
def Bi(X:bE)(m:OM)(s:S)(V:S->Fx->T)(R:Fx):Option T:=if m.dr||m.o.op.operands.toList.any λx=>(s.ev X.gl x).eO then Z else match m.o.op with
 |.makeMap t Z=>(S7 X m.o.dst s t).map λW=>V W R
 |.mapUpdate t x y z=>match E9 X m.o.dst s t (s.ev X.gl x) (s.ev X.gl y) (s.ev X.gl z) with
  |U (.ok W)=>U (V W R)
  |U (.ac k x W)=>U (.ac k x s.rs (V W (pF s R)))
  |none=>Z
 |.insert t x y z=>match E9 X m.o.dst s t (s.ev X.gl x) (s.ev X.gl y) (s.ev X.gl z) with
  |U (.ok W)=>U (V W R)
  |U (.ac k x W)=>U (.ac k x s.rs (V W (pF s R)))
  |none=>Z
 |.range t x=>(S8 X m.o.dst s t (s.ev X.gl x)).map λW=>V W R
 |.next Q E=>ZO X m.o.dst s (s.ev X.gl Q) (λW=>V W (pF s R)) (λW=>V W R)
 |.entry Q=>ZQ X m.o.dst s (s.ev X.gl Q) λW=>V W R
 |.store t a x=>match X.ty t,s.ev X.gl a with
  |U P,.gg e O N=>ZS m.o.dst s P e O N (s.ev X.gl x) λW=>V W R
  |_,_=>Z
 |.binOp M t x y _=>match M with
  |.eql=>Td X m.o.dst s t E (s.ev X.gl x) (s.ev X.gl y) λW=>V W R
  |.neq=>Td X m.o.dst s t J (s.ev X.gl x) (s.ev X.gl y) λW=>V W R
  |_=>Z
 |_=>Z
def Bj(X:bE)(m:OM)(s:S):Option (K×bz×aq×aq):=if m.dr then Z else match m.o.op with
 |.call c=>match c.callee with
  |.value f=>match s.ev X.gl f with
   |.gg e W V=>if(c.args.toList.any λx=>(s.ev X.gl x).eO)|| !e.bd s.ni s.nb (Y s.rs) then Z else U (e,W,V,c.args.toList.map (s.ev X.gl))
   |_=>Z
  |_=>Z
 |_=>Z
def Fa(e:K)(X:FuncId->aq->T):bz->aq->T
 |k::W,.fn g R::V=>.aT (.cmp .eql e (.c k)) (X g R) (Fa e X W V)
 |k::W,.ah (.k .nilFunc)::V=>.aT (.cmp .eql e (.c k)) (.stuck "") (Fa e X W V)
 |_,_=>.stuck ""
structure Bk where
 f:FuncId
 g:FuncId
 e:TypeId
 sp:bp
 st:Bool
 r:RE
 s:S
def Oo:aq->Option (List K×FuncId)
 |[.fn g []]=>U ([],g)
 |.int I e::r=>match Oo r with
  |U x=>U (e::x.1,x.2)
  |none=>Z
 |_=>Z
def bp.fill:bp->List K->Option bp
 |.dw k o _,X=>U (.dw k o X)
 |W,[]=>U W
 |_,_::_=>Z
def ZT(V:bE)(f:FuncId)(R:aq)(s:S)(d:cM):Option Bk:=match R with
 |.ah r::Q=>match Oo Q with
  |U (P,g)=>match(if f==g then Z else V.zp f g) with
   |U (e,O,X)=>match O.fill P with
    |U W=>match r with
     |.v k=>if s.rs[k]?=U (.own e) then U ⟨f,g,e,W,X,.v k,(({s with rs:=kB [] 0 (ju [k] 0 s.rs)++[.own e]}:S).iB k (Y s.rs)).put d (.bM [])⟩ else Z
     |.k (.slice Z 0 0)=>U ⟨f,g,e,W,X,.k (.slice Z 0 0),({s with rs:=kB [] 0 (ju [] 0 s.rs)++[.own e]}:S).put d (.bM [])⟩
     |_=>Z
    |none=>Z
   |none=>Z
  |none=>Z
 |_=>Z
def HF(V:bE)(f:FuncId)(R:aq)(s:S)(d:cM):Option Bk:=match R with
 |[.int I i,.loc X 0,.loc W 0]=>match V.zp f f with
  |U (e,.dw 0 o _,J)=>match cw s.ap X,cw s.ap W with
   |U (Q,[.ah (.v k)]),U (P,[.fn O [.loc N 0,.loc M 0]])=>if i.bd s.ni s.nb (Y s.rs)&&O==f&&N==X&&M==W&& !qY Q&& !qY P&&decide (s.rs[k]?=U (.own e)) then U ⟨f,f,e,.dw 0 o [i],J,.v k,(({s with rs:=kB [] 0 (ju [k] 0 s.rs)++[.own e]}:S).iB k (Y s.rs)).put d (.int I (.cell (.v (Y s.rs)) i 0))⟩ else Z
   |_,_=>Z
  |_=>Z
 |_=>Z
def Dc(X:bE)(m:OM)(s:S):Option Bk:=if m.dr|| !s.bd then Z else match eB X s m.o with
 |.call (.fn f) W=>match ZT X f W s m.o.dst with
  |U u=>U u
  |none=>HF X f W s m.o.dst
 |_=>Z
def HG(X:bE)(o:Oper)(s:S):Option Bk:=if !s.bd then Z else match eB X s o with
 |.call (.fn f) W=>HF X f W s o.dst
 |_=>Z
def Bl(R:bE)(O:qp)(m:OM)(s:S)(X:S->Fx->T)(P:C->S->T)(W:Fx):T:=
 match Bj R m s with
 |U (e,N,M,Q)=>Fa e (λg L=>O (.fn g) (Q++L) s (λv V=>X (V.put m.o.dst v) (pF s W)) P) N M
 |none=>
 match Dc R m s with
 |U u=>.eE u.f u.g u.e u.sp u.st u.r s.rs (X u.s (pF s W))
 |none=>
 match eB R s m.o with
 |.call (.fn g) Q=>O (.fn g) Q s (λv V=>X (V.put m.o.dst v) (pF s W)) P
 |.call (.yl n) Q=>if m.so then O (.yl n) Q s (λv V=>X (V.put m.o.dst v) (pF s W)) P else .stuck ""
 |.bI v=>P v s
 |.no=>.stuck ""
 |.op=>match Bi R m s X W with
  |U t=>t
  |none=>match eZ R m.o m.bS m.dr s with
  |U b=>.be b.be (.new b.e b.x s.rs b.s.rs (X b.s (pF s W)))
  |none=>match gG R m s with
  |.ok V=>X V W
  |.be b V=>.be b (X V W)
  |.split b H G=>Db s W b (X H) (X G)
  |.no F=>.stuck F
def Tf(R:dN)(m:OM)(s:S)(X:Fx)(W V:Fx->T):T:=
 match m.o.guard with
 |none=>W X
 |U (j,Q)=>match(R[j]?).bind (·.dst) with
  |U d=>match s.tmps[d]? with
   |U (.bool b)=>if Q then Db s X b W V else Db s X b V W
   |U (.bM [])=>V X
   |_=>.stuck ""
  |none=>.stuck ""
def oA(X:bE)(W:qp)(V:dN)(k:S->T)(R:C->S->T):cX->S->Fx->T
 |[],s,_=>k s
 |m::Q,s,P=>Tf V m s P (Bl X W m s (oA X W V k R Q) R) (oA X W V k R Q (s.put m.o.dst (.bM [])))
def gT:Op->Bool
 |.alloc _|.box _ _|.buildSlice _ _ _=>J
 |_=>E
def mc(l:pB):Nat:=(l.filter λo=>gT o.op).length
def gU(bS:Nat->Bool)(X W:Bool):Nat->Nat->pB->cX
 |_,_,[]=>[]
 |j,n,o::r=>⟨o,n,bS j,j,W,X⟩::gU bS X W (j+1) (if gT o.op then n+1 else n) r
def S.room(s:S)(n:Nat):S:={s with ap:=s.ap++eN n Z,lk:=0}
def uK(X:bE)(s:S):nV->Hl
 |[]=>U []
 |.tmp t::W=>match uK X s W with
  |U l=>if(s.tmps.getD t .any).eO then Z else U (s.tmps.getD t .any::l)
  |none=>Z
 |.cell a t::W=>match uK X s W,s.tmps.getD a .any,X.ty t with
  |U l,.loc i V,U R=>match mb s.ap i with
   |U (_,Q)=>match xO R Q V with
    |U v=>U (v::l)
    |none=>Z
   |none=>Z
  |_,_,_=>Z
def wm(n:Nat):List (Nat×LK)->aq->Option C
 |(t,_)::r,v::X=>if t==n then U v else wm n r X
 |_,_=>Z
def Bm(b n:Nat):List (Nat×Nat×LK)->aq->Option C
 |(X,W,_)::r,v::V=>if X==b&&W==n then U v else Bm b n r V
 |_,_=>Z
def ajk(l:bG)(x:Nat×Nat×LK):C:=match cw l x.1 with
 |U (_,X)=>X.getD x.2.1 .any
 |none=>.any
def fH.ks(a:fH):aS:=a.tm.map (·.2)++a.cl.map (·.2.2)
def kK(a:fH)(s:S):aq:=a.tm.map (λx=>s.tmps.getD x.1 .any)++a.cl.map (ajk s.ap)
def Tg:LK->C->ar
 |.ah (.own _),.ah (.v k)=>[k]
 |_,_=>[]
def Dd:aS->aq->ar
 |k::X,v::W=>Tg k v++Dd X W
 |_,_=>[]
def HH(a:fH)(s:S):ar:=Dd a.ks (kK a s)
def jw(a:fH)(s:S):bv:=ju (HH a s) 0 s.rs
def zt:bv->bv->Bool
 |[],_=>J
 |x::X,y::W=>(decide (x=.am)||decide (x=y))&&zt X W
 |_::_,[]=>E
def ny:ar->Bool
 |[]=>J
 |x::X=> !X.contains x&&ny X
def HI(X:bv)(l:ar):Bool:=ny l&&l.all λk=>decide (Y X<=k)||decide (X[k]?=U .am)
def Bn(a:fH)(X:ar)(W:aq):Nat->aq->aq
 |_,[]=>[]
 |n,x::V=>(wm n a.tm W).getD (if X.contains n then .any else x)::Bn a X W (n+1) V
def HJ(a:fH)(X:aq)(b:Nat):Nat->aq->aq
 |_,[]=>[]
 |n,x::W=>(Bm b n a.cl X).getD x::HJ a X b (n+1) W
def uL(a:fH)(X:aq):Nat->bG->bG
 |_,[]=>[]
 |n,Z::W=>Z::uL a X (n+1) W
 |n,U (t,V)::W=>U (t,HJ a X n 0 V)::uL a X (n+1) W
def ri(a:fH)(X:ar)(s:S):S:=
 let r:aq×S:=S.cP {s with ax:=s.ax+1,rs:=jw a s} a.ks
 {r.2 with tmps:=Bn a X r.1 0 s.tmps,ap:=uL a (r.1.drop (Y a.tm)) 0 s.ap}
def zu(a:fH)(X:ar):Nat->aq->aq->Bool
 |_,[],[]=>J
 |n,x::W,y::V=>(a.tm.any (·.1==n)||X.contains n||C.aN x y)&&zu a X (n+1) W V
 |_,_,_=>E
def HL(a:fH)(b:Nat):Nat->aq->aq->Bool
 |_,[],[]=>J
 |n,x::X,y::W=>(a.cl.any (λc=>c.1==b&&c.2.1==n)||C.aN x y)&&HL a b (n+1) X W
 |_,_,_=>E
def tH(a:fH):Nat->bG->bG->Bool
 |_,[],_=>J
 |n,Z::X,_::W=>tH a (n+1) X W
 |n,U x::X,U y::W=>x.1==y.1&&HL a n 0 x.2 y.2&&tH a (n+1) X W
 |_,_,_=>E
def De(s:S):LK->C->Bool
 |.int k,.int X _=>decide (k=X)
 |.bool,.bool _=>J
 |.ah e,.ah (.v k)=>s.rs[k]?==U e
 |.ah (.sl _),.ah (.k (.slice Z 0 0))=>J
 |.ah (.own _),.ah (.k (.slice Z 0 0))=>J
 |.ah (.mr _),.ah (.k (.slice Z 0 0))=>J
 |_,_=>E
def tI(s:S):aS->aq->Bool
 |[],[]=>J
 |k::X,v::W=>De s k v&&tI s X W
 |_,_=>E
def HM:LK->Bool
 |.ah (.own _)=>E
 |_=>J
def qu:aS->Bool
 |[]=>J
 |k::X=>HM k&&qu X
def Oq:aS->Bool
 |[]=>E
 |.ah _::_=>J
 |_::X=>Oq X
def Ot(X:aq)(n:Nat):ar:=if(C.pC X).isEmpty then C.pD X else fw n
def Ou(W:aq)(X:bv):bv:=Da (Ot W (Y X)) 0 X
def Df(W:aq)(V:aS)(X:bv):bv:=if Oq V then kB (Ot W (Y X)) 0 X else X
def S.cut(s:S)(X:aq)(W:aS):S:={s with rs:=Df X W s.rs}
def zv(V:bE)(f:FuncId)(X:aq)(s:S)(k:C->S->T):T:=
 match V.sig f with
 |U R=>match iG V.ty R with
  |U W=>match Bg V.ty R ((s.cut X W).cP W).1 with
   |U l=>if s.e9 X&&qu W then .call f X (wj (sa (C.pC X) 0 s.ap)) (Ou X s.rs) W (one l) (k (one l) ((s.cut X W).cP W).2) else .stuck ""
   |none=>.stuck ""
  |none=>.stuck ""
 |none=>.stuck (""++toString f)
def lL(o:Oper):ar:=(o.after.toList.filter λe=>avp .any e).map (·.on)
def pG(X:pB):ar:=X.foldl (λacc o=>acc++[(lL o).foldl (λl e=>l|||(1<<<e)|||acc.getD e 0) 0]) []
def Bo:Op->Bool
 |.load _ _=>J
 |_=>E
def zw:Op->Bool
 |.store _ _ _=>J
 |_=>E
def nY:Op->Bool
 |.call c=>match c.callee with
  |.builtin .len|.builtin .min|.builtin .max=>J
  |_=>E
 |.move _|.assign _|.pick _ _ _|.load _ _|.fieldAddr _ _ _|.field _ _ _|.indexAddr _ _ _|.index _ _ _|.binOp _ _ _ _ _|.unOp _ _ _|.convert _ _ _|.makeInterface _ _|.makeFunc _ _ _|.extract _ _|.nilCheck _|.slice _ _ _ _ _|.build _ _|.lookup _ _ _ _=>J
 |_=>E
def jV(X:dN)(o:Oper):ar:=o.op.operands.toList.filterMap (λx=>match x with
  |.tmp t=>U t
  |_=>Z)++(match o.guard with
  |U (j,_)=>((X[j]?).bind (·.dst)).toList
  |none=>[])
def Kj:Op->Bool
 |.panic _=>J
 |.call c=>match c.callee with
  |.builtin .panic=>J
  |_=>E
 |_=>E
def Dg:Op->Bool
 |.call c=>match c.callee with
  |.builtin .append=>J
  |_=>E
 |_=>E
def uM:Op->Bool
 |.call c=>match c.callee with
  |.builtin .append=>J
  |_=>E
 |.makeSlice _ _ _=>J
 |_=>E
def looks:Op->Bool
 |.call _|.load _ _|.indexAddr _ _ _|.index _ _ _|.lookup _ _ _ _=>J
 |.binOp X _ _ _ _=>SX X
 |_=>E
def Th(X:dN)(x y:OM):Bool:=
 x.dr&&y.dr&&nY x.o.op&& !Kj y.o.op&&(match x.o.dst with
  |U d=> !(jV X y.o).contains d&&y.o.dst !=U d&& !(jV X x.o).contains d
  |none=>E)&&(match y.o.dst with
  |U d=> !(jV X x.o).contains d
  |none=>J)&&(!(zw y.o.op)|| !(Bo x.o.op)||(x.bS&&y.bS))&&(!(Dg y.o.op)|| !(looks x.o.op)||(Bo x.o.op&&x.bS&&y.bS))
def xS:Operand->Bool
 |.global _=>E
 |_=>J
def zx:Op->Bool
 |.call c=>match c.callee with
  |.value _=>J
  |_=>E
 |_=>E
def HN:Op->Bool
 |.alloc _=>J
 |_=>E
def Ti(X:dN)(x y:OM):Bool:=(match x.o.dst with
  |U d=> !(jV X y.o).contains d&&y.o.dst !=U d
  |none=>J)&&(match y.o.dst with
  |U d=> !(jV X x.o).contains d
  |none=>J)
def Kk:Op->Bool
 |.call c=>match c.callee with
  |.value (.func _)=>c.args.toList.isEmpty
  |_=>E
 |_=>E
def Tj(X:dN):Bool:=(fw X.size).all λi=>(fw X.size).all λj=>match X[i]?,X[j]? with
 |U x,U y=> !(zx x.op)|| !(gT y.op||uM y.op)||((pG X.toList).getD i 0).testBit j||((pG X.toList).getD j 0).testBit i||(Kk x.op&&HN y.op)
 |_,_=>J
def Kl(X:dN)(x y:OM):Bool:=
 x.dr&&y.dr&&HN y.o.op&&y.o.guard.isNone&&(gT x.o.op||uM x.o.op||zx x.o.op)&&(!gT x.o.op||x.ix !=y.ix)&&x.o.op.operands.toList.all xS&&Ti X x y&&(!zx x.o.op|| !Tj X||Kk x.o.op)
def Fb:Op->Bool
 |.move _|.assign _|.fieldAddr _ _ _=>J
 |_=>E
def Ov(X:dN)(x y:OM):Bool:=
 x.dr&&y.dr&&gT x.o.op&& !HN x.o.op&&x.o.guard.isNone&&x.o.op.operands.toList.all xS&&y.o.op.operands.toList.all xS&&(gT y.o.op||uM y.o.op||zx y.o.op||Fb y.o.op||zw y.o.op)&&(!gT y.o.op||x.ix !=y.ix)&&Ti X x y&&(!zx y.o.op|| !Tj X)
def uN(X:dN)(x y:OM):Bool:= !x.so&& !y.so&&(Th X x y||Kl X x y||Ov X x y)
def Ow(X:pB):Nat->ar->ar
 |0,acc=>acc
 |n+1,acc=>
  let W:=(fw (Y X)).filter λi=> !acc.contains i&&(match X[i]? with
   |U o=>(lL o).all acc.contains
   |none=>E)
  match W.find? λi=>match X[i]? with
   |U o=>nY o.op
   |none=>E with
  |U i=>Ow X n (acc++[i])
  |none=>match(W.find? λi=>match X[i]? with
   |U o=>gT o.op&& !HN o.op
   |none=>E).or (W.find? λi=>match X[i]? with
   |U o=> !HN o.op
   |none=>E) with
   |U i=>Ow X n (acc++[i])
   |none=>match W with
   |i::_=>Ow X n (acc++[i])
   |[]=>acc
def Fc(X:dN)(W:ar):cX->Bool
 |[]=>J
 |x::r=>(r.all λy=>(W.getD y.j 0).testBit x.j||uN X x y)&&Fc X W r
def Fe(X:dN):ar->cX->Bool
 |_,[]=>J
 |done,x::r=>(match X[x.j]? with
  |U o=>(lL o).all done.contains
  |none=>E)&&Fe X (x.j::done) r
def Tk(X:pB)(W:ar):Bool:=(fw (Y X)).all λj=>match X[j]? with
 |U o=>(lL o).all (λe=>decide (e<j))&&(fw (Y X)).all λi=> !(W.getD j 0).testBit i||(lL o).contains i||(lL o).any λe=>(W.getD e 0).testBit i
 |none=>E
def Ox(X:pB)(W:ar)(j:Nat):Bool:=match X[j]? with
 |U o=>(Bo o.op&&(fw (Y X)).any λi=>(match X[i]? with
   |U q=>zw q.op||Dg q.op
   |none=>E)&& !(W.getD i 0).testBit j&& !(W.getD j 0).testBit i)||
  ((zw o.op||Dg o.op)&&(fw (Y X)).any λi=>(match X[i]? with
   |U q=>Bo q.op
   |none=>E)&& !(W.getD i 0).testBit j&& !(W.getD j 0).testBit i)
 |none=>E
def Bp(X:ar):cX->Bool
 |[]=>J
 |x::r=>(r.all λy=>(X.getD y.j 0).testBit x.j)&&Bp X r
def avx:Op->Bool
 |.call c=>match c.callee with
  |.value (.tmp _)=>J
  |_=>E
 |_=>E
def uO(X:ar):cX->cX->cX
 |_,[]=>[]
 |W,m::r=>{m with so:=avx m.o.op&&Bp X (m::r)&&W.all (λx=>(X.getD m.j 0).testBit x.j)}::uO X (W++[m]) r
def tJ(X:ar):Nat->aq->aq
 |_,[]=>[]
 |n,x::W=>(if X.contains n then .any else x)::tJ X (n+1) W
def S.plus(s:S)(X:bG):S:={s with ap:=s.ap++X}
abbrev xT:=FuncId->aq->S->Option (C×bG)
def zy(W:bE)(V:xT)(R:YH):qp
 |.fn f,X,s,k,_=>match V f X s with
  |U (v,Q)=>if s.bd then k v (s.plus Q) else .stuck ""
  |none=>zv W f X s k
 |.yl n,X,s,k,P=>R n X s k P
def Km(l:cX)(X:ar):cX:=X.filterMap λi=>l[i]?
def Ff(l:pB):ar:=l.filterMap (·.dst)
def Ko(X:dN)(n:Nat):Option cX:=
 let V:=pG X.toList;let W:=uO V [] (Km (gU (Ox X.toList V) E J 0 n X.toList) (Ow X.toList X.size []))
 if Tk X.toList V&&Fe X [] W&&Fc X V W&&ny (W.filterMap (·.o.dst))&&ny (W.map (·.j))&&ny ((W.filter λm=>gT m.o.op).map (·.ix))&&Y W==X.size&&(fw X.size).all (λi=>W.any λm=>m.j==i) then U W else Z
def HO(X:bE)(t:TypeId):Bool:=(X.ty t).isSome&& !qY t
def Kq(X:bE):pB->Bool
 |[]=>J
 |o::r=>(match o.op with
  |.alloc t=>HO X t
  |_=>J)&&Kq X r
def ajl(s:S)(X:ar):ar:=X.filter λd=>match s.tmps[d]? with
 |U w=> !(w.bd s.ni s.nb (Y s.rs) (aK s.ap))
 |none=>J
def S.Bq(s:S)(X:dN)(W:cX):S:={s.room (mc X.toList) with tmps:=tJ (ajl s (Ff (W.dropLast.map (·.o)))) 0 s.tmps}
def Tl(X:S->T)(k:XE->S->T):XE->S->T
 |.normal,s=>X s
 |e,s=>k e s
def ZU(id:Nat)(k:XE->S->T):XE->S->T
 |.exit j,s=>if j==id then k .normal s else k (.exit j) s
 |e,s=>k e s
def Kr(W:bE)(s:S)(V:nV)(k R:C->S->T):XE->S->T
 |.normal,X=>match uK W X V with
  |U l=>k (one l) {X with tmps:=s.tmps}
  |none=>.stuck ""
 |.ret,X=>match uK W X V with
  |U l=>k (one l) {X with tmps:=s.tmps}
  |none=>.stuck ""
 |.bI v,X=>R v {X with tmps:=s.tmps}
 |.exit _,_=>.stuck ""
def kD(W:bE)(R:FuncId->Code->S->(XE->S->T)->T)(Q:YH):qp
 |.fn f,X,s,k,V=>match W.inl f with
  |U (c,P,O)=>if s.e9 X then R f c {s with tmps:=X++eN (P-Y X) (.bM [])} (Kr W s O k V) else .stuck ""
  |none=>zv W f X s k
 |.yl n,X,s,k,V=>Q n X s k V
def ZV(b:Bool)(R:bE)(V:qp):qp
 |.fn f,X,s,k,W=>if b then zv R f X s k else V (.fn f) X s k W
 |.yl n,X,s,k,W=>V (.yl n) X s k W
def avy:T:=.gF (.c E) (.c E) (.stuck "") (.stuck "")
def ZW:T->Bool
 |.gF (.c E) (.c E) _ _=>J
 |_=>E
mutual
def C.Br:C->Bool
 |.agg l=>C.xU l
 |.bM l=>C.xU l
 |.fn _ l=>C.xU l
 |.gX _ x=>C.Br x
 |.yl _=>E
 |.gg _ _ X=>C.xU X
 |_=>J
def C.xU:aq->Bool
 |[]=>J
 |x::X=>C.Br x&&C.xU X
end
def Fh:bG->Bool
 |[]=>J
 |Z::X=>Fh X
 |U x::X=>C.xU x.2&&Fh X
def nz:bG->bG->Bool
 |[],[]=>J
 |Z::X,Z::W=>nz X W
 |U x::X,U y::W=>x.1==y.1&&C.rg x.2 y.2&&nz X W
 |_,_=>E
def oB(W:aq)(X:bG):bG:=if W.isEmpty then X.map (λ_=>Z) else X
def uP(X:aq)(s:S):S:=⟨[],oB X s.ap,s.ni,s.nb,s.rs.map RK.rd,0,0,[]⟩
def ajm(W V X:S):Bool:=nz X.ap V.ap&&X.ni==W.ni&&X.nb==W.nb&&decide (X.rs=W.rs)
def Ks(V:bE)(R:FuncId->Code->S->(XE->S->T)->T)(g:FuncId)(W:aq)(s:S):Option (C×bG):=
 match kD V R iY (.fn g) W (uP W s) (λv X=>.out .normal {X with tmps:=[v]}) (λ_ _=>.stuck "") with
 |.out .normal X=>match X.tmps with
  |[v]=>if C.xU W&&Fh (oB W s.ap)&&v.Br&&Fh X.ap&&nz (X.ap.take (Y s.ap)) (oB W s.ap)&&v.bd s.ni s.nb (Y s.rs) (aK X.ap)&&C.rh s.ni s.nb (Y s.rs) (aK X.ap) X.ap&&ZW (kD V R iY (.fn g) W (uP W s) (λQ P=>if Q.aN v&&ajm (uP W s) X P then avy else .stuck "") (λ_ _=>.stuck "")) then U (v,X.ap.drop (Y s.ap)) else Z
  |_=>Z
 |_=>Z
def Fi(X:bE)(W:dN)(V:FuncId->Code->S->(XE->S->T)->T):xT:=λg R s=>if Tj W&&(X.inl g).isSome then Ks X V g R s else Z
def ZX:Op->Bool
 |.pick _ _ _=>J
 |_=>E
def ajn:Op->Bool
 |.buildSlice _ _ _=>J
 |_=>E
def Oy:Op->Bool
 |.buildSlice _ _ _|.alloc _|.box _ _|.store _ _ _=>J
 |_=>E
def Bs(X:bE)(s:S)(o:Oper):Option (BE×C):=
 if(o.op.operands.toList.any λx=>(s.ev X.gl x).eO)||ZX o.op then Z else match cE X.ty X.gl s o.op with
 |.ok v=>U (.c J,v)
 |.be b v=>if b.bd s.ni s.nb (Y s.rs) then U (b,v) else Z
 |.no _=>Z
def BE.ZY:BE->Bool
 |.c b=>b
 |_=>E
def Fj(X:bE):cX->S->Option (S×List BE)
 |[],s=>U (s,[])
 |q::r,s=>match Bs X s q.o with
  |U (b,v)=>(Fj X r (s.put q.o.dst v)).map λx=>(x.1,if b.ZY then x.2 else b::x.2)
  |none=>Z
def ZZ(X:bE)(mN:List BE)(s:S)(W:cX):Bool:=W.all λq=>match q.o.dst,Bs X s q.o with
 |U d,U (b,v)=>(match s.tmps[d]? with
  |U w=>v.aN w&&(b.ZY||mN.any λx=>x.aN b)
  |none=>E)
 |_,_=>E
def Tm:List BE->T->T
 |[],t=>t
 |b::r,t=>.be b (Tm r t)
def S.bO(s:S)(X:ar):S:={s with tmps:=tJ X 0 s.tmps}
def Kt{X:Type}:List X->List (X×List X)
 |[]=>[]
 |x::r=>(x,r)::(Kt r).map λy=>(y.1,x::y.2)
def Z0(X:ar)(x:OM×cX):Bool:=x.2.all λy=> !(X.getD x.1.j 0).testBit y.j
def Ku:xK->xK->Bool
 |[],[]=>J
 |x::X,y::W=>C.rg x y&&Ku X W
 |_,_=>E
def LE.aN:LE->LE->Bool
 |.ah r,.ah Q=>r.aN Q
 |.lit l,.lit P=>Ku l P
 |.kJ a b,.kJ X O=>LE.aN a X&&LE.aN b O
 |.wb n N,.wb W M=>n.aN W&&C.rg N M
 |.set a i L V,.set X H G R=>LE.aN a X&&i.aN H&&L==G&&C.rg V R
 |.sub a F D,.sub X B A=>LE.aN a X&&F.aN B&&D.aN A
 |.ins a n V,.ins X W R=>LE.aN a X&&n==W&&C.rg V R
 |_,_=>E
def S.aN(s X:S):Bool:=C.rg s.tmps X.tmps&&nz s.ap X.ap&&s.ni==X.ni&&s.nb==X.nb&&decide (s.rs=X.rs)&&s.ax==X.ax&&s.lk==X.lk&&decide (s.pd=X.pd)
def T.aN:T->T->Bool
 |.ret v P W,.ret O N V=>v.aN O&&nz P N&&decide (W=V)
 |.bI v,.bI O=>v.aN O
 |.aT b t f,.aT M X R=>b.aN M&&T.aN t X&&T.aN f R
 |.be b t,.be M X=>b.aN M&&T.aN t X
 |.call f B P W L jz t,.call R A N V H z X=>f==R&&C.rg B A&&nz P N&&decide (W=V)&&decide (L=H)&&jz.aN z&&T.aN t X
 |.loop ax L y t,.loop G H w X=>ax==G&&decide (L=H)&&C.rg y w&&T.aN t X
 |.back ax x,.back G Q=>ax==G&&C.rg x Q
 |.new e x W u t,.new r Q V q X=>e==r&&LE.aN x Q&&decide (W=V)&&decide (u=q)&&T.aN t X
 |.ac k x W t,.ac p Q V X=>decide (k=p)&&LE.aN x Q&&decide (W=V)&&T.aN t X
 |.gF g h t f,.gF F D X R=>g.aN F&&h.aN D&&T.aN t X&&T.aN f R
 |.pick n g h t f,.pick o F D X R=>n.aN o&&g.aN F&&h.aN D&&T.aN t X&&T.aN f R
 |.out .normal s,.out .normal m=>S.aN s m
 |_,_=>E
def HQ:List T->List T
 |[]=>[]
 |t::X=>if X.any (T.aN t) then HQ X else t::HQ X
def Dh:List T->T
 |[]=>.stuck ""
 |[t]=>t
 |t::X=>.gF (.c J) (.c J) t (Dh X)
def Kv:Op->Bool
 |.call c=>match c.callee with
  |.builtin .append=>J
  |_=>E
 |.makeSlice _ _ _|.buildSlice _ _ _|.slice _ _ _ _ _|.store _ _ _=>J
 |_=>E
def avz:Op->Bool
 |.mapUpdate _ _ _ _=>J
 |_=>E
def Di(X:bE)(o:Oper)(s:S):Option MR:=match o.op with
 |.mapUpdate t x y z=>if o.op.operands.toList.any λx=>(s.ev X.gl x).eO then Z else E9 X o.dst s t (s.ev X.gl x) (s.ev X.gl y) (s.ev X.gl z)
 |_=>Z
def Fk(V:bE)(P:qp)(R:ar)(O:C->S->T)(m:OM)(W:S->T)(s:S):T:=match HG V m.o s with
 |U u=>.eE u.f u.g u.e u.sp u.st u.r s.rs (W u.s)
 |none=>match eB V s m.o with
  |.call (.fn g) Q=>P (.fn g) Q s (λv X=>W (X.put m.o.dst v)) (λv X=>O v (X.bO R))
  |.call (.yl n) Q=>P (.yl n) Q (s.bO R) (λv X=>W (X.put m.o.dst v)) (λv X=>O v (X.bO R))
  |.op=>match(if Kv m.o.op then eZ V m.o m.bS E s else Z) with
   |U b=>.be b.be (.new b.e b.x s.rs b.s.rs (W b.s))
   |none=>match Di V m.o s with
    |U (.ok X)=>W X
    |U (.ac k x X)=>.ac k x s.rs (W X)
    |none=>if nY m.o.op then(match Bs V s m.o with
     |U (b,v)=>.be b (W (s.put m.o.dst v))
     |none=>.stuck "") else
    if Oy m.o.op then(match gG V m s with
     |.ok X=>W X
     |_=>.stuck "") else .stuck ""
  |_=>.stuck ""
def Kw(X:ar)(m:OM)(W:cX):cX:=W.filter λq=> !(X.getD m.j 0).testBit q.j
def pH(X:bE)(R:qp)(W:ar)(mN:List BE)(V:cX)(Q:ar)(k:S->T)(P:C->S->T):Nat->cX->S->T
 |_,[],s=>if ZZ X mN s V then k s else .stuck ""
 |0,_::_,_=>.stuck ""
 |n+1,m::r,s=>if !ZZ X mN s V then .stuck "" else Dh (HQ (((Kt (m::r)).filter (Z0 W)).map λx=>Fk X R Q P x.1 (λO=>pH X R W mN (Kw W x.1 V) Q k P n x.2 O) s))
def T.nA(k:S->T)(X:C->S->T):T->T
 |.out .normal s=>k s
 |.out (.bI v) s=>X v s
 |.aT b t f=>.aT b (t.nA k X) (f.nA k X)
 |.be b t=>.be b (t.nA k X)
 |.call f a V W R jz t=>.call f a V W R jz (t.nA k X)
 |.new e x W Q t=>.new e x W Q (t.nA k X)
 |.ac e x W t=>.ac e x W (t.nA k X)
 |.eE f g e P O r W t=>.eE f g e P O r W (t.nA k X)
 |.gF g h t f=>.gF g h (t.nA k X) (f.nA k X)
 |t=>t
def Oz(X:bE):qp
 |.fn g,W,s,k,_=>if(X.inl g).isNone then zv X g W s k else .stuck ""
 |_,_,_,_,_=>.stuck ""
def avA:Op->Bool
 |.slice _ _ _ _ _=>J
 |_=>E
def avB:Op->Bool
 |.indexAddr .. =>J
 |_=>E
def avC:Op->Bool
 |.store _ _ _=>J
 |_=>E
def Tn(W:Bool)(X:dN):ar:=(fw X.size).foldl (λacc i=>match X[i]? with
 |U o=>if nY o.op&&(W|| !avA o.op)&& !(avB o.op&&(fw i).any λj=>match X[j]? with
   |U x=>avC x.op
   |none=>E)&&((fw X.size).all λj=>match(X[j]?).bind (·.dst) with
   |U d=> !(jV X o).contains d||acc.contains j
   |none=>J) then acc++[i] else acc
 |none=>acc) []
structure OA where
 qs:cX
 ch:cX
 s:S
 mN:List BE
def Z1(X:bE)(s:S)(W:pB):Bool:=W.any λo=>match o.op with
 |.call c=>(match c.callee with
  |.value (.func g)=>(X.inl g).isSome
  |.value (.tmp t)=>(Ff W).contains t||(match s.tmps[t]? with
   |U (.fn g _)=>(X.inl g).isSome
   |_=>E)
  |_=>E)
 |_=>E
def Z2(X:dN)(Q:ar)(W V R:cX):Bool:=
 Tk X.toList Q&&W.all (λm=>m.o.guard.isNone&& !m.bS)&&ny (W.filterMap (·.o.dst))&&
 W.all (λm=>W.all λx=>match x.o.dst with
  |U d=> !(jV X m.o).contains d||(Q.getD m.j 0).testBit x.j
  |none=>J)&&V.all (λq=>nY q.o.op&&q.o.dst.isSome)&&(fw X.size).all (λi=>(V++R).any λm=>m.j==i)&&(V++R).length==X.size&&ny ((V++R).map (·.j))&&
 R.all (λm=>nY m.o.op||Oy m.o.op||Kv m.o.op||avz m.o.op||(match m.o.op with
  |.call _=>J
  |_=>E))
def Dj(W:Bool)(X:dN)(n:Nat):cX:=(gU (λ_=>E) E J 0 n X.toList).filter λm=>(Tn W X).contains m.j
def Dl(W:Bool)(X:dN)(n:Nat):cX:=(gU (λ_=>E) E J 0 n X.toList).filter λm=> !(Tn W X).contains m.j
def Kx(W:Bool)(X:dN)(n:Nat):Bool:=Z2 X (pG X.toList) (gU (λ_=>E) E J 0 n X.toList) (Dj W X n) (Dl W X n)
def avD:CK->Bool
 |.call (.yl _) _=>J
 |_=>E
def Z3(W:bE)(V X:cX)(x:S×List BE):Option OA:=if X.any λm=>avD (eB W x.1 m.o) then Z else U ⟨V,X,x.1,x.2⟩
def Ky(V:bE)(W:Bool)(X:dN)(s:S):Option OA:=
 if(!W||(Z1 V s X.toList||(V.lK&&X.toList.any λo=>ajn o.op))&&Bp (pG X.toList) (Dl W X (Y s.ap)))&&Kx W X (Y s.ap) then(Fj V (Dj W X (Y s.ap)) (s.room (mc X.toList))).bind (Z3 V (Dj W X (Y s.ap)) (Dl W X (Y s.ap))) else Z
def ajo(X:fH)(s W:S):String:= ""
def To(W:fH)(V:ar)(s:S)(k:XE->S->T):XE->S->T
 |.normal,X=>if zu W V 0 s.tmps X.tmps&&tH W 0 s.ap X.ap&&tI X W.ks (kK W X)&&zt (jw W s) X.rs&&HI (jw W s) (HH W X)&&decide (X.pd=s.pd) then .back s.ax (kK W X) else .stuck (ajo W s X)
 |e,X=>k e X
mutual
def C.xV(n:Nat):C->Bool
 |.agg l=>C.pI n l
 |.bM l=>C.pI n l
 |.fn _ l=>C.pI n l
 |.gX _ x=>C.xV n x
 |.yl m=>decide (n<=m)
 |.gg _ _ X=>C.pI n X
 |_=>E
def C.pI(n:Nat):aq->Bool
 |[]=>E
 |x::X=>C.xV n x||C.pI n X
end
def xW(n:Nat):bG->Bool
 |[]=>E
 |Z::X=>xW n X
 |U x::X=>C.pI n x.2||xW n X
def S.xV(s:S)(n:Nat):Bool:=C.pI n s.tmps||xW n s.ap
def HR:ar->aq->aq->aq
 |p::X,v::W,l=>HR X W (l.set p v)
 |_,_,l=>l
def nZ(n:Nat):Nat->bG->bG
 |_,[]=>[]
 |k+1,x::X=>x::nZ n k X
 |0,Z::X=>Z::nZ n 0 X
 |0,U x::X=>(if C.pI n x.2 then Z else U x)::nZ n 0 X
def S.uQ(s X:S):S:={X with tmps:=s.tmps,ap:=nZ (Y s.pd) (Y s.ap) X.ap,pd:=X.pd.take (Y s.pd)}
def HS(s:S)(k:XE->S->T):XE->S->T
 |.bI v,X=>if v.xV (Y s.pd)||xW (Y s.pd) (s.uQ X).ap then .stuck "" else k (.bI v) (s.uQ X)
 |.exit _,_=>.stuck ""
 |_,X=>if xW (Y s.pd) (s.uQ X).ap then .stuck "" else match X.pd[Y s.pd]? with
  |U .ready=>k .normal (s.uQ X)
  |U (.done .ret)=>k .ret (s.uQ X)
  |U (.done (.exit id))=>k (.exit id) (s.uQ X)
  |_=>.stuck ""
def ki:Code->Bool
 |.seq a b=>ki a||ki b
 |.cond _ a b=>ki a||ki b
 |.block _ c=>ki c
 |.loop c=>ki c
 |.scope c=>ki c
 |.rangeFunc _ _ _ _=>J
 |_=>E
def Tp(n:Nat)(W:S)(k V:C->S->T):XE->S->T
 |.normal,X=>k (.bool (.c J)) {X with tmps:=W.tmps,pd:=X.pd.set n .ready}
 |.ret,X=>k (.bool (.c E)) {X with tmps:=W.tmps,pd:=X.pd.set n (.done .ret)}
 |.exit id,X=>k (.bool (.c E)) {X with tmps:=W.tmps,pd:=X.pd.set n (.done (.exit id))}
 |.bI v,X=>V v {X with tmps:=W.tmps}
def OC(n:Nat)(k:S->T):XE->S->T
 |.normal,X=>if decide (X.pd[n]?=U .ready) then k X else .stuck ""
 |_,_=>.stuck ""
def Kz(s:S)(W:Nat)(X:aq):S:={s with tmps:=(.yl (Y s.pd)::X)++eN (W-(C.yl (Y s.pd)::X).length) (.bM []),pd:=s.pd++[.ready]}
def OD(n V:Nat)(R:aq->S->(C->S->T)->(C->S->T)->T):YH:=λm X W Q P=>
 if m==n&&decide (W.pd[n]?=U .ready)&&Y X==V&&W.e9 X then R X W Q P else .stuck ""
def Dm(X s:S)(W:ar)(V:aq):S:={X with tmps:=HR W V s.tmps}
def S.Dn(s:S)(n:Nat)(x:Hm):S:={s with pd:=s.pd.set n x}
def ajp(X:fH)(W:ar)(s:S):String:= ""
def fH.at(a:fH)(s:S):fH:=⟨a.tm,a.cl.filterMap λx=>match cw s.ap (x.1%1000) with
 |U (t,X)=>(match X[x.2.1]? with
  |U v=>if De s x.2.2 v&&(!qY t||(match x.2.2 with
   |.ah _=>J
   |_=>E))&&(x.1/1000==0||decide (Y s.ap<=x.1/1000)) then U (x.1%1000,x.2) else Z
  |none=>Z)
 |none=>Z⟩
def ajq:aq->Option (K×bz)
 |[]=>Z
 |.gg e X _::_=>U (e,X)
 |_::r=>ajq r
def Tq:bG->Option (K×bz)
 |[]=>Z
 |U x::r=>match ajq x.2 with
  |U y=>U y
  |none=>Tq r
 |Z::r=>Tq r
def HT(k:Int):bz->aq->Option C
 |X::W,.fn f l::V=>if k=X then U (.fn f l) else HT k W V
 |X::W,.ah (.k .nilFunc)::V=>if k=X then U (.ah (.k .nilFunc)) else HT k W V
 |_,_=>Z
def OE(e:K)(k:Int):Nat->BE->BE
 |0,b=>b
 |n+1,.eo (.cmp .eql X (.c W)) x y=>if K.aN e X then(if k=W then OE e k n x else OE e k n y) else .eo (.cmp .eql X (.c W)) x y
 |_,b=>b
def OF(e:K)(k:Int):Nat->K->K
 |0,b=>b
 |n+1,.eo (.cmp .eql X (.c W)) x y=>if K.aN e X then(if k=W then OF e k n x else OF e k n y) else .eo (.cmp .eql X (.c W)) x y
 |_,b=>b
def Z4(e:K)(k:Int):C->C
 |.bool b=>.bool (OE e k 20 b)
 |.int t b=>.int t (OF e k 20 b)
 |.gg X W V=>if K.aN e X then(match HT k W V with
  |U v=>v
  |none=>.gg X W V) else .gg X W V
 |v=>v
def Ts(e:K)(V:bz):C->C
 |.gg X W R=>if K.aN e X&&W.all V.contains then .ah (.k .nilFunc) else .gg X W R
 |v=>v
def HV(f:C->C)(l:bG):bG:=l.map λx=>match x with
 |U y=>U (y.1,y.2.map f)
 |none=>Z
def S.fix(f:C->C)(s:S):S:={s with ap:=HV f s.ap}
def KC(e:K)(gF:Int->S)(ae:T)(g:S->T):bz->T
 |[]=>ae
 |k::X=>.aT (.cmp .eql e (.c k)) (g (gF k)) (KC e gF ae g X)
def Z5(e:K)(v:Int):C->C
 |.int k x=>if K.aN e x then .int k (.c v) else .int k x
 |y=>y
def Tt(V:bE)(R id:Nat)(s:S):Option (K×bz×(Int->S)×Option S):=match V.frk R id with
 |U .box=>match Tq s.ap with
  |U (e,X)=>U (e,X,λk=>s.fix (Z4 e k),match Tq (HV (Ts e X) s.ap) with
   |none=>U (s.fix (Ts e X))
   |U _=>Z)
  |none=>Z
 |U (.slot t W)=>match ZB s.tmps t with
  |.int _ (.c _)=>Z
  |.int k e=>U (e,W,λv=>{s with tmps:=s.tmps.set t (.int k (.c v))},Z)
  |_=>Z
 |U (.cell b j W)=>match cw s.ap b with
  |U (_,Q)=>match Q.getD j .any with
   |.int _ (.c _)=>Z
   |.int _ e=>U (e,W,λv=>s.fix (Z5 e v),Z)
   |_=>Z
  |none=>Z
 |none=>Z
def Z6(g:S->T):Option S->T
 |U s=>g s
 |none=>.stuck ""
def OG(W:bE)(V:qp)(X:dN)(k:XE->S->T)(c:OA):T:=Tm c.mN (if Bp (pG X.toList) c.ch||Z1 W c.s X.toList then pH W V (pG X.toList) c.mN c.qs (Ff X.toList) (k .normal) (λv=>k (.bI v)) (Y c.ch) c.ch c.s
 else(pH W (Oz W) (pG X.toList) c.mN c.qs (Ff X.toList) (.out .normal) (λv=>.out (.bI v)) (Y c.ch) c.ch c.s).nA (k .normal) λv=>k (.bI v))
def Z7(X:fH)(s:S):ar:=(X.tm.filterMap λx=>match x.2,s.tmps[x.1]? with
 |.ah (.sl e),U (.ah (.v k))=>if s.rs[k]?=U (.own e) then U k else Z
 |_,_=>Z)++X.cl.filterMap λx=>match x.2.2,cw s.ap (x.1%1000) with
 |.ah (.sl e),U (_,W)=>(match W[x.2.1]? with
  |U (.ah (.v k))=>if s.rs[k]?=U (.own e) then U k else Z
  |_=>Z)
 |_,_=>Z
def S.dq(X:fH)(s:S):S:={s with rs:=kB (Z7 X s) 0 s.rs}
def fY(X:bE):Nat->FuncId->Code->S->YH->(XE->S->T)->T
 |0,_,_,_,_,_=>.stuck ""
 |n+1,V,c,s,W,k=>
  match c with
  |.skip=>k .normal s
  |.label _=>k .normal s
  |.ret=>k .ret s
  |.exit id=>k (.exit id) s
  |.seq a b=>fY X n V a s W (Tl (λP=>fY X n V b P W k) k)
  |.block id a=>fY X n V a s W (ZU id k)
  |.scope a=>fY X n V a s W k
  |.cond c a b=>match s.ev X.gl c with
   |.bool (.c J)=>fY X n V a s W k
   |.bool (.c E)=>fY X n V b s W k
   |.bool x=>match c with
    |.tmp t=>.aT x (fY X n V a {s with tmps:=s.tmps.set t (.bool (.c J))} W k) (fY X n V b {s with tmps:=s.tmps.set t (.bool (.c E))} W k)
    |_=>.stuck ""
   |_=>.stuck ""
  |.region id R O=>match Tt X V id s with
   |U (e,G,gF,ae)=>KC e gF (Z6 (λP=>fY X n V (.region id R O) P W k) ae) (λP=>fY X n V (.region id R O) P W k) G
   |none=>if O then
    match Ky X (!X.Og V id) R s with
    |U c=>OG X (kD X (λf c s k=>fY X n f c s W k) W) R k c
    |none=>match Ko R (Y s.ap) with
    |U M=>if !Kq X R.toList then .stuck "" else oA X (zy X (Fi X R λf c s k=>fY X n f c s iY k) W) R (k .normal) (λv=>k (.bI v)) M (s.Bq R M) []
    |none=>match Ky X E R s with
     |U c=>OG X (kD X (λf c s k=>fY X n f c s W k) W) R k c
     |none=>.stuck ""
   else
   oA X (ZV (X.Og V (id+1000000)) X (kD X (λf c s k=>fY X n f c s W k) W)) R (k .normal) (λv=>k (.bI v)) (gU (λ_=>E) J E 0 (Y s.ap) R.toList) (s.room (mc R.toList)) []
  |.loop a=>match(Code.first a).map (X.loop V) with
   |U (.inv Q)=>
    if !(Z7 Q s).isEmpty then fY X n V (.loop a) (s.dq Q) W k else
    if !s.bd|| !tI s (Q.at s).ks (kK (Q.at s) s)|| !zu (Q.at s) (Code.oU a) 0 s.tmps s.tmps|| !tH (Q.at s) 0 s.ap s.ap|| !zt (jw (Q.at s) s) s.rs|| !HI (jw (Q.at s) s) (HH (Q.at s) s) then .stuck (ajp (Q.at s) (Code.oU a) s) else
    .loop s.ax (Q.at s).ks (kK (Q.at s) s) (fY X n V a (ri (Q.at s) (Code.oU a) s) W (To (Q.at s) (Code.oU a) s k))
   |_=>fY X n V a s W (Tl (λP=>fY X n V (.loop a) P W k) k)
  |.rangeFunc f L assign body=>match s.ev X.gl f with
   |.fn g N=>match X.inl g with
    |U (c,F,[])=>
     if !s.e9 N||s.xV (Y s.pd)||C.pI (Y s.pd) N||ki assign||ki body then .stuck "" else
     fY X n g c (Kz s F N)
      (OD (Y s.pd) L.size λD H B A=>
       fY X n V assign (Dm H s L.toList D) iY (OC (Y s.pd) λz=>
        fY X n V body (z.Dn (Y s.pd) .busy) W (Tp (Y s.pd) H B A))) (HS s k)
    |_=>.stuck ""
   |_=>.stuck ""
  |_=>.stuck ""
def KD{X:Type}(f:C->bv->(C->bv->X)->X):aq->bv->(aq->bv->X)->X
 |[],W,k=>k [] W
 |x::V,W,k=>f x W λR Q=>KD f V Q λP O=>k (R::P) O
def S.dR(X:bv):S:=⟨[],[],0,0,X,0,0,[]⟩
def KE(R:bE)(P:bG):Nat->C->bv->(C->bv->T)->T
 |0,_,_,_=>.stuck ""
 |n+1,.jf i N Q M,X,k=>match mb P i with
  |U (e,L)=>match R.ty e with
   |U V=>KD (KE R P n) L X λO W=>if nX R.ty (.dR W) V.aj (jJ (Y V.aj) Q O)&&Y O==Q*Y V.aj&&N==0&&decide (Q<=M)&&Y V.aj !=0 then .new e (.lit (jJ (Y V.aj) Q O)) W (W++[.sl e]) (k (.ah (.v (Y W))) (W++[.sl e])) else .stuck ""
   |none=>.stuck ""
  |none=>.stuck ""
 |n+1,.agg l,X,k=>KD (KE R P n) l X λH W=>k (.agg H) W
 |_+1,.int q e,X,k=>k (.int q e) X
 |_+1,.bool e,X,k=>k (.bool e) X
 |_+1,.ah r,X,k=>k (.ah r) X
 |_+1,_,_,_=>.stuck ""
mutual
def C.avE:C->Bool
 |.jf _ _ _ _=>J
 |.agg l=>C.Z8 l
 |_=>E
def C.Z8:aq->Bool
 |[]=>E
 |x::X=>C.avE x||C.Z8 X
end
def OH(V:bE)(W:Nat)(l:aq)(X:S):T:=if W==0&&C.Z8 l&&X.bd&&C.ec X.ni X.nb (Y X.rs) (aK X.ap) l then KD (KE V X.ap 9) l (X.rs.map RK.rd) λR Q=>.ret (one R) [] Q else .ret (one l) (wj (X.ap.take W)) (X.rs.map RK.rd)
def Tu(W:bE)(V:Nat)(R:nV):XE->S->T
 |.normal,X=>match uK W X R with
  |U l=>OH W V l X
  |none=>.stuck ""
 |.ret,X=>match uK W X R with
  |U l=>OH W V l X
  |none=>.stuck ""
 |.bI v,_=>.bI v
 |.exit _,_=>.stuck ""
def OI(X:bE)(n:Nat)(V:FuncId)(c:Code)(R:Nat)(Q:nV)(W:aq)(s:S):T:=
 fY X n V c {s with tmps:=W++eN (R-Y W) (.bM [])} iY (Tu X (Y s.ap) Q)
structure DI where
 tK:dN
 rest:Code
 g:FuncId
 te:Nat
 tf:Nat
def ajr(tK:dN)(Q:Code):pB->Option DI
 |[X,W]=>match X.op,X.dst,X.guard,W.op,W.guard,W.dst with
  |.makeFunc (.func g) first P,U V,Z,.defer R,Z,Z=>match first.toList,P.toList,R.callee,R.args.toList with
   |[],[.tmp O],.value (.tmp N),[]=>if V==N then U ⟨tK,Q,g,O,V⟩ else Z
   |_,_,_,_=>Z
  |_,_,_,_,_,_=>Z
 |_=>Z
def zA:Code->Option DI
 |.seq (.region _ tK E) (.seq (.region _ X E) W)=>ajr tK W X.toList
 |_=>Z
def tL(W:bE)(V:Nat)(R:nV)(X:S):T:=match uK W X R with
 |U l=>.ret (one l) (wj (X.ap.take V)) (X.rs.map RK.rd)
 |none=>.stuck ""
def Z9(W:bE)(V:Nat)(R:TypeId)(P:Nat)(Q:nV):XE->S->T
 |.normal,X=>tL W V Q X
 |.ret,X=>tL W V Q X
 |.bI v,X=>match v with
  |.gX t (.int I x)=>match cw X.ap P with
   |U (O,[.int I _])=>if t==R&&O==R then tL W V Q {X with ap:=X.ap.set P (U (R,[.int I x]))} else .stuck ""
   |_=>.stuck ""
  |_=>.stuck ""
 |.exit _,_=>.stuck ""
def aaa(W:bE)(n:Nat)(R:FuncId)(d:DI)(V:TypeId)(Q:Nat)(P:nV)(X:S):T:=match X.tmps[d.te]? with
 |U (.loc i 0)=>if !qY V&&aK X.ap i&&decide (d.tf<Y X.tmps) then fY W n R d.rest (X.put (U d.tf) (.fn d.g [.loc i 0])) iY (Z9 W Q V i P) else .stuck ""
 |_=>.stuck ""
def OJ(X:bE)(n:Nat)(V:FuncId)(c:Code)(R:Nat)(Q:nV)(P:TypeId)(W:aq)(s:S):T:=match zA c with
 |U d=>oA X (kD X (λf c s k=>fY X n f c s iY k) iY) d.tK (aaa X n V d P (Y s.ap) Q) (λ_ _=>.stuck "") (gU (λ_=>E) J E 0 (Y s.ap) d.tK.toList) (({s with tmps:=W++eN (R-Y W) (C.bM [])}:S).room (mc d.tK.toList)) []
 |none=>.stuck ""
end
end Go.Proofs.YtejplpmpldcmlaaGreatDoor.Y
namespace Go.Proofs.YtejplpmpldcmlaaGreatDoor
open Go.RowKit
structure gY(S:List Nat)(w w':World):Prop where
 os:w'.os=w.os
 tape:w'.tape=w.tape
 output:w'.output=w.output
 size:w.heap.size<=w'.heap.size
 block:∀k,k<w.heap.size->k∉S->w'.heap[k]?=w.heap[k]?
def gY.refl(S:List Nat)(w:World):gY S w w:=⟨rfl,rfl,rfl,b9 _,λ_ _ _=>rfl⟩
def gY.trans{S:List Nat}{a b c:World}(h:gY S a b)(k:gY S b c):gY S a c:=
 ⟨k.os.trans h.os,k.tape.trans h.tape,k.output.trans h.output,pw h.size k.size,λi X W=>(k.block i (Zn X h.size) W).trans (h.block i X W)⟩
def gY.mono{S X:List Nat}{a b:World}(h:gY S a b)(W:∀x,x∈S->x∈X):gY X a b:=
 ⟨h.os,h.tape,h.output,h.size,λi V R=>h.block i V (λm=>R (W i m))⟩
def gY.alloc{S:List Nat}{a w:World}(h:gY S a w)(o:Obj):gY S a (w.alloc o):=
 h.trans ⟨rfl,rfl,rfl,by simp,λk X _=>Below.heap_alloc _ _ _ X⟩
def gY.drew{S:List Nat}{a w:World}(h:gY S a w):gY S a w.drew:=⟨h.os,h.tape,h.output,h.size,h.block⟩
def gY.setCell{S:List Nat}{a w:World}(h:gY S a w){p:Addr}(X:p.block∈S)(u:Value):gY S a (w.setCell p u):=
 h.trans ⟨rfl,rfl,rfl,by simp[Zw],λk _ W=>Below.heap_setCell _ _ _ _ (λe=>W (e▸X))⟩
def gY.putObj{S:List Nat}{a w:World}(h:gY S a w){r:Nat}(X:r∈S)(o:Obj):gY S a (w.putObj r o):=
 h.trans ⟨rfl,rfl,rfl,by simp[Hg],λk _ W=>uB (λe=>W (e▸X))⟩
def gY.avF{S:List Nat}{w X:World}(h:Below w.heap.size w X):gY S w X:=⟨h.os,h.tape,h.output,h.size,λk W _=>h.block k W⟩
def gY.call{S:List Nat}{a w X:World}(h:gY S a w)(k:Below w.heap.size w X):gY S a X:=h.trans (gY.avF k)
def gY.grown{S:List Nat}{a w W:World}{V:Option Nat}(h:gY S a w)(X:w.grownBy W V)(O:∀k,V=U k->k∈S\/a.heap.size<=k):gY S a W:=
 ⟨X.os.trans h.os,X.tape.trans h.tape,X.output.trans h.output,pw h.size X.size,λk R Q=>(X.block k (Zn R h.size) (λe=>by rcases O k e.symm with P|P;exact Q P;omega)).trans (h.block k R Q)⟩
def gY.heap{S:List Nat}{w V:World}(h:gY S w V){b:Nat}{o:Obj}(X:w.heap[b]?=U o)(R:b∉S):V.heap[b]?=U o:=by
 have W:b<w.heap.size:=by
  by_cases W:b<w.heap.size;exact W;rw[aIk (by omega)] at X;cases X
 exact(h.block b W R).trans X
end Go.Proofs.YtejplpmpldcmlaaGreatDoor
namespace Go.Proofs.YtejplpmpldcmlaaGreatDoor.Y
open Go.RowKit
noncomputable section
variable{t:Bool}{R Q i:Nat}{X:TypeId}{c:Value}{N:World}{F:Oper}{r:Operand}
inductive RV where
 |mk (val:Value) (rows:List (List RV))
abbrev au:=List (List RV)
abbrev aC:=List RV
abbrev Do:=Option (List (List RV))
abbrev Bt:=List Deferred
def RV.val:RV->Value
 |.mk v _=>v
def RV.ac:RV->au
 |.mk _ r=>r
@[simp] def RV.nC (v:Value) (r:au):(RV.mk v r).val=v:=rfl
@[simp] def RV.nD (v:Value) (r:au):(RV.mk v r).ac=r:=rfl
instance:Inhabited RV:=⟨.mk (.pointer Z) []⟩
structure ai where
 i:bz
 b:ma
 r:aC
 y:ar
def ai.at(O:ai)(y:ar):ai:={O with y:=y}
def ai.rv(O:ai)(k:Nat):RV:=O.r.getD k default
def bn:Value->Int
 |.int _ n=>n
 |_=>0
def gH:Value->Bool
 |.bool b=>b
 |_=>E
def lenOf:Value->Int
 |.slice _ n _=>n
 |.string s=>s.size
 |_=>0
def kL(v:Value)(i:Int):Int:=match v with
 |.string s=>match s[i.toNat]? with
  |U b=>b.toNat
  |none=>0
 |_=>0
def tM:Value->Value->Bool
 |.string a,.string b=>a.toList==b.toList
 |_,_=>E
def kM(n:Nat)(X:bz)(W:aC):Bool:=decide ((W.take n).map (λc=>bn c.val)=X.take n)
def iR(n:Nat)(X:bz)(W:au):Option aC:=W.find? (kM n X)
def fZ(n:Nat)(X:aC):au->au
 |[]=>[X]
 |r::W=>if kM n ((X.take n).map λc=>bn c.val) r then X::W else r::fZ n X W
def kN(x:Int):bz->gt->Value
 |k::X,v::W=>if x=k then(if jr v then v else .nilFunc) else kN x X W
 |_,_=>.nilFunc
def aU(X:au)(i:Int)(j:Nat):RV:=(X.getD i.toNat []).getD j default
def cG:RK->RV->RV
 |.sl _,v|.own _,v=>match v.val with
  |.slice _ _ _=>v
  |_=>.mk (.slice Z 0 0) []
 |.str,v=>match v.val with
  |.string s=>.mk (.string s) []
  |_=>.mk (.string ⟨#[]⟩) []
 |.ae,v=>if jr v.val then .mk v.val [] else .mk (.pointer Z) []
 |.am,v=>if jr v.val then v else .mk (.pointer Z) []
 |.mr _,v=>match v.val with
  |.slice _ _ _=>v
  |_=>.mk (.slice Z 0 0) []
mutual
def K.ab(O:ai):K->Int
 |.c n=>n
 |.v k=>O.i.getD k 0
 |.bin X k a b=>aF X k (a.ab O) (b.ab O)
 |.conv k a=>k.wrap (a.ab O)
 |.len r=>lenOf (r.rv O).val
 |.mm W a b=>if W then max (a.ab O) (b.ab O) else min (a.ab O) (b.ab O)
 |.eo b x y=>if b.ab O then x.ab O else y.ab O
 |.cell r i j=>bn (aU (r.rv O).ac (i.ab O) j).val
 |.nW r i=>kL (r.rv O).val (i.ab O)
 |.look r n a b c j=>match iR n [a.ab O,b.ab O,c.ab O] (r.rv O).ac with
  |U V=>bn (V.getD j default).val
  |none=>0
def BE.ab(O:ai):BE->Bool
 |.c b=>b
 |.v k=>O.b.getD k E
 |.cmp X a b=>fy X (a.ab O) (b.ab O)
 |.not a=> !(a.ab O)
 |.and a b=>a.ab O&&b.ab O
 |.beq a b=>a.ab O==b.ab O
 |.eo b x y=>if b.ab O then x.ab O else y.ab O
 |.cell r i j=>gH (aU (r.rv O).ac (i.ab O) j).val
 |.seq a b=>tM (a.rv O).val (b.rv O).val
 |.look r n a b c j=>match iR n [a.ab O,b.ab O,c.ab O] (r.rv O).ac with
  |U W=>gH (W.getD j default).val
  |none=>E
 |.has r n a b c=>(iR n [a.ab O,b.ab O,c.ab O] (r.rv O).ac).isSome
def RE.rv(O:ai):RE->RV
 |.v k=>O.rv k
 |.cell r i j k=>cG k (aU (r.rv O).ac (i.ab O) j)
 |.k v=>.mk v []
end
def RE.ab(O:ai)(r:RE):Value:=(r.rv O).val
def C.cd(O:ai):C->RV
 |.int k e=>.mk (.int k (e.ab O)) []
 |.bool b=>.mk (.bool (b.ab O)) []
 |.ah r=>r.rv O
 |_=>default
def gZ(X:aC)(W:Nat):aC->aC
 |[]=>X
 |v::r=>gZ (X.set W v) (W+1) r
def LE.ac(O:ai):LE->au
 |.ah r=>(r.rv O).ac
 |.lit l=>l.map λX=>X.map (C.cd O)
 |.kJ a b=>a.ac O++b.ac O
 |.wb n X=>eN (n.ab O).toNat (X.map (C.cd O))
 |.set a i V W=>(a.ac O).modify (i.ab O).toNat λX=>gZ X V (W.map (C.cd O))
 |.sub a R Q=>((a.ac O).take (Q.ab O).toNat).drop (R.ab O).toNat
 |.ins a n W=>fZ n (W.map (C.cd O)) (a.ac O)
def gv(x:LE)(O:ai):RV:=.mk (.slice Z (x.ac O).length (x.ac O).length) (x.ac O)
def aI(c:Nat)(X:aC):Int:=bn (X.getD c default).val
def jK(X:Bool):ar->aC->aC->Bool
 |[],_,_=>E
 |c::W,x,y=>if aI c x=aI c y then jK X W x y else if X then decide (aI c y<aI c x) else decide (aI c x<aI c y)
def bp.lt:bp->aC->aC->Bool
 |.lex X d,x,y=>jK d X x y
 |.ratio n d,x,y=>decide (aI n x*aI d y<aI n y*aI d x)
 |.dw _ _ _,_,_=>E
def gh(n d:Int):Bool:=decide (1<=d)&&decide (d<=1073741824)&&decide (-1073741824<=n)&&decide (n<=1073741824)&&lq n.natAbs d.toNat==1
def bp.ok:bp->aC->Bool
 |.lex _ _,_=>J
 |.ratio n d,x=>gh (aI n x) (aI d x)
 |.dw _ _ _,_=>E
def eC(lt:aC->aC->Bool)(x:aC):au->au
 |[]=>[x]
 |y::r=>if lt x y then x::y::r else y::eC lt x r
def bX(lt:aC->aC->Bool)(l:au):au:=l.foldl (λacc x=>eC lt x acc) []
def xX(lt:aC->aC->Bool):au->Bool
 |[]=>J
 |x::r=>r.all (λy=>lt x y||lt y x)&&xX lt r
def iZ:bp->Bool->au->Do
 |.dw _ _ _,_,_=>Z
 |W,V,X=>if decide (Y X<=1099511627776)&&(X.all W.ok&&(V||xX W.lt X)) then U (bX W.lt X) else Z
def md(X:au):Bool:=(fw (Y X)).all λk=>decide (0<=aI 0 (X.getD k []))&&decide (aI 0 (X.getD k [])<=k)
def rj:Nat->Int->au->au
 |0,_,X=>X
 |n+1,i,X=>if aI 0 (X.getD i.toNat [])=i then X else(rj n (aI 0 (X.getD i.toNat [])) X).set i.toNat ((rj n (aI 0 (X.getD i.toNat [])) X).getD (aI 0 (X.getD i.toNat [])).toNat [])
def wn(i:Int)(X:au):Do:=if decide (Y X<=1099511627776)&&decide (0<=i)&&decide (i<Y X)&&md X then U (rj (Y X) i X) else Z
def bm(X:au)(a b:Nat):au:=(X.drop a).take (b-a)
def xY(lt:aC->aC->Bool):au->Bool
 |[]=>J
 |x::r=>r.all (λy=> !lt y x)&&xY lt r
def nE(k:Nat)(o:bp)(W:bz)(X:au):Do:=match k,W with
 |0,[a,b,n]=>if decide (0<=a)&&decide (0<=n)&&decide (a+n<=b)&&decide (b+n<=Y X) then U (X.take a.toNat++(bm X b.toNat (b+n).toNat++(bm X (a+n).toNat b.toNat++(bm X a.toNat (a+n).toNat++X.drop (b+n).toNat)))) else Z
 |1,[a,m,b]=>if decide (0<=a)&&decide (a<m)&&decide (m<b)&&decide (b<=Y X) then U (X.take a.toNat++(bm X m.toNat b.toNat++(bm X a.toNat m.toNat++X.drop b.toNat))) else Z
 |2,[a,b]=>if decide (0<=a)&&decide (a<=b)&&decide (b<=Y X)&&X.all o.ok then U (X.take a.toNat++(bX o.lt (bm X a.toNat b.toNat)++X.drop b.toNat)) else Z
 |n+3,[a,m,b]=>if decide (0<=a)&&decide (a<m)&&decide (m<b)&&decide (b<=Y X)&&decide (b-a<n)&&X.all o.ok&&xY o.lt (bm X a.toNat m.toNat)&&xY o.lt (bm X m.toNat b.toNat) then U (X.take a.toNat++(bX o.lt (bm X a.toNat b.toNat)++X.drop b.toNat)) else Z
 |_,_=>Z
def ad(V:ar)(i:Nat):Nat:=V.getD i 0
def oC(v:Value)(n:Nat):Addr:=match v with
 |.slice (U a) _ _=>⟨a.block,a.off+n,Z⟩
 |_=>⟨0,n,Z⟩
mutual
def C.ab(O:ai)(V:ar):C->Value
 |.int k e=>.int k (e.ab O)
 |.bool b=>.bool (b.ab O)
 |.ah r=>r.ab O
 |.loc i X=>.pointer (U ⟨ad V i,X,Z⟩)
 |.el r w i X=>.pointer (U (oC (r.ab O) ((i.ab O).toNat*w+X)))
 |.jf i X W R=>.slice (U ⟨ad V i,X,Z⟩) W R
 |.agg l=>.agg (C.aE O V l).toArray
 |.bM l=>.tuple (C.aE O V l).toArray
 |.fn f l=>.func (.func f) #[] (C.aE O V l).toArray
 |.gX t x=>.iface t (C.ab O V x)
 |.yl n=>.func (.yield (O.y.getD n 0)) #[] #[]
 |.any=>undef
 |.mp i=>.map (U (ad V i))
 |.gg e Q P=>kN (e.ab O) Q (C.aE O V P)
def C.aE(O:ai)(V:ar):aq->gt
 |[]=>[]
 |x::X=>C.ab O V x::C.aE O V X
end
def pJ(O:ai)(V:ar):∀l,C.aE O V l=l.map (C.ab O V)
 |[]=>rfl
 |x::X=>by rw[C.aE,pJ O V X];rfl
@[simp] def HW (O:ai) (V:ar) (l:aq):(C.aE O V l).length=Y l:=by rw[pJ];simp
def tN(O:ai)(V:ar)(l:aq)(i:Nat):(C.aE O V l)[i]?=(l[i]?).map (C.ab O V):=by rw[pJ];simp
def Tv(O:ai)(V:ar)(l m:aq):C.aE O V (l++m)=C.aE O V l++C.aE O V m:=by simp[pJ]
inductive bJ(W:World)(ty:Ty):RK->RV->Prop where
 |sl (e:TypeId) (A:Option Addr) (len cap:Nat) (rows:List (List RV)) (h1:Y rows=len) (h2:len<=cap)
   (h3:∀(i:Nat)(row:List RV),rows[i]?=U row->Y row=(bD ty (.sl e)).length/\∃b off,A=U ⟨b,off,Z⟩/\(∃cs t fr,W.heap[b]?=U (.cells cs t fr))/\
    ∀(j:Nat)(c:RV),row[j]?=U c->W.cell? ⟨b,off+i*(bD ty (.sl e)).length+j,Z⟩=U c.val)
   (hi:∀(i j:Nat)(row:List RV)(c:RV)(k:IntKind),rows[i]?=U row->row[j]?=U c->(bD ty (.sl e))[j]?=U (.int k)->∃n,c.val=.int k n)
   (hb:∀(i j:Nat)(row:List RV)(c:RV),rows[i]?=U row->row[j]?=U c->(bD ty (.sl e))[j]?=U .bool->∃x,c.val=.bool x)
   (ho:∀(i j:Nat)(row:List RV)(c:RV)(z:Value)(k:RK),rows[i]?=U row->row[j]?=U c->(bD ty (.sl e))[j]?=U (.ae z k)->bJ W ty k c):
   bJ W ty (.sl e) (.mk (.slice A len cap) rows)
 |str (s:ByteArray):bJ W ty .str (.mk (.string s) [])
 |ae (v:Value) (h:jr v=J):bJ W ty .ae (.mk v [])
 |own (e:TypeId) (rv:RV) (h:bJ W ty (.sl e) rv) (hn:∀l c,rv.val=.slice Z l c->c=0):bJ W ty (.own e) rv
 |am (rv:RV) (h:jr rv.val=J):bJ W ty .am rv
 |mr (sh:Sh) (rows:List (List RV)) (h1:∀(i:Nat)(row:List RV),rows[i]?=U row->Y row=(bD ty (.mr sh)).length)
   (hi:∀(i j:Nat)(row:List RV)(c:RV)(k:IntKind),rows[i]?=U row->row[j]?=U c->(bD ty (.mr sh))[j]?=U (.int k)->∃n,c=.mk (.int k n) [])
   (hb:∀(i j:Nat)(row:List RV)(c:RV),rows[i]?=U row->row[j]?=U c->(bD ty (.mr sh))[j]?=U .bool->∃x,c=.mk (.bool x) [])
   (ho:∀(i j:Nat)(row:List RV)(c:RV)(z:Value)(k:RK),rows[i]?=U row->row[j]?=U c->(bD ty (.mr sh))[j]?≠U (.ae z k)):
   bJ W ty (.mr sh) (.mk (.slice Z (Y rows) (Y rows)) rows)
inductive ee(ty:Ty):RK->RV->Nat->Prop where
 |here (e:TypeId) (a:Addr) (len cap:Nat) (rows:List (List RV)):ee ty (.sl e) (.mk (.slice (U a) (len+1) cap) rows) a.block
 |deep (e:TypeId) (v:Value) (rows:List (List RV)) (i j:Nat) (row:List RV) (c:RV) (z:Value) (k:RK) (b:Nat):rows[i]?=U row->row[j]?=U c->(bD ty (.sl e))[j]?=U (.ae z k)->ee ty k c b->ee ty (.sl e) (.mk v rows) b
 |own (e:TypeId) (rv:RV) (b:Nat):ee ty (.sl e) rv b->ee ty (.own e) rv b
def RV.lu(X:RV):cM:=match X.val with
 |.slice (U a) _ (_+1)=>U a.block
 |_=>Z
def zB(W:Ty)(e:RK)(X:RV)(b:Nat):Prop:=ee W e X b\/(∃t,e=.own t)/\X.lu=U b
def n7(X:Ty)(e:TypeId)(V:au)(b:Nat):Prop:=∃(i j:Nat)(W:aC)(c:RV)(z:Value)(k:RK),V[i]?=U W/\W[j]?=U c/\(bD X (.sl e))[j]?=U (.ae z k)/\ee X k c b
structure zC(S0:ar)(w0:World)(V:ar)(O:ai)(bx:bG)(ty:Ty)(rs:bv)(W:World)(k:Nat)(e:TypeId)(rv:RV)(b:Nat):Prop where
 own:w0.heap.size<=b\/b∈S0
 mem:∃len cap da,rv.val=.slice (U ⟨b,0,Z⟩) len cap/\W.heap[b]?=U (.cells da e (0,0))/\len<=cap/\cap<=maxLen/\da.size=cap*(bD ty (.sl e)).length
 box:∀i,aK bx i=J->ad V i≠b
 alone:∀(k':Nat)(e':RK)(rv':RV),k'≠k->rs[k']?=U e'->O.r[k']?=U rv'->¬zB ty e' rv' b
 inner:¬n7 ty e rv.ac b
def C.hJ(O:ai)(V:ar)(v:C):RV:=match v with
 |.ah r=>r.rv O
 |v=>.mk (v.ab O V) []
def C.dO(O:ai)(V:ar)(l:aq):aC:=l.map (C.hJ O V)
def gI:Nat->tC->List MapEntry
 |_,[]=>[]
 |n,x::r=>⟨x.1,x.2,n⟩::gI (n+1) r
def qw(l:tC):Obj:=.map (gI 0 l).toArray (Y l)
def Dp:gt->tC
 |k::v::r=>(k,v)::Dp r
 |_=>[]
def rk(a:Bool)(l:aC):Value:=if a then .agg (l.map RV.val).toArray else(l.headD default).val
def wq(n:Nat)(W V:Bool)(X:aC):Value×Value:=(rk W (X.take n),rk V (X.drop n))
def ajs:Value->cM
 |.map a=>a
 |_=>Z
def pK(X:aC):Nat:=(bn (X.headD default).val).toNat
def me(t:TypeId)(l:aC):Obj:=
 if t=uG then qw (Dp (l.map RV.val)) else
 if t=wa then(match l with
  |[X,.mk (.int _ n) _,.mk (.bool W) _,.mk (.bool V) _]=>qw (X.ac.map (wq n.toNat W V))
  |_=>qw []) else
 if t=xL then(match l with
  |[R,_,.mk (.int _ n) _,Q]=>.mapIter (ajs R.val) n.toNat (Q.ac.map pK).toArray n.toNat
  |_=>qw []) else
 .cells (l.map RV.val).toArray t (0,0)
structure jW(S0:ar)(w0:World)(V:ar)(O:ai)(bx:bG)(ty:Ty)(rs:bv)(W:World):Prop where
 base:gY S0 w0 W
 own:∀i,aK bx i=J->w0.heap.size<=ad V i\/ad V i∈S0
 inj:∀i j,aK bx i=J->aK bx j=J->ad V i=ad V j->i=j
 box:∀(i:Nat)(t:TypeId)(cs:aq),cw bx i=U (t,cs)->W.heap[ad V i]?=U (me t (C.dO O V cs))
 ah:∀(k:Nat)(e:RK)(rv:RV),rs[k]?=U e->O.r[k]?=U rv->bJ W ty e rv/\∀b,ee ty e rv b->∀i,aK bx i=J->ad V i≠b
structure cg where
 out:ar
 dB:List (Nat×Loop)
 rd:Bool
 base:Bt
def cg.none:cg:=⟨[],[],E,[]⟩
def mg(r:Nat):Deferred:={target:=.collected r,args:= #[]}
def PX.code:PX->Code
 |.ret=>.ret
 |.exit id=>.exit id
def se(r:Loop):Hm->Loop
 |.ready=>{r with state:=.ready,pending:=Z}
 |.busy=>{r with state:=.busy,pending:=Z}
 |.done e=>{r with state:=.done,pending:=U e.code}
structure eF(w0:World)(D:cg)(pd:uF)(y:ar)(dfr:Bt)(W:World):Prop where
 len:Y D.dB=Y pd
 qy:Y y=Y pd
 dB:∀(n l:Nat)(r:Loop)(st:Hm),D.dB[n]?=U (l,r)->pd[n]?=U st->y[n]?=U l/\W.heap[l]?=U (.loop (se r st))/\w0.heap.size<=l
 inj:∀(n n' l:Nat)(r r':Loop),D.dB[n]?=U (l,r)->D.dB[n']?=U (l,r')->n=n'
 mh:∃ms:ar,dfr=ms.map mg++D.base/\(D.rd=J->ms=[])/\(ms++D.out).Nodup/\∀d∈ms++D.out,W.heap[d]?=U (.deferred (U []))/\w0.heap.size<=d
structure az(S0:ar)(w0:World)(D:cg)(ty:Ty)(V:ar)(O:ai)(s:S)(a:Act)(W:World):Prop where
 mem:jW S0 w0 V O s.ap ty s.rs W
 gJ:Y V=Y s.ap
 ei:Y O.i=s.ni
 eb:Y O.b=s.nb
 er:Y O.r=Y s.rs
 dl:eF w0 D s.pd O.y a.defers W
 size:a.tmps.size=Y s.tmps
 tmps:∀(t:Nat)(sv:C),s.tmps[t]?=U sv->sv=.any\/a.tmps[t]?=U (sv.ab O V)
 gj:∀(k:Nat)(e:TypeId)(rv:RV)(b:Nat),s.rs[k]?=U (.own e)->O.r[k]?=U rv->rv.lu=U b->zC S0 w0 V O s.ap ty s.rs W k e rv b
def ai.qz(X:Ty)(O:ai)(W:bv)(b:Nat):Prop:=∃(k:Nat)(e:RK),W[k]?=U e/\ee X e (O.rv k) b
inductive XV where
 |i (n:Int)
 |b (x:Bool)
 |r (v:RV)
abbrev bq:=List XV
def ai.add(O:ai):XV->ai
 |.i n=>{O with i:=O.i++[n]}
 |.b x=>{O with b:=O.b++[x]}
 |.r v=>{O with r:=O.r++[v]}
def ai.ext(O:ai):bq->ai
 |[]=>O
 |x::X=>(O.add x).ext X
def C.xv(O:ai):C->XV
 |.int _ e=>.i (e.ab O)
 |.bool b=>.b (b.ab O)
 |.ah r=>.r (r.rv O)
 |_=>.i 0
def sf:LK->XV->Prop
 |.int _,.i _=>True
 |.bool,.b _=>True
 |.ah _,.r _=>True
 |_,_=>False
def eP:aS->bq->Prop
 |[],[]=>True
 |k::X,x::W=>sf k x/\eP X W
 |_,_=>False
def avG(X:Ty)(W:World)(B:Nat)(R:Nat->Prop):LK->XV->Prop
 |.ah e,.r V=>bJ W X e V/\∀b,ee X e V b->B<=b\/R b
 |_,_=>True
def KF(X:Ty)(W:World)(B:Nat)(V:Nat->Prop):aS->bq->Prop
 |k::R,x::Q=>avG X W B V k x/\KF X W B V R Q
 |_,_=>True
structure HX(ty:Ty)(S0:ar)(w0:World)(e:TypeId)(x:LE)(rs:bv)(O:ai)(rv:RV):Prop where
 val:∃A n c,rv=.mk (.slice A n c) (x.ac O)/\(x.ac O).length=n
 qz:∀b,ee ty (.sl e) rv b->w0.heap.size<=b\/b∈S0\/O.qz ty rs b
 aab:∀(k:Nat)(i:K)(off:Nat)(cs:aq),x=.set (.ah (.v k)) i off cs->rv.val=(O.rv k).val
structure LC where
 ax:Nat
 I:bq->Prop
 μ:bq->Nat
 m:Nat
abbrev dC:=List LC
def oD(ax:Nat):dC->Option LC
 |[]=>Z
 |x::X=>if x.ax=ax then U x else oD ax X
def XE.to(O:ai)(V:ar):XE->Exit
 |.normal=>.normal
 |.ret=>.ret
 |.exit id=>.exit id
 |.bI v=>.panic [{v:=v.ab O V,recovered:=E}]
structure Sp where
 P:Program
 ty:Ty
 S0:ar
 w0:World
 D:cg
 R:Ending->World->Prop
 Q:Exit->Act->World->Prop
def pL(k:Nat)(o:bp)(W:bz)(X:au):Do:=if Y X<=1099511627776 then nE k o W X else Z
def kO(O:ai):bp->Bool->au->Do
 |.dw k o W,E,X=>pL k o (W.map (K.ab O)) X
 |.dw _ _ [i],J,X=>wn (i.ab O) X
 |.dw _ _ _,J,_=>Z
 |V,R,X=>iZ V R X
def n8(O:ai):bp->Bool->au->Do
 |.dw _ _ _,E,_=>Z
 |.dw _ _ [i],J,X=>wn (i.ab O) X
 |.dw _ _ _,J,_=>Z
 |W,V,X=>iZ W V X
def ajt{O:ai}{X:bp}{W r:au}(h:n8 O X t W=U r):kO O X t W=U r:=by
 cases X with
 |lex R d=>exact h
 |ratio n d=>exact h
 |dw k o V=>
  cases t with
  |false=>simp[n8] at h
  |true=>
   cases V with
   |nil=>simp[n8] at h
   |cons i l=>
    cases l with
    |nil=>exact h
    |cons j l=>simp[n8] at h
def T.aP(p:Sp):T->ai->dC->Prop
 |.out e s,O,_=>∀y V a W,az p.S0 p.w0 p.D p.ty V (O.at y) s a W->p.Q (e.to (O.at y) V) a W
 |.ret v F M,O,_=>∀y V W,jW p.S0 p.w0 V (O.at y) F p.ty M W->p.R (.returned (v.ab (O.at y) V)) W
 |.bI v,O,_=>∀y V W,gY p.S0 p.w0 W->p.R (.panicked [{v:=v.ab (O.at y) V,recovered:=E}]) W
 |.aT b t f,O,L=>(b.ab O=J->t.aP p O L)/\(b.ab O=E->f.aP p O L)
 |.be b t,O,L=>b.ab O=J/\t.aP p O L
 |.call f w F M G jz t,O,L=>∀y V W,jW p.S0 p.w0 V (O.at y) F p.ty M W->Calls p.P f (C.aE (O.at y) V w).toArray W λ
   |.returned v,H=>∃N,eP G N/\v=jz.ab ((O.ext N).at y) V/\Below W.heap.size W H/\KF p.ty H W.heap.size (O.qz p.ty M) G N/\t.aP p (O.ext N) L
   |.panicked u,H=>Below W.heap.size W H/\p.R (.panicked u) H
   |.outgrown,_=>False
 |.loop ax G q t,O,L=>∃X B,X (q.map (C.xv O))/\∀N,eP G N->X N->t.aP p (O.ext N) (⟨ax,X,B,B N⟩::L)
 |.back ax x,O,L=>match oD ax L with
   |U c=>c.I (x.map (C.xv O))/\c.μ (x.map (C.xv O))<c.m
   |none=>False
 |.new e x M _ t,O,L=>∀A,HX p.ty p.S0 p.w0 e x M O A->t.aP p (O.add (.r A)) L
 |.ac _ x _ t,O,L=>t.aP p (O.add (.r (gv x O))) L
 |.gF g h t f,O,L=>(g.ab O=J->t.aP p O L)/\(h.ab O=J->f.aP p O L)
 |.pick n g h t f,O,L=>(∀j:Int,0<=j->j<n.ab O->g.ab (O.add (.i j))=J->t.aP p (O.add (.i j)) L)/\(h.ab O=J->f.aP p O L)
 |.eE _ _ _ o l r _ t,O,L=>∃z,kO O o l (r.rv O).ac=U z/\t.aP p (O.add (.r (.mk (r.rv O).val z))) L
 |.stuck _,_,_=>False
variable{l:ai}{x:bG}{w:aq}{y:ar}
def aju:∀(a b:Value),Hx a b=J->a=b:=by
 intro a b h;unfold Hx at h;split at h;rename_i a b;have X:a.data.toList=b.data.toList:=by simpa using h
 have W:a.data=b.data:=by simpa using X
 cases a;cases b;simp_all;simp at h;rw[h.1,h.2]
 all_goals first|rfl|cases h
mutual
def K.bY:∀(a b:K),K.aN a b=J->a=b
 |.c a,b,h=>by cases b<;>simp[K.iu] at h;rw[h]
 |.v a,b,h=>by cases b<;>simp[K.iu] at h;rw[h]
 |.bin o k a b,x,h=>by
  cases x<;>simp[K.iu,Be] at h;obtain⟨⟨⟨rfl,rfl⟩,X⟩,W⟩:=h;rw[K.bY _ _ X,K.bY _ _ W]
 |.conv k a,x,h=>by
  cases x<;>simp[K.iu] at h;obtain⟨rfl,X⟩:=h;rw[K.bY _ _ X]
 |.len r,x,h=>by
  cases x<;>simp[K.iu] at h;rw[RE.bY _ _ h]
 |.mm m a b,x,h=>by
  cases x<;>simp[K.iu] at h;obtain⟨⟨rfl,X⟩,W⟩:=h;rw[K.bY _ _ X,K.bY _ _ W]
 |.eo b a c,x,h=>by
  cases x<;>simp[K.iu] at h;obtain⟨⟨V,X⟩,W⟩:=h;rw[BE.bY _ _ V,K.bY _ _ X,K.bY _ _ W]
 |.cell r i j,x,h=>by
  cases x<;>simp[K.iu] at h;obtain⟨⟨V,X⟩,rfl⟩:=h;rw[RE.bY _ _ V,K.bY _ _ X]
 |.nW r i,x,h=>by
  cases x<;>simp[K.iu] at h;obtain⟨V,X⟩:=h;rw[RE.bY _ _ V,K.bY _ _ X]
 |.look r n a b c j,x,h=>by
  cases x<;>simp[K.iu] at h;obtain⟨⟨⟨⟨⟨V,rfl⟩,X⟩,W⟩,R⟩,rfl⟩:=h;rw[RE.bY _ _ V,K.bY _ _ X,K.bY _ _ W,K.bY _ _ R]
def BE.bY:∀(a b:BE),BE.aN a b=J->a=b
 |.c a,b,h=>by cases b<;>simp[BE.iu] at h;rw[h]
 |.v a,b,h=>by cases b<;>simp[BE.iu] at h;rw[h]
 |.cmp o a b,x,h=>by
  cases x<;>simp[BE.iu,Be] at h;obtain⟨⟨rfl,X⟩,W⟩:=h;rw[K.bY _ _ X,K.bY _ _ W]
 |.not a,x,h=>by
  cases x<;>simp[BE.iu] at h;rw[BE.bY _ _ h]
 |.and a b,x,h=>by
  cases x<;>simp[BE.iu] at h;rw[BE.bY _ _ h.1,BE.bY _ _ h.2]
 |.beq a b,x,h=>by
  cases x<;>simp[BE.iu] at h;rw[BE.bY _ _ h.1,BE.bY _ _ h.2]
 |.eo b a c,x,h=>by
  cases x<;>simp[BE.iu] at h;obtain⟨⟨V,X⟩,W⟩:=h;rw[BE.bY _ _ V,BE.bY _ _ X,BE.bY _ _ W]
 |.cell r i j,x,h=>by
  cases x<;>simp[BE.iu] at h;obtain⟨⟨V,X⟩,rfl⟩:=h;rw[RE.bY _ _ V,K.bY _ _ X]
 |.seq a b,x,h=>by
  cases x<;>simp[BE.iu] at h;rw[RE.bY _ _ h.1,RE.bY _ _ h.2]
 |.look r n a b c j,x,h=>by
  cases x<;>simp[BE.iu] at h;obtain⟨⟨⟨⟨⟨V,rfl⟩,X⟩,W⟩,R⟩,rfl⟩:=h;rw[RE.bY _ _ V,K.bY _ _ X,K.bY _ _ W,K.bY _ _ R]
 |.has r n a b c,x,h=>by
  cases x<;>simp[BE.iu] at h;obtain⟨⟨⟨⟨V,rfl⟩,X⟩,W⟩,R⟩:=h;rw[RE.bY _ _ V,K.bY _ _ X,K.bY _ _ W,K.bY _ _ R]
def RE.bY:∀(a b:RE),RE.aN a b=J->a=b
 |.v a,b,h=>by cases b<;>simp[RE.iu] at h;rw[h]
 |.cell r i j k,x,h=>by
  cases x<;>simp[RE.iu] at h;obtain⟨⟨⟨X,W⟩,rfl⟩,rfl⟩:=h;rw[RE.bY _ _ X,K.bY _ _ W]
 |.k a,b,h=>by cases b<;>simp[RE.iu] at h;rw[aju _ _ h]
end
mutual
def C.bY:∀(a b:C),C.aN a b=J->a=b
 |.int k e,x,h=>by cases x<;>simp[C.iu] at h;rw[h.1,K.bY _ _ h.2]
 |.bool b,x,h=>by cases x<;>simp[C.iu] at h;rw[BE.bY _ _ h]
 |.ah r,x,h=>by cases x<;>simp[C.iu] at h;rw[RE.bY _ _ h]
 |.loc i o,x,h=>by cases x<;>simp[C.iu] at h;rw[h.1,h.2]
 |.el r w i o,x,h=>by
  cases x<;>simp[C.iu] at h;obtain⟨⟨⟨X,rfl⟩,W⟩,rfl⟩:=h;rw[RE.bY _ _ X,K.bY _ _ W]
 |.jf a b c d,x,h=>by
  cases x<;>simp[C.iu] at h;obtain⟨⟨⟨rfl,rfl⟩,rfl⟩,rfl⟩:=h;rfl
 |.agg l,x,h=>by cases x<;>simp[C.iu] at h;rw[C.tO _ _ h]
 |.bM l,x,h=>by cases x<;>simp[C.iu] at h;rw[C.tO _ _ h]
 |.fn f l,x,h=>by cases x<;>simp[C.iu] at h;rw[h.1,C.tO _ _ h.2]
 |.gX t y,x,h=>by cases x<;>simp[C.iu] at h;rw[h.1,C.bY _ _ h.2]
 |.yl n,x,h=>by cases x<;>simp[C.iu] at h;rw[h]
 |.any,x,h=>by cases x<;>simp[C.iu] at h;rfl
 |.mp i,x,h=>by cases x<;>simp[C.iu] at h;rw[h]
 |.gg e V R,x,h=>by cases x<;>simp[C.iu] at h;rw[K.bY _ _ h.1.1,h.1.2,C.tO _ _ h.2]
def C.tO:∀(a b:aq),C.rg a b=J->a=b
 |[],b,h=>by cases b<;>simp[C.ajc] at h;rfl
 |x::X,b,h=>by cases b<;>simp[C.ajc] at h;rw[C.bY _ _ h.1,C.tO _ _ h.2]
end
structure i7(O O':ai)(ni nb nr:Nat):Prop where
 i:∀k,k<ni->O'.i.getD k 0=O.i.getD k 0
 b:∀k,k<nb->O'.b.getD k E=O.b.getD k E
 r:∀k,k<nr->O'.rv k=O.rv k
 y:O'.y=O.y
mutual
def K.ep{O W:ai}{V R Q:Nat}(X:i7 O W V R Q):∀(e:K),e.bd V R Q=J->e.ab W=e.ab O
 |.c n,_=>by simp[K.ab]
 |.v k,h=>by simp[K.bj] at h;simp only[K.ab];exact X.i k h
 |.bin o k a b,h=>by simp[K.bj] at h;simp only[K.ab,K.ep X a h.1,K.ep X b h.2]
 |.conv k a,h=>by simp[K.bj] at h;simp only[K.ab,K.ep X a h]
 |.len r,h=>by simp[K.bj] at h;simp only[K.ab,RE.sj X r h]
 |.mm m a b,h=>by simp[K.bj] at h;simp only[K.ab,K.ep X a h.1,K.ep X b h.2]
 |.eo b x y,h=>by simp[K.bj] at h;simp only[K.ab,BE.ep X b h.1.1,K.ep X x h.1.2,K.ep X y h.2]
 |.cell r i j,h=>by simp[K.bj] at h;simp only[K.ab,K.ep X i h.2,RE.sj X r h.1]
 |.nW r i,h=>by simp[K.bj] at h;simp only[K.ab,RE.sj X r h.1,K.ep X i h.2]
 |.look r n a b c j,h=>by simp[K.bj] at h;simp only[K.ab,RE.sj X r h.1.1.1,K.ep X a h.1.1.2,K.ep X b h.1.2,K.ep X c h.2]
def BE.ep{O W:ai}{V R Q:Nat}(X:i7 O W V R Q):∀(e:BE),e.bd V R Q=J->e.ab W=e.ab O
 |.c n,_=>by simp[BE.ab]
 |.v k,h=>by simp[BE.bj] at h;simp only[BE.ab];exact X.b k h
 |.cmp o a b,h=>by simp[BE.bj] at h;simp only[BE.ab,K.ep X a h.1,K.ep X b h.2]
 |.not a,h=>by simp[BE.bj] at h;simp only[BE.ab,BE.ep X a h]
 |.and a b,h=>by simp[BE.bj] at h;simp only[BE.ab,BE.ep X a h.1,BE.ep X b h.2]
 |.beq a b,h=>by simp[BE.bj] at h;simp only[BE.ab,BE.ep X a h.1,BE.ep X b h.2]
 |.eo b x y,h=>by simp[BE.bj] at h;simp only[BE.ab,BE.ep X b h.1.1,BE.ep X x h.1.2,BE.ep X y h.2]
 |.cell r i j,h=>by simp[BE.bj] at h;simp only[BE.ab,K.ep X i h.2,RE.sj X r h.1]
 |.seq a b,h=>by simp[BE.bj] at h;simp only[BE.ab,RE.sj X a h.1,RE.sj X b h.2]
 |.look r n a b c j,h=>by simp[BE.bj] at h;simp only[BE.ab,RE.sj X r h.1.1.1,K.ep X a h.1.1.2,K.ep X b h.1.2,K.ep X c h.2]
 |.has r n a b c,h=>by simp[BE.bj] at h;simp only[BE.ab,RE.sj X r h.1.1.1,K.ep X a h.1.1.2,K.ep X b h.1.2,K.ep X c h.2]
def RE.sj{O W:ai}{V R Q:Nat}(X:i7 O W V R Q):∀(e:RE),e.bd V R Q=J->e.rv W=e.rv O
 |.v k,h=>by simp[RE.bj] at h;simp only[RE.rv,X.r k h]
 |.cell r i j k,h=>by simp[RE.bj] at h;simp only[RE.rv,K.ep X i h.2,RE.sj X r h.1]
 |.k v,_=>by simp[RE.rv]
end
def RE.ep{X:ai}(W:i7 l X R Q i)(e:RE)(h:e.bd R Q i=J):e.ab X=e.ab l:=by simp only[RE.ab,RE.sj W e h]
mutual
def C.ep{O R:ai}{V Q:ar}{P N M:Nat}{L:Nat->Bool}(X:i7 O R P N M)(W:∀k,L k=J->ad Q k=ad V k):∀(v:C),v.bd P N M L=J->v.ab R Q=v.ab O V
 |.int k e,h=>by simp[C.bj] at h;simp only[C.ab,K.ep X e h]
 |.bool e,h=>by simp[C.bj] at h;simp only[C.ab,BE.ep X e h]
 |.ah e,h=>by simp[C.bj] at h;simp only[C.ab,RE.ep X e h]
 |.loc i o,h=>by simp[C.bj] at h;simp only[C.ab,W i h]
 |.el r w i o,h=>by simp[C.bj] at h;simp only[C.ab,RE.ep X r h.1,K.ep X i h.2]
 |.jf i o l c,h=>by simp[C.bj] at h;simp only[C.ab,W i h]
 |.agg l,h=>by simp[C.bj] at h;simp only[C.ab,C.KG X W l h]
 |.bM l,h=>by simp[C.bj] at h;simp only[C.ab,C.KG X W l h]
 |.fn f l,h=>by simp[C.bj] at h;simp only[C.ab,C.KG X W l h]
 |.gX t x,h=>by simp[C.bj] at h;simp only[C.ab,C.ep X W x h]
 |.yl n,_=>by simp only[C.ab,X.y]
 |.any,_=>by simp[C.ab]
 |.mp i,h=>by simp[C.bj] at h;simp only[C.ab,W i h]
 |.gg e G H,h=>by simp[C.bj] at h;simp only[C.ab,K.ep X e h.1,C.KG X W H h.2]
def C.KG{O X:ai}{V W:ar}{R Q P:Nat}{N:Nat->Bool}(M:i7 O X R Q P)(L:∀k,N k=J->ad W k=ad V k):∀(l:aq),C.ec R Q P N l=J->C.aE X W l=C.aE O V l
 |[],_=>rfl
 |x::H,h=>by simp[C.iQ] at h;simp only[C.aE,C.ep M L x h.1,C.KG M L H h.2]
end
def wt{W V R:Nat}{Q:Nat->Bool}:∀{l:aq}{i:Nat}{v:C},C.ec W V R Q l=J->l[i]?=U v->v.bd W V R Q=J
 |[],i,v,_,h=>by simp at h
 |x::P,0,v,X,h=>by simp[C.iQ] at X;simp at h;exact h▸X.1
 |x::P,i+1,v,X,h=>by simp[C.iQ] at X;simp at h;exact wt X.2 h
def kj{b:TypeId×aq}:cw x R=U b<->x[R]?=U (U b):=by
 simp only[cV];cases h:x[R]? with
 |none=>simp
 |some X=>cases X<;>simp
def tP{V R Q:Nat}{P:Nat->Bool}:∀{l:bG}{i:Nat}{v:TypeId×aq},C.rh V R Q P l=J->cw l i=U v->C.ec V R Q P v.2=J
 |[],i,v,_,h=>by simp[cV] at h
 |U x::W,0,v,X,h=>by simp[C.rh] at X;simp[cV] at h;exact h▸X.1
 |Z::W,0,v,X,h=>by simp[cV] at h
 |U x::W,i+1,v,X,h=>by simp[C.rh] at X;exact tP X.2 (by simpa[cV] using h)
 |Z::W,i+1,v,X,h=>by simp[C.rh] at X;exact tP X (by simpa[cV] using h)
def i7.refl(O:ai)(X W V:Nat):i7 O O X W V:=⟨λ_ _=>rfl,λ_ _=>rfl,λ_ _=>rfl,rfl⟩
def i7.trans{a b c:ai}{W V R:Nat}(h:i7 a b W V R)(k:i7 b c W V R):i7 a c W V R:=
 ⟨λj X=>(k.i j X).trans (h.i j X),λj X=>(k.b j X).trans (h.b j X),λj X=>(k.r j X).trans (h.r j X),k.y.trans h.y⟩
def i7.mono{b:ai}{X W V:Nat}(h:i7 l b R Q i)(O:X<=R)(N:W<=Q)(M:V<=i):i7 l b X W V:=
 ⟨λj P=>h.i j aa,λj P=>h.b j aa,λj P=>h.r j aa,h.y⟩
def Tw(O:ai)(x:XV):i7 O (O.add x) (Y O.i) (Y O.b) (Y O.r):=by
 cases x<;>refine⟨λk X=> ?_,λk X=> ?_,λk X=> ?_,rfl⟩<;>simp[ai.add,ai.rv,dH,X]
def Fl:∀(X:bq)(O:ai),i7 O (O.ext X) (Y O.i) (Y O.b) (Y O.r)
 |[],O=>i7.refl _ _ _ _
 |x::X,O=>by
  have W:=Tw O x;have V:=Fl X (O.add x);exact W.trans (V.mono (by cases x<;>simp[ai.add]) (by cases x<;>simp[ai.add]) (by cases x<;>simp[ai.add]))
mutual
def Tx{O:ai}{V X:ar}(h:ad X=ad V):∀(v:C),v.ab O X=v.ab O V
 |.int k e=>by simp only[C.ab]
 |.bool e=>by simp only[C.ab]
 |.ah e=>by simp only[C.ab]
 |.loc i o=>by simp only[C.ab,h]
 |.el r w i o=>by simp only[C.ab]
 |.jf i o l c=>by simp only[C.ab,h]
 |.agg l=>by simp only[C.ab,OK h l]
 |.bM l=>by simp only[C.ab,OK h l]
 |.fn f l=>by simp only[C.ab,OK h l]
 |.gX t x=>by simp only[C.ab,Tx h x]
 |.yl n=>by simp only[C.ab]
 |.any=>by simp only[C.ab]
 |.mp i=>by simp only[C.ab,h]
 |.gg e R W=>by simp only[C.ab,OK h W]
def OK{O:ai}{V X:ar}(h:ad X=ad V):∀(l:aq),C.aE O X l=C.aE O V l
 |[]=>rfl
 |x::W=>by simp only[C.aE,Tx h x,OK h W]
end
def avH(O:ai)(V:ar)(v:C):(v.hJ O V).val=v.ab O V:=by
 cases v<;>simp[C.hJ,C.ab,RE.ab]
def ajv(O:ai)(V:ar)(l:aq):(C.dO O V l).map RV.val=C.aE O V l:=by
 rw[pJ,C.dO,ov];exact jT λv _=>avH O V v
def tQ(h:qY X=E)(O:ai)(V:ar)(l:aq):me X (C.dO O V l)=.cells (C.aE O V l).toArray X (0,0):=by
 have W:=of_decide_eq_false h;unfold me;rw[aQ (λe=>W (by rw[e];exact b9 _)),aQ (λe=>W (by rw[e];decide)),aQ (λe=>W (by rw[e];decide)),ajv]
def zD(h:mb x R=U (X,w)):cw x R=U (X,w)/\qY X=false:=by
 unfold mb at h;split at h;rename_i Q P W;split at h;cases h;rename_i V;cases h;exact⟨W,by simpa using V⟩;cases h
def OL{X:bG}(h:cw X Q=cw x R):mb X Q=mb x R:=by simp[mb,h]
def aac{X:ai}{W:ar}{P:Nat->Bool}(N:i7 l X R Q i)(M:∀k,P k=J->ad W k=ad y k)(v:C)(h:v.bd R Q i P=J):v.hJ X W=v.hJ l y:=by
 have L:=C.ep N M v h;cases v<;>simp only[C.hJ]<;>try rw[L]
 simp only[C.bj] at h;exact RE.sj N _ h
def ON{O X:ai}{V W:ar}{R Q P:Nat}{N:Nat->Bool}(M:i7 O X R Q P)(L:∀k,N k=J->ad W k=ad V k):∀(l:aq),C.ec R Q P N l=J->C.dO X W l=C.dO O V l
 |[],_=>rfl
 |x::H,h=>by
  simp only[C.iQ,aw] at h;have:=ON M L H h.2;simp only[C.dO,dU] at this⊢;rw[aac M L x h.1,this]
def ajw{W:ar}(h:ad W=ad y)(X:aq):C.dO l W X=C.dO l y X:=by
 refine jT λv _=> ?_
 have R:=Tx (O:=l) h v;cases v<;>simp only[C.hJ]<;>rw[R]
def aad(x:Int):∀(X:bz)(W:gt),jr (kN x X W)=J
 |[],_=>by simp[kN,jr]
 |_::_,[]=>by simp[kN,jr]
 |k::X,v::W=>by
  simp only[kN];split;split;rename_i h;exact h;rfl;exact aad x X W
def avI(h:jr c=J):c.cells.toList=[c]:=by
 cases c<;>simp[jr] at h<;>rfl
variable{v:TI}{M:C}
def rm(c:CT):Value:=match c with
 |.int k=>.int k 0
 |.bool=>.bool E
 |.ae z _=>z
def TD.Ok(P:Program)(t:TypeId)(aj:fj):TD->Prop
 |.struct X=>∃F:Array Field,P.underlying t=U (.struct F)/\F.toList.map (λf=>(f.offset,f.type))=X
 |.arr n e=>P.underlying t=U (.array n e)
 |.slice e=>P.underlying t=U (.slice e)
 |.str=>P.underlying t=U .string
 |.one=>∃d,P.underlying t=U d/\((match d with|.struct _|.array _ _|.slice _|.string|.interface _=>False|_=>True)/\∀k,aj=[.ae .nilFunc k]->∃a b c,d=.func a b c)/\(∀k,aj=[.int k]->d=.int k)/\(aj=[.bool]->d=.bool)
 |.gX=>∃m,P.underlying t=U (.interface m)
 |.map k e _ _=>P.underlying t=U (.map k e)
def Dq:Value->Value->Option Bool
 |.int k a,.int X b=>if k=X then U (a==b) else Z
 |.bool a,.bool b=>U (a==b)
 |.string a,.string b=>U (a.toList==b.toList)
 |_,_=>Z
def Dr:CT->Value->Prop
 |.int k,.int X _=>k=X
 |.bool,.bool _=>True
 |.ae _ .str,.string _=>True
 |_,_=>False
def lw:fj->gt->Prop
 |[],[]=>True
 |c::X,v::R=>Dr c v/\lw X R
 |_,_=>False
def km:gt->gt->Option Bool
 |[],[]=>U J
 |x::X,y::R=>match Dq x y,km X R with
  |U a,U b=>U (a&&b)
  |_,_=>Z
 |_,_=>Z
def ij(X:Bool)(l:bz):Value:=if X then .agg (l.map (Value.int I)).toArray else .int I (l.headD 0)
def xZ:Value->bz
 |.int _ x=>[x]
 |.agg X=>X.toList.map bn
 |_=>[]
def oE(l:bz):List MapEntry->Nat->Option (Nat×Value)
 |[],_=>Z
 |e::X,i=>if xZ e.key=l then U (i,e.val) else oE l X (i+1)
def uR(P:Program)(k:TypeId)(n:Nat)(X:Bool):Prop:=(X=E->n=1)/\∀(l:bz)(R:List MapEntry)(W:World),Y l=n->(∀e∈R,∃Q:bz,Y Q=n/\e.key=ij X Q)->
 (∀b,(Instr.checkKey b 10000 k (ij X l)).run P W=.ok () W)/\(Instr.findKey k (ij X l) R).run P W=.ok (oE l R 0) W
def Tz:Value->Bool
 |.agg _=>J
 |_=>E
structure fk(P:Program)(t:TypeId)(ti:TI):Prop where
 KH:∃i,P.info? t=U i/\i.size=Y ti.aj/\∃z,i.zero=U z/\z.cells.toList=ti.aj.map rm
 desc:ti.d.Ok P t ti.aj
 bytes:∀i,P.info? t=U i->i.bytes<=131072
 eq:ti.eq=J->∀(xs ys:gt)(r:Bool)(x y:Operand)(w:World),lw ti.aj xs->lw ti.aj ys->km xs ys=U r->
  (do eqGuard .eql t x y (.agg xs.toArray) (.agg ys.toArray);binOp .eql t (.agg xs.toArray) (.agg ys.toArray)).run P w=.ok (.bool r) w/\
  (do eqGuard .neq t x y (.agg xs.toArray) (.agg ys.toArray);binOp .neq t (.agg xs.toArray) (.agg ys.toArray)).run P w=.ok (.bool !r) w
 key:∀k e n ag,ti.d=.map k e n ag->uR P k n ag
 ajx:∀i z,P.info? t=U i->i.zero=U z->Tz z=ti.d.isAgg
def jg(P:Program)(o:Ty):Prop:=∀t X,o t=U X->fk P t X
def e8(gl:nu)(O:ai):Prop:=∀x∈gl,x.2.1<Y O.r/\∃X R,(O.rv x.2.1).val=.slice (U ⟨x.1,0,Z⟩) X R
section
variable{P:Program}{o:Ty}{gl:nu}{W:World}
def fk.iC{d:TypeDesc}(h:P.underlying X=U d):(underlying X).run P W=.ok d W:=by simp[underlying,h]
def fk.n9(h:fk P X v):(Go.sizeOf X).run P W=.ok (Y v.aj) W:=by
 obtain⟨i,R,Q,_⟩:=h.KH;simp[Go.sizeOf,typeInfo,R,Q]
def fk.ajy(h:fk P X v):(isAgg X).run P W=.ok v.d.isAgg W:=by
 have Q:=h.desc;revert Q;cases v.d<;>simp only[TD.Ok,TD.isAgg];rintro⟨d,R,⟨N,-⟩,-,-⟩;cases d<;>simp[isAgg,underlying,R]<;>simp at N;rintro⟨m,R⟩;simp[isAgg,underlying,R];intro R;simp[isAgg,underlying,R];intro R;simp[isAgg,underlying,R];intro R;simp[isAgg,underlying,R];rintro⟨F,R,-⟩;simp[isAgg,underlying,R];intro R;simp[isAgg,underlying,R]
def ya(b X n:Nat):(⟨b,X,Z⟩:Addr).add n=⟨b,X+n,Z⟩:=by
 unfold Addr.add;split;rename_i h;subst h;rfl;rfl
def aae(h:fk P X v)(Q:xO v w R=U M):
  (part X (C.aE l y w).toArray R).run P W=.ok (M.ab l y) W:=by
 unfold xO at Q;simp only[part,dA,h.ajy,dv];by_cases N:v.d.isAgg=J;simp only[N,cN] at Q⊢;split at Q;rename_i H;cases Q;simp only[C.ab,xN,dA,h.n9,dv,fq];congr 2;apply nq;simp only[pJ,List.map_take,List.map_drop,Array.toList_extract,List.extract_eq_take_drop];simp;cases Q;have L:v.d.isAgg=false:=by simpa using N
 simp only[L,jp,gf] at Q⊢;have:(C.aE l y w).toArray[R]?=U (M.ab l y):=by simp[tN,Q]
 rw[this];rfl
def TA(h:fk P X v){O:ai}{V:ar}{b base:Nat}(Q:xO v w R=U M)
  (H:∀j x,w[j]?=U x->W.cell? ⟨b,base+j,Z⟩=U (x.ab O V)):
  (Instr.loadAt X (.pointer (U ⟨b,base+R,Z⟩))).run P W=.ok (M.ab O V) W:=by
 unfold xO at Q;simp only[Instr.loadAt,Instr.sureAddr,loadVar,dA,fq,dv,h.ajy];by_cases G:v.d.isAgg=J;simp only[G,cN] at Q⊢;split at Q;rename_i A;cases Q;simp only[dA,h.n9,dv,C.ab];have F:(C.aE O V (xN w R (Y v.aj))).length=Y v.aj:=by simp[xN];omega
 have:=run_loadCells_list (P:=P) W ⟨b,base+R,Z⟩ (C.aE O V (xN w R (Y v.aj))) (λj M N=>by
  rw[tN] at N;cases L:(xN w R (Y v.aj))[j]? with
  |none=>rw[L] at N;cases N
  |some x=>
   rw[L] at N;simp at N;simp only[xN,nj,uC] at L;split at L;rw[ya,<-N,He];exact H _ _ L;cases L)
 rw[F] at this;rw[this];simp;cases Q;have B:v.d.isAgg=false:=by simpa using G
 simp only[B,jp,gf] at Q⊢;have:=H R M Q;simp[this]
end
section
variable{p:ar}{q:World}{D:cg}{P:Program}{o:Ty}{gl:nu}{V:ar}{O:ai}{s:S}{a:Act}{W:World}
def avJ(v:Value):(J7 v).ab O V=v:=by unfold J7;split<;>simp[C.ab,K.ab,BE.ab,RE.ab,RE.rv]
def avK(v:Value):(Ob v).ab O V=v:=by
 unfold Ob;split;simp[C.ab,K.ab];simp[C.ab,BE.ab];rename_i X;simp only[C.ab,pJ,ov];congr 1;have:(C.ab O V∘J7)=id:=by funext v;simp[avJ]
 rw[this];simp;simp[C.ab,RE.ab,RE.rv]
def du(R:az p q D o V O s a W)(L:e8 gl O)(x:Operand)(h:(s.ev gl x).eO=E):a.eval x=(s.ev gl x).ab O V:=by
 cases x with
 |tmp t=>
  simp only[S.ev,xM,cz] at h⊢;cases X:s.tmps[t]? with
  |none=>rw[X] at h;simp[C.eO] at h
  |some H=>
   rw[X] at h;simp only[pu] at h⊢;rcases R.tmps t H X with rfl|Q;simp[C.eO] at h;simp[Act.eval,Q]
 |const v=>simp only[S.ev,Act.eval,avK]
 |global g=>
  simp only[S.ev] at h⊢;split at h;rename_i k w N;obtain⟨Q,F,B,G⟩:=L _ (SF N);have M:=SO N;simp only[dE] at M;simp only[C.ab,RE.ab,RE.rv,Act.eval,oC,G,K.ab,M];simp;simp[C.eO] at h
 |func f=>simp[S.ev,Act.eval,C.ab,C.aE]
def OO(X:BinOp)(k:IntKind)(x y:K):(Hp X k x y).ab O=aF X k (x.ab O) (y.ab O):=by unfold Hp;split<;>simp[K.ab]
def Ds(X:BinOp)(x y:K):(qo X x y).ab O=fy X (x.ab O) (y.ab O):=by unfold qo;split<;>simp[K.ab,BE.ab]
def OP(x:BE):(E7 x).ab O= !(x.ab O):=by unfold E7;split<;>simp[BE.ab]
def aaf(x y:BE):(we x y).ab O=(x.ab O&&y.ab O):=by unfold we;split<;>simp[BE.ab]
def aag(x y:BE):(Oc x y).ab O=(x.ab O==y.ab O):=by unfold Oc;split<;>simp[BE.ab,OP]<;>cases BE.ab O _<;>simp
def avL(m:Bool)(x y:K):(SY m x y).ab O=if m then max (x.ab O) (y.ab O) else min (x.ab O) (y.ab O):=by unfold SY;split<;>simp[K.ab]
def KI(i n:K):(wh i n).ab O=J<->0<=i.ab O/\i.ab O<n.ab O:=by
 rw[wh,aaf,Ds,Ds,aw];exact and_congr decide_eq_true_iff decide_eq_true_iff
def aah(X:Bool)(k:IntKind):∀(l:aq)(e r:K),Hq X k e l=U r->
  ((C.aE O V l).foldlM (if X then Builtin.max2 else Builtin.min2) (.int k (e.ab O)):Sem Value).run P W=.ok (.int k (r.ab O)) W
 |[],e,r,h=>by simp[Hq] at h;subst h;simp[C.aE]
 |.int Q x::l,e,r,h=>by
  simp only[Hq] at h;split at h;have R:=aah X k l (SY X e x) r h;rw[avL] at R;simp only[C.aE,C.ab,List.foldlM_cons,dA];cases X;simp only[jp,gf] at R⊢;simp only[Builtin.min2,fq,dv];rw[show(if x.ab O<e.ab O then x.ab O else e.ab O)=min (e.ab O) (x.ab O) from aa];exact R;simp only[cN] at R⊢;simp only[Builtin.max2,fq,dv];rw[show(if x.ab O>e.ab O then x.ab O else e.ab O)=max (e.ab O) (x.ab O) from aa];exact R;cases h
 |.bool _::_,_,_,h|.ah _::_,_,_,h|.loc _ _::_,_,_,h|.el _ _ _ _::_,_,_,h|.jf _ _ _ _::_,_,_,h|.agg _::_,_,_,h|.bM _::_,_,_,h|.fn _ _::_,_,_,h|.gX _ _::_,_,_,h|.any::_,_,_,h=>by simp[Hq] at h
end
section
variable{V:ar}{O:ai}
def TC{R Q:Type}{x:Int}{f:R->Q}:∀{W:bz}{X:List R},eY x W (X.map f)=(eY x W X).map f
 |[],X=>by simp[eY]
 |_::_,[]=>by simp[eY]
 |k::W,v::X=>by
  simp only[dU,eY];split;rfl;exact TC
def KJ{W:Type}{x:Int}:∀{R:bz}{X:List W}{v:W},eY x R X=U v->v∈X
 |[],X,v,h=>by simp[eY] at h
 |_::_,[],v,h=>by simp[eY] at h
 |k::R,u::X,v,h=>by
  simp only[eY] at h;split at h;cases h;simp;exact CX _ (KJ h)
def aai{e:K}:∀{R:bz}{Q:aq}{y:K},Ba e R Q=U y->∃w,y.ab O=w/\(∀v,eY (e.ab O) R Q=U v->∃k z,v=.int k z/\w=z.ab O)/\(eY (e.ab O) R Q=Z->w=0)
 |[],[],y,h=>by simp[Ba] at h;subst h;exact⟨0,rfl,λv h=>by simp[eY] at h,λ_=>rfl⟩
 |k::R,v::Q,y,h=>by
  cases v<;>simp only[Ba] at h<;>try cases h
  rename_i N x;cases P:Ba e R Q with
  |none=>rw[P] at h;cases h
  |some G=>
   rw[P] at h;simp only[eh,cU] at h;subst h;obtain⟨w,M,L,H⟩:=aai P;simp only[K.ab,BE.ab,fy,eY];by_cases W:e.ab O=k;refine⟨x.ab O,by simp[W],λv X=> ?_,λX=> ?_⟩;rw[aJ W] at X;cases X;exact⟨N,x,rfl,rfl⟩;rw[aJ W] at X;cases X;refine⟨w,by simp[W,M],λv X=> ?_,λX=> ?_⟩;rw[aQ W] at X;exact L v X;rw[aQ W] at X;exact H X
 |[],_::_,y,h=>by simp[Ba] at h
 |_::_,[],y,h=>by simp[Ba] at h
def ajz{e:K}:∀{R:bz}{Q:aq}{y:BE},C6 e R Q=U y->∃w,y.ab O=w/\(∀v,eY (e.ab O) R Q=U v->∃z,v=.bool z/\w=z.ab O)/\(eY (e.ab O) R Q=Z->w=E)
 |[],[],y,h=>by simp[C6] at h;subst h;exact⟨E,rfl,λv h=>by simp[eY] at h,λ_=>rfl⟩
 |k::R,v::Q,y,h=>by
  cases v<;>simp only[C6] at h<;>try cases h
  rename_i x;cases P:C6 e R Q with
  |none=>rw[P] at h;cases h
  |some H=>
   rw[P] at h;simp only[eh,cU] at h;subst h;obtain⟨w,N,M,L⟩:=ajz P;simp only[BE.ab,K.ab,fy,eY];by_cases W:e.ab O=k;refine⟨x.ab O,by simp[W],λv X=> ?_,λX=> ?_⟩;rw[aJ W] at X;cases X;exact⟨x,rfl,rfl⟩;rw[aJ W] at X;cases X;refine⟨w,by simp[W,N],λv X=> ?_,λX=> ?_⟩;rw[aQ W] at X;exact M v X;rw[aQ W] at X;exact L X
 |[],_::_,y,h=>by simp[C6] at h
 |_::_,[],y,h=>by simp[C6] at h
def ajA{x:Int}:∀{ks:bz}{X:aq},X.all Ka=J->(∀v,eY x ks X=U v->kN x ks (C.aE O V X)=v.ab O V)/\(eY x ks X=Z->kN x ks (C.aE O V X)=.nilFunc)
 |[],X,_=>⟨λv h=>by simp[eY] at h,λ_=>by simp[kN]⟩
 |_::_,[],_=>⟨λv h=>by simp[eY] at h,λ_=>by simp[kN,C.aE]⟩
 |k::ks,u::X,W=>by
  simp only[N7,aw] at W;obtain⟨P,N⟩:=ajA (ks:=ks) W.2;simp only[eY,C.aE,kN];by_cases Q:x=k;simp only[Q,cN];refine⟨λv R=> ?_,λR=>by cases R⟩;cases R;have M:jr (u.ab O V)=true:=by
   have:=W.1;unfold Ka at this;split at this;rfl;rfl;cases this
  rw[aJ M];simp only[Q,gf];exact⟨P,N⟩
def avM{e:K}{Q:bz}{H:CT}(h:ZF e Q w H=U M):(∀v,eY (e.ab O) Q w=U v->M.ab O V=v.ab O V)/\(eY (e.ab O) Q w=Z->M.ab O V=rm H):=by
 unfold ZF at h;split at h;rename_i k;split at h;rename_i N;cases W:Ba e Q w with
 |none=>rw[W] at h;cases h
 |some y=>
  rw[W] at h;simp only[eh,cU] at h;subst h;obtain⟨x,R,P,L⟩:=aai (O:=O) W;refine⟨λv X=> ?_,λX=>by simp only[C.ab,R,L X,rm]⟩;obtain⟨G,z,rfl,rfl⟩:=P v X;have:=fO.1 N _ (KJ X);simp at this;subst this;simp only[C.ab,R]
 cases h;cases W:C6 e Q w with
 |none=>rw[W] at h;cases h
 |some y=>
  rw[W] at h;simp only[eh,cU] at h;subst h;obtain⟨x,R,P,L⟩:=ajz (O:=O) W;refine⟨λv X=> ?_,λX=>by simp only[C.ab,R,L X,rm]⟩;obtain⟨z,rfl,rfl⟩:=P v X;simp only[C.ab,R]
 split at h;rename_i N;simp only[aw] at N;cases h;obtain⟨R,P⟩:=ajA (O:=O) (V:=V) (x:=e.ab O) (ks:=Q) N.1;exact⟨λv X=>by simp only[C.ab];exact R v X,λX=>by simp only[C.ab,rm];exact P X⟩;cases h;cases h
def TE{e:K}{Q:bz}{P:xK}:∀{aj:fj}{j:Nat}{l:aq},C8 e Q P j aj=U l->
  Y l=Y aj/\(∀X,eY (e.ab O) Q P=U X->Y X=j+Y aj->C.aE O V l=C.aE O V (X.drop j))/\(eY (e.ab O) Q P=Z->C.aE O V l=aj.map rm)
 |[],j,l,h=>by
  simp[C8] at h;subst h;exact⟨rfl,λX _ R=>by rw[auX (by simp at R;omega)],λ_=>rfl⟩
 |c::aj,j,l,h=>by
  simp only[C8] at h;split at h;rename_i v r H G;cases h;obtain⟨F,D,B⟩:=TE G;obtain⟨N,M⟩:=avM (O:=O) (V:=V) H;rw[TC] at N M;refine⟨by simp[F],λX W R=> ?_,λW=> ?_⟩;have L:j<Y X:=by simp at R;omega
  rw[CU L];simp only[C.aE];rw[D X W (by simp at R⊢;omega),N _ (by rw[W];rfl)];simp[cz,L];simp only[C.aE,dU];rw[B W,M (by rw[W];rfl)];cases h
def TF{e:K}:∀{X:bz}{W:Type}{R:List W},Y X=Y R->(Hv e X).ab O=(eY (e.ab O) X R).isSome
 |[],W,R,h=>by simp[Hv,BE.ab,eY]
 |k::X,W,[],h=>by simp at h
 |k::X,W,v::R,h=>by
  simp only[Hv,BE.ab,K.ab,fy,eY];by_cases Q:e.ab O=k;simp[Q];simp only[Q,gf,dE];exact TF (by simpa using h)
def TG(W:∀r:RE,r.Hn=J->jr (r.ab O)=J)(h:Bb v M=J):M.ab O V=if v.d.isAgg then .agg (C.aE O V M.cells).toArray else(C.aE O V M.cells).headD undef:=by
 simp only[Bb,aw] at h;obtain⟨⟨-,R⟩,X⟩:=h;cases M<;>simp only[ik] at X<;>rw[X]<;>rfl
def Dt(h:t=E->Y w=1):(tD t w).ab O V=if t then .agg (C.aE O V w).toArray else(C.aE O V w).headD undef:=by
 cases t;obtain⟨x,rfl⟩:=oR.1 (h rfl);rfl;rfl
def TH{x:Int}:∀{W:bz}{X:aq}{v:C},eY x W X=U v->jr (v.ab O V)=J->kN x W (C.aE O V X)=v.ab O V
 |[],X,v,h,_=>by simp[eY] at h
 |_::_,[],v,h,_=>by simp[eY] at h
 |k::W,u::X,v,h,Q=>by
  simp only[eY] at h;simp only[C.aE,kN];split at h;rename_i R;cases h;rw[aJ R,aJ Q];rename_i R;rw[aQ R];exact TH h Q
def avN(h:Bb v M=J):(v.d.isAgg=E->Y v.aj=1)/\Y M.cells=Y v.aj:=by
 simp only[Bb,aw,dE] at h;obtain⟨⟨X,Q⟩,W⟩:=h;refine⟨λR=> ?_,X⟩;cases M<;>simp only[C.cells,N0] at X<;>first|exact X.symm|(rw[R] at W;cases W)
def ajB(N:∀r:RE,r.Hn=J->jr (r.ab O)=J){e:K}{X:bz}{p:C}(h:S3 v e X w=U M)(R:eY (e.ab O) X w=U p):M.ab O V=p.ab O V:=by
 unfold S3 at h;split at h;rename_i L;cases W:C8 e X (w.map C.cells) 0 v.aj with
 |none=>rw[W] at h;cases h
 |some l=>
  rw[W] at h;cases h;obtain⟨H,G,-⟩:=TE (O:=O) (V:=V) W;have F:=KJ R;have Q:=fO.1 L p F;obtain⟨D,B⟩:=avN Q;have P:=G p.cells (by rw[TC,R];rfl) (by rw[B,iX]);rw[avj] at P;rw[Dt (λA=>by rw[H];exact D A),TG N Q,P]
 cases h
def ajC{X:Type}{x:Int}{f:Nat->X}(L:0<=x)(H:x<(R:Int)):eY x (C9 R) ((fw R).map f)=U (f x.toNat):=by
 unfold C9;have W:∀(m k:Nat),(k:Int)<=x->x<((k+m:Nat):Int)->eY x ((xJ k m).map λi:Nat=>(i:Int)) ((xJ k m).map f)=U (f x.toNat):=by
  intro m;induction m with
  |zero=>intro k Q P;omega
  |succ m N=>
   intro k Q P;simp only[Zr,dU,eY];split;rename_i M;subst M;simp;exact N (k+1) aa aa
 rw[SJ];exact W R 0 aa aa
def aaj{R L:Type}{f:R->Option L}{x:Int}:∀{Q:bz}{vs:List R}{W:List L}{v:R},E8 (vs.map f)=U W->eY x Q vs=U v->∃p,f v=U p/\eY x Q W=U p
 |[],vs,W,v,_,h=>by simp[eY] at h
 |_::_,[],W,v,_,h=>by simp[eY] at h
 |k::Q,u::vs,W,v,X,h=>by
  simp only[dU] at X;cases P:f u with
  |none=>rw[P] at X;cases X
  |some p=>
   rw[P] at X;simp only[E8] at X;cases N:E8 (vs.map f) with
   |none=>rw[N] at X;cases X
   |some H=>
    rw[N] at X;simp only[eh,cU] at X;subst X;simp only[eY] at h⊢;split at h;rename_i M;cases h;rw[aJ M];exact⟨p,P,rfl⟩;rename_i M;rw[aQ M];exact aaj N h
def ajD(h:zo w=U R)(W:M∈w):∃X,M=.loc R X:=by
 unfold zo at h;split at h;rename_i j o r;split at h;rename_i Q;cases h;have:=fO.1 Q M W;split at this;rename_i P X;simp only[dE] at this;subst this;exact⟨X,rfl⟩;cases this;cases h;cases h
end
variable{n:Ty}{z:RK}{L:RV}
def PR.gives(O:ai)(v:C):PR->Prop
 |.ok x=>v=x
 |.be b x=>b.ab O=J/\v=x
 |_=>False
def ajE(h:bJ N n z L):cG z L=L:=by
 cases h with
 |sl e A M H X=>rfl
 |str s=>rfl
 |ae L R=>simp[cG,R]
 |own e Q h G=>cases h;rfl
 |am Q h=>simp[cG,h]
 |mr F X=>rfl
def ajF(k:RK):bJ N n k (cG k default):=by
 cases k with
 |sl e=>
  refine bJ.sl e Z 0 0 [] rfl (b9 _) ?_ ?_ ?_ ?_<;>(intro i;intros;rename_i h;simp at*)
 |str=>exact bJ.str _
 |ae=>exact bJ.ae _ rfl
 |own e=>
  refine bJ.own e _ (bJ.sl e Z 0 0 [] rfl (b9 _) ?_ ?_ ?_ ?_) (λl c h=>by cases h;rfl)<;>(intro i;intros;rename_i h;simp at*)
 |am=>exact bJ.am _ rfl
 |mr X=>
  refine bJ.mr X [] ?_ ?_ ?_ ?_<;>(intro i;intros;rename_i h;simp at*)
def avO(k:RK)(v:RV):jr (cG k v).val=true:=by
 cases k;simp only[cG];split;rename_i h;rw[h];rfl;rfl;simp only[cG];split<;>rfl;simp only[cG];split;rename_i h;exact h;rfl;simp only[cG];split;rename_i h;rw[h];rfl;rfl;simp only[cG];split;rename_i h;exact h;rfl;simp only[cG];split;rename_i h;rw[h];rfl;rfl
def KK(h:bJ N n z L):jr L.val=true:=by
 cases h with
 |sl e A M H X=>rfl
 |str s=>rfl
 |ae L R=>exact R
 |own e Q h G=>cases h;rfl
 |am Q h=>exact h
 |mr F X=>rfl
def ajG(h:bJ N n z L):bJ N n z.rd L:=by
 cases h with
 |own e u h t=>exact h
 |sl e A G F X R Q M H B y=>exact bJ.sl e A G F X R Q M H B y
 |str s=>exact bJ.str s
 |ae L x=>exact bJ.ae L x
 |am _ h=>exact bJ.am _ h
 |mr w X R Q M H=>exact bJ.mr w X R Q M H
def avP(h:bJ N n (.sl X) L)(i:Int)(j:Nat)(k:RK)(Q:Ht (bD n (.sl X))[j]?=k):bJ N n k (cG k (aU L.ac i j)):=by
 cases h with
 |sl X A p o x m l w u t r=>
  simp only[RV.nD,aU];cases M:x[i.toNat]? with
  |none=>simp only[cz,M,aiU,List.getElem?_nil];exact ajF k
  |some H=>
   simp only[cz,M,pu];cases F:H[j]? with
   |none=>simp only[aiU];exact ajF k
   |some c=>
    simp only[pu];have g:j<(bD n (.sl X)).length:=by
     have:=(w _ H M).1;have:=(ck.1 F).1;omega
    cases G:(bD n (.sl X))[j]? with
    |none=>rw[CV] at G;omega
    |some q=>
     rw[G] at Q;cases q with
     |int B=>
      simp only[Ht] at Q;subst Q;obtain⟨R,y⟩:=u _ _ H c B M F G;simp only[cG,y,jr,cN];exact bJ.ae _ rfl
     |bool=>
      simp only[Ht] at Q;subst Q;obtain⟨R,y⟩:=t _ _ H c M F G;simp only[cG,y,jr,cN];exact bJ.ae _ rfl
     |ae z B=>
      simp only[Ht] at Q;subst Q;have:=r _ _ H c z B M F G;rw[ajE this];exact this
section
variable{g:ar}{m:World}{D:cg}{P:Program}{ty:Ty}{B:nu}{V:ar}{O:ai}{s:S}{a:Act}{W:World}
def aak(X:az g m D ty V O s a W)(h:s.rs[R]?=U z):bJ W ty z (O.rv R):=by
 have Q:R<Y O.r:=by rw[X.er];exact(ck.1 h).1
 have:=(X.mem.ah R z O.r[R] h (cS Q)).1;simpa[ai.rv,Q] using this
def sn(R:az g m D ty V O s a W):∀{r:RE}{e:RK},e≠ .ae->r.kind ty s=e->bJ W ty e (r.rv O)
 |.v k,e,X,h=>by
  simp only[RE.kind,cz] at h;cases Q:s.rs[k]? with
  |none=>rw[Q] at h;exact aZ (show e=.ae from h.symm) X
  |some q=>rw[Q] at h;simp at h;subst h;exact ajG (aak R Q)
 |.cell r i j L,e,X,h=>by
  simp only[RE.kind] at h;split at h;rename_i H N;split at h;rename_i M;subst h;exact avP (sn R av N) (i.ab O) j _ M;exact aZ h.symm X;exact aZ h.symm X
 |.k v,e,X,h=>by
  cases v<;>simp only[RE.kind] at h
  case string s=>subst h;exact bJ.str s
  all_goals exact aZ h.symm X
def OQ(R:az g m D ty V O s a W){r:RE}(h:r.kind ty s=.sl X):∃x l c,r.ab O=.slice x l c:=by
 have:=sn R av h;unfold RE.ab;revert this;generalize r.rv O=v;intro Q;cases Q with
 |sl X A N M L=>exact⟨A,N,M,rfl⟩
def Fm(R:az g m D ty V O s a W){r:RE}(h:r.kind ty s=.str):∃x,r.ab O=.string x:=by
 have:=sn R av h;unfold RE.ab;revert this;generalize r.rv O=v;intro X;cases X with
 |str s=>exact⟨s,rfl⟩
def avQ(R:az g m D ty V O s a W){c:CT}{y:C}{e:BE}(h:J8 ty s c M y=U e):Dr c (M.ab O V)/\Dr c (y.ab O V)/\Dq (M.ab O V) (y.ab O V)=U (e.ab O):=by
 unfold J8 at h;split at h;split at h;rename_i X;obtain⟨rfl,rfl⟩:=X;cases h;exact⟨rfl,rfl,by simp[C.ab,Dq,Ds,fy]⟩;cases h;cases h;exact⟨trivial,trivial,by simp[C.ab,Dq,aag]⟩;split at h;rename_i X;cases h;obtain⟨p,Q⟩:=Fm R X.1;obtain⟨q,N⟩:=Fm R X.2;simp only[C.ab,Q,N];unfold RE.ab at Q N;exact⟨trivial,trivial,by simp[Dq,BE.ab,Q,N,tM]⟩;cases h;cases h
def ajH(R:az g m D ty V O s a W):∀{X:fj}{x y:aq}{e:BE},rZ ty s X x y=U e->lw X (C.aE O V x)/\lw X (C.aE O V y)/\km (C.aE O V x) (C.aE O V y)=U (e.ab O)
 |[],[],[],e,h=>by simp[rZ] at h;subst h;exact⟨trivial,trivial,by simp[C.aE,km,BE.ab]⟩
 |c::X,x::B,y::A,e,h=>by
  simp only[rZ] at h;split at h;rename_i a b Q N;cases h;obtain⟨M,a2,L⟩:=avQ R Q;obtain⟨H,G,F⟩:=ajH R N;exact⟨⟨M,H⟩,⟨a2,G⟩,by simp only[C.aE,km,L,F,aaf]⟩;cases h
 |[],[],_::_,e,h=>by simp[rZ] at h
 |[],_::_,_,e,h=>by simp[rZ] at h
 |_::_,[],_,e,h=>by simp[rZ] at h
 |_::_,_::_,[],e,h=>by simp[rZ] at h
def ajI(R:az g m D ty V O s a W){X:E4}{y:aq}{e:BE}(h:J9 ty s X w y=U e):∃aj d,X=U ⟨d,aj,J⟩/\lw aj (C.aE O V w)/\lw aj (C.aE O V y)/\km (C.aE O V w) (C.aE O V y)=U (e.ab O):=by
 unfold J9 at h;split at h;exact⟨_,_,rfl,ajH R h⟩;cases h
def ajJ(B:bJ W ty (.sl X) L)(i:Int)(h:0<=i)(y:i<lenOf L.val):
  ∃Q b N,L.ac[i.toNat]?=U Q/\Y Q=(bD ty (.sl X)).length/\(∃l c,L.val=.slice (U ⟨b,N,Z⟩) l c)/\(∀(j:Nat)(c:RV),Q[j]?=U c->W.cell? ⟨b,N+i.toNat*(bD ty (.sl X)).length+j,Z⟩=U c.val)/\
   (∀(j:Nat)(c:RV)(M:CT),Q[j]?=U c->(bD ty (.sl X))[j]?=U M->match M with
    |.int k=>∃n,c.val=.int k n
    |.bool=>∃x,c.val=.bool x
    |.ae _ k=>bJ W ty k c):=by
 cases B with
 |sl X A w v H g f u t r q=>
  simp only[RV.nC,lenOf] at y;have p:i.toNat<Y H:=aa;have R:H[i.toNat]?=U H[i.toNat]:=cS p;obtain⟨o,b,N,rfl,d,m⟩:=u i.toNat _ R;refine⟨H[i.toNat],b,N,R,o,⟨w,v,rfl⟩,m,λj c M G F=> ?_⟩;cases M with
  |int k=>exact t _ j _ c k R G F
  |bool=>exact r _ j _ c R G F
  |ae z k=>exact q _ j _ c z k R G F
def avR{r:RE}{i:K}{H:aC}{X:CT}(G:(r.rv O).ac[(i.ab O).toNat]?=U H)(F:H[R]?=U L)(Q:match X with
    |.int k=>∃n,L.val=.int k n
    |.bool=>∃y,L.val=.bool y
    |.ae _ k=>bJ W ty k L):
  (E5 r i R X).ab O V=L.val:=by
 have N:aU (r.rv O).ac (i.ab O) R=L:=by simp[aU,G,F]
 cases X with
 |int B=>obtain⟨n,M⟩:=Q;simp[E5,C.ab,K.ab,N,bn,M]
 |bool=>obtain⟨n,M⟩:=Q;simp[E5,C.ab,BE.ab,N,gH,M]
 |ae z e=>simp only[E5,C.ab,RE.ab,RE.rv,N];rw[ajE Q]
def wu(R:az g m D ty V O s a W):∀(r:RE),r.Hn=J->jr (r.ab O)=J
 |.v k,_=>by
  simp only[RE.ab,RE.rv];by_cases X:k<Y s.rs;exact KK (aak R (cS X));have:O.rv k=default:=by
   have:=R.er;simp[ai.rv,show¬k<Y O.r from aa]
  rw[this];rfl
 |.cell r i j k,_=>avO k _
 |.k w,h=>h
def avS(R:az g m D ty V O s a W)(d:jg P ty)(hg:e8 B O)(A:F.op=.load X r)(hk:(s.ev B r).eO=E)
  (h:(cE ty B s (.load X r)).gives O M):(execOp a.eval F).run P W=.ok (.value (M.ab O V)) W:=by
 have he:=du R hg r hk;simp only[execOp,A,dA,he];simp only[cE] at h;split at h;rename_i ti i p n k;rw[k];split at h;rename_i tt f N;split at h;rename_i w L;cases h;have:=TA (P:=P) (W:=W) (d _ _ n) (O:=O) (V:=V) (b:=ad V i) (base:=0) L (λj y hy=>by
  obtain⟨N,A⟩:=zD N;have:=R.mem.box i tt f N;rw[tQ A] at this;simp[ow,this,tN,hy])
 simp only[iX] at this;simp only[C.ab,this,dv,fq];exact h.elim;exact h.elim;rename_i ti Q w i p n k;rw[k];split at h;rename_i e ba;split at h;exact h.elim;rename_i hw;split at h;rename_i y L;obtain⟨N,rfl⟩:=h;rw[KI] at N;simp only[K.ab] at N;have hh:=sn R av ba;have bb:w=(bD ty (.sl e)).length:=by simpa using Eq.symm (by simpa using hw:(bD ty (.sl e)).length=w)
 obtain⟨af,b,a0,h1,bl,⟨l,c,h3⟩,h4,h5⟩:=ajJ hh (i.ab O) N.1 N.2;have:=TA (P:=P) (W:=W) (d _ _ n) (O:=O) (V:=V) (b:=b) (base:=a0+(i.ab O).toNat*w) L (λj z G=>by
  simp only[dW] at G;cases hj:(fw w)[j]? with
  |none=>rw[hj] at G;cases G
  |some H=>
   have bc:j<w/\H=j:=by
    have:=ck.1 hj;obtain⟨q1,q2⟩:=this;simp at q1 q2;exact⟨q1,q2.symm⟩
   obtain⟨br,rfl⟩:=bc;rw[hj] at G;simp only[eh,cU] at G;have bd:(bD ty (.sl e))[H]?=U ((bD ty (.sl e)).getD H .bool):=by
    rw[cz,cS aa];rfl
   have bf:H<Y af:=aa;have ag:af[H]?=U af[H]:=cS bf;rw[<-G,avR (W:=W) (ty:=ty) h1 ag (h5 H _ _ ag bd)];rw[bb];exact h4 H _ ag)
 have hA:oC (RE.ab O Q) ((i.ab O).toNat*w+p)=⟨b,a0+(i.ab O).toNat*w+p,Z⟩:=by
  simp only[RE.ab,h3,oC,He]
 simp only[C.ab,hA,this,dv,fq];exact h.elim;exact h.elim;rename_i ti e ks vs n k;rw[k];split at h;rename_i tt f N;split at h;rename_i w L;split at h;rename_i a1;obtain⟨a3,rfl⟩:=h;simp only[dE] at a1;cases al:zo vs with
 |none=>rw[al] at N;cases N
 |some i=>
  rw[al] at N;simp only[Zs] at N;rw[TF a1] at a3;obtain⟨u,hu⟩:=ln.1 a3;obtain⟨p,rfl⟩:=ajD al (KJ hu);cases an:E8 (vs.map (ZH ti f)) with
  |none=>rw[an] at L;cases L
  |some ps=>
   rw[an] at L;simp only[Zs] at L;obtain⟨q,a4,bg⟩:=aaj an hu;simp only[ZH] at a4;have a9:=TA (P:=P) (W:=W) (d _ _ n) (O:=O) (V:=V) (b:=ad V i) (base:=0) a4 (λj y hy=>by
    obtain⟨N,A⟩:=zD N;have:=R.mem.box i tt f N;rw[tQ A] at this;simp[ow,this,tN,hy])
   simp only[iX] at a9;have bk:(C.gg e ks vs).ab O V=.pointer (U ⟨ad V i,p,Z⟩):=by
    simp only[C.ab];rw[TH hu rfl];rfl
   rw[bk,ajB (wu R) L bg];simp only[a9,dv,fq]
 exact h.elim;exact h.elim;exact h.elim;exact h.elim
def avT(Q:az g m D ty V O s a W)(af:jg P ty)(hg:e8 B O)(ho:F.op=.fieldAddr X r R)(hk:(s.ev B r).eO=E)
  (h:(cE ty B s (.fieldAddr X r R)).gives O M):(execOp a.eval F).run P W=.ok (.value (M.ab O V)) W:=by
 have he:=du Q hg r hk;have ag:∀(G:List (Nat×TypeId))(aj:fj)(q:Bool)(y:Nat)(p:TypeId)(H:TI)(A:Addr),ty X=U ⟨.struct G,aj,q⟩->G[R]?=U (y,p)->ty p=U H->(Y H.aj==0)=E->A.spot=Z->
   (Instr.fieldAt X (.pointer (U A)) R).run P W=.ok (.pointer (U ⟨A.block,A.off+y,Z⟩)) W:=by
  intro G aj q y p H A h1 u h3 h4 h5;obtain⟨N,hF,al⟩:=(af _ _ h1).desc;rw[<-al,dW] at u;cases z:N.toList[R]? with
  |none=>rw[z] at u;cases u
  |some fd=>
   rw[z] at u;simp only[eh,cU,C2] at u;obtain⟨rfl,rfl⟩:=u;have an:N[R]?=U fd:=by simpa using z
   have a0:¬Y H.aj=0:=by simpa using h4
   obtain⟨b,of,sp⟩:=A;simp only at h5;subst h5;simp only[Instr.fieldAt,Instr.sureAddr,fieldPlace,dA,fk.iC hF,dv,an,fq,(af _ _ h3).n9,aQ a0,Sem.run_ite,ya]
 simp only[execOp,ho,dA,he];simp only[cE] at h;split at h;rename_i G aj q i y l k;rw[k];split at h;rename_i j e z;split at h;rename_i H d;split at h;exact h.elim;rename_i c;cases h;simp only[C.ab,ag G aj q j e H ⟨ad V i,y,Z⟩ l z d (by simpa using c) rfl,dv,fq];exact h.elim;exact h.elim;rename_i G aj q L w i y l k;rw[k];split at h;rename_i j e z;split at h;rename_i H d;split at h;exact h.elim;rename_i c;cases h;have a1:∀M n,(oC M n).spot=none:=by intro M n;unfold oC;split<;>rfl
 simp only[C.ab,ag G aj q j e H _ l z d (by simpa using c) (a1 _ _),dv,fq];congr 4;unfold oC;split;simp only[Addr.mk.injEq,and_true,true_and];omega;simp only[Addr.mk.injEq,and_true,true_and];omega;exact h.elim;exact h.elim;exact h.elim
end
section
variable{G:ar}{H:World}{D:cg}{P:Program}{u:Ty}{B:nu}{V:ar}{O:ai}{s:S}{a:Act}{W:World}
def avU(Q:az G H D u V O s a W)(z:jg P u)(w:e8 B O)(p:F.op=.field X r R)(n:(s.ev B r).eO=E)
  (h:(cE u B s (.field X r R)).gives O M):(execOp a.eval F).run P W=.ok (.value (M.ab O V)) W:=by
 have m:=du Q w r n;simp only[execOp,p,dA,m];simp only[cE] at h;split at h;rename_i fs aj q l k j;rw[j];split at h;rename_i o' t' L;split at h;rename_i ti i;split at h;rename_i y g;cases h;obtain⟨N,e,d⟩:=(z _ _ k).desc;rw[<-d,dW] at L;cases A:N.toList[R]? with
 |none=>rw[A] at L;cases L
 |some c=>
  rw[A] at L;simp only[eh,cU,C2] at L;obtain⟨rfl,rfl⟩:=L;have b:N[R]?=U c:=by simpa using A
  simp only[C.ab,Instr.field,dA,fk.iC e,dv,b,asAgg,fq,aae (z _ _ i) g]
 exact h.elim;exact h.elim;exact h.elim;exact h.elim
def avV(R:az G H D u V O s a W)(ag:jg P u)(hg:e8 B O){y:Operand}(ho:F.op=.indexAddr X r y)(hk:(s.ev B r).eO=E)(a1:(s.ev B y).eO=E)
  (h:(cE u B s (.indexAddr X r y)).gives O M):(execOp a.eval F).run P W=.ok (.value (M.ab O V)) W:=by
 have he:=du R hg r hk;have a3:=du R hg y a1;have al:∀(n:Nat)(e:TypeId)(aj:fj)(q:Bool)(L:TI)(A:Addr)(k:IntKind)(m:Int),u X=U ⟨.arr n e,aj,q⟩->u e=U L->0<=m->m<n->A.spot=Z->
   (Instr.indexAt X (.pointer (U A)) (.int k m)).run P W=.ok (.pointer (U ⟨A.block,A.off+m.toNat*Y L.aj,Z⟩)) W:=by
  intro n e aj q L A k m h1 h2 h3 h4 h5;have hd:P.underlying X=U (.array n e):=(ag _ _ h1).desc;obtain⟨b,of,sp⟩:=A;simp only at h5;subst h5;simp only[Instr.indexAt,asIntOf,dA,fq,dv,fk.iC hd,Instr.sureAddr,h3,h4,and_self,cN,(ag _ _ h2).n9,ya]
 simp only[execOp,ho,dA,he,a3];simp only[cE] at h;split at h;rename_i n e aj q i af k m g d hy;rw[d,hy];split at h;rename_i L f;split at h;rename_i z;cases h;simp only[aw,cm] at z;simp only[C.ab,K.ab,al n e aj q L ⟨ad V i,af,Z⟩ k m g f z.1 z.2 rfl,dv,fq];exact h.elim;exact h.elim;rename_i n e aj q Q w i af k m g d hy;rw[d,hy];have an:∀M n,(oC M n).spot=none:=by intro M n;unfold oC;split<;>rfl
 have a0:∀(M:Value)(p q:Nat),(⟨(oC M p).block,(oC M p).off+q,Z⟩:Addr)=oC M (p+q):=by intro M p q;unfold oC;split<;>simp[He]
 split at h;rename_i L f;split at h;rename_i hc;obtain⟨N,rfl⟩:=h;rw[KI] at N;simp only[aw,dE] at hc;obtain⟨⟨⟨h1,h2⟩,h3⟩,-⟩:=hc;subst h1 h2 h3;simp only[K.ab] at N;simp only[C.ab,al n e aj q L _ k (m.ab O) g f N.1 N.2 (an _ _),dv,fq,a0];simp[K.ab];split at h;rename_i m;split at h;rename_i z;cases h;simp only[aw,cm] at z;simp only[C.ab,K.ab,al n e aj q L _ k m g f z.1 z.2 (an _ _),dv,fq,a0,He];exact h.elim;exact h.elim;exact h.elim;rename_i n e aj q Q w i af k m ba g d hy;rw[d,hy];have an:∀M n,(oC M n).spot=none:=by intro M n;unfold oC;split<;>rfl
 have a0:∀(M:Value)(p q:Nat),(⟨(oC M p).block,(oC M p).off+q,Z⟩:Addr)=oC M (p+q):=by intro M p q;unfold oC;split<;>simp[He]
 split at h;rename_i L f;split at h;rename_i z;cases h;simp only[aw,cm] at z;simp only[C.ab,K.ab,al n e aj q L _ k m g f z.1 z.2 (an _ _),dv,fq,a0,He];exact h.elim;exact h.elim;rename_i e aj q Q k m g d hy;rw[d,hy];split at h;rename_i L e' f a4;obtain⟨N,rfl⟩:=h;rw[KI] at N;simp only[K.ab] at N;have hh:=ajJ (sn R av a4) (m.ab O) N.1 N.2;obtain⟨bb,b,af,-,-,⟨l,c,hv⟩,-⟩:=hh;have hd:P.underlying X=U (.slice e):=(ag _ _ g).desc;rw[hv] at N;simp only[lenOf] at N;simp only[C.ab,RE.ab,hv,Instr.indexAt,asIntOf,dA,fq,dv,fk.iC hd,N.1,N.2,and_self,cN,(ag _ _ f).n9,ya,oC,zl];exact h.elim;rename_i e aj q i af bc bd k m g d hy;rw[d,hy];split at h;rename_i L f;split at h;rename_i z;cases h;simp only[aw,cm] at z;have hd:P.underlying X=U (.slice e):=(ag _ _ g).desc;simp only[C.ab,K.ab,Instr.indexAt,asIntOf,dA,fq,dv,fk.iC hd,z.1,z.2,and_self,cN,(ag _ _ f).n9,ya];exact h.elim;exact h.elim;rename_i n e aj q i af k m bf g d hy;rw[d,hy];split at h;rename_i L f;obtain⟨N,rfl⟩:=h;rw[KI] at N;simp only[K.ab] at N;have a9:(C.gg m (C9 n) ((fw n).map λj=>C.loc i (af+j*Y L.aj))).ab O V=.pointer (U ⟨ad V i,af+(m.ab O).toNat*Y L.aj,Z⟩):=by
  simp only[C.ab];rw[TH (ajC N.1 N.2) rfl];rfl
 rw[a9];simp only[C.ab,al n e aj q L ⟨ad V i,af,Z⟩ k (m.ab O) g f N.1 N.2 rfl,dv,fq];exact h.elim;exact h.elim
def avW(R:az G H D u V O s a W)(L:jg P u)(hg:e8 B O){y:Operand}(ho:F.op=.index X r y)(hk:(s.ev B r).eO=E)(an:(s.ev B y).eO=E)
  (h:(cE u B s (.index X r y)).gives O M):(execOp a.eval F).run P W=.ok (.value (M.ab O V)) W:=by
 have he:=du R hg r hk;have a0:=du R hg y an;simp only[execOp,ho,dA,he,a0];simp only[cE] at h;split at h;rename_i n e aj q l k m A w i;rw[w,i];split at h;rename_i b g;split at h;rename_i hm;split at h;rename_i z hp;cases h;simp only[aw,cm] at hm;have d:P.underlying X=U (.array n e):=(L _ _ A).desc;simp only[C.ab,K.ab,Instr.index,asIntOf,dA,fq,dv,fk.iC d,hm.1,hm.2,and_self,cN,(L _ _ g).n9,aae (L _ _ g) hp];exact h.elim;exact h.elim;exact h.elim;rename_i n e aj q l k m ba A w i;rw[w,i];split at h;rename_i b g;split at h;rename_i z c;obtain⟨N,rfl⟩:=h;rw[KI] at N;simp only[K.ab] at N;cases af:E8 ((fw n).map λj=>xO b l (j*Y b.aj)) with
 |none=>rw[af] at c;cases c
 |some ps=>
  rw[af] at c;simp only[Zs] at c;obtain⟨p,a1,a3⟩:=aaj (vs:=fw n) af (by have:=ajC (f:=λj=>j) N.1 N.2;simpa using this);have d:P.underlying X=U (.array n e):=(L _ _ A).desc;rw[ajB (wu R) c a3];simp only[C.ab,Instr.index,asIntOf,dA,fq,dv,fk.iC d,N.1,N.2,and_self,cN,(L _ _ g).n9,aae (L _ _ g) a1]
 exact h.elim;exact h.elim;rename_i aj q Q k m A w i;rw[w,i];split at h;rename_i a4;obtain⟨N,rfl⟩:=h;rw[KI] at N;obtain⟨ag,al⟩:=Fm R a4;unfold RE.ab at al;have d:P.underlying X=U .string:=(L _ _ A).desc;simp only[K.ab,al,lenOf] at N;have a9:(m.ab O).toNat<ag.size:=aa;simp only[C.ab,RE.ab,al,K.ab,Instr.index,asIntOf,dA,fq,dv,fk.iC d,N.1,cN,kL];have:ag[(m.ab O).toNat]?=U ag[(m.ab O).toNat]:=by simp[a9]
 rw[this];rfl;exact h.elim;exact h.elim
def avX(X:BinOp)(R:SX X=J)(t:TypeId)(k:IntKind)(m n:Int):(binOp X t (.int k m) (.int k n)).run P W=.ok (.bool (fy X m n)) W:=by
 cases X<;>simp[SX] at R<;>simp[binOp,Op.intCmp,fy]
def avY(X:BinOp)(R:ZC X=J)(t:TypeId)(k:IntKind)(m n:Int):(binOp X t (.int k m) (.int k n)).run P W=.ok (.int k (aF X k m n)) W:=by
 cases X<;>simp[ZC] at R<;>simp[binOp,Op.intArith,aF]
def ajK(X:BinOp)(R:ZD X=J)(t:TypeId)(k:IntKind)(m n:Int)(Q:n≠0):(binOp X t (.int k m) (.int k n)).run P W=.ok (.int k (aF X k m n)) W:=by
 cases X<;>simp[ZD] at R<;>simp[binOp,Op.intDiv,aF,Q]
def ajL(X:BinOp)(t:TypeId)(x y:Operand)(k:IntKind)(n:Int)(w:Value):(eqGuard X t x y (.int k n) w).run P W=.ok () W:=by cases X<;>rfl
def avZ(X:BinOp)(t:TypeId)(x y:Operand)(n:Bool)(w:Value):(eqGuard X t x y (.bool n) w).run P W=.ok () W:=by cases X<;>rfl
def ajM(X:BinOp)(t:TypeId)(x y:Operand)(n:ByteArray)(w:Value):(eqGuard X t x y (.string n) w).run P W=.ok () W:=by cases X<;>rfl
def ajN(R:P.underlying X=U .bool)(m n:Bool):(E3 X (.bool m) (.bool n)).run P W=.ok (m==n) W:=by
 have:E3 X (.bool m) (.bool n)=C3 (9999+1) X (.bool m) (.bool n):=rfl;rw[this,C3,dA,fk.iC R];rfl
def av0(R:P.underlying X=U .bool)(m n:Bool):(binOp .eql X (.bool m) (.bool n)).run P W=.ok (.bool (m==n)) W:=by
 show((E3 X (.bool m) (.bool n))>>=λb=>(pure (.bool b):Sem Value)).run P W=_;rw[dA,ajN R];rfl
def av1(R:P.underlying X=U .bool)(m n:Bool):(binOp .neq X (.bool m) (.bool n)).run P W=.ok (.bool !(m==n)) W:=by
 show((E3 X (.bool m) (.bool n))>>=λb=>(pure (.bool !b):Sem Value)).run P W=_;rw[dA,ajN R];rfl
def aal(R:jg P u)(h:Od (u X)=J):∃a b c,P.underlying X=U (.func a b c):=by
 unfold Od at h;split at h;rename_i k q Q;obtain⟨d,N,⟨-,M⟩,-,-⟩:=(R _ _ Q).desc;obtain⟨a,b,c,rfl⟩:=M k rfl;exact⟨a,b,c,N⟩;cases h
def aam{x y:Operand}{Q:_}{N:_}{M:_}(L:P.underlying X=U (.func Q N M))(v:Value)(n:Bool)(R:(v=.nilFunc/\n=J)\/(∃f a b,v=.func f a b)/\n=E):
  (do eqGuard .eql X x y v .nilFunc;binOp .eql X v .nilFunc).run P W=.ok (.bool n) W/\(do eqGuard .neq X x y v .nilFunc;binOp .neq X v .nilFunc).run P W=.ok (.bool !n) W:=by
 have H:(E3 X v .nilFunc).run P W=.ok n W:=by
  have G:E3 X v .nilFunc=C3 (9999+1) X v .nilFunc:=rfl;rw[G,C3,dA,fk.iC L,dv];rcases R with⟨rfl,rfl⟩|⟨⟨f,a,b,rfl⟩,rfl⟩<;>rfl
 rcases R with⟨rfl,rfl⟩|⟨⟨f,a,b,rfl⟩,rfl⟩<;>constructor<;>simp[eqGuard,binOp,H]
def ajO{e:K}:∀{ks:bz}{vs:aq},vs.all Ka=J->Y ks=Y vs->
  (kN (e.ab O) ks (C.aE O V vs)=.nilFunc/\(C7 e ks vs).ab O=J)\/((∃f a b,kN (e.ab O) ks (C.aE O V vs)=.func f a b)/\(C7 e ks vs).ab O=E)
 |[],[],_,_=>.inl ⟨rfl,rfl⟩
 |[],_::_,_,h=>by simp at h
 |_::_,[],_,h=>by simp at h
 |k::ks,v::vs,R,M=>by
  simp only[N7,aw] at R;have N:=ajO (e:=e) (ks:=ks) (vs:=vs) R.2 (by simpa using M);have Q:=R.1;unfold Ka at Q;split at Q;rename_i g L;simp only[C.aE,C.ab,kN,C7,BE.ab,fy,K.ab];by_cases X:e.ab O=k;right;simp[X,jr];simp only[X,gf,dE];exact N;simp only[C.aE,C.ab,kN,C7,BE.ab,fy,K.ab];by_cases X:e.ab O=k;left;simp[X,RE.ab,RE.rv,jr];simp only[X,gf,dE];exact N;cases Q
def av2(R:az G H D u V O s a W)(l:jg P u)(hg:e8 B O){z:BinOp}{t2:TypeId}{y:Operand}(ho:F.op=.binOp z X r y t2)(hk:(s.ev B r).eO=E)(ag:(s.ev B y).eO=E)
  (h:(cE u B s (.binOp z X r y t2)).gives O M):(execOp a.eval F).run P W=.ok (.value (M.ab O V)) W:=by
 have he:=du R hg r hk;have al:=du R hg y ag;simp only[execOp,ho];rw[dA,he,al];simp only[cE] at h;split at h;rename_i k m k' n Q N;rw[Q,N];split at h;rename_i an;have a0:z=.shr:=by cases z<;>simp[aja] at an;rfl
 subst a0;split at h;rename_i n;split at h;rename_i A;have af:¬n<0:=by simp only[cm] at A;omega
 cases h;simp only[C.ab,OO,K.ab];rw[dA,ajL,dv];simp[binOp,Op.shift,aF,af];exact h.elim;exact h.elim;split at h;exact h.elim;rename_i a1;have a3:k=k':=by simpa using a1
 subst a3;simp only[C.ab];rw[dA,ajL,dv];split at h;rename_i hc;cases h;simp only[avX z hc,dv,fq,C.ab,Ds];split at h;rename_i hc;cases h;simp only[avY z hc,dv,fq,C.ab,OO];split at h;rename_i hc;split at h;rename_i n;split at h;exact h.elim;rename_i A;cases h;have af:n≠0:=by simpa using A
 simp only[C.ab,OO,K.ab];rw[ajK z hc _ _ _ _ af];rfl;obtain⟨hb,rfl⟩:=h;rw[Ds] at hb;have af:n.ab O≠0:=by simpa[fy,K.ab] using hb
 simp only[C.ab,OO];rw[ajK z hc _ _ _ _ af];rfl;exact h.elim;rename_i m n Q N;rw[Q,N];simp only[C.ab];rw[dA,avZ,dv];split at h;rename_i q j;cases h;obtain⟨d,L,-,-,hb⟩:=(l _ _ j).desc;rw[hb rfl] at L;rw[av0 L];simp[C.ab,aag];rename_i q j;cases h;obtain⟨d,L,-,-,hb⟩:=(l _ _ j).desc;rw[hb rfl] at L;rw[av1 L];simp[C.ab,aag,OP];exact h.elim;rename_i Q N;rw[Q,N];split at h;exact h.elim;rename_i w;obtain⟨d1,d2,d3,L⟩:=aal l (by simpa using w);obtain⟨q1,q2⟩:=aam (x:=r) (y:=y) (W:=W) L .nilFunc J (.inl ⟨rfl,rfl⟩);have A:C.ab O V (.ah (.k .nilFunc))=.nilFunc:=rfl;rw[A];split at h;cases h;rw[q1];rfl;cases h;rw[q2];rfl;exact h.elim;rename_i m n ba Q N;rw[Q,N];split at h;rename_i i g;cases h;obtain⟨p,c⟩:=Fm R i;obtain⟨q,b⟩:=Fm R g;simp only[C.ab,c,b];rw[dA,ajM,dv];unfold RE.ab at c b;simp[binOp,Op.stringOp,BE.ab,c,b,tM];rename_i i g;cases h;obtain⟨p,c⟩:=Fm R i;obtain⟨q,b⟩:=Fm R g;simp only[C.ab,c,b];rw[dA,ajM,dv];unfold RE.ab at c b;simp[binOp,Op.stringOp,BE.ab,c,b,tM];exact h.elim;rename_i f a4 Q N;rw[Q,N];split at h;exact h.elim;rename_i w;obtain⟨d1,d2,d3,L⟩:=aal l (by simpa using w);obtain⟨q1,q2⟩:=aam (x:=r) (y:=y) (W:=W) L ((C.fn f a4).ab O V) E (.inr ⟨⟨_,_,_,rfl⟩,rfl⟩);have A:C.ab O V (.ah (.k .nilFunc))=.nilFunc:=rfl;rw[A];split at h;cases h;rw[q1];rfl;cases h;rw[q2];rfl;exact h.elim;rename_i e ks vs Q N;rw[Q,N];split at h;rename_i w;simp only[aw,dE] at w;obtain⟨d1,d2,d3,L⟩:=aal l w.2;have a9:=ajO (O:=O) (V:=V) (e:=e) w.1.1 w.1.2;obtain⟨q1,q2⟩:=aam (x:=r) (y:=y) (W:=W) L (kN (e.ab O) ks (C.aE O V vs)) ((C7 e ks vs).ab O) a9;have A:C.ab O V (.ah (.k .nilFunc))=.nilFunc:=rfl;rw[A,C.ab];split at h;cases h;rw[q1];rfl;cases h;rw[q2];simp[C.ab,OP];exact h.elim;exact h.elim;rename_i m n Q N;rw[Q,N];simp only[C.ab];split at h;rename_i e he;cases h;obtain⟨aj,d,j,i,g,h3⟩:=ajI R he;have:=((l _ _ j).eq rfl _ _ _ r y W i g h3).1;rw[this];rfl;rename_i e he;cases h;obtain⟨aj,d,j,i,g,h3⟩:=ajI R he;have:=((l _ _ j).eq rfl _ _ _ r y W i g h3).2;rw[this];simp[C.ab,OP];exact h.elim;exact h.elim
end
section
variable{d:ar}{g:World}{D:cg}{P:Program}{b:Ty}{B:nu}{V:ar}{O:ai}{s:S}{a:Act}{W:World}
def TJ(X:∀r:RE,r.Hn=J->jr (r.ab O)=J)(h:M.Ho=J):(M.ab O V).cells.toList=C.aE O V M.cells:=by
 cases M with
 |agg l=>simp[C.ab,C.cells,Value.cells]
 |ah r=>
  have:jr (r.ab O)=true:=X r (by cases r<;>simp_all[C.Ho,RE.Hn]);simp only[C.ab,C.cells,C.aE];revert this;cases r.ab O<;>simp[jr,Value.cells]
 |gg e R Q=>
  simp only[C.ab,C.cells,C.aE];exact avI (aad _ _ _)
 |_=>simp[C.ab,C.cells,Value.cells,C.aE,undef]
def ajP:∀(M l:aq)(R:Nat),C.aE O V (lI l R M)=(C.aE O V M).zipIdx.foldl (λQ x=>Q.set (R+x.2) x.1) (C.aE O V l)
 |[],l,R=>by simp[lI,C.aE]
 |v::M,l,R=>by
  rw[lI,ajP M (l.set R v) (R+1)];simp only[C.aE,List.zipIdx_cons,EZ,zl,iX];rw[show C.aE O V (l.set R v)=(C.aE O V l).set R (v.ab O V) by simp[pJ]];generalize(C.aE O V l).set R (v.ab O V)=X;have:∀(N:gt)(n:Nat)(X:gt),(N.zipIdx n).foldl (λQ x=>Q.set (R+1+x.2) x.1) X=(N.zipIdx (n+1)).foldl (λQ x=>Q.set (R+x.2) x.1) X:=by
   intro N;induction N with
   |nil=>intro n X;rfl
   |cons w N L=>intro n X;simp only[List.zipIdx_cons,EZ];rw[L,show R+1+n=R+(n+1) from aa]
  exact this _ 0 X
def ajQ:∀(l:List (Value×Nat))(R:Nat)(X:mI),(l.foldl (λQ (x:Value×Nat)=>Q.setIfInBounds (R+x.2) x.1) X).toList=l.foldl (λQ x=>Q.set (R+x.2) x.1) X.toList
 |[],_,_=>rfl
 |x::l,R,X=>by simp only[EZ];rw[ajQ l R];simp
def OS(R:∀r:RE,r.Hn=J->jr (r.ab O)=J)(place:Nat->Option (Nat×Nat)):∀(parts:List (Nat×C))(cells l:aq),zn place cells parts=U l->
  Instr.fill place (C.aE O V cells).toArray (parts.map λp=>(p.1,p.2.ab O V))=U (C.aE O V l).toArray
 |[],cells,l,h=>by simp[zn] at h;simp[Instr.fill,h]
 |(i,v)::L,cells,l,h=>by
  simp only[zn] at h;cases X:place i with
  |none=>rw[X] at h;cases h
  |some q=>
   obtain⟨Q,H⟩:=q;rw[X] at h;simp only at h;split at h;cases h;rename_i N;simp only[jy,bne_iff_ne,cm,ik,not_or,G8,Decidable.not_not,Nat.not_lt] at N;obtain⟨⟨G,y⟩,F⟩:=N;have M:=TJ (V:=V) R F;have B:(v.ab O V).cells.size=H:=by rw[<-EX,M];simp[G]
   simp only[dU,Instr.fill,X,B];rw[aQ dh];have A:=OS R place L _ l h;rw[<-A];congr 1;apply nq;have e:((v.ab O V).cells.zipIdx.foldl (λz (x:Value×Nat)=>z.setIfInBounds (Q+x.2) x.1) (C.aE O V cells).toArray).toList=C.aE O V (lI cells Q v.cells):=by
    rw[<-aIy,ajQ,ajP,Array.toList_zipIdx,M]
   simpa using e
def av3(c:CT):(C5 c).ab O V=rm c:=by cases c<;>simp[C5,C.ab,rm,K.ab,BE.ab,RE.ab,RE.rv]
def ajR(X:TI):C.aE O V (eA X)=X.aj.map rm:=by
 simp only[eA,pJ,ov];congr 1;funext c;exact av3 c
def KL(h:fk P X v):∃z,(zeroValue X).run P W=.ok z W/\z.cells=(C.aE O V (eA v)).toArray:=by
 obtain⟨i,R,-,z,Q,N⟩:=h.KH;exact⟨z,by simp[zeroValue,typeInfo,R,Q],by rw[ajR,<-N]⟩
def av4(R:az d g D b V O s a W)(H:jg P b)(hg:e8 B O){parts:Array (Nat×Operand)}(ho:F.op=.build X parts)(hk:∀p∈parts.toList,(s.ev B p.2).eO=E)
  (h:(cE b B s (.build X parts)).gives O M):(execOp a.eval F).run P W=.ok (.value (M.ab O V)) W:=by
 have c:(parts.map λ(i,x)=>(i,a.eval x)).toList=(parts.toList.map λp=>(p.1,s.ev B p.2)).map λp=>(p.1,p.2.ab O V):=by
  simp only[xG,ov];apply jT;intro p hp;simp[du R hg p.2 (hk p hp)]
 simp only[execOp,ho,dA];simp only[cE] at h;split at h;rename_i y aj q G;split at h;exact h.elim;rename_i u;have u:∀f∈y,(b f.2).isSome=true:=by
  have:(y.all λf=>(b f.2).isSome)=true:=by simpa only[ik,G8] using u
  exact fO.1 this
 split at h;rename_i l N;cases h;obtain⟨Q,hF,af⟩:=(H _ _ G).desc;obtain⟨z,r,k⟩:=KL (P:=P) (W:=W) (O:=O) (V:=V) (H _ _ G);have al:∀(L:List Field),(∀f∈L,∃A,b f.type=U A)->(L.mapM (m:=Sem) λf=>do pure (f.offset,<-Go.sizeOf f.type)).run P W=.ok (L.map λf=>(f.offset,((b f.type).map (·.aj.length)).getD 0)) W:=by
  intro L hL;induction L with
  |nil=>rfl
  |cons f L ih=>
   obtain⟨A,w⟩:=hL f av;have:=ih (λf N=>hL f (by simp[N]));simp only[avk,dA,(H _ _ w).n9,dv,fq,this,dU,w,eh,pu]
 have ag:∀f∈Q.toList,∃A,b f.type=U A:=by
  intro f N;have:(f.offset,f.type)∈y:=by rw[<-af];exact iq.2 ⟨f,N,rfl⟩
  have:=u _ this;exact ln.1 this
 have hm:=al Q.toList ag;have j:=OS (V:=V) (wu R) _ _ _ _ N;simp only[Instr.build,dA,r,dv,fk.iC hF,aId,Sem.run_map,hm,c,k];have an:(λi=>(Q.toList.map λf=>(f.offset,((b f.type).map (·.aj.length)).getD 0)).toArray[i]?)=ZE b y:=by
  funext i;rw[<-af,ZE];simp only[aiN,dW];cases hi:Q.toList[i]? with
  |none=>simp
  |some f=>
   obtain⟨A,w⟩:=ag f (jI hi);simp[w]
 rw[an,j];simp[C.ab];exact h.elim;rename_i n e aj q G;split at h;rename_i te a0;split at h;rename_i l N;cases h;obtain⟨z,r,k⟩:=KL (P:=P) (W:=W) (O:=O) (V:=V) (H _ _ G);have hd:P.underlying X=U (.array n e):=(H _ _ G).desc;have j:=OS (V:=V) (wu R) _ _ _ _ N;simp only[Instr.build,dA,r,dv,fk.iC hd,(H _ _ a0).n9,c,k,j];simp[C.ab];exact h.elim;exact h.elim;exact h.elim
def av5(R:az d g D b V O s a W)(H:jg P b)(w:e8 B O){Q L u:Option Operand}(f:F.op=.slice X r Q L u)(c:(s.ev B r).eO=E)(af:∀y,Q=U y->(s.ev B y).eO=E)
  (h:(cE b B s (.slice X r Q L u)).gives O M):(execOp a.eval F).run P W=.ok (.value (M.ab O V)) W:=by
 have he:=du R w r c;simp only[execOp,f,dA,he];simp only[cE] at h;split at h;rename_i n e aj q i a0 ht hx;rw[hx];have p:P.underlying X=U (.array n e):=(H _ _ ht).desc;split at h;rename_i te G N A;cases h;have ag:Q=none:=by simpa using N
 have z:L=none:=by simpa using A
 subst ag z;simp[C.ab,Instr.sliceAt,fk.iC p,Instr.sureAddr,Instr.sliceBounds,(H _ _ G).n9,ya];rename_i te k l G N A;split at h;rename_i m;cases h;simp only[aw,cm] at m;have z:L=none:=by simpa using A
 subst z;cases Q with
 |none=>cases N
 |some y=>
  simp only[eh,cU] at N;have j:=du R w y (af y rfl);rw[N] at j;have al:l<=n:=aa;have an:¬n=l.toNat:=aa;simp[C.ab,K.ab,Instr.sliceAt,fk.iC p,Instr.sureAddr,Instr.sliceBounds,Instr.sliceBound,asIntOf,j,m.1,al,(H _ _ G).n9,ya,an]
 exact h.elim;exact h.elim;exact h.elim
def av6(R:az d g D b V O s a W)(y:jg P b)(p:e8 B O){c:Call}(m:F.op=.call c)(u:c.callee=.builtin .len)(k:∀x∈c.args.toList,(s.ev B x).eO=E)
  (h:(cE b B s (.call c)).gives O M):(execOp a.eval F).run P W=.ok (.value (M.ab O V)) W:=by
 have j:c.args.map a.eval=((c.args.toList.map (s.ev B)).map (C.ab O V)).toArray:=by
  apply nq;simp only[xG,ov];exact jT λx f=>du R p x (k x f)
 simp only[execOp,m,resolve,u,dA,fq,dv,invoke,builtin,j];simp only[cE,u] at h;split at h;rename_i t L H;have N:c.argTypes[0]?=U t:=by have:=kh (λl=>l[0]?) L;simpa using this
 rw[H];split at h;rename_i e aj q X;cases h;have Q:P.underlying t=U (.slice e):=(y _ _ X).desc;simp[Builtin.len_,N,C.ab,K.ab,RE.ab,RE.rv,fk.iC Q,goInt];exact h.elim;rename_i t r af L H;have N:c.argTypes[0]?=U t:=by have:=kh (λl=>l[0]?) L;simpa using this
 rw[H];split at h;rename_i e aj q e' X w;cases h;have Q:P.underlying t=U (.slice e):=(y _ _ X).desc;obtain⟨A,l,cc,G⟩:=OQ R w;have z:=G;unfold RE.ab at z;simp[Builtin.len_,N,C.ab,K.ab,G,z,fk.iC Q,lenOf,goInt];rename_i aj q X w;cases h;have Q:P.underlying t=U .string:=(y _ _ X).desc;obtain⟨ag,G⟩:=Fm R w;have z:=G;unfold RE.ab at z;simp[Builtin.len_,N,C.ab,K.ab,G,z,fk.iC Q,lenOf,goInt];exact h.elim;rename_i t i al n an L H;have N:c.argTypes[0]?=U t:=by have:=kh (λl=>l[0]?) L;simpa using this
 rw[H];split at h;rename_i e aj q X;cases h;have Q:P.underlying t=U (.slice e):=(y _ _ X).desc;simp[Builtin.len_,N,C.ab,K.ab,fk.iC Q,goInt];exact h.elim;exact h.elim
def ajS(R:az d g D b V O s a W)(G:e8 B O){c:Call}(L:F.op=.call c)(X:c.callee=.builtin .min\/c.callee=.builtin .max)(A:∀x∈c.args.toList,(s.ev B x).eO=E)
  (h:(cE b B s (.call c)).gives O M):(execOp a.eval F).run P W=.ok (.value (M.ab O V)) W:=by
 have H:c.args.map a.eval=((c.args.toList.map (s.ev B)).map (C.ab O V)).toArray:=by
  apply nq;simp only[xG,ov];exact jT λx z=>du R G x (A x z)
 rcases X with X|X;simp only[execOp,L,resolve,X,dA,fq,dv,invoke,builtin,H];simp only[cE,X] at h;split at h;rename_i k x l Q;rw[Q];split at h;rename_i e N;cases h;have:=aah (P:=P) (W:=W) (O:=O) (V:=V) E k l x e N;simp only[jp,gf] at this;simp only[dU,C.ab,Builtin.min_,<-pJ,this,dv];exact h.elim;exact h.elim;simp only[execOp,L,resolve,X,dA,fq,dv,invoke,builtin,H];simp only[cE,X] at h;split at h;rename_i k x l Q;rw[Q];split at h;rename_i e N;cases h;have:=aah (P:=P) (W:=W) (O:=O) (V:=V) J k l x e N;simp only[cN] at this;simp only[dU,C.ab,Builtin.max_,<-pJ,this,dv];exact h.elim;exact h.elim
end
section
variable{g:ar}{A:World}{D:cg}{P:Program}{f:Ty}{B:nu}{V:ar}{O:ai}{s:S}{a:Act}{W:World}
def aan{l:bz}(h:t=E->Y l=1):xZ (ij t l)=l:=by
 cases t;obtain⟨x,rfl⟩:=oR.1 (h rfl);rfl;simp[ij,xZ,Function.comp_def,bn]
def aao{x y z:K}(h:Hu R t M=U (x,y,z)):M.ab O V=ij t ([x.ab O,y.ab O,z.ab O].take R)/\([x.ab O,y.ab O,z.ab O].take R).length=R:=by
 unfold Hu at h;split at h;split at h;rename_i X;cases h;simp only[aw,dE,ik] at X;obtain⟨rfl,rfl⟩:=X;simp[ij,C.ab];cases h;split at h;rename_i X;cases h;simp only[aw,dE] at X;obtain⟨rfl,rfl⟩:=X;simp[ij,C.ab,C.aE];cases h;split at h;rename_i X;cases h;simp only[aw,dE] at X;obtain⟨rfl,rfl⟩:=X;simp[ij,C.ab,C.aE];cases h;split at h;rename_i X;cases h;simp only[aw,dE] at X;obtain⟨rfl,rfl⟩:=X;simp[ij,C.ab,C.aE];cases h;cases h
def aap:∀{l:tC}{m:Nat}{e:MapEntry},e∈gI m l->∃p∈l,e.key=p.1
 |[],m,e,h=>by simp[gI] at h
 |x::r,m,e,h=>by
  simp only[gI,dP] at h;rcases h with rfl|h;exact⟨x,av,rfl⟩;obtain⟨p,X,R⟩:=aap h;exact⟨p,by simp[X],R⟩
def Fo(n:Nat)(X:aC):Prop:=∃l:bz,Y l=n/\X.take n=l.map λx=>.mk (.int I x) []
def OT{ag:Bool}(M:ag=E->R=1){X:aC}(h:Fo R X):∃l:bz,Y l=R/\rk ag (X.take R)=ij ag l/\(X.take R).map (λc=>bn c.val)=l:=by
 obtain⟨l,Q,N⟩:=h;refine⟨l,Q, ?_,by rw[N];simp[Function.comp_def,bn]⟩;rw[N];cases ag;obtain⟨x,rfl⟩:=oR.1 (Q.trans (M rfl));rfl;simp[rk,ij,Function.comp_def]
def ajT{n:Nat}{Q va:Bool}(N:Q=E->n=1){R:bz}(H:(R.take n).length=n):∀{rows:au}{m i:Nat},(∀X∈rows,Fo n X)->
  (iR n R rows=Z/\oE (R.take n) (gI m (rows.map (wq n Q va))) i=Z)\/∃X j,iR n R rows=U X/\X∈rows/\oE (R.take n) (gI m (rows.map (wq n Q va))) i=U (j,rk va (X.drop n))
 |[],m,i,_=>.inl ⟨rfl,rfl⟩
 |X::rows,m,i,h=>by
  obtain⟨l,G,F,B⟩:=OT (ag:=Q) N (h X av);simp only[iR,J2,dU,gI,oE,wq,F];rw[aan (λe=>G.trans (N e))];have A:kM n R X=decide (l=R.take n):=by simp only[kM,B]
  rw[A];by_cases L:l=R.take n;right;simp only[L,decide_true,cN];exact⟨X,i,rfl,av,rfl⟩;simp only[L,decide_false,gf];rcases ajT (rows:=rows) (m:=m+1) (i:=i+1) (va:=va) N H (λr z=>h r (by simp[z])) with M|⟨r,j,M,y,x⟩;exact .inl M;exact .inr ⟨r,j,M,by simp[y],x⟩
def ajU(O:ai)(V:ar){k e:TypeId}(F:P.underlying X=U (.map k e))(B:uR P k R t)(A:fk P e v){l:tC}(y:W.heap[Q]?=U (qw l)){L:bz}(u:Y L=R)
  (q:∀p∈l,∃M:bz,Y M=R/\p.1=ij t M)(H:Bool):
  ∃z,(zeroValue e).run P W=.ok z W/\(Instr.lookup X (.map (U Q)) (ij t L) H).run P W=.ok (let r:=match oE L (gI 0 l) 0 with
   |U (_,N)=>(N,J)
   |none=>(z,E);if H then .tuple #[r.1,.bool r.2] else r.1) W:=by
 obtain⟨z,G,af⟩:=KL (P:=P) (W:=W) (O:=O) (V:=V) A;refine⟨z,G, ?_⟩;have o:∀x∈gI 0 l,∃M:bz,Y M=R/\x.key=ij t M:=λx m=>by
  obtain⟨p,i,h⟩:=aap m;obtain⟨M,g,f⟩:=q p i;exact⟨M,g,h.trans f⟩
 obtain⟨d,c⟩:=B.2 L (gI 0 l) W u o;have hg:=MapKept.run_getObj_map (P:=P) (w:=W) y;simp only[Instr.lookup,dA,fk.iC F,dv,hg,fq,d,c];cases hf:oE L (gI 0 l) 0 with
 |none=>simp[G]
 |some p=>obtain⟨j,N⟩:=p;simp
structure HY(f:Ty)(sh:Sh)(row:aC):Prop where
 len:Y row=(bD f (.mr sh)).length
 int:∀(j:Nat)(c:RV)(k:IntKind),row[j]?=U c->(bD f (.mr sh))[j]?=U (.int k)->∃n,c=.mk (.int k n) []
 bool:∀(j:Nat)(c:RV),row[j]?=U c->(bD f (.mr sh))[j]?=U .bool->∃x,c=.mk (.bool x) []
def av7{R:Sh}(h:bJ W f (.mr R) L):∀X∈L.ac,HY f R X:=by
 cases h with
 |mr R A H G F z=>
  intro X B;obtain⟨i,Q⟩:=tB B;exact⟨H i X Q,λj c k N M=>G i j X c k Q N M,λj c N M=>F i j X c Q N M⟩
def HZ(R:az g A D f V O s a W){X:Sh}{r:RE}(h:r.oT f s X=J):∀Q∈(r.rv O).ac,HY f X Q:=by
 unfold RE.oT at h;rcases au1.1 h with h|h;exact av7 (sn R av (uE h));unfold RE.nil at h;split at h;intro Q N;simp[RE.rv] at N;cases h
def KM{e:TypeId}{va:Bool}(Q:tE f X R t=J)(M:f e=U v):∃N:fj,bD f (.mr ⟨X,e,R,t,va⟩)=N++v.aj/\Y N=R/\∀c∈N,c=.int I:=by
 unfold tE at Q;split at Q;rename_i tk L;simp only[aw,dE] at Q;refine⟨tk.aj,by simp[bD,L,M],Q.1.1,λc H=> ?_⟩;have:=fO.1 Q.1.2 c H;unfold ZG at this;split at this;rfl;cases this;cases Q
def KN{e:TypeId}{N:Bool}(G:tE f X R t=J)(F:f e=U v){Q:aC}(h:HY f ⟨X,e,R,t,N⟩ Q):Fo R Q:=by
 obtain⟨u,M,B,A⟩:=KM (va:=N) G F;have z:=h.len;rw[M,gc,B] at z;refine⟨(Q.take R).map λc=>bn c.val,dh, ?_⟩;apply kG;intro j;rw[dW,dW,nj];by_cases L:j<R;rw[aJ L];have H:j<Y Q:=aa;rw[cS H];have y:(bD f (.mr ⟨X,e,R,t,N⟩))[j]?=U (.int I):=by
  rw[M,dH aa,cS aa];congr 1;exact A _ (ql _)
 obtain⟨x,w⟩:=h.int j _ I (cS H) y;simp only[eh,w,RV.nC,bn];rw[aQ L];rfl
def aaq{r:RE}{n:Nat}{x y z:K}{R:aC}(L:iR n [x.ab O,y.ab O,z.ab O] (r.rv O).ac=U R):∀{aj:fj}{j:Nat},aj.all nx=J->Y R=j+Y aj->
  (∀(i:Nat)(k:IntKind),aj[i]?=U (.int k)->∃m,R[j+i]?=U (.mk (.int k m) []))->(∀(i:Nat),aj[i]?=U .bool->∃m,R[j+i]?=U (.mk (.bool m) []))->
  C.aE O V (qZ r n x y z j aj)=(R.drop j).map RV.val
 |[],j,_,Q,_,_=>by rw[auX (by simp at Q;omega)];rfl
 |.int k::aj,j,N,Q,H,G=>by
  obtain⟨m,X⟩:=H 0 k rfl;have F:=aaq L (aj:=aj) (j:=j+1) (by simpa[nx] using N) (by simp at Q⊢;omega) (λi k h=>by have:=H (i+1) k (by simpa using h);rwa [show j+(i+1)=j+1+i from aa] at this) (λi h=>by have:=G (i+1) (by simpa using h);rwa [show j+(i+1)=j+1+i from aa] at this);have B:R.drop j=.mk (.int k m) []::R.drop (j+1):=by
   rw[zl] at X;have M:=(ck.1 X).1;rw[CU M];congr 1;rw[cS M] at X;simpa using X
  rw[zl] at X;simp only[qZ,C.aE,C.ab,K.ab,L,F,B,dU,RV.nC,cz,X,pu,bn]
 |.bool::aj,j,N,Q,H,G=>by
  obtain⟨m,X⟩:=G 0 rfl;have F:=aaq L (aj:=aj) (j:=j+1) (by simpa[nx] using N) (by simp at Q⊢;omega) (λi k h=>by have:=H (i+1) k (by simpa using h);rwa [show j+(i+1)=j+1+i from aa] at this) (λi h=>by have:=G (i+1) (by simpa using h);rwa [show j+(i+1)=j+1+i from aa] at this);have B:R.drop j=.mk (.bool m) []::R.drop (j+1):=by
   rw[zl] at X;have M:=(ck.1 X).1;rw[CU M];congr 1;rw[cS M] at X;simpa using X
  rw[zl] at X;simp only[qZ,C.aE,C.ab,BE.ab,L,F,B,dU,RV.nC,cz,X,pu,gH]
 |.ae _ _::aj,j,N,_,_,_=>by simp[nx] at N
def aar{r:RE}{n:Nat}{x y z:K}(R:iR n [x.ab O,y.ab O,z.ab O] (r.rv O).ac=Z):∀{aj:fj}{j:Nat},aj.all nx=J->C.aE O V (qZ r n x y z j aj)=aj.map rm
 |[],j,_=>rfl
 |.int k::aj,j,X=>by
  simp only[qZ,C.aE,C.ab,K.ab,R,dU,rm,aar R (aj:=aj) (j:=j+1) (by simpa[nx] using X)]
 |.bool::aj,j,X=>by
  simp only[qZ,C.aE,C.ab,BE.ab,R,dU,rm,aar R (aj:=aj) (j:=j+1) (by simpa[nx] using X)]
 |.ae _ _::aj,j,X=>by simp[nx] at X
def TK{r:RE}{n:Nat}{x y z:K}:∀{aj:fj}{j:Nat},(qZ r n x y z j aj).length=Y aj
 |[],j=>rfl
 |.int _::aj,j=>by simp[qZ,TK (aj:=aj)]
 |.bool::aj,j=>by simp[qZ,TK (aj:=aj)]
 |.ae _ _::aj,j=>by simp[qZ,TK (aj:=aj)]
def aas(h:fk P X v)(R:(zeroValue X).run P W=.ok c W):c=if v.d.isAgg then .agg (v.aj.map rm).toArray else(v.aj.map rm).headD undef:=by
 obtain⟨i,Q,-,M,N,L⟩:=h.KH;have H:c=M:=by simp[zeroValue,typeInfo,Q,N] at R;exact R.symm
 subst H;have G:=h.ajx i c Q N;rw[<-G,<-L];cases c<;>simp[Tz,Value.cells]
def Bu(h:fk P X v)(Q:v.d.isAgg=E):Y v.aj=1:=by
 obtain⟨i,N,H,z,M,L⟩:=h.KH;have:=h.ajx i z N M;rw[Q] at this;have R:=kh Y L;simp only[qX] at R;rw[<-R];cases z<;>simp[Tz] at this<;>rfl
def KO:∀{R:aq}{X:bz},rf R=U X->Dp (C.aE O V R)=(X.zip (mJ R)).map (λp=>(.int I p.1,p.2.ab O V))/\Y X=(mJ R).length
 |[],X,h=>by simp[rf] at h;subst h;exact⟨rfl,rfl⟩
 |[v],X,h=>by unfold rf at h;split at h<;>simp_all
 |u::v::r,X,h=>by
  unfold rf at h;split at h;rename_i Q;cases Q;rename_i k H G Q;cases Q;cases N:rf r with
  |none=>rw[N] at h;cases h
  |some F=>
   rw[N] at h;simp only[eh,cU] at h;subst h;obtain⟨M,L⟩:=KO N;exact⟨by simp only[C.aE,C.ab,K.ab,Dp,M,mJ,Zo,dU],by simp[mJ,L]⟩
  cases h
def ajV{x:Int}:∀{ks:bz}{vs:aq}{m i:Nat},(oE [x] (gI m ((ks.zip vs).map λp=>(.int I p.1,p.2.ab O V))) i).map (·.2)=(eY x ks vs).map (C.ab O V)
 |[],vs,m,i=>by simp[gI,oE,eY]
 |_::_,[],m,i=>by simp[gI,oE,eY]
 |k::ks,v::vs,m,i=>by
  simp only[Zo,dU,gI,oE,xZ,xH,and_true,eY];by_cases h:x=k;subst h;simp;rw[aQ (λe=>h e.symm),aQ h];exact ajV
def Fp{r:RE}{X:Bool}:me wa (C.dO O V [.ah r,.int I (.c (R:Int)),.bool (.c t),.bool (.c X)])=qw ((r.rv O).ac.map (wq R t X)):=by
 simp[me,wa,uG,C.dO,C.hJ,C.ab,K.ab,BE.ab]
def Fq:me uG (C.dO O V w)=qw (Dp (C.aE O V w)):=by
 simp only[me,cN,ajv]
def av8(R:az g A D f V O s a W)(a9:jg P f)(hg:e8 B O){ix:Operand}(ho:F.op=.lookup X r ix t)(hk:(s.ev B r).eO=E)(b2:(s.ev B ix).eO=E)
  (h:(cE f B s (.lookup X r ix t)).gives O M):(execOp a.eval F).run P W=.ok (.value (M.ab O V)) W:=by
 have he:=du R hg r hk;have b3:=du R hg ix b2;simp only[execOp,ho,dA,he,b3];simp only[cE] at h;split at h;rename_i k e n ag aj q i ht hx;rw[hx];have hd:P.underlying X=U (.map k e):=(a9 _ _ ht).desc;have hK:uR P k n ag:=(a9 _ _ ht).key k e n ag rfl;unfold S2 at h;split at h;rename_i N H xb xc bt cs g1 g2 g3;have af:=a9 _ _ g1;split at h;exact h.elim;rename_i a3;have a3:tE f k n ag=true:=by simpa using a3
 obtain⟨b4,ba⟩:=aao (O:=O) (V:=V) g2;have an:=R.mem.box i bt cs g3;simp only[C.ab,b4];split at h;rename_i a0;simp only[dE] at a0;subst a0;split at h;rename_i Q nk ka va;split at h;rename_i bg;simp only[aw,dE] at bg;obtain⟨⟨⟨⟨⟨c1,c2⟩,c3⟩,c4⟩,c5⟩,-⟩:=bg;subst c2 c3 c4;rw[Fp] at an;have bk:=HZ R c1;have bl:∀G∈(Q.rv O).ac,Fo n G:=λG hr=>KN a3 g1 (bk G hr)
 obtain⟨z,hz,bb⟩:=ajU O V hd hK af an ba (λp hp=>by
  obtain⟨G,hr,rfl⟩:=iq.1 hp;obtain⟨l,q1,q2,-⟩:=OT hK.1 (bl G hr);exact⟨l,q1,q2⟩) t
 rw[bb];simp only[SZ,PR.gives] at h;subst h;have a4:N.d.isAgg=E->(qZ Q n H xb xc n N.aj).length=1:=λha=>by rw[TK];exact Bu af ha
 rcases ajT (m:=0) (i:=0) (va:=N.d.isAgg) hK.1 ba bl with⟨f1,f2⟩|⟨G,j,f1,f2,f3⟩;have hv:(tD N.d.isAgg (qZ Q n H xb xc n N.aj)).ab O V=z:=by
  rw[Dt a4,aar f1 c5];exact(aas af hz).symm
 simp only[f2];cases t;simp only[jp,gf,hv];rfl;simp only[cN,C.ab,C.aE,hv,BE.ab,f1];rfl;obtain⟨kc,r1,r2,r3⟩:=KM (va:=N.d.isAgg) a3 g1;have bc:=bk G f2;have b5:Y G=n+Y N.aj:=by rw[bc.len,r1,gc,r2]
 have br:∀(m:Nat)(ct:CT),N.aj[m]?=U ct->(bD f (.mr ⟨k,e,n,_,N.d.isAgg⟩))[n+m]?=U ct:=λm ct hm=>by
  rw[r1,iE aa,r2,show n+m-n=m from aa];exact hm
 have bs:∀(m:Nat)(ct:CT),N.aj[m]?=U ct->∃c,G[n+m]?=U c:=λm ct hm=>by
  have:m<Y N.aj:=(ck.1 hm).1;exact⟨G[n+m]' aa,cS _⟩
 have b6:=aaq (V:=V) f1 (aj:=N.aj) (j:=n) c5 b5 (λm kk hm=>by
  obtain⟨c,hc⟩:=bs m _ hm;obtain⟨x',bd⟩:=bc.int (n+m) c kk hc (br m _ hm);exact⟨x',by rw[hc,bd]⟩) (λm hm=>by
  obtain⟨c,hc⟩:=bs m _ hm;obtain⟨x',bd⟩:=bc.bool (n+m) c hc (br m _ hm);exact⟨x',by rw[hc,bd]⟩)
 have hv:(tD N.d.isAgg (qZ Q n H xb xc n N.aj)).ab O V=rk N.d.isAgg (G.drop n):=by
  rw[Dt a4,b6,rk];cases b7:N.d.isAgg;have h1:=Bu af b7;obtain⟨c,hc⟩:=oR.1 (show(G.drop n).length=1 from dh);rw[hc];rfl;rfl
 simp only[f3];cases t;simp only[jp,gf,hv];rfl;simp only[cN,C.ab,C.aE,hv,BE.ab,f1];rfl;exact h.elim;exact h.elim;split at h;rename_i a0;simp only[dE] at a0;subst a0;split at h;rename_i bx;simp only[aw,dE,ik] at bx;obtain⟨rfl,rfl⟩:=bx;rw[Fq] at an;split at h;rename_i v0 y L;simp only[SZ,PR.gives] at h;subst h;unfold ajb at L;split at L;rename_i ks b8;obtain⟨p1,p2⟩:=KO (O:=O) (V:=V) b8;rw[p1] at an;obtain⟨z,hz,bb⟩:=ajU O V hd hK af an ba (λp hp=>by
  obtain⟨u,b,rfl⟩:=iq.1 hp;exact⟨[u.1],rfl,rfl⟩) t
 rw[bb];have al:=ajV (O:=O) (V:=V) (x:=H.ab O) (ks:=ks) (vs:=mJ cs) (m:=0) (i:=0);have b0:(∀u,eY (H.ab O) ks (mJ cs)=U u->v0.ab O V=u.ab O V/\y.ab O=J)/\(eY (H.ab O) ks (mJ cs)=Z->v0.ab O V=z/\y.ab O=E):=by
  split at L;rename_i x0;simp only[K.ab] at*;split at L;rename_i u b;cases L;exact⟨λu' a1=>by rw[b] at a1;cases a1;exact⟨rfl,rfl⟩,λhn=>by rw[b] at hn;cases hn⟩;rename_i b;cases L;refine⟨λu' a1=>(by rw[b] at a1;cases a1),λ_=>⟨?_,rfl⟩⟩;rw[Dt (λha=>by simp[eA];exact Bu af ha),ajR];exact(aas af hz).symm;rename_i cf;split at L;rename_i ca;cases bf:C8 H ks ((mJ cs).map C.cells) 0 N.aj with
  |none=>rw[bf] at L;cases L
  |some l=>
   rw[bf] at L;simp only[eh,cU,C2] at L;obtain⟨rfl,rfl⟩:=L;obtain⟨s0,s1,s2⟩:=TE (O:=O) (V:=V) bf;rw[TC] at s1 s2;have a4:N.d.isAgg=E->Y l=1:=λha=>by rw[s0];exact Bu af ha
   rw[Dt a4,TF p2];refine⟨λu b=> ?_,λb=> ?_⟩;have b1:=fO.1 ca u (KJ b);have cc:Y u.cells=0+Y N.aj:=by
    simp only[Bb,aw,dE] at b1;omega
   rw[s1 u.cells (by rw[b];rfl) cc,b,TG (wu R) b1];exact⟨rfl,rfl⟩;rw[s2 (by rw[b];rfl),b];exact⟨(aas af hz).symm,rfl⟩
  cases L
 have hL:[H.ab O,xb.ab O,xc.ab O].take 1=[H.ab O]:=rfl;rw[hL] at*;cases hp:eY (H.ab O) ks (mJ cs) with
 |some u=>
  rw[hp] at al;obtain⟨q1,q2⟩:=b0.1 u hp;cases hf:oE [H.ab O] (gI 0 ((ks.zip (mJ cs)).map λp=>(.int I p.1,p.2.ab O V))) 0 with
  |none=>rw[hf] at al;cases al
  |some jv=>
   obtain⟨j,w⟩:=jv;rw[hf] at al;simp only[eh,cU] at al;subst al;cases t;simp only[jp,gf,q1];rfl;simp only[cN,C.ab,C.aE,q1,q2];rfl
 |none=>
  rw[hp] at al;obtain⟨q1,q2⟩:=b0.2 hp;cases hf:oE [H.ab O] (gI 0 ((ks.zip (mJ cs)).map λp=>(.int I p.1,p.2.ab O V))) 0 with
  |some jv=>rw[hf] at al;cases al
  |none=>
   cases t;simp only[jp,gf,q1];rfl;simp only[cN,C.ab,C.aE,q1,q2];rfl
 cases L;exact h.elim;exact h.elim;exact h.elim;exact h.elim;exact h.elim
end
section
variable{j:ar}{u:World}{D:cg}{P:Program}{g:Ty}{B:nu}{V:ar}{O:ai}{s:S}{a:Act}{W:World}
def ajW(R:az j u D g V O s a W)(G:jg P g)(N:e8 B O)(o:Oper)(Q:∀x∈o.op.operands.toList,(s.ev B x).eO=E)
  (h:(cE g B s o.op).gives O M):(execOp a.eval o).run P W=.ok (.value (M.ab O V)) W:=by
 cases X:o.op with
 |move x=>
  rw[X] at h Q;have H:=du R N x (Q x cK);simp only[cE,PR.gives] at h;simp[execOp,X,H,h]
 |assign x=>
  rw[X] at h Q;have H:=du R N x (Q x cK);simp only[cE,PR.gives] at h;simp[execOp,X,H,h]
 |pick c x y=>
  rw[X] at h Q;have A:=du R N c (Q c cK);have L:=du R N x (Q x cK);have hy:=du R N y (Q y cK);simp only[cE] at h;split at h;rename_i an;cases h;rw[an] at A;simp[execOp,X,A,L,C.ab,BE.ab,asBool];rename_i an;cases h;rw[an] at A;simp[execOp,X,A,hy,C.ab,BE.ab,asBool];exact h.elim
 |load t x=>rw[X] at h Q;exact avS R G N X (Q x cK) h
 |fieldAddr t x f=>rw[X] at h Q;exact avT R G N X (Q x cK) h
 |field t x f=>rw[X] at h Q;exact avU R G N X (Q x cK) h
 |indexAddr t x y=>rw[X] at h Q;exact avV R G N X (Q x cK) (Q y cK) h
 |index t x y=>rw[X] at h Q;exact avW R G N X (Q x cK) (Q y cK) h
 |binOp op t x y t2=>rw[X] at h Q;exact av2 R G N X (Q x cK) (Q y cK) h
 |unOp op t x=>
  rw[X] at h Q;have H:=du R N x (Q x cK);simp only[cE] at h;split at h;rename_i b L;cases h;simp[execOp,X,H,L,C.ab,Op.unary,OP];rename_i k e L;cases h;simp[execOp,X,H,L,C.ab,Op.unary,Op.intArith,OO,aF,K.ab];exact h.elim
 |convert t1 t2 x=>
  rw[X] at h Q;have H:=du R N x (Q x cK);simp only[cE] at h;split at h;rename_i k1 q1 k2 q2 k n h1 h2 L;cases h;obtain⟨d1,ag,-,a0,-⟩:=(G _ _ h1).desc;obtain⟨d2,al,-,a1,-⟩:=(G _ _ h2).desc;rw[a0 _ rfl] at ag;rw[a1 _ rfl] at al;simp[execOp,X,H,L,C.ab,convert,fk.iC ag,fk.iC al,Conv.intToInt,K.ab];rename_i k1 q1 k2 q2 k n hn h1 h2 L;cases h;obtain⟨d1,ag,-,a0,-⟩:=(G _ _ h1).desc;obtain⟨d2,al,-,a1,-⟩:=(G _ _ h2).desc;rw[a0 _ rfl] at ag;rw[a1 _ rfl] at al;simp[execOp,X,H,L,C.ab,convert,fk.iC ag,fk.iC al,Conv.intToInt,K.ab];exact h.elim
 |makeInterface t x=>
  rw[X] at h Q;have H:=du R N x (Q x cK);simp only[cE] at h;split at h;exact h.elim;rename_i ti a9 ht;cases h;have hd:=(G _ _ ht).desc;have af:∀d,P.underlying t=U d->(∀m,d≠ .interface m)->(Instr.makeInterface t (a.eval x)).run P W=.ok (.iface t (a.eval x)) W:=by
   intro d h1 h2;simp only[Instr.makeInterface,dA,fk.iC h1,dv];cases d<;>first|rfl|exact aZ rfl (h2 _)
  have:(Instr.makeInterface t (a.eval x)).run P W=.ok (.iface t (a.eval x)) W:=by
   obtain⟨d,aj,q⟩:=ti;cases d with
   |one=>obtain⟨d,h1,⟨h2,-⟩,-⟩:=hd;exact af d h1 (λm z=>by rw[z] at h2;exact h2)
   |gX=>exact aZ rfl (a9 _ _)
   |str=>exact af _ hd (λm z=>by cases z)
   |slice e=>exact af _ hd (λm z=>by cases z)
   |arr n e=>exact af _ hd (λm z=>by cases z)
   |struct fs=>obtain⟨F,h1,-⟩:=hd;exact af _ h1 (λm z=>by cases z)
   |map k e=>exact af _ hd (λm z=>by cases z)
  rw[H] at this;simp[execOp,X,H,this,C.ab];exact h.elim
 |makeFunc fn first a4=>
  rw[X] at h Q;simp only[cE] at h;split at h;rename_i f hf;cases h;have ba:first= #[]:=by apply nq;simpa using hf
  subst ba;have bb:a4.map a.eval=(C.aE O V (a4.toList.map (s.ev B))).toArray:=by
   apply nq;simp only[xG,pJ,ov];exact jT λx L=>du R N x (Q x (by simp[iF];simpa using L))
  simp[execOp,X,Instr.makeFunc,C.ab,bb];exact h.elim
 |extract x i=>
  rw[X] at h Q;have H:=du R N x (Q x cK);simp only[cE] at h;split at h;rename_i l L;split at h;rename_i y hy;simp only[PR.gives] at h;subst h;have:(C.aE O V l).toArray[i]?=U (M.ab O V):=by simp[tN,hy]
  simp[execOp,X,H,L,C.ab,Instr.extract,this,-aiN];exact h.elim;exact h.elim
 |nilCheck x=>
  rw[X] at h Q;have H:=du R N x (Q x cK);simp only[cE] at h;split at h;rename_i i bc L;cases h;simp[execOp,X,H,L,C.ab];rename_i r w i bc L;cases h;simp[execOp,X,H,L,C.ab];rename_i f l L;cases h;simp[execOp,X,H,L,C.ab];exact h.elim
 |slice t x lo hi mx=>
  rw[X] at h Q;exact av5 R G N X (Q x cK) (λy hy=>Q y (by subst hy;simp[iF])) h
 |build t parts=>
  rw[X] at h Q;exact av4 R G N X (λp hp=>Q p.2 (by simp[iF];exact⟨p.1,by simpa using hp⟩)) h
 |lookup t x ix ok=>
  rw[X] at h Q;exact av8 R G N X (Q x cK) (Q ix cK) h
 |call c=>
  rw[X] at h Q;have a3:∀x∈c.args.toList,(s.ev B x).eO=false:=λx L=>Q x (by simp[iF,A7];exact .inr (by simpa using L))
  cases A:c.callee with
  |builtin b=>
   cases b with
   |len=>exact av6 R G N X A a3 h
   |min=>exact ajS R N X (.inl A) a3 h
   |max=>exact ajS R N X (.inr A) a3 h
   |_=>simp only[cE,A,PR.gives] at h
  |value f=>simp only[cE,A,PR.gives] at h
  |invoke r m=>simp only[cE,A,PR.gives] at h
 |_=>rw[X] at h;simp only[cE,PR.gives] at h
end
section
variable{p:ar}{q:World}{D:cg}{P:Program}{f:Ty}{B:nu}{V:ar}{O:ai}{s:S}{a:Act}{W:World}
def Bv{o:Obj}(h:N.heap[R]?=U o):R<N.heap.size:=(oQ.1 h).1
def eF.world{X:uF}{R:Bt}{W':World}(h:eF q D X y R N)(Q:∀(b:Nat)(o:Obj),N.heap[b]?=U o->(∀L t H,o≠ .cells L t H)->W'.heap[b]?=U o):eF q D X y R W':=
 ⟨h.len,h.qy,λn l r G F B=>let⟨a,b,c⟩:=h.dB n l r G F B;⟨a,Q _ _ b (λ_ _ _ h=>by cases h),c⟩,h.inj,let⟨A,a,z,b,c⟩:=h.mh;⟨A,a,z,b,λd M=>⟨Q _ _ (c d M).1 (λ_ _ _ h=>by cases h),(c d M).2⟩⟩⟩
def KP:Obj->Bool
 |.loop _|.deferred _=>J
 |_=>E
def ajX{o:Obj}(h:KP o=J):∀X t R,o≠ .cells X t R:=λX t R e=>by subst e;cases h
def ajY{o:Obj}(h:KP o=J):∀t l,o≠me t l:=by
 intro t l e;subst e;unfold me at h;split at h;cases h;split at h;split at h<;>cases h;split at h;split at h<;>cases h;cases h
def eF.av9{X:uF}{R:Bt}{Q:World}(h:eF q D X y R N)(M:∀(b:Nat)(o:Obj),N.heap[b]?=U o->KP o=J->Q.heap[b]?=U o):eF q D X y R Q:=
 ⟨h.len,h.qy,λn l r H G F=>let⟨a,b,c⟩:=h.dB n l r H G F;⟨a,M _ _ b rfl,c⟩,h.inj,let⟨B,a,A,b,c⟩:=h.mh;⟨B,a,A,b,λd L=>⟨M _ _ (c d L).1 rfl,(c d L).2⟩⟩⟩
def eF.below{X:uF}{R:Bt}{Q:World}(h:eF q D X y R N)(L:Below N.heap.size N Q):eF q D X y R Q:=
 h.world λb o M _=>(L.block b (Bv M)).trans M
def eF.cells{M:uF}{L:Bt}{H:World}(h:eF q D M y L N){G:mI}{F:Nat×Nat}(B:N.heap[R]?=U (.cells G X F))(A:∀b,b≠R->b<N.heap.size->H.heap[b]?=N.heap[b]?):eF q D M y L H:=
 h.world λb o Q z=>(A b (λe=>by subst e;rw[B] at Q;cases Q;exact z _ _ _ rfl) (Bv Q)).trans Q
def bJ.KQ{B:World}(h:bJ N f z L)(y:∀b,ee f z L b->B.heap[b]?=N.heap[b]?)(hs:N.heap.size<=B.heap.size):bJ B f z L:=by
 induction h with
 |sl e A Q p M x w u g d ho t=>
  refine bJ.sl e A Q p M x w (λi H R=> ?_) g d (λi j H c X o R G n=>t i j H c X o R G n (λb r=>y b (ee.deep e _ _ i j H c X o b R G n r)));obtain⟨q1,b,m,rfl,⟨kP,t0,af,q2⟩,q3⟩:=u i H R;have ag:0<Q:=by have:=(ck.1 R).1;omega
  obtain⟨q,rfl⟩:∃q,Q=q+1:=⟨Q-1,aa⟩;have F:=y b (ee.here e ⟨b,m,Z⟩ q p M);refine⟨q1,b,m,rfl,⟨kP,t0,af,F.trans q2⟩,λj c G=> ?_⟩;have l:=q3 j c G;simp only[ow,F] at l⊢;exact l
 |str s=>exact bJ.str s
 |ae v hv=>exact bJ.ae v hv
 |own e L h hn t=>exact bJ.own e L (t λb r=>y b (ee.own e L b r)) hn
 |am L h=>exact bJ.am L h
 |mr sh M x w u F=>exact bJ.mr sh M x w u F
def bJ.lt(h:bJ N f z L)(Q:ee f z L R):R<N.heap.size:=by
 induction h generalizing R with
 |sl e A q p M o n G m g d H=>
  cases Q with
  |here e a l c M=>
   have F:0<Y M:=aa;obtain⟨-,R,af,B,⟨_,_,_,y⟩,-⟩:=G 0 _ (cS F);cases B;exact Bv y
  |deep e v M i j x c X z R w u t r=>exact H i j x c X z w u t r
 |str s=>cases Q
 |ae v hv=>cases Q
 |own e L h hn H=>cases Q with
  |own e L R Q=>exact H Q
 |am L h=>cases Q
 |mr sh M=>cases Q
def bJ.grow{G:World}(h:bJ N f z L)(x:Below N.heap.size N G):bJ G f z L:=by
 induction h with
 |sl e A w u X R Q M t r ho H=>
  refine bJ.sl e A w u X R Q (λi q p=> ?_) t r H;obtain⟨o,b,n,rfl,⟨kP,m,l,F⟩,g⟩:=M i q p;have B:=x.block b (Bv F);refine⟨o,b,n,rfl,⟨kP,m,l,B.trans F⟩,λj c d=> ?_⟩;have y:=g j c d;simp only[ow,B] at y⊢;exact y
 |str s=>exact bJ.str s
 |ae v hv=>exact bJ.ae v hv
 |own e L h hn H=>exact bJ.own e L H hn
 |am L h=>exact bJ.am L h
 |mr sh X R Q M h4=>exact bJ.mr sh X R Q M h4
def jW.lt{Q:bv}(X:jW p q V O x f Q W)(h:aK x R=J):ad V R<W.heap.size:=by
 unfold aK at h;obtain⟨⟨t,N⟩,M⟩:=ln.1 h;exact(oQ.1 (X.box R t N M)).1
def jW.below{Q:bv}(R:jW p q V O x f Q W)(X:Below W.heap.size W N):jW p q V O x f Q N:=by
 refine⟨R.base.call X,R.own,R.inj,λi t M h=> ?_,λk e L H G=> ?_⟩;rw[X.block _ (R.lt (by simp[aK,h]))];exact R.box i t M h;obtain⟨F,B⟩:=R.ah k e L H G;exact⟨F.grow X,B⟩
def zC.lt{N:bv}(h:zC p q V O x f N W R X L Q):Q<W.heap.size:=by
 obtain⟨H,G,da,-,M,-⟩:=h.mem;exact(oQ.1 M).1
def zC.world{N:bv}{W':World}(h:zC p q V O x f N W R X L Q)(M:W'.heap[Q]?=W.heap[Q]?):zC p q V O x f N W' R X L Q:=by
 obtain⟨H,G,da,F,B,A⟩:=h.mem;exact⟨h.own,⟨H,G,da,F,M.trans B,A⟩,h.box,h.alone,h.inner⟩
def az.below{Q:World}(R:az p q D f V O s a W)(X:Below W.heap.size W Q):az p q D f V O s a Q:=
 ⟨R.mem.below X,R.gJ,R.ei,R.eb,R.er,R.dl.below X,R.size,R.tmps,λk e N b M L H=>let t:=R.gj k e N b M L H;t.world (X.block b t.lt)⟩
def az.put(R:az p q D f V O s a W)(X:cM)(v:C):az p q D f V O (s.put X v) (a.put X (v.ab O V)) W:=by
 cases X with
 |none=>exact R
 |some d=>
  refine⟨R.mem,R.gJ,R.ei,R.eb,R.er,R.dl,by simp[S.put,wc,Act.put,R.size],λt M h=> ?_,R.gj⟩;simp only[S.put,wc,v6] at h;simp only[Act.put];split at h;rename_i Q;subst Q;split at h;rename_i L;cases h;right;have:d<a.tmps.size:=by rw[R.size];exact L
  simp[this];cases h;rename_i Q;rcases R.tmps t M h with N|N;exact .inl N;right;rw[aiH Q];exact N
def az.zE(R:az p q D f V O s a W)(X:s.bd=J):C.ec (Y O.i) (Y O.b) (Y O.r) (aK s.ap) s.tmps=J/\C.rh (Y O.i) (Y O.b) (Y O.r) (aK s.ap) s.ap=true:=by
 simp only[S.bd,aw] at X;rw[R.ei,R.eb,R.er];exact X
structure oa(bx:bG)(O O':ai)(V V':ar):Prop where
 agree:i7 O O' (Y O.i) (Y O.b) (Y O.r)
 li:Y O.i<=Y O'.i
 lb:Y O.b<=Y O'.b
 lr:Y O.r<=Y O'.r
 ad:∀k,aK bx k=J->ad V' k=ad V k
def oa.refl(X:bG)(O:ai)(V:ar):oa X O O V V:=⟨i7.refl _ _ _ _,b9 _,b9 _,b9 _,λ_ _=>rfl⟩
def oa.trans{X R:bG}{O Q N:ai}{V M L:ar}(h:oa X O Q V M)(k:oa R Q N M L)(G:∀i,aK X i=J->aK R i=J):oa X O N V L:=
 ⟨h.agree.trans (k.agree.mono h.li h.lb h.lr),pw h.li k.li,pw h.lb k.lb,pw h.lr k.lr,λj H=>(k.ad j (G j H)).trans (h.ad j H)⟩
def awa(O:ai)(x:XV):Y O.i<=(O.add x).i.length/\Y O.b<=(O.add x).b.length/\Y O.r<=(O.add x).r.length:=by cases x<;>simp[ai.add]
def TL:∀(X:bq)(O:ai),Y O.i<=(O.ext X).i.length/\Y O.b<=(O.ext X).b.length/\Y O.r<=(O.ext X).r.length
 |[],O=>by simp[ai.ext]
 |x::X,O=>by
  have R:=awa O x;have Q:=TL X (O.add x);simp only[ai.ext];omega
def Du(R:bG)(O:ai)(X:bq)(V:ar):oa R O (O.ext X) V V:=by
 have h:=TL X O;exact⟨Fl X O,h.1,h.2.1,h.2.2,λ_ _=>rfl⟩
def oa.ab{X:ai}{R:ar}(h:oa x l X y R)(Q:M.bd (Y l.i) (Y l.b) (Y l.r) (aK x)=J):M.ab X R=M.ab l y:=C.ep h.agree h.ad M Q
def oa.aE{X:ai}{R:ar}(h:oa x l X y R)(Q:C.ec (Y l.i) (Y l.b) (Y l.r) (aK x) w=J):C.aE X R w=C.aE l y w:=C.KG h.agree h.ad w Q
def oa.dO{X:ai}{R:ar}(h:oa x l X y R)(Q:C.ec (Y l.i) (Y l.b) (Y l.r) (aK x) w=J):C.dO X R w=C.dO l y w:=ON h.agree h.ad w Q
def e8.ext{R:ai}{M:ar}(h:e8 B l)(Q:oa x l R y M):e8 B R:=by
 intro X L;obtain⟨N,H⟩:=h X L;exact⟨Zn N Q.lr,by rw[Q.agree.r _ N];exact H⟩
def Dv(h:i≠R):ad (y.set R Q) i=ad y i:=by simp[ad,rX (Ne.symm h)]
def Dw(h:R<Y y):ad (y.set R Q) R=Q:=by simp[ad,h]
def tR(h:qr x R X=J):gu x R=true:=by simp only[qr,aw] at h;exact h.1
def KR(h:qr x R X=J):qY X=false:=by simp only[qr,aw,ik] at h;exact h.2
def nF(h:gu x R=J):aK x R=E/\R<Y x:=by
 unfold gu at h;split at h;rename_i X;exact⟨by simp[aK,cV,X],(ck.1 X).1⟩;cases h
def ajZ(h:gu x R=J)(O:ai)(V:ar)(X:Nat):oa x O O V (V.set R X):=
 ⟨i7.refl _ _ _ _,b9 _,b9 _,b9 _,λk Q=>Dv (λe=>by subst e;rw[(nF h).1] at Q;cases Q)⟩
def zF{X:Option (TypeId×aq)}(h:Q≠R):cw (x.set R X) Q=cw x Q:=by simp[cV,rX (Ne.symm h)]
def H0{X:TypeId×aq}(h:R<Y x):cw (x.set R (U X)) R=U X:=by simp[cV,h]
def pM{X:TypeId×aq}(h:R<Y x):aK (x.set R (U X)) Q=J<->Q=R\/aK x Q=true:=by
 by_cases N:Q=R;subst N;simp[aK,H0 h];simp[aK,zF N,N]
def az.alloc(R:az p q D f V O s a W){n:Nat}(v:gu s.ap n=J)(t:TypeId)(F:aq)(G:s.e9 F=J):
  az p q D f (V.set n W.heap.size) O (s.dt n t F) a (W.alloc (me t (C.dO O V F))):=by
 simp only[S.e9,aw] at G;obtain⟨B,G⟩:=G;obtain⟨r,o⟩:=R.zE B;rw[<-R.ei,<-R.eb,<-R.er] at G;obtain⟨m,M⟩:=nF v;have y:=ajZ v O V W.heap.size;have A:Below W.heap.size W (W.alloc (me t (C.dO O V F))):=(Below.refl _ _).alloc (b9 _) _;have H:n<Y V:=by rw[R.gJ];exact M
 have L:∀i,aK s.ap i=J->i≠n:=λi Q e=>by subst e;rw[m] at Q;cases Q
 refine⟨⟨R.mem.base.alloc _, ?_, ?_, ?_, ?_⟩,by simp[S.dt,R.gJ],R.ei,R.eb,R.er,R.dl.below A,R.size, ?_,λk e x b X N z=> ?_⟩;intro i Q;rcases(pM M).1 Q with rfl|h;rw[Dw H];exact .inl R.mem.base.size;rw[Dv (L i h)];exact R.mem.own i h;intro i j Q u h;rcases(pM M).1 Q with rfl|X;rcases(pM M).1 u with rfl|N;rfl;rw[Dw H,Dv (L j N)] at h;have:=R.mem.lt N;omega;rcases(pM M).1 u with rfl|N;rw[Dw H,Dv (L i X)] at h;have:=R.mem.lt X;omega;rw[Dv (L i X),Dv (L j N)] at h;exact R.mem.inj i j X N h;intro i w l h;by_cases X:i=n;subst X;rw[S.dt,H0 M] at h;simp only[cU,C2] at h;obtain⟨rfl,rfl⟩:=h;rw[Dw H,y.dO G];exact SK W _;rw[S.dt,zF X] at h;rw[Dv X,A.block _ (R.mem.lt (by simp[aK,h])),y.dO (tP o h)];exact R.mem.box i w l h;intro k e x X N;obtain⟨z,g⟩:=R.mem.ah k e x X N;refine⟨z.grow A,λb B i Q=> ?_⟩;rcases(pM M).1 Q with rfl|h;rw[Dw H];have:=z.lt B;omega;rw[Dv (L i h)];exact g b B i h;intro w d h;rcases R.tmps w d h with X|X;exact .inl X;right;rw[y.ab (wt r h)];exact X;have t:=R.gj k e x b X N z;obtain⟨c,af,da,q1,q2,q3⟩:=t.mem;refine⟨t.own,⟨c,af,da,q1,(A.block b t.lt).trans q2,q3⟩,λi Q=> ?_,t.alone,t.inner⟩;rcases(pM M).1 Q with rfl|h;rw[Dw H];have:=t.lt;omega;rw[Dv (L i h)];exact t.box i h
def zG(l:gt)(X:Nat):gt->gt
 |[]=>l
 |v::r=>zG (l.set X v) (X+1) r
def aat:∀(R l:gt)(X:Nat),(zG l X R).length=Y l
 |[],l,X=>rfl
 |v::R,l,X=>by rw[zG,aat];simp
def aj0:∀(X l:aq)(R:Nat),C.aE O V (lI l R X)=zG (C.aE O V l) R (C.aE O V X)
 |[],l,R=>rfl
 |v::X,l,R=>by
  rw[lI,aj0 X,C.aE,zG];congr 1;simp[pJ]
def aj1(h:jr c=J):c.oneCell'=true:=by cases c<;>simp_all[jr,Value.oneCell']
def aau(b X:Nat)(t:TypeId):∀(Q:gt)(i:Nat)(da:mI)(W:World),W.heap[b]?=U (.cells da t (0,0))->X+i+Y Q<=da.size->(∀v∈Q,jr v=J)->
  ∃R,(storeCells ⟨b,X,Z⟩ Q i).run P W=.ok () R/\R.heap[b]?=U (.cells (zG da.toList (X+i) Q).toArray t (0,0))/\(∀k,k≠b->R.heap[k]?=W.heap[k]?)/\R.heap.size=W.heap.size/\R.os=W.os/\R.tape=W.tape/\R.output=W.output
 |[],i,da,W,N,_,_=>⟨W,rfl,by simpa[zG] using N,λ_ _=>rfl,rfl,rfl,rfl,rfl⟩
 |v::Q,i,da,W,N,H,M=>by
  simp only[lH] at H;have G:X+i<da.size:=aa;have F:W.cell? ⟨b,X+i,Z⟩=U da[X+i]:=by simp[ow,N,G]
  have B:W.frozen? ⟨b,X+i,Z⟩=false:=by simp[Zx,N]
  have A:(store ((⟨b,X,Z⟩:Addr).add i) v).run P W=.ok () (W.setCell ⟨b,X+i,Z⟩ v):=by
   rw[ya,run_store P W _ v _ (aj1 (M v av)),F];simp[B]
  have z:(W.setCell ⟨b,X+i,Z⟩ v).heap[b]?=U (.cells (da.setIfInBounds (X+i) v) t (0,0)):=by
   simp[Zw,SI,N]
  obtain⟨R,y,w,u,r,q,p,o⟩:=aau b X t Q (i+1) (da.setIfInBounds (X+i) v) (W.setCell ⟨b,X+i,Z⟩ v) z dh (λx n=>M x (by simp[n]));refine⟨R,by simp only[storeCells,dA,A,dv,y], ?_,λk L=>(u k L).trans (Below.heap_setCell _ _ _ _ L),r.trans (by simp[Zw]),q,p,o⟩;rw[w,zG];simp[He]
def aj2(R:az p q D f V O s a W):∀{l:aq},E6 l=J->∀v∈C.aE O V l,jr v=J
 |[],_,v,X=>by simp[C.aE] at X
 |x::N,h,v,X=>by
  simp only[SU,aw] at h;simp only[C.aE,dP] at X;rcases X with rfl|X;have Q:=h.1;cases x<;>simp[C.single] at Q<;>try rfl
  rename_i r;exact wu R r (by cases r<;>simp_all[RE.Hn]);simp only[C.ab];exact aad _ _ _;exact aj2 R h.2 v X
def az.store(Q:az p q D f V O s a W){H:TypeId}{z:TI}(d:fk P X z){off:Nat}{v:C}(M:cw s.ap R=U (H,w))(o:qY H=E)(c:Y v.cells=Y z.aj)(ho:off+Y v.cells<=Y w)(hs:E6 v.cells=J)(n:(v.ab O V).cells.toList=C.aE O V v.cells):
  ∃G,(Instr.storeAt X (.pointer (U ⟨ad V R,off,Z⟩)) (v.ab O V)).run P W=.ok () G/\az p q D f V O (s.dt R H (lI w off v.cells)) a G:=by
 have y:=Q.mem.box R H w M;rw[tQ o] at y;obtain⟨G,h1,h2,F,h4,h5,h6,h7⟩:=aau (P:=P) (ad V R) off H (C.aE O V v.cells) 0 _ W y dh (aj2 Q hs);have af:(v.ab O V).cells.size=Y z.aj:=by rw[<-EX,n];simp[c]
 have m:R<Y s.ap:=(ck.1 (kj.1 M)).1;have B:aK s.ap R=true:=by simp[aK,M]
 have A:∀j,aK (s.ap.set R (U (H,lI w off v.cells))) j=J->aK s.ap j=true:=λj N=>by
  rcases(pM m).1 N with rfl|h;exact B;exact h
 refine⟨G, ?_,⟨⟨?_,λj N=>Q.mem.own j (A j N),λj k N x=>Q.mem.inj j k (A j N) (A k x), ?_, ?_⟩,by simpa[S.dt] using Q.gJ,Q.ei,Q.eb,Q.er,Q.dl.cells y (λb M _=>F b M),Q.size,Q.tmps,λk e u b q1 q2 q3=> ?_⟩⟩;simp only[Instr.storeAt,Instr.sureAddr,storeVar,dA,fq,dv,d.n9,af,n,ne_eq,not_true_eq_false,gf,h1];refine⟨h5.trans Q.mem.base.os,h6.trans Q.mem.base.tape,h7.trans Q.mem.base.output,by rw[h4];exact Q.mem.base.size,λk x l=> ?_⟩;have ag:k≠ad V R:=by
  rintro rfl;rcases Q.mem.own R B with h|h;omega;exact l h
 rw[F k ag];exact Q.mem.base.block k x l;intro j L al N;by_cases r:j=R;subst r;rw[S.dt,H0 m] at N;simp only[cU,C2] at N;obtain⟨rfl,rfl⟩:=N;rw[h2,tQ o,aj0];simp;rw[S.dt,zF r] at N;rw[F _ (λh=>r (Q.mem.inj j R (by simp[aK,N]) B h))];exact Q.mem.box j L al N;intro k e u an a0;obtain⟨a1,g⟩:=Q.mem.ah k e u an a0;exact⟨a1.KQ (λb M=>F b (λh=>g b M R B h.symm)) aa,λb M j N=>g b M j (A j N)⟩;have X:=Q.gj k e u b q1 q2 q3;have L:=X.world (W':=G) (F b (λh=>X.box R B h.symm));exact⟨L.own,L.mem,λj N=>L.box j (A j N),L.alone,L.inner⟩
end
def KS(X:ar):∀(l:bv)(n i:Nat),(ju X n l)[i]?=(l[i]?).map λx=>if X.contains (n+i) then .am else x
 |[],n,i=>by simp[ju]
 |x::R,n,0=>by simp[ju]
 |x::R,n,i+1=>by
  simp only[ju,tA];rw[KS X R (n+1) i,show n+1+i=n+(i+1) from aa]
def KT(X:ar):∀(l:bv)(n i:Nat),(kB X n l)[i]?=(l[i]?).map (zq (X.contains (n+i)))
 |[],n,i=>by simp[kB]
 |x::R,n,0=>by simp[kB]
 |x::R,n,i+1=>by
  simp only[kB,tA];rw[KT X R (n+1) i,show n+1+i=n+(i+1) from aa]
def aav(X:ar):∀(l:bv)(n i:Nat),(Da X n l)[i]?=(l[i]?).map (Oi (X.contains (n+i)))
 |[],n,i=>by simp[Da]
 |x::R,n,0=>by simp[Da]
 |x::R,n,i+1=>by
  simp only[Da,tA];rw[aav X R (n+1) i,show n+1+i=n+(i+1) from aa]
def Bw(X:ar):∀(l:bv)(n:Nat),(ju X n l).length=Y l
 |[],n=>rfl
 |x::R,n=>by simp[ju,Bw X R (n+1)]
def By(X:ar):∀(l:bv)(n:Nat),(kB X n l).length=Y l
 |[],n=>rfl
 |x::R,n=>by simp[kB,By X R (n+1)]
def aj3(X:ar):∀(l:bv)(n:Nat),(Da X n l).length=Y l
 |[],n=>rfl
 |x::R,n=>by simp[Da,aj3 X R (n+1)]
def rn(e X:RK):Prop:=X=e\/X=.am\/∃t,e=.own t/\X=.sl t
structure qA(rs rs':bv):Prop where
 len:Y rs'=Y rs
 get:∀(k:Nat)(e':RK),rs'[k]?=U e'->∃e,rs[k]?=U e/\rn e e'
def qA.refl(X:bv):qA X X:=⟨rfl,λk e h=>⟨e,h,.inl rfl⟩⟩
def rn.trans{b c:RK}(h:rn z b)(k:rn b c):rn z c:=by
 rcases k with rfl|rfl|⟨t,rfl,rfl⟩;exact h;exact .inr (.inl rfl);rcases h with h|h|⟨R,Q,X⟩;exact .inr (.inr ⟨t,h.symm,rfl⟩);cases h;cases X
def qA.trans{a b c:bv}(h:qA a b)(k:qA b c):qA a c:=
 ⟨k.len.trans h.len,λi e X=>let⟨R,Q,N⟩:=k.get i e X;let⟨M,L,H⟩:=h.get i R Q;⟨M,L,H.trans N⟩⟩
def awb(b:Bool)(e:RK):rn e (zq b e):=by
 cases e<;>simp only[zq]
 case own t=>cases b;exact .inl rfl;exact .inr (.inr ⟨t,rfl,rfl⟩)
 all_goals exact .inl rfl
def aj4(b:Bool)(e:RK):rn e (Oi b e):=by
 cases e<;>simp only[Oi]
 case own t=>cases b;exact .inr (.inl rfl);exact .inr (.inr ⟨t,rfl,rfl⟩)
 all_goals exact .inl rfl
def OU(Q:ar)(X:bv):qA X (kB Q 0 X):=by
 refine⟨By _ _ _,λk N h=> ?_⟩;rw[KT] at h;cases R:X[k]? with
 |none=>rw[R] at h;cases h
 |some e=>rw[R] at h;simp only[eh,cU] at h;exact⟨e,rfl,h▸awb _ e⟩
def aj5(Q:ar)(X:bv):qA X (Da Q 0 X):=by
 refine⟨aj3 _ _ _,λk N h=> ?_⟩;rw[aav] at h;cases R:X[k]? with
 |none=>rw[R] at h;cases h
 |some e=>rw[R] at h;simp only[eh,cU] at h;exact⟨e,rfl,h▸aj4 _ e⟩
def bJ.mO{X:RK}(h:bJ N n z L)(w:rn z X):bJ N n X L:=by
 rcases w with rfl|rfl|⟨t,rfl,rfl⟩;exact h;exact bJ.am L (KK h);exact ajG h
def ee.mO{X:RK}(w:rn z X)(h:ee n X L R):ee n z L R:=by
 rcases w with rfl|rfl|⟨t,rfl,rfl⟩;exact h;cases h;exact ee.own _ _ _ h
def zB.mO{d:Ty}{e R:RK}{Q:RV}{b:Nat}(w:rn e R)(h:zB d R Q b):zB d e Q b:=by
 rcases h with h|⟨⟨t,rfl⟩,h⟩;exact .inl (h.mO w);rcases w with rfl|X|⟨N,_,X⟩;exact .inr ⟨⟨t,rfl⟩,h⟩;cases X;cases X
def rn.own(w:rn z (.own X)):z=.own X:=by
 rcases w with h|h|⟨R,_,h⟩;exact h.symm;cases h;cases h
section
variable{p:ar}{q:World}{D:cg}{P:Program}{d:Ty}{B:nu}{V:ar}{O:ai}{s:S}{a:Act}{W:World}
def jW.mO{X:bG}{Q N:bv}(R:jW p q V O X d Q W)(h:qA Q N):jW p q V O X d N W:=
 ⟨R.base,R.own,R.inj,R.box,λk e M B L=>let⟨H,G,F⟩:=h.get k e B;⟨(R.ah k H M G L).1.mO F,λb A i z=>(R.ah k H M G L).2 b (A.mO F) i z⟩⟩
def az.mO(R:az p q D d V O s a W){X:bv}(h:qA s.rs X):az p q D d V O {s with rs:=X} a W:=by
 refine⟨R.mem.mO h,R.gJ,R.ei,R.eb,R.er.trans h.len.symm,R.dl,R.size,R.tmps,λk e N b M L H=> ?_⟩;obtain⟨o,G,F⟩:=h.get k _ M;have:=F.own;subst this;have t:=R.gj k e N b G L H;exact⟨t.own,t.mem,t.box,λQ B A z y x w=>let⟨v,u,r⟩:=h.get Q B y;t.alone Q v A z u x (w.mO r),t.inner⟩
def az.eE(Q:az p q D d V O s a W)(g:s.rs[R]?=U (.own X))(hr:O.r[R]?=U L)(B:W.grownBy N L.lu):
  az p q D d V O {s with rs:=ju [R] 0 s.rs} a N:=by
 have m:∀M G,(ju [R] 0 s.rs)[M]?=U G->(M=R/\G=.am)\/(M≠R/\s.rs[M]?=U G):=by
  intro M G h;rw[KS] at h;cases f:s.rs[M]? with
  |none=>rw[f] at h;cases h
  |some x=>
   rw[f] at h;simp only[iX,eh,cU] at h;by_cases F:M=R;subst F;left;simp at h;exact⟨rfl,h.symm⟩;right;simp[F] at h;exact⟨F,by rw[h]⟩
 have y:∀b,L.lu=U b->zC p q V O s.ap d s.rs W R X L b:=λb H=>Q.gj R X L b g hr H
 have ag:gY p q N:=Q.mem.base.grown B (λb H=>((y b H).own).symm);refine⟨⟨ag,Q.mem.own,Q.mem.inj,λi t cs h=> ?_,λM G A l z=> ?_⟩,Q.gJ,Q.ei,Q.eb,by simp[Bw];exact Q.er, ?_,Q.size,Q.tmps,λM G A b l z w=> ?_⟩;rw[B.block _ (Q.mem.lt (by simp[aK,h])) (λH=>(y _ H.symm).box i (by simp[aK,h]) rfl)];exact Q.mem.box i t cs h;rcases m M G l with⟨rfl,rfl⟩|⟨v,u⟩;refine⟨bJ.am _ ?_,λb H=>by cases H⟩;exact KK (Q.mem.ah M _ A g z).1;obtain⟨w,h4⟩:=Q.mem.ah M G A u z;exact⟨w.KQ (λb H=>B.block b (w.lt H) (λF=>(y b F.symm).alone M G A v u z (.inl H))) B.size,h4⟩;cases H:L.lu with
 |none=>exact Q.dl.world λb o h _=>(B.block b (Bv h) (by rw[H];simp)).trans h
 |some b0=>
  obtain⟨c,af,da,q1,j,q3⟩:=(y b0 H).mem;exact Q.dl.cells j (λb v al=>B.block b al (λX=>v (by rw[H] at X;cases X;rfl)))
 rcases m M _ l with⟨-,F⟩|⟨v,u⟩;cases F;have t:=Q.gj M G A b u z w;have hw:N.heap[b]?=W.heap[b]?:=B.block b t.lt (λF=>(y b F.symm).alone M _ A v u z (.inr ⟨⟨G,rfl⟩,w⟩));obtain⟨c,af,da,q1,j,q3⟩:=t.mem;refine⟨t.own,⟨c,af,da,q1,hw.trans j,q3⟩,t.box,λk2 e2 an g1 g2 g3 n=> ?_,t.inner⟩;rcases m k2 e2 g2 with⟨rfl,rfl⟩|⟨_,a0⟩;rcases n with n|⟨⟨t',a1⟩,_⟩;cases n;cases a1;exact t.alone k2 e2 an g1 a0 g3 n
def az.grown(R:az p q D d V O s a W)(X:W.grownBy N Z):az p q D d V O s a N:=
 R.below ⟨X.os,X.tape,X.output,X.size,λk Q=>X.block k Q av⟩
def sq(X:bG)(O:ai)(x:XV)(V:ar):oa X O (O.add x) V V:=by
 have h:=Du X O [x] V;exact h
def H3{v:RV}(h:(O.add (.r L)).r[R]?=U v):(R<Y O.r/\O.r[R]?=U v)\/(R=Y O.r/\v=L):=by
 simp only[ai.add] at h;by_cases X:R<Y O.r;rw[dH X] at h;exact .inl ⟨X,h⟩;have:R=Y O.r:=by have:=(ck.1 h).1;simp at this;omega
 subst this;simp at h;exact .inr ⟨rfl,h.symm⟩
structure awc(p:ar)(q:World)(V:ar)(O:ai)(bx:bG)(d:Ty)(rs:bv)(W:World)(e:TypeId)(rv:RV)(b:Nat):Prop where
 own:q.heap.size<=b\/b∈p
 mem:∃len cap da,rv.val=.slice (U ⟨b,0,Z⟩) len cap/\W.heap[b]?=U (.cells da e (0,0))/\len<=cap/\cap<=maxLen/\da.size=cap*(bD d (.sl e)).length
 box:∀i,aK bx i=J->ad V i≠b
 alone:∀(k':Nat)(e':RK)(rv':RV),rs[k']?=U e'->O.r[k']?=U rv'->¬zB d e' rv' b
 inner:¬n7 d e rv.ac b
def az.add(R:az p q D d V O s a W)(n:s.bd=J){N:RK}{rv:RV}(m:bJ W d N rv)(l:∀b,ee d N rv b->∀i,aK s.ap i=J->ad V i≠b)
  (j:∀(k:Nat)(e:TypeId)(H:RV)(b:Nat),s.rs[k]?=U (.own e)->O.r[k]?=U H->H.lu=U b->¬zB d N rv b)
  (g:∀e b,N=.own e->rv.lu=U b->awc p q V O s.ap d s.rs W e rv b):az p q D d V (O.add (.r rv)) {s with rs:=s.rs++[N]} a W:=by
 obtain⟨f,c⟩:=R.zE n;have x:=sq s.ap O (.r rv) V;have F:∀{k:Nat}{e:RK},(s.rs++[N])[k]?=U e->(k<Y O.r/\s.rs[k]?=U e)\/(k=Y O.r/\e=N):=by
  intro k e h;rw[R.er];by_cases G:k<Y s.rs;rw[dH G] at h;exact .inl ⟨G,h⟩;have:k=Y s.rs:=by have:=(ck.1 h).1;simp at this;omega
  subst this;simp at h;exact .inr ⟨rfl,h.symm⟩
 refine⟨⟨R.mem.base,R.mem.own,R.mem.inj,λi t cs h=> ?_,λk e v X M=> ?_⟩,R.gJ,R.ei,R.eb,by simp[ai.add,R.er],R.dl,R.size,λt sv h=> ?_,λk e v b X M B=> ?_⟩;rw[x.dO (tP c h)];exact R.mem.box i t cs h;rcases F X with⟨G,X⟩|⟨rfl,rfl⟩;rcases H3 M with⟨_,M⟩|⟨rfl,rfl⟩;exact R.mem.ah k e v X M;omega;rcases H3 M with⟨G,_⟩|⟨_,rfl⟩;omega;exact⟨m,l⟩;rcases R.tmps t sv h with X|X;exact .inl X;right;rw[x.ab (wt f h)];exact X;rcases F X with⟨G,w⟩|⟨rfl,af⟩;rcases H3 M with⟨_,u⟩|⟨rfl,rfl⟩;have t:=R.gj k e v b w u B;refine⟨t.own,t.mem,t.box,λA z H y L Q=> ?_,t.inner⟩;rcases F L with⟨o,L⟩|⟨o,ag⟩;rcases H3 Q with⟨_,Q⟩|⟨rfl,rfl⟩;exact t.alone A z H y L Q;omega;rcases H3 Q with⟨an,_⟩|⟨_,al⟩;omega;rw[ag,al];exact j k e v b w u B;omega;rcases H3 M with⟨G,_⟩|⟨_,rfl⟩;omega;have t:=g e b af.symm B;refine⟨t.own,t.mem,t.box,λA z H y L Q=> ?_,t.inner⟩;rcases F L with⟨o,L⟩|⟨rfl,_⟩;rcases H3 Q with⟨_,Q⟩|⟨rfl,rfl⟩;exact t.alone A z H L Q;omega;exact aZ rfl y
end
variable{k:au}
structure fQ(W:World)(o:Ty)(e:TypeId)(rows:au):Prop where
 len:∀(i:Nat)(row:aC),rows[i]?=U row->Y row=(bD o (.sl e)).length
 int:∀(i j:Nat)(row:aC)(c:RV)(k:IntKind),rows[i]?=U row->row[j]?=U c->(bD o (.sl e))[j]?=U (.int k)->∃n,c.val=.int k n
 bool:∀(i j:Nat)(row:aC)(c:RV),rows[i]?=U row->row[j]?=U c->(bD o (.sl e))[j]?=U .bool->∃x,c.val=.bool x
 ae:∀(i j:Nat)(row:aC)(c:RV)(z:Value)(k:RK),rows[i]?=U row->row[j]?=U c->(bD o (.sl e))[j]?=U (.ae z k)->bJ W o k c
def eG(rows:au):gt:=rows.flatMap λX=>X.map RV.val
def Bz{w:Nat}:∀{rows:au},(∀(i:Nat)(X:aC),rows[i]?=U X->Y X=w)->(eG rows).length=Y rows*w
 |[],_=>by simp[eG]
 |r::Q,h=>by
  have N:=h 0 r rfl;have R:=Bz (rows:=Q) (λi X M=>h (i+1) X (by simpa using M));simp only[eG,Zq,gc,qX,lH,N] at R⊢;rw[R,pz];omega
def OV{w:Nat}:∀{rows:au},(∀(i:Nat)(row:aC),rows[i]?=U row->Y row=w)->∀{i j:Nat}{row:aC}{c:RV},rows[i]?=U row->row[j]?=U c->(eG rows)[i*w+j]?=U c.val
 |[],_,i,j,row,c,h,_=>by simp at h
 |r::Q,h,0,j,row,c,X,R=>by
  simp at X;subst X;have L:j<Y r:=(ck.1 R).1;simp only[eG,Zq,Nat.zero_mul,iX];rw[dH (by simpa using L)];simp[R]
 |r::Q,h,i+1,j,row,c,X,R=>by
  have N:=h 0 r rfl;have M:=OV (rows:=Q) (λi row H=>h (i+1) row (by simpa using H)) (i:=i) (by simpa using X) R;simp only[eG,Zq] at M⊢;rw[iE (by simp[N,pz];omega)];rw[<-M];congr 1;simp[N,pz];omega
def KU{w:Nat}:∀{rows:au},(∀(i:Nat)(X:aC),rows[i]?=U X->Y X=w)->∀{q:Nat}{u:Value},(eG rows)[q]?=U u->∃i j X c,rows[i]?=U X/\X[j]?=U c/\q=i*w+j/\u=c.val
 |[],_,q,u,h=>by simp[eG] at h
 |r::N,h,q,u,R=>by
  have A:=h 0 r rfl;simp only[eG,Zq] at R;by_cases M:q<Y r;rw[dH (by simpa using M),dW] at R;cases Q:r[q]? with
  |none=>rw[Q] at R;cases R
  |some c=>rw[Q] at R;simp at R;exact⟨0,q,r,c,rfl,Q,av,R.symm⟩
  rw[iE dh] at R;obtain⟨i,j,X,c,L,H,G,F⟩:=KU (rows:=N) (λi X B=>h (i+1) X (by simpa using B)) R;refine⟨i+1,j,X,c,by simpa using L,H, ?_,F⟩;simp only[qX] at G;rw[pz];omega
def aaw(a b:au):eG (a++b)=eG a++eG b:=by simp[eG]
section
variable{W W':World}{o:Ty}{e:TypeId}{rows aA:au}
def fQ.yb{v:Value}(h:bJ W o (.sl e) (.mk v rows)):fQ W o e rows:=by
 cases h with
 |sl e A H G rows F B X R Q N=>exact⟨λi M L=>(X i M L).1,R,Q,N⟩
def tS{A:oz}(h:bJ W o (.sl e) (.mk (.slice A R Q) rows)):Y rows=R/\R<=Q:=by
 cases h with
 |sl e A R Q rows X N M L H G=>exact⟨X,N⟩
def OW{A:oz}(h:bJ W o (.sl e) (.mk (.slice A R Q) rows)):∀(q:Nat)(u:Value),(eG rows)[q]?=U u->∃b X,A=U ⟨b,X,Z⟩/\(∃N t M,W.heap[b]?=U (.cells N t M))/\W.cell? ⟨b,X+q,Z⟩=U u:=by
 intro q u L;have H:=fQ.yb h;obtain⟨i,j,G,c,F,B,rfl,rfl⟩:=KU H.len L;cases h with
 |sl e A R Q rows w v z r p n=>
  obtain⟨-,b,X,rfl,y,x⟩:=z i G F;exact⟨b,X,rfl,y,by rw[<-He];exact x j c B⟩
def aax(h:fQ W o e rows)(M:∃L t H,W.heap[R]?=U (.cells L t H))(G:∀(q:Nat)(u:Value),(eG rows)[q]?=U u->W.cell? ⟨R,Q+q,Z⟩=U u)(F:Y rows<=i):bJ W o (.sl e) (.mk (.slice (U ⟨R,Q,Z⟩) (Y rows) i) rows):=
 bJ.sl e _ _ _ _ rfl F (λX B N=>⟨h.len X B N,R,Q,rfl,M,λj c A=>by
  have:=G _ _ (OV h.len N A)
  rwa [<-He] at this⟩) h.int h.bool h.ae
def Dx(A:oz)(Q:Nat):bJ W o (.sl e) (.mk (.slice A 0 Q) []):=
 bJ.sl e _ _ _ _ rfl (Hh _) (λi R X=>by simp at X) (λi j R c k X=>by simp at X) (λi j R c X=>by simp at X) (λi j R c z k X=>by simp at X)
def fQ.single(h:fQ W o e rows):∀u∈eG rows,jr u=true:=by
 intro u L;obtain⟨q,H⟩:=tB L;obtain⟨i,j,X,c,R,Q,rfl,rfl⟩:=KU h.len H;have F:j<(bD o (.sl e)).length:=by rw[<-h.len i X R];exact(ck.1 Q).1
 cases N:(bD o (.sl e))[j]? with
 |none=>rw[CV] at N;omega
 |some G=>
  cases G with
  |int k=>obtain⟨n,M⟩:=h.int i j X c k R Q N;rw[M];rfl
  |bool=>obtain⟨n,M⟩:=h.bool i j X c R Q N;rw[M];rfl
  |ae z k=>exact KK (h.ae i j X c z k R Q N)
def fQ.world(h:fQ W o e rows)(M:∀b,n7 o e rows b->W'.heap[b]?=W.heap[b]?)(L:W.heap.size<=W'.heap.size):fQ W' o e rows:=
 ⟨h.len,h.int,h.bool,λi j X c z k R Q N=>(h.ae i j X c z k R Q N).KQ (λb H=>M b ⟨i,j,X,c,z,k,R,Q,N,H⟩) L⟩
def fQ.lt(h:fQ W o e rows){b:Nat}(X:n7 o e rows b):b<W.heap.size:=by
 obtain⟨i,j,R,c,z,k,Q,N,M,L⟩:=X;exact(h.ae i j R c z k Q N M).lt L
def fQ.nil:fQ W o e []:=⟨λi X h=>by simp at h,λi j X c k h=>by simp at h,λi j X c h=>by simp at h,λi j X c z k h=>by simp at h⟩
def OX{b:au}{X:aC}(h:(k++b)[R]?=U X):k[R]?=U X\/b[R-Y k]?=U X:=by
 by_cases Q:R<Y k;rw[dH Q] at h;exact .inl h;rw[iE aa] at h;exact .inr h
def fQ.kJ(h:fQ W o e rows)(R:fQ W o e aA):fQ W o e (rows++aA):=
 ⟨λi Q X=>(OX X).elim (h.len _ _) (R.len _ _),λi j Q c k X=>(OX X).elim (h.int _ _ _ _ _) (R.int _ _ _ _ _),
  λi j Q c X=>(OX X).elim (h.bool _ _ _ _) (R.bool _ _ _ _),λi j Q c z k X=>(OX X).elim (h.ae _ _ _ _ _ _) (R.ae _ _ _ _ _ _)⟩
def awd(h:n7 o e (rows++aA) R):n7 o e rows R\/n7 o e aA R:=by
 obtain⟨i,j,Q,c,z,k,X,N,M,L⟩:=h;exact(OX X).imp (λX=>⟨_,j,Q,c,z,k,X,N,M,L⟩) (λX=>⟨_,j,Q,c,z,k,X,N,M,L⟩)
def OY(h:n7 o e [] R):False:=by
 obtain⟨i,j,Q,c,z,k,X,-⟩:=h;simp at X
def TN(h:n7 o e rows R):ee o (.sl e) (.mk c rows) R:=by
 obtain⟨i,j,Q,X,z,k,N,M,L,H⟩:=h;exact ee.deep e c rows i j Q X z k R N M L H
def aj6(h:ee o (.sl e) (.mk c rows) R):(∃a Q N,c=.slice (U a) (Q+1) N/\R=a.block)\/n7 o e rows R:=by
 cases h with
 |here e a Q N rows=>exact .inl ⟨a,Q,N,rfl,rfl⟩
 |deep e c rows i j M X z k R L H G F=>exact .inr ⟨i,j,M,X,z,k,L,H,G,F⟩
end
def awe(h:ee n z (cG z L) R):ee n z L R:=by
 cases z with
 |sl e=>
  simp only[cG] at h;split at h;exact h;cases h with
  |deep e L rows i j N c X z R Q=>simp at Q
 |str=>cases h
 |ae=>cases h
 |own e=>
  simp only[cG] at h;split at h;exact h;cases h with
  |own e H R M=>cases M with
   |deep e L rows i j N c X z R Q=>simp at Q
 |am=>cases h
 |mr G=>cases h
def aj7(h:ee n z default R):False:=by
 cases h with
 |deep e v rows i j N c X z R Q=>simp at Q
 |own e L R M=>cases M with
  |deep e v rows i j N c X z R Q=>simp at Q
def TO(h:ee n z.rd L R):ee n z L R:=by
 cases z with
 |own t=>exact ee.own _ _ _ h
 |_=>exact h
def awf{i:Int}(L:Ht (bD n (.sl X))[R]?=z)(H:z≠ .ae)(h:ee n z (cG z (aU k i R)) Q):n7 n X k Q:=by
 have M:=awe h;simp only[aU,cz] at M;cases G:k[i.toNat]? with
 |none=>rw[G] at M;exact(aj7 (by simpa using M)).elim
 |some A=>
  rw[G] at M;simp only[pu] at M;cases F:A[R]? with
  |none=>rw[F] at M;exact(aj7 (by simpa using M)).elim
  |some c=>
   rw[F] at M;cases B:(bD n (.sl X))[R]? with
   |none=>rw[B] at L;exact aZ L.symm H
   |some y=>
    rw[B] at L;subst L;cases y with
    |ae N x=>exact⟨_,R,A,c,N,x,G,F,B,by simpa[Ht] using M⟩
    |int _=>exact aZ rfl H
    |bool=>exact aZ rfl H
def TP{o:Ty}{O:ai}{s:S}{b:Nat}:∀{r:RE}{e:RK},e≠ .ae->r.kind o s=e->ee o e (r.rv O) b->
  ∃R Q,r.root=U R/\s.rs[R]?=U Q/\((r=.v R/\Q.rd=e)\/∃t,Q.rd=.sl t/\n7 o t (O.rv R).ac b)
 |.v k,e,X,h,N=>by
  simp only[RE.kind,cz] at h;cases H:s.rs[k]? with
  |none=>rw[H] at h;exact aZ (show e=.ae from h.symm) X
  |some q=>rw[H] at h;simp at h;exact⟨k,q,rfl,H,.inl ⟨rfl,h⟩⟩
 |.cell r i j x,e,X,h,N=>by
  simp only[RE.kind] at h;split at h;rename_i G F;split at h;rename_i B;subst h;simp only[RE.rv] at N;have L:=awf B X N;have A:ee o (.sl G) (r.rv O) b:=by
   revert L;generalize r.rv O=v;intro L;obtain⟨v,rows⟩:=v;exact TN L
  obtain⟨R,Q,z,y,M⟩:=TP (r:=r) (e:=.sl G) av F A;refine⟨R,Q,z,y,.inr ?_⟩;rcases M with⟨rfl,M⟩|M;exact⟨G,M,by simpa[RE.rv] using L⟩;exact M;exact aZ h.symm X;exact aZ h.symm X
 |.k v,e,X,h,N=>by
  cases v<;>simp only[RE.kind] at h
  case string s=>subst h;cases N
  all_goals exact aZ h.symm X
section
variable{p:ar}{d:World}{D:cg}{P:Program}{o:Ty}{B:nu}{V:ar}{O:ai}{s:S}{a:Act}{W:World}
def uS(X:az p d D o V O s a W)(h:s.rs[R]?=U z):O.r[R]?=U (O.rv R):=by
 have Q:R<Y O.r:=by rw[X.er];exact(ck.1 h).1
 simp[ai.rv,Q]
def H4(v:RV):RV.mk v.val v.ac=v:=by cases v;rfl
def KV{e0:RK}(h:e0.rd=.sl X)(N:n7 o X (O.rv R).ac Q):ee o e0 (O.rv R) Q:=by
 apply TO;rw[h,<-H4 (O.rv R)];exact TN N
def OZ(N:az p d D o V O s a W)(H:s.rs[R]?=U (.own X))(F:O.r[R]?=U L)(x:L.lu=U Q){t:TypeId}(M:s.rs[i]?=U z)(G:z.rd=.sl t)(B:n7 o t (O.rv i).ac Q):False:=by
 have A:=N.gj R X L Q H F x;by_cases y:i=R;subst y;rw[H] at M;cases M;simp only[RK.rd,RK.sl.injEq] at G;subst G;have:=uS N H;rw[F] at this;cases this;exact A.inner B;exact A.alone i z (O.rv i) y M (uS N M) (.inl (KV G B))
def TQ(N:az p d D o V O s a W)(F:s.rs[R]?=U (.own X))(B:O.r[R]?=U L)(A:L.lu=U Q){r:RE}(w:z≠ .ae)(h:r.kind o s=z)(y:ee o z (r.rv O) Q):r=.v R:=by
 obtain⟨H,u,m,G,M⟩:=TP w h y;rcases M with⟨rfl,M⟩|⟨t,M,q⟩;by_cases x:H=R;rw[x];have n:=N.gj R X L Q F B A;exact aZ (.inl (TO (by rw[M];exact y))) (n.alone H u (O.rv H) x G (uS N G));exact(OZ N F B A G M q).elim
def KW(X:az p d D o V O s a W){r:RE}(F:z≠ .ae)(h:r.kind o s=z)(H:ee o z (r.rv O) R):O.qz o s.rs R/\∀i,aK s.ap i=J->ad V i≠R:=by
 obtain⟨N,M,A,L,Q⟩:=TP F h H;have G:ee o M (O.rv N) R:=by
  rcases Q with⟨rfl,Q⟩|⟨t,Q,B⟩;exact TO (by rw[Q];exact H);exact KV Q B
 exact⟨⟨N,M,L,G⟩,(X.mem.ah N M _ L (uS X L)).2 R G⟩
def aj8(R:az p d D o V O s a W){k:RK}{r:RE}(h:r.fits o s k=J):bJ W o k (r.rv O):=by
 unfold RE.fits at h;split at h;rename_i e;simp only[jy,cm] at h;rcases h with h|h;exact sn R av h;unfold RE.isNil at h;split at h;exact Dx Z 0;cases h;simp only[cm] at h;exact sn R av h;cases h
def aay{r:RE}(h:r.fits o s z=J)(Q:ee o z (r.rv O) R):r.kind o s=z/\z≠ .ae:=by
 unfold RE.fits at h;split at h;rename_i e;simp only[jy,cm] at h;rcases h with h|h;exact⟨h,av⟩;unfold RE.isNil at h;split at h;simp only[RE.rv] at Q;cases Q with
 |deep e v rows i j M c X z R N=>simp at N
 cases h;simp only[cm] at h;exact⟨h,av⟩;cases h
def H5:∀{aj:fj}{R:aq},mM o s aj R=J->Y R=Y aj/\∀(j:Nat)(X:CT)(v:C),aj[j]?=U X->R[j]?=U v->tF o s X v=J
 |[],[],_=>⟨rfl,λj X v h=>by simp at h⟩
 |[],_::_,h=>by simp[mM] at h
 |_::_,[],h=>by simp[mM] at h
 |c::G,v::F,h=>by
  simp only[mM,aw] at h;obtain⟨M,L⟩:=H5 h.2;refine⟨by simp[M],λj X H Q N=> ?_⟩;cases j with
  |zero=>simp at Q N;subst Q N;exact h.1
  |succ j=>exact L j X H (by simpa using Q) (by simpa using N)
def aj9{X:CT}(h:tF o s X M=J):M.ab O V=(M.cd O).val:=by
 unfold tF at h;split at h<;>first|rfl|cases h
structure TR(W:World)(o:Ty)(aj:fj)(row:aC):Prop where
 len:Y row=Y aj
 int:∀(j:Nat)(c:RV)(k:IntKind),row[j]?=U c->aj[j]?=U (.int k)->∃n,c.val=.int k n
 bool:∀(j:Nat)(c:RV),row[j]?=U c->aj[j]?=U .bool->∃x,c.val=.bool x
 ae:∀(j:Nat)(c:RV)(z:Value)(k:RK),row[j]?=U c->aj[j]?=U (.ae z k)->bJ W o k c
def fQ.of(h:∀(i:Nat)(Q:aC),k[i]?=U Q->TR W o (bD o (.sl X)) Q):fQ W o X k:=
 ⟨λi Q N=>(h i Q N).len,λi j Q c R N=>(h i Q N).int j c R,λi j Q c N=>(h i Q N).bool j c,λi j Q c z R N=>(h i Q N).ae j c z R⟩
def fQ.get(h:fQ W o X k){N:aC}(M:k[R]?=U N):TR W o (bD o (.sl X)) N:=
 ⟨h.len R N M,λj c Q=>h.int R j N c Q M,λj c=>h.bool R j N c M,λj c z Q=>h.ae R j N c z Q M⟩
def aaz(R:az p d D o V O s a W){aj:fj}(h:mM o s aj w=J):TR W o aj (w.map (C.cd O)):=by
 obtain⟨F,B⟩:=H5 h;have H:∀(j:Nat)(c:RV)(L:CT),(w.map (C.cd O))[j]?=U c->aj[j]?=U L->∃v,tF o s L v=J/\c=v.cd O:=by
  intro j c L N M;rw[dW] at N;cases G:w[j]? with
  |none=>rw[G] at N;cases N
  |some v=>rw[G] at N;simp at N;exact⟨v,B j L v M G,N.symm⟩
 refine⟨by simpa using F,λj c k N M=> ?_,λj c N M=> ?_,λj c z k N M=> ?_⟩;obtain⟨v,Q,rfl⟩:=H j c _ N M;unfold tF at Q;split at Q;rename_i X;cases X;simp at Q;subst Q;exact⟨_,rfl⟩;rename_i X;cases X;rename_i X;cases X;cases Q;obtain⟨v,Q,rfl⟩:=H j c _ N M;unfold tF at Q;split at Q;rename_i X;cases X;exact⟨_,rfl⟩;rename_i X;cases X;cases Q;obtain⟨v,Q,rfl⟩:=H j c _ N M;unfold tF at Q;split at Q;rename_i X;cases X;rename_i X;cases X;rename_i X;cases X;exact aj8 R Q;cases Q
def aaA{aj:fj}(h:mM o s aj w=J)(X:(w.map (C.cd O))[R]?=U L)(F:aj[R]?=U (.ae c z))(H:ee o z L Q):
  ∃r:RE,w[R]?=U (.ah r)/\r.kind o s=z/\z≠ .ae/\ee o z (r.rv O) Q:=by
 obtain⟨A,B⟩:=H5 h;rw[dW] at X;cases G:w[R]? with
 |none=>rw[G] at X;cases X
 |some v=>
  rw[G] at X;simp at X;subst X;have N:=B R _ v F G;unfold tF at N;split at N;rename_i M;cases M;rename_i M;cases M;rename_i r M;cases M;exact⟨r,rfl,(aay (O:=O) N H).1,(aay (O:=O) N H).2,H⟩;cases N
def Fs:∀{aj:fj}{l:xK},nX o s aj l=J->∀(i:Nat)(X:aq),l[i]?=U X->mM o s aj X=J
 |aj,[],_,i,X,h=>by simp at h
 |aj,r::Q,h,0,X,R=>by simp only[nX,aw] at h;simp at R;subst R;exact h.1
 |aj,r::Q,h,i+1,X,R=>by simp only[nX,aw] at h;exact Fs h.2 i X (by simpa using R)
def aaB{Q:bv}(h:(kB y 0 Q)[R]?=U (.own X)):Q[R]?=U (.own X)/\R∉y:=by
 rw[KT] at h;cases M:Q[R]? with
 |none=>rw[M] at h;cases h
 |some x=>
  rw[M] at h;simp only[iX,eh,cU] at h;cases x<;>simp[zq] at h
  case own t=>
   by_cases N:R∈y;simp[N] at h;simp[N] at h;exact⟨by rw[h],N⟩
def aka{Q:bv}(h:(ju y 0 Q)[R]?=U z):(R∈y/\z=.am)\/(R∉y/\Q[R]?=U z):=by
 rw[KS] at h;cases N:Q[R]? with
 |none=>rw[N] at h;cases h
 |some x=>
  rw[N] at h;simp only[iX,eh,cU] at h;by_cases X:R∈y;simp[X] at h;exact .inl ⟨X,h.symm⟩;simp[X] at h;exact .inr ⟨X,by rw[h]⟩
structure Ft(W W':World)(e:TypeId)(w:Nat)(old:cM)(rows:au)(A:oz)(cap:Nat):Prop where
 le:Y rows<=cap
 nil:A=Z->cap=0
 mem:cap=0\/∃b da,A=U ⟨b,0,Z⟩/\W'.heap[b]?=U (.cells da e (0,0))/\cap<=maxLen/\da.size=cap*w/\da.toList.take (Y rows*w)=eG rows/\(W.heap.size<=b\/old=U b)
def Dy(o:Ty)(V:ar)(O:ai)(s:S)(e:TypeId)(rows:au)(dq:ar):Prop:=
 ∀b,n7 o e rows b->O.qz o s.rs b/\(∀i,aK s.ap i=J->ad V i≠b)/\∀(k:Nat)(t:TypeId)(X:RV),s.rs[k]?=U (.own t)->O.r[k]?=U X->X.lu=U b->k∈dq
def O4{X:bv}(h:s.bd=J)(R:Y X=Y s.rs):({s with rs:=X}:S).bd=true:=by
 simp only[S.bd,R] at h⊢;exact h
def az.bind(R:az p d D o V O s a W)(hb:s.bd=J){e:TypeId}{rows:au}{kill dq:ar}{old:cM}{W':World}{A:oz}{cap:Nat}
  (hk:(kill=[]/\old=Z)\/∃k t v,kill=[k]/\s.rs[k]?=U (.own t)/\O.r[k]?=U v/\old=v.lu)(ba:∀k∈kill,k∉dq)
  (f:W.grownBy W' old)(al:fQ W o e rows)(af:Dy o V O s e rows dq)(z:Ft W W' e (bD o (.sl e)).length old rows A cap):
  az p d D o V (O.add (.r (.mk (.slice A (Y rows) cap) rows))) {s with rs:=kB dq 0 (ju kill 0 s.rs)++[.own e]} a W'/\∀b,ee o (.sl e) (.mk (.slice A (Y rows) cap) rows) b->d.heap.size<=b\/b∈p\/O.qz o s.rs b:=by
 have y:∀b,old=U b->(d.heap.size<=b\/b∈p)/\b<W.heap.size/\(∀i,aK s.ap i=J->ad V i≠b)/\(∀L H M,L∉kill->s.rs[L]?=U H->O.r[L]?=U M->¬zB o H M b)/\¬n7 o e rows b:=by
  intro b j;rcases hk with⟨_,m⟩|⟨k,t,v,rfl,X,F,x⟩;rw[m] at j;cases j;rw[x] at j;have tp:=R.gj k t v b X F j;refine⟨tp.own,tp.lt,tp.box,λL H M hn=>tp.alone L H M (by simpa using hn),λG=> ?_⟩;exact ba k av ((af b G).2.2 k t v X F j)
 have R1:az p d D o V O {s with rs:=ju kill 0 s.rs} a W':=by
  rcases hk with⟨rfl,rfl⟩|⟨k,t,v,rfl,X,F,rfl⟩;have:ju [] 0 s.rs=s.rs:=by
   apply kG;intro i;rw[KS];cases s.rs[i]?<;>simp
  rw[this];exact R.grown f;exact R.eE X F f
 have R2:=R1.mO (OU dq _);have bb:fQ W' o e rows:=al.world (λb G=>f.block b (al.lt G) (λh=>(y b h.symm).2.2.2.2 G)) f.size;have bc:bJ W' o (.sl e) (.mk (.slice A (Y rows) cap) rows):=by
  rcases z.mem with m|⟨b,da,rfl,X,F,x,h4,Q⟩;have N:=z.le;have:rows=[]:=tw aa;subst this;exact Dx A cap;refine aax bb ⟨_,_,_,X⟩ (λq u hq=> ?_) z.le;rw[<-h4,nj] at hq;split at hq;simp only[ow,X,iX];simpa using hq;cases hq
 have an:∀b,zB o (.own e) (.mk (.slice A (Y rows) cap) rows) b->(W.heap.size<=b\/old=U b)\/n7 o e rows b:=by
  intro b N;have a4:∀n,A=U n->cap≠0->n.block=b->(W.heap.size<=b\/old=U b):=by
   intro n hA hc ag;rcases z.mem with m|⟨w,da,X,_,_,_,_,Q⟩;exact aZ m hc;rw[X] at hA;cases hA;simp only at ag;subst ag;exact Q
  rcases N with N|⟨-,N⟩;cases N with
  |own e v b N=>
   rcases aj6 N with⟨n,bt,bx,X,rfl⟩|X;simp only[Value.slice.injEq] at X;exact .inl (a4 n X.1 (by have:=z.le;omega) rfl);exact .inr X
  simp only[RV.lu,RV.nC] at N;split at N;rename_i n l0 c0 X;cases X;simp at N;exact .inl (a4 n rfl aa N);cases N
 have bf:∀{k:Nat}{H:RK},(kB dq 0 (ju kill 0 s.rs))[k]?=U H->∃e0,(ju kill 0 s.rs)[k]?=U e0/\rn e0 H:=λh=>(OU dq _).get _ _ h
 constructor;refine R2.add (O4 (O4 hb (Bw _ _ _)) (By _ _ _)) (bJ.own e _ bc (λl c h=>by cases h;exact z.nil rfl)) (λb N i G=> ?_) (λk t M b X F x N=> ?_) (λt b ht a9=> ?_);rcases an b (.inl N) with(h|h)|h;have:=R.mem.lt G;omega;exact(y b h).2.2.1 i G;exact(af b h).2.1 i G;obtain⟨bg,bk⟩:=aaB X;rcases aka bg with⟨_,h⟩|⟨bl,a1⟩;cases h;rcases an b N with(h|h)|h;have:=(R.gj k t M b a1 F x).lt;omega;exact(y b h).2.2.2.1 k _ M bl a1 F (.inr ⟨⟨t,rfl⟩,x⟩);exact bk ((af b h).2.2 k t M a1 F x);cases ht;have br:cap≠0:=by
  intro h;subst h;simp[RV.lu] at a9
 rcases z.mem with m|⟨w,da,rfl,X,F,x,h4,Q⟩;exact aZ m br;have ag:w=b:=by
  obtain⟨c',rfl⟩:∃c',cap=c'+1:=⟨cap-1,aa⟩;simpa[RV.lu] using a9
 subst ag;have bs:∀(L:Nat)(H:RK)(M:RV),(ju kill 0 s.rs)[L]?=U H->O.r[L]?=U M->¬zB o H M w:=by
  intro L H M g1 g B;rcases aka g1 with⟨_,rfl⟩|⟨hn,a3⟩;rcases B with B|⟨⟨t,ht⟩,_⟩;cases B;cases ht;rcases Q with Q|Q;rcases B with B|⟨⟨t,rfl⟩,B⟩;have:=(R.mem.ah L H M a3 g).1.lt B;omega;have:=(R.gj L t M w a3 g B).lt;omega;exact(y w Q).2.2.2.1 L H M hn a3 g B
 refine⟨?_,⟨Y rows,cap,da,rfl,X,z.le,F,x⟩,λi G=> ?_,λL H M g1 g B=> ?_,λG=> ?_⟩;rcases Q with Q|Q;exact .inl (pw R.mem.base.size Q);exact(y w Q).1;rcases Q with Q|Q;have:=R.mem.lt G;omega;exact(y w Q).2.2.1 i G;obtain⟨e0,g4,hw⟩:=bf g1;exact bs L e0 M g4 g (B.mO hw);rcases Q with Q|Q;have:=al.lt G;omega;exact(y w Q).2.2.2.2 G;intro b N;rcases an b (.inl (ee.own _ _ _ N)) with(h|h)|h;exact .inl (pw R.mem.base.size h);exact(y b h).1.imp id .inl;exact .inr (.inr (af b h).1)
end
section
variable{p:ar}{d:World}{D:cg}{P:Program}{o:Ty}{V:ar}{O:ai}{s:S}{a:Act}{W:World}
def lx(A:oz)(X:Nat):cM:=match A,X with
 |U a,_+1=>U a.block
 |_,_=>Z
def KY(A:oz)(n X:Nat)(R:au):(RV.mk (.slice A n X) R).lu=lx A X:=by
 cases A<;>cases X<;>rfl
structure KZ(W:World)(e:TypeId)(w:Nat)(A:oz)(cap:Nat):Prop where
 nil:A=Z->cap=0
 mem:cap=0\/∃b da,A=U ⟨b,0,Z⟩/\W.heap[b]?=U (.cells da e (0,0))/\cap<=maxLen/\da.size=cap*w
def aaC{da:mI}{t:TypeId}{M:Nat×Nat}(h:bJ W o (.sl X) (.mk (.slice (U ⟨R,0,Z⟩) Q i) k))(L:W.heap[R]?=U (.cells da t M)):
  da.toList.take (Y k*(bD o (.sl X)).length)=eG k:=by
 have B:=Bz (fQ.yb h).len;have H:∀(q:Nat)(u:Value),(eG k)[q]?=U u->da[q]?=U u:=by
  intro q u N;obtain⟨A,z,G,y,F⟩:=OW h q u N;cases G;simpa[ow,L] using F
 apply kG;intro q;rw[nj];by_cases N:q<(eG k).length;rw[aJ aa,cS N];simpa using H q _ (cS N);rw[aQ aa,kg aa]
def awg{t t2 tyR:TypeId}(bb:fk P X v)(hw:Y v.aj≠0)(al:(bD o (.sl X)).length=Y v.aj)(p:P.underlying t=U (.slice X))(n:P.underlying t2=U (.slice X))
  {H:au}{F m:oz}{cap2:Nat}(y:bJ W o (.sl X) (.mk (.slice F R Q) k))(hr:KZ W X (Y v.aj) F Q)
  (an:Y H=i)(bc:fQ W o X H)(bd:∀(q:Nat)(u:Value),(eG H)[q]?=U u->∃l,m=U l/\W.cell? (l.add q)=U u)
  (cf:R<=536870912)(ch:i<=536870912):
  ∃A bf W',(Builtin.append_ #[t,t2] tyR #[.slice F R Q,.slice m i cap2]).run P W=.ok (.slice A (R+i) bf) W'/\W.grownBy W' (lx F Q)/\Ft W W' X (Y v.aj) (lx F Q) (k++H) A bf:=by
 obtain⟨N,w,r,z,hz,br⟩:=bb.KH;have bs:=bb.bytes N w;have bt:z.cells.size=Y v.aj:=by rw[<-EX,br];simp
 obtain⟨g,cl⟩:=tS y;have bx:=fQ.yb y;have bg:(eG k).length=R*N.size:=by rw[Bz bx.len,g,al,r]
 have a3:(eG H).length=i*N.size:=by rw[Bz bc.len,an,al,r]
 have a4:(eG (k++H)).length=(R+i)*Y v.aj:=by rw[aaw,gc,bg,a3,r,pz]
 have f:(k++H).length=R+i:=by simp[g,an]
 have a9:∀G:World,(∀x,G.cell? x=W.cell? x)->(Builtin.firstCells N.size i (.slice m i cap2)).run P G=.ok (eG H).toArray G:=by
  intro G d;cases m with
  |none=>
   have:eG H=[]:=by
    cases hq:eG H with
    |nil=>rfl
    |cons x xs=>obtain⟨l,h,_⟩:=bd 0 x (by rw[hq];rfl);cases h
   rw[run_firstCells_none,this]
  |some a2=>
   refine run_firstCells_some G N.size i a2 i cap2 _ a3 (λj M hj=> ?_);obtain⟨l,h,h'⟩:=bd j M hj;cases h;rw[d];exact h'
 have b0:∀G:World,(∀x,G.cell? x=W.cell? x)->(Builtin.firstCells N.size R (.slice F R Q)).run P G=.ok (eG k).toArray G:=by
  intro G d;cases F with
  |none=>
   have:eG k=[]:=by
    cases hq:eG k with
    |nil=>rfl
    |cons x xs=>obtain⟨b,b1,h,_⟩:=OW y 0 x (by rw[hq];rfl);cases h
   rw[run_firstCells_none,this]
  |some a1=>
   refine run_firstCells_some G N.size R a1 R Q _ bg (λj M hj=> ?_);obtain⟨b,b1,h,_,h'⟩:=OW y j M hj;cases h;rw[d,ya];exact h'
 by_cases af:R+i<=Q
 
 rcases A5 Q with h0|h0;have e1:R=0:=aa;have e2:i=0:=aa;subst h0 e1 e2;have r1:k=[]:=tw g;have r2:H=[]:=tw an;subst r1 r2;refine⟨F,0,W, ?_,⟨rfl,rfl,rfl,b9 _,λ_ _ _=>rfl⟩,⟨b9 _,λ_=>rfl,.inl rfl⟩⟩;have B:=a9 W (λ_=>rfl);have ag:∀a1:Addr,(storeCells a1 [] 0).run P W=.ok () W:=λ_=>rfl
 cases F with
 |none=>simp[Builtin.append_,run_underlying p,run_underlying n,Go.sizeOf,typeInfo,w,Builtin.lenOf,B,eG]
 |some a1=>simp[Builtin.append_,run_underlying p,run_underlying n,Go.sizeOf,typeInfo,w,Builtin.lenOf,B,eG,ag]
 rcases hr.mem with d|⟨b,da,rfl,hg,ba,b2⟩;omega;have b3:R*N.size+(eG H).length<=da.size:=by rw[a3,b2,<-pz,r];exact EV _ af
 have B:=a9 W (λ_=>rfl);have ag:=run_storeCells_at P b (R*N.size) X (eG H) 0 da W hg (by simpa using b3) (λu hu=>aj1 (bc.single u hu));simp only[zl] at ag;have bk:lx (U ⟨b,0,Z⟩) Q=U b:=by cases Q with
  |zero=>omega
  |succ c=>rfl
 refine⟨U ⟨b,0,Z⟩,Q,W.setRow b (da.toList.take (R*N.size)++eG H++da.toList.drop (R*N.size+(eG H).length)).toArray, ?_,⟨rfl,rfl,rfl,by simp[World.setRow],λL _ hk=>setRow_other W b L _ (λh=>hk (by rw[bk,h]))⟩,
  ⟨by rw[f];exact af,av,.inr ⟨b,_,rfl,setRow_heap W b da _ X _ hg,ba, ?_, ?_,.inr bk⟩⟩⟩
 simp[Builtin.append_,run_underlying p,run_underlying n,Go.sizeOf,typeInfo,w,Builtin.lenOf,af,B,Addr.add_lit,ag];simp only[G9,gc,EY,C1,EX];omega;have bl:=aaC y hg;rw[g,al,<-r] at bl;rw[f,bl,<-aaw,<-a4];exact List.take_left
 
 have b4:R+i<=1073741824:=aa;have b5:(R+i)*N.bytes<=140737488355328:=by
  have:(R+i)*N.bytes<=1073741824*131072:=J5 b4 bs;omega
 have cn:=growslice_fits (show Q<R+i from aa) b5;have b6:R+i<=maxLen:=by simp only[maxLen];omega
 have b7:=grownCap_ge W (R+i) Q X;have ba:=grownCap_le_maxLen W (R+i) Q X b6;have B:=a9 W.drew (λ_=>av);have b8:=b0 W.drew (λ_=>av);have ca:¬(9223372036854775807<((R:Int)+(i:Int))):=aa;have cc:¬(281474976710656<Builtin.nextslicecap (R+i) Q*N.bytes):=aa;refine⟨U ⟨W.heap.size,0,Z⟩,grownCap W (R+i) Q X,W.drew.alloc (.cells ((eG (k++H)).toArray++Builtin.zeroCells z.cells (grownCap W (R+i) Q X-(R+i))) X), ?_,
  ⟨rfl,rfl,rfl,av,λL hk _=>Below.heap_alloc W.drew _ _ hk⟩,⟨by rw[f];exact b7,av,.inr ⟨W.heap.size,_,rfl,SK W.drew _,ba, ?_, ?_,.inl (b9 _)⟩⟩⟩
 simp[Builtin.append_,run_underlying p,run_underlying n,Go.sizeOf,typeInfo,zeroValue,w,hz,Builtin.lenOf,af,ca,cc,Question.forced,B,b8,newRow,grownCap];congr 2;apply nq;simp[A6,aaw];simp only[Array.size_append,G9,size_zeroCells,bt,a4,<-pz];congr 1;omega;simp only[Array.toList_append,f,<-a4];exact List.take_left
end
structure bH(s:S)(O:ai)(V:ar)(s':S)(O':ai)(V':ar):Prop where
 ext:oa s.ap O O' V V'
 mono:∀i,aK s.ap i=J->aK s'.ap i=J
 len:Y s.ap<=Y s'.ap
 ax:s.ax<=s'.ax
def bH.refl(s:S)(O:ai)(V:ar):bH s O V s O V:=⟨oa.refl _ _ _,λ_ h=>h,b9 _,b9 _⟩
def bH.trans{s s' X:S}{O R Q:ai}{V N M:ar}(h:bH s O V s' R N)(k:bH s' R N X Q M):bH s O V X Q M:=
 ⟨h.ext.trans k.ext h.mono,λi L=>k.mono i (h.mono i L),pw h.len k.len,pw h.ax k.ax⟩
def bH.put{s s':S}{X:ai}{R:ar}(h:bH s l y s' X R)(d:cM)(v:C):bH s l y (s'.put d v) X R:=by
 cases d<;>exact⟨h.ext,h.mono,h.len,h.ax⟩
def OR.gives(O:ai)(X:S):OR->Prop
 |.ok x=>X=x
 |.be b x=>b.ab O=J/\X=x
 |.split b R Q=>X=if b.ab O then R else Q
 |.no _=>False
def ss(P:Program)(o:Oper)(a:Act)(W:World)(v:Value)(X:World):Prop:=
 (execOp a.eval o).run P W=.ok (.value v) X\/((execOp a.eval o).run P W=.ok .skip X/\v=undef)
def aaD{s:S}(h:gu s.ap R=J)(t:TypeId)(X:aq)(d:cM)(v:C):bH s l y ((s.dt R t X).put d v) l (y.set R Q):=by
 refine bH.put (s':=s.dt R t X) ⟨ajZ h l y Q,λi N=>(pM (nF h).2).2 (.inr N),by simp[S.dt],by simp[S.dt]⟩ d v
def akb{s:S}{Q:aq}(h:cw s.ap R=U (X,w))(d:cM)(v:C):bH s l y ((s.dt R X Q).put d v) l y:=by
 refine bH.put (s':=s.dt R X Q) ⟨oa.refl _ _ _,λi N=>(pM (ck.1 (kj.1 h)).1).2 (.inr N),by simp[S.dt],by simp[S.dt]⟩ d v
def bH.lk{s X:S}{R:ai}{Q:ar}(h:bH s l y X R Q)(n:Nat):bH s l y {X with lk:=n} R Q:=⟨h.ext,h.mono,h.len,h.ax⟩
section
variable{g:ar}{u:World}{D:cg}{P:Program}{f:bE}{V:ar}{O:ai}{s:S}{a:Act}{W:World}
def az.lk(R:az g u D f.ty V O s a W)(n:Nat):az g u D f.ty V O {s with lk:=n} a W:=⟨R.mem,R.gJ,R.ei,R.eb,R.er,R.dl,R.size,R.tmps,R.gj⟩
def BA{s X:S}{d:cM}{r:PR}(h:(tG s d R r).gives l X):∃v,r.gives l v/\X=s.dF d v R:=by
 cases r with
 |ok v=>exact⟨v,rfl,h⟩
 |be b v=>
  simp only[tG] at h;split at h;exact⟨v,⟨h.1,rfl⟩,h.2⟩;exact h.elim
 |no w=>exact h.elim
def akc(n:Nat)(l:aq):(xP n l).length=n*Y l:=by
 induction n with
 |zero=>simp[xP]
 |succ n X=>simp[xP,X,pz];omega
def aaE(l:aq):∀(n k:Nat),k<n*Y l->(xP n l)[k]?=l[k%Y l]?
 |0,k,h=>by simp at h
 |n+1,k,h=>by
  have Q:0<Y l:=by
   rcases A5 (Y l) with X|X;rw[X] at h;simp at h;exact X
  rw[xP];by_cases R:k<Y l;rw[dH R,Nat.mod_eq_of_lt R];rw[iE aa,aaE l n (k-Y l) (by rw[pz] at h;omega)];congr 1;have:k=(k-Y l)+Y l:=aa
  conv=>rhs;rw[this,Nat.add_mod_right]
def O5(R:az g u D f.ty V O s a W)(B:jg P f.ty)(F:e8 f.gl O)(m:OM){s':S}(h:(gG f m s).gives O s'):
  ∃v W' V',ss P m.o a W v W'/\az g u D f.ty V' O s' (a.put m.o.dst v) W'/\bH s O V s' O V':=by
 unfold gG at h;split at h;exact h.elim;rename_i Q;have Q:∀x∈m.o.op.operands.toList,(s.ev f.gl x).eO=false:=by
  intro x hx;cases hh:(s.ev f.gl x).eO;rfl;exact aZ (kH.2 ⟨x,hx,hh⟩) Q
 split at h
 
 rename_i t X;split at h;rename_i ti r;split at h;rename_i N;simp only[aw] at N;cases h;obtain⟨z,al,an⟩:=KL (P:=P) (W:=W) (O:=O) (V:=V) (B _ _ r);have G:=R.alloc (tR N.2) t (eA ti) N.1;rw[tQ (KR N.2)] at G;have j:=nF (tR N.2);refine⟨.pointer (U ⟨W.heap.size,0,Z⟩),W.alloc (.cells (C.aE O V (eA ti)).toArray t),V.set m.ix W.heap.size,.inl ?_, ?_,aaD (tR N.2) _ _ _ _⟩;rw[<-an];simp[execOp,X,Instr.alloc,al,newVar,newRow];have:=G.put m.o.dst (.loc m.ix 0);rw[C.ab,Dw (by rw[R.gJ];exact j.2)] at this;exact this;exact h.elim;exact h.elim
 
 rename_i t x X;rw[X] at Q;have he:=du R F x (Q x cK);split at h;rename_i ti r;split at h;rename_i N;simp only[aw] at N;cases h;obtain⟨⟨⟨-,d⟩,h2⟩,H⟩:=N;have a0:=TJ (O:=O) (V:=V) (wu R) h2;have G:=R.alloc (tR H) t (s.ev f.gl x).cells d;rw[tQ (KR H)] at G;have j:=nF (tR H);refine⟨.pointer (U ⟨W.heap.size,0,Z⟩),W.alloc (.cells (C.aE O V (s.ev f.gl x).cells).toArray t),V.set m.ix W.heap.size,.inl ?_, ?_,aaD (tR H) _ _ _ _⟩;rw[<-a0];simp[execOp,X,Instr.box,newVar,newRow,he];have:=G.put m.o.dst (.loc m.ix 0);rw[C.ab,Dw (by rw[R.gJ];exact j.2)] at this;exact this;exact h.elim;exact h.elim
 
 rename_i t L parts X;rw[X] at Q;have ba:(parts.map λ(i,x)=>(i,a.eval x)).toList=(parts.toList.map λp=>(p.1,s.ev f.gl p.2)).map λp=>(p.1,p.2.ab O V):=by
  simp only[xG,ov];apply jT;intro p hp;have:=du R F p.2 (Q p.2 (by simp[iF];exact⟨p.1,by simpa using hp⟩));simp[this]
 split at h;rename_i e aj q r;split at h;rename_i M a1;split at h;rename_i l hf;split at h;rename_i N;simp only[aw,cm] at N;cases h;obtain⟨⟨d,h2⟩,H⟩:=N;have hd:P.underlying t=U (.slice e):=(B _ _ r).desc;obtain⟨z,al,an⟩:=KL (P:=P) (W:=W) (O:=O) (V:=V) (B _ _ a1);have bb:=OS (V:=V) (wu R) _ _ _ _ hf;have af:(eA M).length=Y M.aj:=by simp[eA]
 have hzero:((ai3 (L*Y M.aj)).map ((if L*Y M.aj=0 then #[] else z.cells)[· %(if L*Y M.aj=0 then #[] else z.cells).size]!))=(C.aE O V (xP L (eA M))).toArray:=by
  apply nq;apply kG;intro k;by_cases ag:k<L*Y M.aj;have bf:¬L*Y M.aj=0:=aa;have bg:0<Y M.aj:=by
   rcases A5 (Y M.aj) with A|A;rw[A] at ag;simp at ag;exact A
  have bc:k%Y M.aj<(C.aE O V (eA M)).length:=by rw[HW,af];exact Hj _ bg
  simp only[bf,gf,an,xG,au3,dW,CZ ag,eh,tN,aaE _ _ _ (by rw[af];exact ag),af];rw[<-tN,cS bc];simp only[G9,HW,af];rw[getElem!_pos _ _ (by simpa using bc)];simp;rw[kg dh,kg (by simp[akc,af];omega)]
 have G:=R.alloc (tR H) e l d;rw[tQ (KR H)] at G;have j:=nF (tR H);refine⟨.slice (U ⟨W.heap.size,0,Z⟩) L L,W.alloc (.cells (C.aE O V l).toArray e),V.set m.ix W.heap.size,.inl ?_, ?_,aaD (tR H) _ _ _ _⟩;have bd:¬L*Y M.aj>2^24:=aa;by_cases A:L*Y M.aj=0;simp only[aJ A] at hzero;simp only[execOp,X,Instr.buildSlice,dA,fk.iC hd,dv,(B _ _ a1).n9,bd,gf,fq,aJ A,ba];rw[hzero,bb];simp[newRow];simp only[aQ A] at hzero;simp only[execOp,X,Instr.buildSlice,dA,fk.iC hd,dv,(B _ _ a1).n9,bd,gf,fq,aQ A,ba,al];rw[hzero,bb];simp[newRow];have:=G.put m.o.dst (.jf m.ix 0 L L);rw[C.ab,Dw (by rw[R.gJ];exact j.2)] at this;exact this;exact h.elim;exact h.elim;exact h.elim;exact h.elim
 
 rename_i t x y X;rw[X] at Q;have a3:=du R F x (Q x cK);have a4:=du R F y (Q y cK);split at h;rename_i ti i bl r hx;split at h;rename_i bt cs n;split at h;rename_i N;simp only[aw,dE,cm] at N;cases h;obtain⟨⟨⟨⟨d,h2⟩,H⟩,h4⟩,-⟩:=N;have a0:=TJ (O:=O) (V:=V) (wu R) h4;obtain⟨n,bk⟩:=zD n;obtain⟨W',hr,G⟩:=R.store (B _ _ r) n bk d h2 H a0;refine⟨undef,W',V,.inr ⟨?_,rfl⟩,G.put m.o.dst (.bM []),akb n _ _⟩;simp only[execOp,X,a3,a4,hx,C.ab,dA,hr,dv,fq];exact h.elim;exact h.elim;exact h.elim
 
 rename_i c x y X;rw[X] at Q;have a9:=du R F c (Q c cK);have a3:=du R F x (Q x cK);have a4:=du R F y (Q y cK);split at h;rename_i b n;simp only[OR.gives] at h;rw[n,C.ab] at a9;cases w:b.ab O;simp only[w,jp,gf] at h;subst h;refine⟨_,W,V,.inl ?_,R.put _ _,(bH.refl _ _ _).put _ _⟩;simp[execOp,X,a9,w,asBool,a4];simp only[w,cN] at h;subst h;refine⟨_,W,V,.inl ?_,R.put _ _,(bH.refl _ _ _).put _ _⟩;simp[execOp,X,a9,w,asBool,a3];exact h.elim
 
 rename_i t x X;obtain⟨v,w,rfl⟩:=BA h;exact⟨v.ab O V,W,V,.inl (ajW R B F m.o Q (by rw[X];exact w)),(R.lk _).put _ _,((bH.refl _ _ _).lk _).put _ _⟩
 
 obtain⟨v,w,rfl⟩:=BA h;exact⟨v.ab O V,W,V,.inl (ajW R B F m.o Q w),(R.lk _).put _ _,((bH.refl _ _ _).lk _).put _ _⟩
def az.room{g:ar}{u:World}{D:cg}{V:ar}{O:ai}{s:S}{a:Act}{W:World}(R:az g u D f.ty V O s a W)(n:Nat):
  az g u D f.ty (V++eN n 0) O (s.room n) a W/\bH s O V (s.room n) O (V++eN n 0):=by
 have X:∀k,ad (V++eN n 0) k=ad V k:=by
  intro k;simp only[ad,cz];by_cases h:k<Y V;rw[dH h];rw[iE aa,kg (l:=V) aa,G4];split<;>rfl
 have G:∀i,cw (s.ap++eN n Z) i=cw s.ap i:=by
  intro i;simp only[cV];by_cases h:i<Y s.ap;rw[dH h];rw[iE aa,kg (l:=s.ap) aa,G4];split;rename_i N;split at N<;>cases N;rfl
 have M:∀i,aK (s.ap++eN n Z) i=aK s.ap i:=λi=>by simp[aK,G]
 have B:=i7.refl O (Y O.i) (Y O.b) (Y O.r);have F:∀v,C.ab O (V++eN n 0) v=v.ab O V:=by
  intro v;have:ad (V++eN n 0)=ad V:=funext X;exact Tx this v
 have q:∀l,C.aE O (V++eN n 0) l=C.aE O V l:=λl=>by simp only[pJ];exact jT λv _=>F v
 refine⟨⟨⟨R.mem.base,λi Q=> ?_,λi j Q A=> ?_,λi t z h=> ?_,λk e L N H=> ?_⟩,by simp[S.room,R.gJ],R.ei,R.eb,R.er,R.dl,R.size,λt y h=> ?_,λk e L b N H x=> ?_⟩,⟨⟨B,b9 _,b9 _,b9 _,λk _=>X k⟩,λi Q=> ?_,by simp[S.room],b9 _⟩⟩;rw[X];exact R.mem.own i (by rw[<-M];exact Q);rw[X,X];exact R.mem.inj i j (by rw[<-M];exact Q) (by rw[<-M];exact A);rw[X,ajw (funext X)];exact R.mem.box i t z (by rw[<-G];exact h);refine⟨(R.mem.ah k e L N H).1,λb w i Q=> ?_⟩;rw[X];exact(R.mem.ah k e L N H).2 b w i (by rw[<-M];exact Q);rw[F];exact R.tmps t y h;have t:=R.gj k e L b N H x;exact⟨t.own,t.mem,λi Q=>by rw[X];exact t.box i (by rw[<-M];exact Q),t.alone,t.inner⟩;simp only[S.room];rw[M];exact Q
end
section
variable{p:ar}{f:World}{D:cg}{P:Program}{cf:bE}{V:ar}{O:ai}{s:S}{a:Act}{W:World}
def zH{d:cM}{be:BE}{x:LE}{dq:ar}{b:BI}(h:kC s d be X z x y dq=U b):
  s.bd=J/\(∀z∈y,z∉dq)/\b=⟨be,X,x,({s with rs:=kB dq 0 (ju y 0 s.rs)++[z]}:S).put d (.ah (.v (Y s.rs)))⟩:=by
 unfold kC at h;split at h;rename_i R;cases h;simp only[aw] at R;exact⟨R.1.1.1,λz Q=>by have:=fO.1 R.1.1.2 z Q;simpa using this,rfl⟩;cases h
def H6{X:S}(Q:az p f D n V (O.add (.r L)) X a N)(M:Y O.r=R)(d:cM):az p f D n V (O.add (.r L)) (X.put d (.ah (.v R))) (a.put d L.val) N:=by
 have:=Q.put d (.ah (.v R));have e:C.ab (O.add (.r L)) V (.ah (.v R))=L.val:=by subst M;simp[C.ab,RE.ab,RE.rv,ai.rv,ai.add]
 rwa [e] at this
def Fu{rv:RV}(X:bv)(d:cM)(v:C):bH s O V (({s with rs:=X}:S).put d v) (O.add (.r rv)) V:=
 bH.put (s:=s) (s':={s with rs:=X}) ⟨sq _ _ _ _,λ_ h=>h,b9 _,b9 _⟩ d v
def TS{n:K}(h:(Kg n).ab O=J):n.ab O<=536870912:=by
 unfold Kg at h;rw[Ds] at h;simp only[fy,K.ab,Kf] at h;exact uE h
def K0(P:Program)(p:ar)(f:World)(D:cg)(R:Ty)(V:ar)(O:ai)(s:S)(a:Act)(W:World)(o:Oper)(b:BI):Prop:=
 ∃v Q X,ss P o a W v Q/\HX R p f b.e b.x s.rs O X/\az p f D R V (O.add (.r X)) b.s (a.put o.dst v) Q/\bH s O V b.s (O.add (.r X)) V
def O6(Q:az p f D cf.ty V O s a W)(h:s.rs[R]?=U (.own X)):∃A n N,O.rv R=.mk (.slice A n N) (O.rv R).ac/\bJ W cf.ty (.sl X) (.mk (.slice A n N) (O.rv R).ac)/\KZ W X (bD cf.ty (.sl X)).length A N:=by
 have M:=aak Q h;have w:=uS Q h;have G:=λb F=>Q.gj R X _ b h w F
 revert M G;generalize O.rv R=v;intro M G;cases M with
 |own X v M z=>
  cases M with
  |sl X A L N y u t r q F o=>
   refine⟨A,L,N,rfl,bJ.sl X A L N y u t r q F o,λm=>z L N (by rw[m];rfl), ?_⟩;rcases A5 N with x|x;exact .inl x;right;cases A with
   |none=>have:=z L N rfl;omega
   |some B=>
    have l:(RV.mk (.slice (U B) L N) y).lu=U B.block:=by rw[KY];cases N with
     |zero=>omega
     |succ c=>rfl
    obtain⟨d,c',da,H,j,g3,i,g⟩:=(G _ l).mem;simp only[RV.nC,Value.slice.injEq] at H;obtain⟨H,rfl,rfl⟩:=H;exact⟨B.block,da,H,j,i,g⟩
def awh(R:az p f D cf.ty V O s a W){G:LE}{v:BE}(h:xQ s X t M=U (G,v,y))(q:v.ab O=J):
  ∃A n N,M.ab O V=.slice A n N/\bJ W cf.ty (.sl X) (.mk (.slice A n N) (G.ac O))/\KZ W X (bD cf.ty (.sl X)).length A N/\n<=536870912/\
   ((y=[]/\lx A N=Z)\/∃k Q F,y=[k]/\s.rs[k]?=U (.own Q)/\O.r[k]?=U F/\lx A N=F.lu)/\∀dq,Dy cf.ty V O s X (G.ac O) dq:=by
 unfold xQ at h;split at h;rename_i k;split at h;rename_i o;cases h;have L:=o.1;obtain⟨A,n,N,B,m,l⟩:=O6 R L;have z:=TS q;refine⟨A,n,N,by simp only[C.ab,RE.ab,RE.rv];rw[B];rfl,by simpa[LE.ac,RE.rv] using m,l, ?_,.inr ⟨k,X,O.rv k,rfl,L,uS R L,by rw[B,KY]⟩,λdq b H=> ?_⟩;simp only[K.ab,RE.rv] at z;rw[B] at z;simp[lenOf] at z;omega;simp only[LE.ac,RE.rv] at H;have u:=KV (O:=O) (e0:=.own X) rfl H;refine⟨⟨k,_,L,u⟩,(R.mem.ah k _ _ L (uS R L)).2 b u,λd Q F j i g=>(OZ R j i g L rfl H).elim⟩;cases h;rename_i r c;split at h;rename_i w;cases h;unfold RE.isNil at w;split at w;refine⟨Z,0,0,rfl,Dx _ _,⟨λ_=>rfl,.inl rfl⟩,aa,.inl ⟨rfl,rfl⟩,λdq b H=>(OY (by simpa[LE.ac] using H)).elim⟩;cases w;cases h;cases h;refine⟨_,0,0,rfl,Dx _ _,⟨av,.inl rfl⟩,aa,.inl ⟨rfl,rfl⟩,λdq b H=>(OY (by simpa[LE.ac] using H)).elim⟩;cases h
def TU{w:Nat}:∀{n:Nat}{l:aq}{i:Nat}{X:aq},(jJ w n l)[i]?=U X->X=(l.drop (i*w)).take w/\i<n
 |0,l,i,X,h=>by simp[jJ] at h
 |n+1,l,0,X,h=>by simp[jJ] at h;subst h;exact⟨av,aa⟩
 |n+1,l,i+1,X,h=>by
  simp only[jJ,tA] at h;obtain⟨R,Q⟩:=TU h;refine⟨?_,aa⟩;rw[R,N6];congr 2;rw[pz];omega
def TV(w:Nat):∀(n:Nat)(l:aq),(jJ w n l).length=n
 |0,l=>rfl
 |n+1,l=>by simp[jJ,TV w n]
def TW:∀{l:aq}{r:RE}{k:Nat},C.ah r∈l->r.root=U k->k∈C.pD l
 |[],r,k,h,_=>by simp at h
 |x::R,r,k,h,X=>by
  simp only[C.pD,eV];rcases dP.1 h with rfl|h;left;simp[C.ZL,X];right;exact TW h X
def akd(R:az p f D cf.ty V O s a W){l:xK}{dq:ar}(B:nX cf.ty s (bD cf.ty (.sl X)) l=J)(A:∀N∈l,∀(r:RE)(k:Nat),C.ah r∈N->r.root=U k->k∈dq):
  Dy cf.ty V O s X (l.map λN=>N.map (C.cd O)) dq:=by
 intro b ⟨i,j,N,c,z,k,Q,y,x,w⟩;rw[dW] at Q;cases M:l[i]? with
 |none=>rw[M] at Q;cases Q
 |some L=>
  rw[M] at Q;simp at Q;subst Q;obtain⟨r,v,H,G,F⟩:=aaA (Fs B i L M) y x w;obtain⟨u,q⟩:=KW R G H F;refine⟨u,q,λh t g o n m=> ?_⟩;have:=TQ R o n m G H F;subst this;exact A L (jI M) _ _ (jI v) rfl
def aaF(R:az p f D cf.ty V O s a W){l:xK}(M:nX cf.ty s (bD cf.ty (.sl X)) l=J):fQ W cf.ty X (l.map λN=>N.map (C.cd O)):=by
 refine fQ.of (λi N Q=> ?_);rw[dW] at Q;cases h:l[i]? with
 |none=>rw[h] at Q;cases Q
 |some L=>rw[h] at Q;simp at Q;subst Q;exact aaz R (Fs M i L h)
def aaG(o:(bD cf.ty (.sl X)).length=R)(y:nX cf.ty s (bD cf.ty (.sl X)) (jJ R Q w)=J)(x:(∀(N:Nat)(H:aC),((jJ R Q w).map λH=>H.map (C.cd O))[N]?=U H->Y H=R))
  (h:(eG ((jJ R Q w).map λH=>H.map (C.cd O)))[i]?=U c):(C.aE O V w)[i]?=U c:=by
 obtain⟨N,j,H,M,G,F,rfl,rfl⟩:=KU x h;rw[dW] at G;cases B:(jJ R Q w)[N]? with
 |none=>rw[B] at G;cases G
 |some A=>
  rw[B] at G;simp at G;subst G;rw[dW] at F;cases L:A[j]? with
  |none=>rw[L] at F;cases F
  |some v=>
   rw[L] at F;simp at F;subst F;obtain⟨m,t⟩:=H5 (Fs y N A B);have k:j<Y A:=(ck.1 L).1;obtain⟨z,r⟩:∃z,(bD cf.ty (.sl X))[j]?=U z:=⟨_,cS aa⟩;rw[tN];have p:=(TU B).1;have:w[N*R+j]?=U v:=by
    rw[p,nj] at L;split at L
    rwa [uC] at L
    cases L
   rw[this];simp only[eh,cU];exact aj9 (t j z v r L)
def awi(R:az p f D cf.ty V O s a W)(al:cf.ty X=U v){G:LE}{n2:BE}(h:sd cf.ty s X v M=U (G,n2,y))(hn:n2.ab O=J):
  ∃A n N,M.ab O V=.slice A n N/\(G.ac O).length=n/\fQ W cf.ty X (G.ac O)/\(∀(q:Nat)(u:Value),(eG (G.ac O))[q]?=U u->∃a0,A=U a0/\W.cell? (a0.add q)=U u)/\n<=536870912/\Dy cf.ty V O s X (G.ac O) y:=by
 have l:bD cf.ty (.sl X)=v.aj:=by simp[bD,al]
 unfold sd at h;split at h;rename_i r;split at h;rename_i j;cases h;unfold RE.isNil at j;split at j;exact⟨Z,0,0,rfl,rfl,fQ.nil,λq u L=>by simp[LE.ac,eG] at L,aa,λb Q=>(OY (by simpa[LE.ac] using Q)).elim⟩;cases j;split at h;rename_i F;cases h;have z:=sn R av F;have x:=TS hn;simp only[K.ab] at x;have g:Dy cf.ty V O s X (r.rv O).ac []:=by
  intro b Q;have hl:ee cf.ty (.sl X) (r.rv O) b:=by rw[<-H4 (r.rv O)];exact TN Q
  obtain⟨q1,q2⟩:=KW R av F hl;refine⟨q1,q2,λk' t d w k2 k3=> ?_⟩;have:=TQ R w k2 k3 av F hl;subst this;simp only[RE.kind,cz,w,pu,RK.rd,RK.sl.injEq] at F;subst F;exact(OZ R w k2 k3 w rfl Q).elim
 simp only[C.ab,RE.ab,LE.ac];revert z x g;generalize r.rv O=d;intro z x g;have o:=fQ.yb (v:=d.val) (rows:=d.ac) (by rw[H4];exact z);cases z with
 |sl X A H N an m h2 c hi Q ho=>
  refine⟨A,H,N,rfl,m,o,λq u L=> ?_,by simp[lenOf] at x;omega,g⟩;obtain⟨b,af,g1,g2,g3⟩:=OW (bJ.sl X A H N an m h2 c hi Q ho) q u L;exact⟨_,g1,by rw[ya];exact g3⟩
 cases h;rename_i i af H N;split at h;rename_i bt cs Q;split at h;rename_i hc;cases h;simp only[aw,cm] at hc;obtain⟨⟨m,h2⟩,c⟩:=hc;have hf:nX cf.ty s (bD cf.ty (.sl X)) (jJ (Y v.aj) H (xN cs af (H*Y v.aj)))=true:=by rw[l];exact m
 have o:=aaF R hf;refine⟨U ⟨ad V i,af,Z⟩,H,N,rfl,by simp[LE.ac,TV],by simpa[LE.ac] using o,λq u L=> ?_,by simp[Kf] at c;omega, ?_⟩;simp only[LE.ac] at L;have B:=aaG (V:=V) (by rw[l]) hf (λi ag hr=>by rw[o.len i ag hr,l]) L;refine⟨_,rfl, ?_⟩;rw[tN,xN,nj] at B;split at B;rw[uC,<-tN] at B;obtain⟨Q,a1⟩:=zD Q;have:=R.mem.box i bt cs Q;rw[tQ a1] at this;rw[ya];simp[ow,this,B];simp at B;refine akd R hf (λag a3 r k hr hk=> ?_);obtain⟨ii,a4⟩:=tB a3;have:=(TU a4).1;subst this;exact TW (CY (EW hr)) hk;cases h;cases h;cases h
end
section
variable{d:ar}{g:World}{D:cg}{P:Program}{f:bE}{V:ar}{O:ai}{s:S}{a:Act}{W:World}
def BB{x y:BE}(h:(we x y).ab O=J):x.ab O=J/\y.ab O=true:=by
 rw[aaf] at h;simpa using h
def zI{x y:K}(h:(qo .leq x y).ab O=J):x.ab O<=y.ab O:=by
 rw[Ds] at h;simp only[fy] at h;exact uE h
def awj(R:az d g D f.ty V O s a W)(H:jg P f.ty)(hg:e8 f.gl O){c:Call}(n:F.op=.call c)(m:c.callee=.builtin .append){dr:Bool}{b:BI}(h:eZ f F t dr s=U b)(hn:b.be.ab O=J):
  K0 P d g D f.ty V O s a W F b:=by
 unfold eZ at h;simp only[n,m] at h;split at h;rename_i X l x y ag G;split at h;rename_i e aj q L bg q2 ht al;split at h;rename_i k B;split at h;cases h;rename_i j;have he:e=L:=by by_cases Q:e=L;exact Q;exact aZ (.inl Q) j
 have an:Y k.aj≠0:=λQ=>j (.inr Q)
 subst he;split at h;rename_i N n1 bk M n2 dq i h2;obtain⟨a0,a1,rfl⟩:=zH h;obtain⟨a3,a4⟩:=BB hn;obtain⟨A1,m1,c1,e1,w,g2,g3,g4,g5⟩:=awh (cf:=f) R i a3;obtain⟨A2,m2,c2,L,k1,k2,k3,k4,k5⟩:=awi R B h2 a4;have v:(bD f.ty (.sl e)).length=Y k.aj:=by simp[bD,B]
 obtain⟨A,u,W',r1,r2,r3⟩:=awg (P:=P) (tyR:=F.type) (t:=X) (t2:=l) (cap2:=c2) (H _ _ B) an v (H _ _ ht).desc (H _ _ al).desc w (by rw[<-v];exact g2) k1 k2 k3 g3 k4;have a9:(LE.kJ N M).ac O=N.ac O++M.ac O:=rfl;have af:(N.ac O++M.ac O).length=m1+m2:=by rw[gc,(tS w).1,k1]
 have ba:Dy f.ty V O s e (N.ac O++M.ac O) dq:=λb hb=>(awd hb).elim (g5 dq b) (k5 b)
 obtain⟨R',bb⟩:=R.bind a0 (old:=lx A1 c1) g4 a1 r2 ((fQ.yb w).kJ k2) ba (by rw[v];exact r3);refine⟨.slice A (m1+m2) u,W',.mk (.slice A (N.ac O++M.ac O).length u) (N.ac O++M.ac O),.inl ?_,⟨⟨A,_,u,by rw[a9],rfl⟩,bb,λ_ _ _ _ h=>by cases h⟩, ?_,Fu _ _ _⟩;have ha:c.args.toList=[c.args.toList.getD 0 default,c.args.toList.getD 1 default]:=by
  have hl:Y c.args.toList=2:=by have:=kh Y G;simpa using this
  match c.args.toList,hl with
  |[p,q],_=>rfl
 have bc:∀z∈c.args.toList,a.eval z=(s.ev f.gl z).ab O V:=by
  intro z r;refine du R hg z ?_;have:s.ev f.gl z∈[x,y]:=by rw[<-G];exact List.mem_map_of_mem r
  rcases dP.1 this with Q|Q;rw[Q];cases x<;>first|rfl|(simp[xQ] at i)
  rw[J1.1 Q];cases y<;>first|rfl|(simp[sd] at h2)
 have bd:c.args.map a.eval= #[x.ab O V,y.ab O V]:=by
  apply nq;rw[xG];have:c.args.toList.map a.eval=(c.args.toList.map (s.ev f.gl)).map (C.ab O V):=by
   rw[ov];exact jT λz r=>bc z r
  rw[this,G];rfl
 have bf:c.argTypes= #[X,l]:=by apply nq;rw[ag]
 simp only[execOp,n,resolve,m,dA,fq,dv,invoke,builtin,bd,bf,e1,L,r1];have:=H6 R' R.er F.dst;rw[RV.nC,af] at this;rw[af];exact this;cases h;cases h;cases h;cases h
def awk(X:CT):((C5 X).cd O).val=rm X:=by cases X<;>rfl
def awl(R:az d g D f.ty V O s a W)(af:jg P f.ty)(hg:e8 f.gl O){xm:Operand}(ho:F.op=.makeSlice X r xm){dr:Bool}{b:BI}(h:eZ f F t dr s=U b)(hn:b.be.ab O=J):
  K0 P d g D f.ty V O s a W F b:=by
 unfold eZ at h;simp only[ho] at h;split at h;rename_i e aj q n m ht a4 a9;split at h;rename_i Q x;split at h;rename_i hc;simp only[aw,bne_iff_ne,ne_eq] at hc;obtain⟨⟨bf,bg⟩,bk⟩:=hc;obtain⟨bl,co,rfl⟩:=zH h;obtain⟨ag,al⟩:=BB hn;have ag:=zI ag;have al:=TS al;simp only[K.ab] at ag;obtain⟨N,u⟩:∃N:Nat,n.ab O=(N:Int):=⟨(n.ab O).toNat,aa⟩;rw[u] at al;have br:N<=536870912:=aa;have hw:(bD f.ty (.sl e)).length=Y Q.aj:=by simp[bD,x]
 have p:bD f.ty (.sl e)=Q.aj:=by simp[bD,x]
 have an:=du R hg r (by rw[a4];rfl);have a1:=du R hg xm (by rw[a9];rfl);have bs:m=n:=(K.bY _ _ bf).symm;rw[a4,C.ab,u] at an;rw[a9,C.ab,bs,u] at a1;obtain⟨i,hi,bt,z,hz,ba⟩:=(af _ _ x).KH;have bx:=(af _ _ x).bytes i hi;have bb:z.cells.size=Y Q.aj:=by rw[<-EX,ba];simp
 have hf:nX f.ty s (bD f.ty (.sl e)) [eA Q]=true:=by rw[p];exact bg
 have b0:TR W f.ty (bD f.ty (.sl e)) ((eA Q).map (C.cd O)):=aaz R (Fs hf 0 _ rfl);have b1:(LE.wb n (eA Q)).ac O=eN N ((eA Q).map (C.cd O)):=by simp[LE.ac,u]
 have B:fQ W f.ty e (eN N ((eA Q).map (C.cd O))):=fQ.of (λi l H=>by
  rw[G4] at H;split at H;cases H;exact b0;cases H)
 have b2:Dy f.ty V O s e (eN N ((eA Q).map (C.cd O))) []:=by
  intro b ⟨i,j,l,c,z,k,G,L,M,hl⟩;rw[G4] at G;split at G;cases G;exfalso;rw[dW,eA,dW] at L;rw[p] at M;rw[M] at L;simp only[eh,cU,C5,C.cd,RE.rv] at L;subst L;cases hl with
  |deep e v b3 i j l c z k b g1=>simp at g1
  |own e' cp b hl=>
   have a3:=(H5 (Fs hf 0 _ rfl)).2 j _ (.ah (.k z)) (by rw[p];exact M) (by simp[eA,M,C5]);simp[tF,RE.fits] at a3
  |here e a0 b4 b5 b3=>
   have a3:=(H5 (Fs hf 0 _ rfl)).2 j _ (.ah (.k (.slice (U a0) (b4+1) b5))) (by rw[p];exact M) (by simp[eA,M,C5]);simp[tF,RE.fits,RE.kind,RE.isNil] at a3
  cases G
 have b6:(ai3 (N*Y Q.aj)).map (z.cells[· %z.cells.size]!)=(eG (eN N ((eA Q).map (C.cd O)))).toArray:=by
  apply nq;apply kG;intro q;have cs:(eG (eN N ((eA Q).map (C.cd O)))).length=N*Y Q.aj:=by rw[Bz B.len,hw];simp
  by_cases hq:q<N*Y Q.aj;have b7:0<Y Q.aj:=aa;have b8:q/Y Q.aj<N:=au0 (by rw[SR];exact hq);have hj:q%Y Q.aj<Y Q.aj:=Hj _ b7;have bc:Q.aj[q%Y Q.aj]?=U Q.aj[q%Y Q.aj]:=cS hj;have G:(eN N ((eA Q).map (C.cd O)))[q/Y Q.aj]?=U ((eA Q).map (C.cd O)):=by rw[G4,aJ b8]
  have L:((eA Q).map (C.cd O))[q%Y Q.aj]?=U ((C5 Q.aj[q%Y Q.aj]).cd O):=by simp[eA,bc]
  have M:=OV (w:=Y Q.aj) (λi l H=>by rw[B.len i l H,hw]) G L;have ca:q/Y Q.aj*Y Q.aj+q%Y Q.aj=q:=by rw[SR];exact aiY q _
  rw[ca,awk] at M;simp only[xG,au3,dW,CZ hq,eh,bb];rw[M];congr 1;have bd:q%Y Q.aj<z.cells.size:=by rw[bb];exact hj
  rw[getElem!_pos z.cells _ bd];have:z.cells.toList[q%Y Q.aj]?=U (rm Q.aj[q%Y Q.aj]):=by rw[ba,dW,bc];rfl
  rw[Zj,auV bd] at this;simpa using this;rw[kg dh,kg (by rw[Zl];omega)]
 have cc:IntKind.i64.wrap (N:Int)=N:=IntWalk.i64_in _ aa;have ct:(i.bytes:Int)*N<=2^46:=by
  have:i.bytes*N<=131072*536870912:=J5 bx br;have L:((i.bytes*N:Nat):Int)<=((131072*536870912:Nat):Int):=Int.ofNat_le.2 this;simp only[avb] at L;omega
 obtain⟨R',ch⟩:=R.bind bl (old:=Z) (kill:=[]) (dq:=[]) (A:=U ⟨W.heap.size,0,Z⟩) (cap:=N) (W':=W.alloc (.cells (eG (eN N ((eA Q).map (C.cd O)))).toArray e)) (.inl ⟨rfl,rfl⟩) av (aIv W _ Z) B b2
  ⟨av,av,by
   rcases A5 N with y|y;exact .inl y;exact .inr ⟨W.heap.size,_,rfl,SK W _,by simp only[maxLen];omega,by
    rw[G9,Bz B.len,hw];simp,by
    rw[Zl,G5];rw[Bz B.len];exact b9 _,.inl (b9 _)⟩⟩
 refine⟨.slice (U ⟨W.heap.size,0,Z⟩) N N,W.alloc (.cells (eG (eN N ((eA Q).map (C.cd O)))).toArray e),.mk (.slice (U ⟨W.heap.size,0,Z⟩) (eN N ((eA Q).map (C.cd O))).length N) _,.inl ?_,⟨⟨_,_,_,by rw[b1],rfl⟩,ch,λ_ _ _ _ h=>by cases h⟩, ?_,Fu _ _ _⟩;have hd:P.underlying X=U (.slice e):=(af _ _ ht).desc;rw[<-b6];have c1:¬((N:Int)<0):=aa;have c2:¬((i.bytes:Int)*N>2^48):=aa;by_cases y:N*Y Q.aj=0;have cl:N=0:=by rcases Nat.mul_eq_zero.1 y with hh|hh;exact hh;exact aZ hh bk
 subst cl;have cn:IntKind.i64.wrap 0=0:=IntWalk.i64_in 0 aa;simp[execOp,ho,an,a1,Instr.makeSlice,fk.iC hd,asInt,asIntOf,typeInfo,hi,cn,Go.sizeOf,newRow,askRoom];congr 2;apply nq;simp[ai3];simp[execOp,ho,an,a1,Instr.makeSlice,fk.iC hd,asInt,asIntOf,typeInfo,hi,cc,c1,Go.sizeOf,bt,y,zeroValue,hz,newRow];intro hh;omega;have:=H6 R' R.er F.dst;rw[RV.nC] at this;simp only[List.length_replicate] at this⊢;exact this;cases h;cases h;cases h
def awm(Q:az d g D f.ty V O s a W)(y:jg P f.ty)(hg:e8 f.gl O){parts:Array (Nat×Operand)}(m:F.op=.buildSlice X R parts){dr:Bool}{b:BI}(h:eZ f F t dr s=U b):
  K0 P d g D f.ty V O s a W F b:=by
 unfold eZ at h;simp only[m] at h;split at h;cases h;split at h;rename_i e aj q ht;split at h;rename_i N v;split at h;rename_i l hf;split at h;rename_i hc;simp only[aw,bne_iff_ne,ne_eq,dE,cm,ik] at hc;obtain⟨⟨⟨⟨⟨h1,h2⟩,h3⟩,h4⟩,h5⟩,h6⟩:=hc;obtain⟨a3,a4,rfl⟩:=zH h;have H:bD f.ty (.sl e)=N.aj:=by simp[bD,v]
 have j:nX f.ty s (bD f.ty (.sl e)) (jJ (Y N.aj) R l)=true:=by rw[H];exact h2
 have c:=aaF Q j;have a9:(LE.lit (jJ (Y N.aj) R l)).ac O=(jJ (Y N.aj) R l).map λM=>M.map (C.cd O):=rfl
 have u:((jJ (Y N.aj) R l).map λM=>M.map (C.cd O)).length=R:=by simp[TV]
 have ba:=akd Q j (dq:=C.pD l) (λM bb r k G hk=>by
  obtain⟨ii,bc⟩:=tB bb;have:=(TU bc).1;subst this;exact TW (CY (EW G)) hk)
 have n:(eG ((jJ (Y N.aj) R l).map λM=>M.map (C.cd O))).length=R*Y N.aj:=by rw[Bz (w:=Y N.aj) (λi M G=>by rw[c.len i M G,H]),u]
 have bd:eG ((jJ (Y N.aj) R l).map λM=>M.map (C.cd O))=C.aE O V l:=by
  apply kG;intro k;by_cases hk:k<R*Y N.aj;have af:k<(eG ((jJ (Y N.aj) R l).map λM=>M.map (C.cd O))).length:=by rw[n];exact hk
  have:=aaG (V:=V) (by rw[H]) j (λi M G=>by rw[c.len i M G,H]) (cS af);rw[this,cS af];rw[kg (by rw[n];omega),kg (by rw[HW,h1];omega)]
 have bs:R<=536870912:=by simp only[Kf] at h4;omega
 obtain⟨R',bf⟩:=Q.bind a3 (old:=Z) (kill:=[]) (dq:=C.pD l) (A:=U ⟨W.heap.size,0,Z⟩) (cap:=R) (W':=W.alloc (.cells (eG ((jJ (Y N.aj) R l).map λM=>M.map (C.cd O))).toArray e)) (.inl ⟨rfl,rfl⟩) a4 (aIv W _ Z) c ba
  ⟨by rw[u];exact b9 _,av,by
   rcases A5 R with L|L;exact .inl L;exact .inr ⟨W.heap.size,_,rfl,SK W _,by simp only[maxLen];omega,by
    rw[G9,n,H],by
    rw[Zl,G5];rw[n,u,H];exact b9 _,.inl (b9 _)⟩⟩
 refine⟨.slice (U ⟨W.heap.size,0,Z⟩) R R,W.alloc (.cells (eG ((jJ (Y N.aj) R l).map λM=>M.map (C.cd O))).toArray e),.mk (.slice (U ⟨W.heap.size,0,Z⟩) ((jJ (Y N.aj) R l).map λM=>M.map (C.cd O)).length R) _,.inl ?_,⟨⟨_,_,_,by rw[a9],rfl⟩,bf,λ_ _ _ _ h=>by cases h⟩, ?_,Fu _ _ _⟩;have hd:P.underlying X=U (.slice e):=(y _ _ ht).desc;have ag:(parts.map λ(i,x)=>(i,a.eval x)).toList=(parts.toList.map λp=>(p.1,s.ev f.gl p.2)).map λp=>(p.1,p.2.ab O V):=by
  simp only[xG,ov];apply jT;intro p hp;have:=du Q hg p.2 (by
   cases hh:(s.ev f.gl p.2).eO;rfl;exact aZ (kH.2 ⟨p,hp,hh⟩) (by rw[h6];simp))
  simp[this]
 obtain⟨z,bg,bk⟩:=KL (P:=P) (W:=W) (O:=O) (V:=V) (y _ _ v);have al:=OS (V:=V) (wu Q) _ _ _ _ hf;have B:(eA N).length=Y N.aj:=by simp[eA]
 have hzero:((ai3 (R*Y N.aj)).map ((if R*Y N.aj=0 then #[] else z.cells)[· %(if R*Y N.aj=0 then #[] else z.cells).size]!))=(C.aE O V (xP R (eA N))).toArray:=by
  apply nq;apply kG;intro k;by_cases an:k<R*Y N.aj;have bl:¬R*Y N.aj=0:=aa;have br:0<Y N.aj:=Nat.pos_of_ne_zero h3;have a0:k%Y N.aj<(C.aE O V (eA N)).length:=by rw[HW,B];exact Hj _ br
  simp only[bl,gf,bk,xG,au3,dW,CZ an,eh,tN,aaE _ _ _ (by rw[B];exact an),B];rw[<-tN,cS a0];simp only[G9,HW,B];rw[getElem!_pos _ _ (by simpa using a0)];simp;rw[kg dh,kg (by simp[akc,B];omega)]
 have a1:¬R*Y N.aj>2^24:=aa;rw[bd];by_cases L:R*Y N.aj=0;simp only[aJ L] at hzero;simp only[execOp,m,Instr.buildSlice,dA,fk.iC hd,dv,(y _ _ v).n9,a1,gf,fq,aJ L,ag];rw[hzero,al];simp[newRow];simp only[aQ L] at hzero;simp only[execOp,m,Instr.buildSlice,dA,fk.iC hd,dv,(y _ _ v).n9,a1,gf,fq,aQ L,ag,bg];rw[hzero,al];simp[newRow];have:=H6 R' Q.er F.dst;rw[RV.nC] at this;rw[u] at this⊢;exact this;cases h;cases h;cases h;cases h
end
section
variable{p:ar}{g:World}{D:cg}{P:Program}{d:bE}{V:ar}{O:ai}{s:S}{a:Act}{W:World}
def O7{h:Nat}{N:aC}(X:((k.take h).drop R)[Q]?=U N):k[R+Q]?=U N/\R+Q<h:=by
 rw[uC,nj] at X;split at X;exact⟨X,pA⟩;cases X
def awn{h:Nat}(M:n7 n X ((k.take h).drop R) Q):n7 n X k Q:=by
 obtain⟨i,j,L,c,z,N,H,G,F,B⟩:=M;exact⟨_,j,L,c,z,N,(O7 H).1,G,F,B⟩
def awo{A:oz}{h:Nat}(L:bJ W n (.sl X) (.mk (.slice A R Q) k))(h1:i<=h)(h2:h<=R):
  bJ W n (.sl X) (.mk (.slice (if Q=i then A else A.map (·.add (i*(bD n (.sl X)).length))) (h-i) (Q-i)) ((k.take h).drop i)):=by
 obtain⟨B,hc⟩:=tS L;have z:((k.take h).drop i).length=h-i:=by simp[B];omega
 have y:=fQ.yb L;have H:fQ W n X ((k.take h).drop i):=fQ.of (λN M x=>y.get (O7 x).1);by_cases w:i=h;have:(k.take h).drop i=[]:=tw aa;rw[this,w,Zz];exact Dx _ _;have af:i<h:=aa;have v:Q≠i:=aa;rw[aQ v];obtain⟨M,t⟩:∃M,k[i]?=U M:=⟨_,cS aa⟩;cases L with
 |sl X A ag Q k g1 g2 G hi hb ho=>
  obtain⟨-,b,F,rfl,r,-⟩:=G i M t;rw[<-z];simp only[eh,ya];refine aax H r (λq u p=> ?_) aa;obtain⟨N,j,o,c,m,g,rfl,rfl⟩:=KU H.len p;obtain⟨-,b',al,f,-,d⟩:=G (i+N) o (O7 m).1;cases f;have:=d j c g;rw[show F+i*(bD n (.sl X)).length+(N*(bD n (.sl X)).length+j)=F+(i+N)*(bD n (.sl X)).length+j by rw[pz];omega];exact this
def aaH(N:az p g D d.ty V O s a W)(m:s.bd=J){r:RE}(F:r.kind d.ty s=.sl X){A:oz}(j:r.ab O=.slice A R Q){l h:Nat}(f:l<=h)(c:h<=R){B:oz}
  (H:B=if Q=l then A else A.map (·.add (l*(bD d.ty (.sl X)).length)))(hc:i=Q-l):
  az p g D d.ty V (O.add (.r (.mk (.slice B (h-l) i) (((r.rv O).ac.take h).drop l)))) {s with rs:=kB r.root.toList 0 (ju [] 0 s.rs)++[.sl X]} a W/\
   (((r.rv O).ac.take h).drop l).length=h-l/\∀b,ee d.ty (.sl X) (.mk (.slice B (h-l) i) (((r.rv O).ac.take h).drop l)) b->g.heap.size<=b\/b∈p\/O.qz d.ty s.rs b:=by
 have z:=sn N av F;have v:r.rv O=.mk (.slice A R Q) (r.rv O).ac:=by rw[<-j];exact(H4 _).symm
 rw[v] at z;have af:=awo z f c;have y:∀b,ee d.ty (.sl X) (.mk (.slice B (h-l) i) (((r.rv O).ac.take h).drop l)) b->ee d.ty (.sl X) (r.rv O) b:=by
  intro b G;rw[v];rcases aj6 G with⟨a0,a9,c0,L,rfl⟩|L;simp only[Value.slice.injEq] at L;obtain⟨L,u,q⟩:=L;obtain⟨x,rfl⟩:∃x,R=x+1:=⟨R-1,aa⟩;rw[L] at H;have ag:Q≠l:=by have:=(tS z).2;omega
  rw[aQ ag] at H;cases A with
  |none=>simp at H
  |some o=>
   simp only[eh,cU] at H;have:a0.block=o.block:=by rw[H];unfold Addr.add;split<;>rfl
   rw[this];exact ee.here X o x Q _
  exact TN (awn L)
 have al:ju [] 0 s.rs=s.rs:=by
  apply kG;intro M;rw[KS];cases s.rs[M]?<;>simp
 rw[al];have R1:=N.mO (OU r.root.toList s.rs);refine⟨?_,by have:=(tS z).1;simp;omega,λb G=>.inr (.inr (KW N av F (y b G)).1)⟩;refine R1.add (O4 m (By _ _ _)) (by rw[H,hc];exact af) (λb G=>(KW N av F (y b G)).2) (λk t rv b L u q w=> ?_) (λt b ht=>by cases ht);obtain⟨an,a3⟩:=aaB L;rcases w with w|⟨⟨t',a4⟩,_⟩;have:=TQ N an u q av F (y b w);subst this;exact a3 (by simp[RE.root]);cases a4
def O8{n:Int}(h:0<=n):∃N:Nat,n=(N:Int):=⟨n.toNat,aa⟩
def awp(R:az p g D d.ty V O s a W)(f:jg P d.ty)(hg:e8 d.gl O){lo hi mx:Option Operand}(ho:F.op=.slice X r lo hi mx){dr:Bool}{b:BI}(h:eZ d F t dr s=U b)(hn:b.be.ab O=J):
  K0 P p g D d.ty V O s a W F b:=by
 unfold eZ at h;simp only[ho] at h;split at h;cases h;have a3:∀{y:Option Operand}{v:C},y.map (s.ev d.gl)=U v->v≠ .any->y.map a.eval=U (v.ab O V):=by
  intro y v hy M;cases y with
  |none=>cases hy
  |some z=>
   simp only[eh,cU] at hy⊢;rw[<-hy];exact du R hg z (by rw[hy];cases v<;>first|rfl|exact aZ rfl M)
 have a4:∀{y:Option Operand},y.map (s.ev d.gl)=Z->y.map a.eval=none:=by
  intro y hy;cases y with
  |none=>rfl
  |some z=>cases hy
 split at h
 
 rename_i e aj q Q k1 k2 ht B ag al an;split at h;rename_i te k;split at h;rename_i hc;obtain⟨a0,bc,rfl⟩:=zH h;have w:=du R hg r (by rw[B];rfl);rw[B,C.ab] at w;have hd:P.underlying X=U (.slice e):=(f _ _ ht).desc;obtain⟨A,n,N,M⟩:∃A n N,Q.ab O=.slice A n N:=by
  rcases hc with hc|hc;exact OQ R hc;unfold RE.isNil at hc;split at hc;exact⟨Z,0,0,rfl⟩;cases hc
 obtain⟨R',a1⟩:=R.bind a0 (old:=Z) (kill:=[]) (dq:=[]) (rows:=[]) (e:=e) (A:=A) (cap:=0) (W':=W) (.inl ⟨rfl,rfl⟩) av ⟨rfl,rfl,rfl,b9 _,λ_ _ _=>rfl⟩ fQ.nil (λb hb=>(OY hb).elim) ⟨av,λ_=>rfl,.inl rfl⟩;refine⟨.slice A 0 0,W,.mk (.slice A 0 0) [],.inl ?_,⟨⟨A,0,0,rfl,rfl⟩,a1,λ_ _ _ _ h=>by cases h⟩,H6 R' R.er F.dst,Fu _ _ _⟩;have e1:=a3 ag av;have j:=a3 al av;have i:=a4 an;simp only[C.ab,K.ab] at e1 j;simp[execOp,ho,w,M,e1,j,i,Instr.sliceAt,fk.iC hd,Instr.slice,Instr.sliceBounds,Instr.sliceBound,asIntOf,(f _ _ k).n9];cases h;cases h
 
 rename_i e aj q Q ih il ht B ag al an;split at h;rename_i te k;split at h;rename_i u;obtain⟨a0,bc,rfl⟩:=zH h;obtain⟨G,bb⟩:=BB hn;obtain⟨bb,m⟩:=BB bb;have G:=zI G;have bb:=zI bb;have m:=zI m;have w:=du R hg r (by rw[B];rfl);rw[B,C.ab] at w;have hd:P.underlying X=U (.slice e):=(f _ _ ht).desc;obtain⟨A,n,N,M⟩:=OQ R u;have a9:lenOf (Q.rv O).val=n:=by have:=M;unfold RE.ab at this;rw[this];rfl
 simp only[K.ab,a9] at G m;obtain⟨L,hL⟩:=O8 G;obtain⟨H,hH⟩:=O8 (show 0<=ih.ab O from aa);have bd:n<=N:=by
  have:=sn R av u;rw[<-H4 (Q.rv O),show(Q.rv O).val=.slice A n N from M] at this;exact(tS this).2
 obtain⟨R',ba,a1⟩:=aaH R a0 u M (l:=L) (h:=H) aa aa rfl rfl;have af:(LE.sub (.ah Q) il ih).ac O=((Q.rv O).ac.take H).drop L:=by simp[LE.ac,hL,hH]
 have hw:(bD d.ty (.sl e)).length=Y te.aj:=by simp[bD,k]
 refine⟨.slice (if N=L then A else A.map (·.add (L*(bD d.ty (.sl e)).length))) (H-L) (N-L),W,_,.inl ?_,⟨⟨_,_,_,by rw[af],by rw[af];exact ba⟩,a1,λ_ _ _ _ h=>by cases h⟩,H6 R' R.er F.dst,Fu _ _ _⟩;have e1:=a4 ag;have j:=a3 al av;have i:=a3 an av;simp only[C.ab,hL,hH] at j i;have c1:(H:Int)<=(N:Int):=aa;have c2:(L:Int)<=(H:Int):=aa;simp[execOp,ho,w,M,e1,j,i,Instr.sliceAt,fk.iC hd,Instr.slice,Instr.sliceBounds,Instr.sliceBound,asIntOf,(f _ _ k).n9,hw];simp[show H<=N from aa,show L<=H from aa];cases h;cases h
 
 rename_i e aj q Q ih ht B ag al an;split at h;rename_i te k;split at h;rename_i u;obtain⟨a0,bc,rfl⟩:=zH h;obtain⟨G,m⟩:=BB hn;have G:=zI G;have m:=zI m;have w:=du R hg r (by rw[B];rfl);rw[B,C.ab] at w;have hd:P.underlying X=U (.slice e):=(f _ _ ht).desc;obtain⟨A,n,N,M⟩:=OQ R u;have a9:lenOf (Q.rv O).val=n:=by have:=M;unfold RE.ab at this;rw[this];rfl
 simp only[K.ab,a9] at G m;obtain⟨H,hH⟩:=O8 G;have bd:n<=N:=by
  have:=sn R av u;rw[<-H4 (Q.rv O),show(Q.rv O).val=.slice A n N from M] at this;exact(tS this).2
 obtain⟨R',ba,a1⟩:=aaH R a0 u M (l:=0) (h:=H) aa aa rfl rfl;have af:(LE.sub (.ah Q) (.c 0) ih).ac O=((Q.rv O).ac.take H).drop 0:=by simp[LE.ac,hH,K.ab]
 have hw:(bD d.ty (.sl e)).length=Y te.aj:=by simp[bD,k]
 refine⟨.slice (if N=0 then A else A.map (·.add (0*(bD d.ty (.sl e)).length))) (H-0) (N-0),W,_,.inl ?_,⟨⟨_,_,_,by rw[af],by rw[af];exact ba⟩,a1,λ_ _ _ _ h=>by cases h⟩,H6 R' R.er F.dst,Fu _ _ _⟩;have e1:=a4 ag;have j:=a3 al av;have i:=a4 an;simp only[C.ab,hH] at j;simp[execOp,ho,w,M,e1,j,i,Instr.sliceAt,fk.iC hd,Instr.slice,Instr.sliceBounds,Instr.sliceBound,asIntOf,(f _ _ k).n9,hw];intro hh;omega;cases h;cases h
 
 rename_i e aj q Q il ht B ag al an;split at h;rename_i te k;split at h;rename_i u;obtain⟨a0,bc,rfl⟩:=zH h;obtain⟨G,m⟩:=BB hn;have G:=zI G;have m:=zI m;have w:=du R hg r (by rw[B];rfl);rw[B,C.ab] at w;have hd:P.underlying X=U (.slice e):=(f _ _ ht).desc;obtain⟨A,n,N,M⟩:=OQ R u;have a9:lenOf (Q.rv O).val=n:=by have:=M;unfold RE.ab at this;rw[this];rfl
 simp only[K.ab,a9] at G m;obtain⟨L,hL⟩:=O8 G;have bd:n<=N:=by
  have:=sn R av u;rw[<-H4 (Q.rv O),show(Q.rv O).val=.slice A n N from M] at this;exact(tS this).2
 obtain⟨R',ba,a1⟩:=aaH R a0 u M (l:=L) (h:=n) aa aa rfl rfl;have af:(LE.sub (.ah Q) il (.len Q)).ac O=((Q.rv O).ac.take n).drop L:=by simp[LE.ac,hL,K.ab,a9]
 have hw:(bD d.ty (.sl e)).length=Y te.aj:=by simp[bD,k]
 refine⟨.slice (if N=L then A else A.map (·.add (L*(bD d.ty (.sl e)).length))) (n-L) (N-L),W,_,.inl ?_,⟨⟨_,_,_,by rw[af],by rw[af];exact ba⟩,a1,λ_ _ _ _ h=>by cases h⟩,H6 R' R.er F.dst,Fu _ _ _⟩;have e1:=a4 ag;have j:=a4 al;have i:=a3 an av;simp only[C.ab,hL] at i;simp[execOp,ho,w,M,e1,j,i,Instr.sliceAt,fk.iC hd,Instr.slice,Instr.sliceBounds,Instr.sliceBound,asIntOf,(f _ _ k).n9,hw];intro hh;omega;cases h;cases h;cases h
mutual
def aaI{k n:Nat}(h:(O.rv n).val=(O.rv k).val):∀(v:C),(v.iB k n).ab O V=v.ab O V
 |.int _ _|.bool _|.loc _ _|.jf _ _ _ _|.yl _|.any=>rfl
 |.ah (.v j)=>by
  simp only[C.iB];split;rename_i X;simp at X;subst X;simp only[C.ab,RE.ab,RE.rv,h];rfl
 |.ah (.cell _ _ _ _)=>rfl
 |.ah (.k _)=>rfl
 |.el (.v j) w i o=>by
  simp only[C.iB];split;rename_i X;simp at X;subst X;simp only[C.ab,RE.ab,RE.rv,h];rfl
 |.el (.cell _ _ _ _) _ _ _=>rfl
 |.el (.k _) _ _ _=>rfl
 |.agg l=>by simp only[C.iB,C.ab,K1 h l]
 |.bM l=>by simp only[C.iB,C.ab,K1 h l]
 |.fn f l=>by simp only[C.iB,C.ab,K1 h l]
 |.gX t x=>by simp only[C.iB,C.ab,aaI h x]
 |.mp _=>rfl
 |.gg e Q R=>by simp only[C.iB,C.ab,K1 h R]
def K1{k n:Nat}(h:(O.rv n).val=(O.rv k).val):∀(l:aq),C.aE O V (C.pE k n l)=C.aE O V l
 |[]=>rfl
 |x::X=>by simp only[C.pE,C.aE,aaI h x,K1 h X]
end
def awq(v:C):v.iB R Q=.any<->v=.any:=by
 cases v with
 |ah r=>cases r<;>simp[C.iB]<;>split<;>simp
 |el r w i o=>cases r<;>simp[C.iB]<;>split<;>simp
 |_=>simp[C.iB]
def ake{k n:Nat}:∀(l:aq)(i:Nat),(C.pE k n l)[i]?=(l[i]?).map (C.iB k n)
 |[],i=>by simp[C.pE]
 |x::X,0=>by simp[C.pE]
 |x::X,i+1=>by simp[C.pE,ake X i]
def akf{k n:Nat}:∀(l:aq),(C.pE k n l).length=Y l
 |[]=>rfl
 |x::X=>by simp[C.pE,akf X]
def O9{k n:Nat}:∀(l:bG),(uI k n l).length=Y l
 |[]=>rfl
 |Z::X=>by simp[uI,O9 X]
 |U (t,R)::X=>by simp[uI,O9 X]
def aaJ(k n:Nat)(x:TypeId×aq):TypeId×aq:=(x.1,if qY x.1 then x.2 else C.pE k n x.2)
def TX{k n:Nat}:∀(l:bG)(i:Nat),cw (uI k n l) i=(cw l i).map (aaJ k n)
 |[],i=>by simp[uI,cV]
 |Z::X,0=>by simp[uI,cV]
 |U (t,R)::X,0=>by simp[uI,cV,aaJ]
 |Z::X,i+1=>by have:=TX X i (k:=k) (n:=n);simpa[uI,cV] using this
 |U (t,R)::X,i+1=>by have:=TX X i (k:=k) (n:=n);simpa[uI,cV] using this
def H7{k n:Nat}(l:bG)(i:Nat):aK (uI k n l) i=aK l i:=by simp[aK,TX]
def az.iB{A:Ty}(R:az p g D A V O s a W){k n:Nat}(h:(O.rv n).val=(O.rv k).val):az p g D A V O (s.iB k n) a W:=by
 have y:(s.iB k n).ap=uI k n s.ap:=rfl;refine⟨⟨R.mem.base,λi N=>R.mem.own i (by rw[<-H7 (k:=k) (n:=n)];exact N),λi j N w=>R.mem.inj i j (by rw[<-H7 (k:=k) (n:=n)];exact N) (by rw[<-H7 (k:=k) (n:=n)];exact w),λi t r X=> ?_,λH e G Q F=> ?_⟩,
  by simp[S.iB,O9,R.gJ],R.ei,R.eb,R.er,R.dl,by simp[S.iB,akf,R.size],λt q L=> ?_,λH e G b Q F v=> ?_⟩
 rw[y,TX] at X;cases M:cw s.ap i with
 |none=>rw[M] at X;cases X
 |some x=>
  obtain⟨z,kP⟩:=x;rw[M] at X;simp only[eh,aaJ,cU,C2] at X;obtain⟨rfl,rfl⟩:=X;have B:=R.mem.box i z kP M;cases u:qY z;simp only[jp,gf];rw[tQ u] at B⊢;rw[K1 h];exact B;simp only[cN];exact B
 exact⟨(R.mem.ah H e G Q F).1,λb X i N=>(R.mem.ah H e G Q F).2 b X i (by rw[<-H7 (k:=k) (n:=n)];exact N)⟩;simp only[S.iB,ake] at L;cases M:s.tmps[t]? with
 |none=>rw[M] at L;cases L
 |some x=>
  rw[M] at L;simp only[eh,cU] at L;subst L;rcases R.tmps t x M with Q|Q;exact .inl ((awq x).2 Q);right;rw[aaI h];exact Q
 have t:=R.gj H e G b Q F v;exact⟨t.own,t.mem,λi N=>t.box i (by rw[<-H7 (k:=k) (n:=n)];exact N),t.alone,t.inner⟩

def akg:∀(Q X:aC)(R:Nat),(gZ X R Q).length=Y X
 |[],X,R=>rfl
 |v::Q,X,R=>by rw[gZ,akg];simp
def TY:∀(R Q:aC)(X j:Nat),X+Y R<=Y Q->(gZ Q X R)[j]?=if X<=j/\j<X+Y R then R[j-X]? else Q[j]?
 |[],Q,X,j,_=>by simp[gZ];intro M N;omega
 |v::R,Q,X,j,h=>by
  simp only[lH] at h;rw[gZ,TY R _ (X+1) j dh];by_cases M:j=X;subst M;rw[aQ aa,aJ av,G6 aa];simp;by_cases N:X+1<=j/\j<X+1+Y R;rw[aJ N,aJ dh,show j-X=(j-(X+1))+1 from aa];simp;rw[aQ N,aQ dh,rX aa]
def akh:∀(R l:gt)(X j:Nat),X+Y R<=Y l->(zG l X R)[j]?=if X<=j/\j<X+Y R then R[j-X]? else l[j]?
 |[],l,X,j,_=>by simp[zG];intro N Q;omega
 |v::R,l,X,j,h=>by
  simp only[lH] at h;rw[zG,akh R _ (X+1) j dh];by_cases N:j=X;subst N;rw[aQ aa,aJ av,G6 aa];simp;by_cases Q:X+1<=j/\j<X+1+Y R;rw[aJ Q,aJ dh,show j-X=(j-(X+1))+1 from aa];simp;rw[aQ Q,aQ dh,rX aa]
def K2{f:aC->aC}{N:aC}(h:(k.modify R f)[Q]?=U N):(Q=R/\∃X,k[R]?=U X/\N=f X)\/(Q≠R/\k[Q]?=U N):=by
 rw[aiO] at h;by_cases M:R=Q;subst M;simp only[cN] at h;cases L:k[R]? with
 |none=>rw[L] at h;cases h
 |some X=>rw[L] at h;simp at h;exact .inl ⟨rfl,X,rfl,h.symm⟩
 simp only[M,gf] at h;exact .inr ⟨λH=>M H.symm,by simpa using h⟩
def awr{w:Nat}{l:gt}(R:∀(i:Nat)(X:aC),k[i]?=U X->Y X=w)(N:Y l=Y k*w)(h:∀(i j:Nat)(X:aC)(c:RV),k[i]?=U X->X[j]?=U c->l[i*w+j]?=U c.val):l=eG k:=by
 apply kG;intro q;by_cases M:q<(eG k).length;have Q:=cS M;obtain⟨i,j,X,c,L,H,G,F⟩:=KU R Q;rw[Q,F];subst G;exact h i j X c L H;rw[kg (l:=eG k) aa,kg];rw[N,<-Bz R];omega
def aws(R:az p g D d.ty V O s a W)(co:jg P d.ty)(hg:e8 d.gl O){y:Operand}(ho:F.op=.store X r y){dr:Bool}{b:BI}(h:eZ d F t dr s=U b)(hn:b.be.ab O=J):
  K0 P p g D d.ty V O s a W F b:=by
 unfold eZ at h;simp only[ho] at h;split at h;cases h;split at h;rename_i G k w i M cp hx;split at h;rename_i e hk;split at h;rename_i te cv;split at h;rename_i hc;simp only[aw,dE,cm] at hc;obtain⟨⟨⟨⟨cx,a9⟩,cy⟩,al⟩,cA⟩:=hc;cases hb:kC s Z (wh i (.len (.v k))) e (.own e) (.set (.ah (.v k)) i M (s.ev d.gl y).cells) [k] (C.pD (s.ev d.gl y).cells) with
 |none=>rw[hb] at h;cases h
 |some b0=>
  rw[hb] at h;simp only[eh,cU] at h;obtain⟨cB,cC,rfl⟩:=zH hb;subst h;have b1:bD d.ty (.sl e)=te.aj:=by simp[bD,cv]
  have hw:(bD d.ty (.sl e)).length=w:=by rw[b1];exact cx
  obtain⟨A,n,f,g1,g2,g3⟩:=O6 R hk;have bd:=uS R hk;simp only[wh] at hn;obtain⟨ba,an⟩:=BB hn;have ba:=zI ba;rw[Ds] at an;simp only[fy,K.ab,RE.rv] at ba an;have an:=uE an;rw[g1] at an;simp only[RV.nC,lenOf] at an;obtain⟨Q,hI⟩:=O8 ba;have df:Q<n:=aa;obtain⟨b2,b3⟩:=tS g2;have a4:=fQ.yb g2;obtain⟨bk,da,hA,b4,cD,bb⟩:∃b da,A=U ⟨b,0,Z⟩/\W.heap[b]?=U (.cells da e (0,0))/\f<=maxLen/\da.size=f*(bD d.ty (.sl e)).length:=by
   rcases g3.mem with h0|h0;omega;exact h0
  subst hA;have cI:lx (U ⟨bk,0,Z⟩) f=U bk:=by cases f with
   |zero=>omega
   |succ c=>rfl
  have cO:s.ev d.gl y≠ .any:=by
   intro hy;rw[hy] at al a9;simp only[C.cells,N0] at a9;rw[<-a9] at al;cases hd:(te.aj.drop M).take 1 with
   |nil=>rw[hd] at al;simp[mM,C.cells] at al
   |cons c cs=>rw[hd] at al;simp[mM,C.cells,tF] at al
  have cR:=du R hg y (by cases hh:s.ev d.gl y<;>first|rfl|exact aZ hh cO);have cW:=du R hg r (by rw[hx];rfl);have c0:=TJ (O:=O) (V:=V) (wu R) cA;obtain⟨f1,f2⟩:=H5 al;have bc:(s.ev d.gl y).cells.length=Y G.aj:=a9;have dk:((te.aj.drop M).take (Y G.aj)).length=Y G.aj:=dh;have b5:∀(j:Nat),j<Y G.aj->((te.aj.drop M).take (Y G.aj))[j]?=(bD d.ty (.sl e))[M+j]?:=by
   intro j hj;rw[nj,aJ hj,uC,b1]
  have b6:C.aE O V (s.ev d.gl y).cells=((s.ev d.gl y).cells.map (C.cd O)).map RV.val:=by
   apply kG;intro j;rw[tN,dW,dW];cases hv:(s.ev d.gl y).cells[j]? with
   |none=>rfl
   |some v=>
    have hj:j<Y G.aj:=by rw[<-bc];exact(ck.1 hv).1
    obtain⟨ct,c1⟩:∃ct,((te.aj.drop M).take (Y G.aj))[j]?=U ct:=⟨_,cS aa⟩;simp only[eh];rw[aj9 (f2 j ct v c1 hv)]
  have a0:=aaz R al;have b7:(LE.set (.ah (.v k)) i M (s.ev d.gl y).cells).ac O=(O.rv k).ac.modify Q λL=>gZ L M ((s.ev d.gl y).cells.map (C.cd O)):=by simp[LE.ac,RE.rv,hI]
  have bf:((s.ev d.gl y).cells.map (C.cd O)).length=Y G.aj:=by simp[bc]
  generalize c2:(s.ev d.gl y).cells.map (C.cd O)=vv at*;have bg:∀H:aC,Y H=(bD d.ty (.sl e)).length->M+Y vv<=Y H:=λH h0=>by rw[h0,hw,bf];exact cy
  have bl:fQ W d.ty e ((O.rv k).ac.modify Q λL=>gZ L M vv):=by
   refine fQ.of (λB L hr=> ?_);rcases K2 hr with⟨rfl,H,l,rfl⟩|⟨br,l⟩
   ·have q:=a4.get l;have c3:=bg H q.len;refine⟨by rw[akg];exact q.len,λj c kk af ag=> ?_,λj c af ag=> ?_,λj c z kk af ag=> ?_⟩
    all_goals
     rw[TY _ _ _ _ c3] at af;split at af;rename_i hj;have bs:j-M<Y G.aj:=aa;have a1:=b5 _ bs;rw[show M+(j-M)=j from aa,ag] at a1
     first
      |exact a0.int (j-M) c _ af a1
      |exact a0.bool (j-M) c af a1
      |exact a0.ae (j-M) c _ _ af a1
     first
      |exact q.int j c _ af ag
      |exact q.bool j c af ag
      |exact q.ae j c _ _ af ag
   exact a4.get l
  have c4:Dy d.ty V O s e ((O.rv k).ac.modify Q λL=>gZ L M vv) (C.pD (s.ev d.gl y).cells):=by
   intro b ⟨B,j,L,c,z,kk,h1,m,h3,hl⟩;have elder:∀H,(O.rv k).ac[B]?=U H->H[j]?=U c->O.qz d.ty s.rs b/\(∀i,aK s.ap i=J->ad V i≠b)/\∀(k':Nat)(X:TypeId)(rv:RV),s.rs[k']?=U (.own X)->O.r[k']?=U rv->rv.lu=U b->k'∈C.pD (s.ev d.gl y).cells:=by
    intro H q1 q2;have hi:n7 d.ty e (O.rv k).ac b:=⟨B,j,H,c,z,kk,q1,q2,h3,hl⟩;have b8:=KV (O:=O) (e0:=.own e) rfl hi;exact⟨⟨k,_,hk,b8⟩,(R.mem.ah k _ _ hk bd).2 b b8,λk' X rv q3 q4 q5=>(OZ R q3 q4 q5 hk rfl hi).elim⟩
   rcases K2 h1 with⟨rfl,H,l,rfl⟩|⟨br,l⟩;rw[TY _ _ _ _ (bg H (a4.len _ _ l))] at m;split at m;rename_i hj;have bs:j-M<Y G.aj:=aa;have a1:((te.aj.drop M).take (Y G.aj))[j-M]?=U (.ae z kk):=(b5 _ bs).trans (by rw[show M+(j-M)=j from aa];exact h3);rw[<-c2] at m;obtain⟨N,q1,q2,q3,q4⟩:=aaA al m a1 hl;obtain⟨p1,p2⟩:=KW R q3 q2 q4;refine⟨p1,p2,λk' X rv k1 k2 k3=> ?_⟩;have:=TQ R k1 k2 k3 q3 q2 q4;subst this;exact TW (jI q1) rfl;exact elder H l m;exact elder L l m
  have bt:(C.aE O V (s.ev d.gl y).cells).length=Y G.aj:=by simp[bc]
  have c5:Q*w+M+Y G.aj<=f*w:=by
   have:(Q+1)*w<=f*w:=EV _ aa;rw[pz] at this;omega
  obtain⟨W',r1,r2,r3,r4,r5,r6,r7⟩:=aau (P:=P) bk (Q*w+M) e (C.aE O V (s.ev d.gl y).cells) 0 da W b4 (by rw[bt,bb,hw];omega) (λu hu=>by
   rw[b6] at hu;obtain⟨c,c6,rfl⟩:=iq.1 hu;obtain⟨j,hj⟩:=tB c6;have dn:j<Y G.aj:=by rw[<-bf];exact(ck.1 hj).1
   obtain⟨ct,ag⟩:∃ct,((te.aj.drop M).take (Y G.aj))[j]?=U ct:=⟨_,cS aa⟩;cases ct with
   |int kk=>obtain⟨n',bx⟩:=a0.int j c kk hj ag;rw[bx];rfl
   |bool=>obtain⟨n',bx⟩:=a0.bool j c hj ag;rw[bx];rfl
   |ae z kk=>exact KK (a0.ae j c z kk hj ag))
  have a3:((O.rv k).ac.modify Q λL=>gZ L M vv).length=n:=by simp[b2]
  have ca:=aaC g2 b4;rw[b2,hw] at ca;obtain⟨R',c7⟩:=R.bind cB (old:=U bk) (kill:=[k]) (dq:=C.pD (s.ev d.gl y).cells) (A:=U ⟨bk,0,Z⟩) (cap:=f) (W':=W') (.inr ⟨k,e,_,rfl,hk,bd,by rw[g1,KY,cI]⟩) cC
   ⟨r5,r6,r7,aa,λq _ hq=>r3 q (λh=>hq (by rw[h]))⟩ bl c4
   ⟨by rw[a3];exact b3,av,.inr ⟨bk,_,rfl,r2,cD,by rw[hw,G9,aat,EX,bb,hw],by
    rw[a3,hw];refine awr (w:=w) (λB L hr=>by rw[bl.len B L hr,hw]) ?_ (λB j L c h1 m=> ?_);rw[a3,EY,Zl,aat,EX,bb,hw];exact Hd (EV _ b3);have ds:B<n:=by rw[<-a3];exact(ck.1 h1).1
    have dx:j<w:=by rw[<-hw,<-bl.len B L h1];exact(ck.1 m).1
    have cc:B*w+j<n*w:=by
     have:(B+1)*w<=n*w:=EV _ aa;rw[pz] at this;omega
    rw[nj,aJ cc,Zl,zl,akh _ _ _ _ (by rw[bt,EX,bb,hw];exact c5),bt];have ch:∀H:aC,(O.rv k).ac[B]?=U H->H[j]?=U c->da.toList[B*w+j]?=U c.val:=by
     intro H q1 q2;have:=OV (w:=w) (λi L hr=>by rw[a4.len i L hr,hw]) q1 q2;rw[<-ca,nj,aJ cc] at this;exact this
    rcases K2 h1 with⟨rfl,H,l,rfl⟩|⟨br,l⟩;rw[TY _ _ _ _ (bg H (a4.len _ _ l)),bf] at m;by_cases hj:M<=j/\j<M+Y G.aj;rw[aJ hj] at m;rw[aJ aa,b6,show B*w+j-(B*w+M)=j-M from aa,dW,m];rfl;rw[aQ hj] at m;rw[aQ aa];exact ch H l m;have c8:¬(Q*w+M<=B*w+j/\B*w+j<Q*w+M+Y G.aj):=by
     rintro⟨q1,q2⟩;rcases aIz br with dy|dz;have:(B+1)*w<=Q*w:=EV _ aa;rw[pz] at this;omega;have:(Q+1)*w<=B*w:=EV _ aa;rw[pz] at this;omega
    rw[aQ c8];exact ch L l m,.inr rfl⟩⟩
  have c9:k<Y O.r:=(ck.1 bd).1;have R2:=R'.iB (k:=k) (n:=Y s.rs) (by
   rw[<-R.er];have e1:(O.add (.r (.mk (.slice (U ⟨bk,0,Z⟩) ((O.rv k).ac.modify Q λL=>gZ L M vv).length f) ((O.rv k).ac.modify Q λL=>gZ L M vv)))).rv (Y O.r)=.mk (.slice (U ⟨bk,0,Z⟩) ((O.rv k).ac.modify Q λL=>gZ L M vv).length f) ((O.rv k).ac.modify Q λL=>gZ L M vv):=by simp[ai.rv,ai.add]
   have e2:(O.add (.r (.mk (.slice (U ⟨bk,0,Z⟩) ((O.rv k).ac.modify Q λL=>gZ L M vv).length f) ((O.rv k).ac.modify Q λL=>gZ L M vv)))).rv k=O.rv k:=by simp[ai.rv,ai.add,dH,c9]
   rw[e1,e2,RV.nC,a3];have:=kh RV.val g1;exact this.symm)
  refine⟨undef,W',_,.inr ⟨?_,rfl⟩,⟨⟨_,_,_,by rw[b7],by rw[b7]⟩,c7,λk' _ _ _ hx=>by
   cases hx;rw[RV.nC,a3];exact(kh RV.val g1).symm⟩,R2.put F.dst (.bM []), ?_⟩
  have dc:(O.rv k).val=.slice (U ⟨bk,0,Z⟩) n f:=by rw[g1];rfl
  have cl:((s.ev d.gl y).ab O V).cells.toList=C.aE O V (s.ev d.gl y).cells:=c0;have dd:((s.ev d.gl y).ab O V).cells.size=Y G.aj:=by rw[<-EX,cl];simp[bc]
  simp only[execOp,ho,cW,cR,hx,C.ab,RE.ab,RE.rv,dc,oC,hI,v7,iX,Instr.storeAt,Instr.sureAddr,storeVar,dA,fq,dv,(co _ _ cp).n9,dd,cl,ne_eq,not_true_eq_false,gf,r1];have cn:bH s O V ({s with rs:=kB (C.pD (s.ev d.gl y).cells) 0 (ju [k] 0 s.rs)++[.own e]}:S) _ V:=Fu (rv:=.mk (.slice (U ⟨bk,0,Z⟩) ((O.rv k).ac.modify Q λL=>gZ L M vv).length f) ((O.rv k).ac.modify Q λL=>gZ L M vv)) _ Z (.bM []);refine bH.put (s:=s) (s':=(({s with rs:=kB (C.pD (s.ev d.gl y).cells) 0 (ju [k] 0 s.rs)++[.own e]}:S).put Z (.ah (.v (Y s.rs)))).iB k (Y s.rs)) ⟨cn.ext,λq hq=> ?_,by simp[S.put,S.iB,O9],cn.ax⟩ _ _;simp only[S.put,S.iB,H7];exact hq
 cases h;cases h;cases h;cases h
def aaK(R:az p g D d.ty V O s a W)(N:jg P d.ty)(M:e8 d.gl O){G:Bool}{b:BI}(h:eZ d F t G s=U b)(L:b.be.ab O=J):K0 P p g D d.ty V O s a W F b:=by
 cases Q:F.op with
 |call c=>
  cases H:c.callee with
  |builtin B=>cases B with
   |append=>exact awj R N M Q H h L
   |_=>simp[eZ,Q,H] at h
  |_=>simp[eZ,Q,H] at h
 |makeSlice X n m=>exact awl R N M Q h L
 |buildSlice X A parts=>exact awm R N M Q h
 |slice X x z w v=>exact awp R N M Q h L
 |store X x y=>exact aws R N M Q h L
 |_=>simp[eZ,Q] at h
end
