/- Part 1 of the proof; the last part says what is shown. -/
import GoSem.Step
import Derived.Below
import Derived.Laws.AppendOwn
import Derived.Deep.Draws
import Derived.RangeFuncRecord
import Derived.CallsIn
import Derived.OrdersIn
import Derived.Sort.LoopGhostIn
import Derived.RangeFuncCalls
import Derived.Laws.Cells
import Derived.MapKept
import Derived.IntWalk
set_option linter.all false
set_option maxRecDepth 100000
set_option maxHeartbeats 100000000
open Bool renaming and_eq_true->aw,not_eq_true'->iw,false_eq_true->jB,or_eq_true->jL,eq_iff_iff->sx,not_eq_false->Hn,rec->Kd,or_eq_true_iff->avu,and_assoc->avK,true_or->avR,true->J,false->E
open List renaming getD_eq_getElem?_getD->cw,getElem?_eq_some_iff->cu,getElem?_eq_getElem->cP,getElem?_append_left->dN,getElem?_map->dS,getElem?_append_right->iJ,mem_append->eW,map_cons->dU,mem_cons->dV,replicate->eF,length_append->gP,all_eq_true->fZ,mem_of_getElem?->jK,map_congr_left->jA,getElem?_eq_none->km,range->e8,mem_map->iD,ext_getElem?->kU,eq_nil_of_length_eq_zero->tM,length_eq_one_iff->oZ,length_cons->kV,any_eq_true->kW,getElem?_take->nD,getElem?_cons_succ->tN,getElem?_set_ne->ss,getElem?_of_mem->tO,getElem_mem->pM,length_map->pN,drop_eq_getElem_cons->Bj,getElem?_drop->uN,map_map->oJ,getElem?_eq_none_iff->Dc,getElem?_set->wc,getElem?_range->zH,mem_of_mem_drop->Bl,mem_cons_of_mem->Dd,getElem?_replicate->Hh,append_assoc->Bn,mem_of_mem_take->E2,take_of_length_le->Hj,getElem?_set_self->Hk,length_drop->Df,mem_singleton->Hm,length_take->E4,range'->xV,size_toArray->Ho,mem_of_find?_eq_some->SK,foldl_cons->E5,range_eq_range'->SN,find?_cons->Ka,length_singleton->ZC,rec->zJ,drop_drop->Ol,toList_toArray->ZF,all_cons->Om,find?_some->SU,zip_cons_cons->ZH,flatMap_cons->ZJ,getElem?_toArray->ai8,range'_succ->ZK,getElem?_modify->ai9,drop_eq_nil_of_le->avq,drop_zero->avL,mapM_cons->avM,length->Y
open Go.Result renaming andThen_ok->du
open Nat renaming le_refl->bY,lor->bX,zero_add->jf,shiftLeft->mP,add_mul->nE,mul_le_mul_right->zG,beq->jo,le_trans->pO,eq_zero_or_pos->Bm,gcd->lG,add_zero->wh,mul_le_mul->Dg,testBit_or->E7,min_eq_left->Hp,add_assoc->Ht,testBit_add_one->SP,zero_le->Hx,lt_of_lt_of_le->ZG,mod_lt->Hy,mul_comm->SZ,rec->Hz,testBit_shiftLeft->avr,div_lt_of_lt_mul->avt,div_add_mod->ajk,sub_self->ZT,one_shiftLeft->avz,testBit_zero->avE,eq_of_beq_eq_true->aI6,beq_eq->aju,testBit_two_pow->aJe,pow_succ->avQ,lt_or_gt_of_ne->aJj
open Option renaming map_some->eh,isSome_iff_exists->lF,getD_some->oI,bind_some->ZL,getD_none->aje,some->U,none->Z
open Go.Sem renaming run_bind->dC,run_pure->fz
open Array renaming getElem?_eq_some_iff->oY,ext'->nF,toList_map->xT,length_toList->E3,getElem?_modify->SM,getElem?_setIfInBounds_ne->ai4,getElem?_toList->ZD,getElem?_eq_getElem->avo,toList_range->avx,mapM_eq_mapM_toList->aIV,getElem?_eq_none->aI3,range->ajr,foldl_toList->aJi
open Go.Op renaming operands->iN,equalIn->Di,equal->E9
open Go.World renaming putObj_heap_other->uM,cell?->oK,alloc_heap_new->SO,putObj->Hv,setCell->ZQ,frozen?->ZR,grownBy_alloc->aJf
open Go.Region renaming binds->avS
open Int renaming toNat_natCast->su,natCast_mul->ajl
open List.cons renaming injEq->xU
open Go.Call renaming operands->Bo
open Prod.mk renaming injEq->Dh
open Go.IntKind renaming i64->I
namespace Go.Proofs.YtejplpmpldcmlaaGreatDoor.Y
variable{R Q i:Nat}
def aa{p:Prop}(h:p:=by omega):p:=h
def av{p:Prop}(h:p:=by simp):p:=h
def qF{p:Prop}(h:p:=by assumption):p:=h
def dX{p:Prop}(h:p:=by decide):p:=h
def dl{p:Prop}(h:p:=by simp;omega):p:=h
def cN{p:Prop}(h:p:=by simp[iN]):p:=h
def o7{p:Prop}(h:p:=by dsimp only;decide):p:=h
def ce:= @decide_eq_true_eq
def dK:= @beq_iff_eq
def aL:= @if_pos
def aT:= @if_neg
def cS:= @if_true
def gw:= @if_false
def aZ:= @absurd
def ko:= @congrArg
def tP:= @of_decide_eq_true
def cX:= @Option.some.injEq
def mQ:= @Option.some.inj
structure Sh where
 kt:TypeId
 vt:TypeId
 nk:Nat
 ka:Bool
 va:Bool
 deriving DecidableEq
abbrev aq:=List Nat
abbrev cQ:=Option Nat
abbrev bA:=List Int
abbrev j5:=List TypeId
abbrev sC:=Option (List TypeId)
abbrev dQ:=Array Oper
abbrev pQ:=List Oper
abbrev nG:=List (Nat×Nat×Nat)
abbrev od:=List ResultVar
abbrev Dj:=List (Nat×Nat)
abbrev gG:=List Value
abbrev mR:=Array Value
abbrev my:=List Bool
abbrev oL:=Option Addr
abbrev tQ:=List (Value×Value)
inductive RK where
 |sl (e:TypeId)
 |str
 |ae
 |own (e:TypeId)
 |am
 |mr (sh:Sh)
 deriving DecidableEq
abbrev bz:=List RK
def RK.rd:RK->RK
 |.own e=>.sl e
 |k=>k
inductive CT where
 |int (k:IntKind)
 |bool
 |ae (z:Value) (k:RK)
abbrev fu:=List CT
inductive TD where
 |one
 |ik
 |str
 |slice (e:TypeId)
 |arr (n:Nat) (e:TypeId)
 |struct (fs:List (Nat×TypeId))
 |map (k e:TypeId) (n:Nat) (ag:Bool)
structure TI where
 d:TD
 aj:fu
 eq:Bool:=E
abbrev Fa:=Option TI
mutual
inductive K where
 |c (n:Int)
 |v (k:Nat)
 |bin (op:BinOp) (k:IntKind) (a b:K)
 |conv(k:IntKind) (a:K)
 |len (r:RE)
 |mm (mx:Bool) (a b:K)
 |eB (b:BE) (x y:K)
 |cell (r:RE) (i:K) (j:Nat)
 |oe (r:RE) (i:K)
 |look (r:RE) (n:Nat) (a b c:K) (j:Nat)
inductive BE where
 |c (b:Bool)
 |v (k:Nat)
 |cmp (op:BinOp) (a b:K)
 |not (a:BE)
 |and (a b:BE)
 |beq (a b:BE)
 |eB (b x y:BE)
 |cell (r:RE) (i:K) (j:Nat)
 |seq (a b:RE)
 |look (r:RE) (n:Nat) (a b c:K) (j:Nat)
 |has (r:RE) (n:Nat) (a b c:K)
inductive RE where
 |v (k:Nat)
 |cell (r:RE) (i:K) (j:Nat) (k:RK)
 |k (v:Value)
end
inductive C where
 |int (k:IntKind) (e:K)
 |bool (b:BE)
 |ah (r:RE)
 |loc (i off:Nat)
 |el (r:RE) (w:Nat) (i:K) (off:Nat)
 |jp (i off len cap:Nat)
 |agg (l:List C)
 |bO (l:List C)
 |fn (f:FuncId) (caps:List C)
 |ik (t:TypeId) (x:C)
 |yl (n:Nat)
 |any
 |mp (i:Nat)
 |gz (e:K) (ks:List Int) (vs:List C)
abbrev ap:=List C
abbrev xW:=List (List C)
abbrev HA:=Option (List C)
inductive PX where
 |ret
 |exit (id:Nat)
 deriving DecidableEq
inductive HB where
 |ready
 |busy
 |done (e:PX)
 deriving DecidableEq
abbrev uP:=List HB
abbrev bG:=List (Option (TypeId×ap))
structure S where
 tmps:ap
 ao:bG
 ni:Nat
 nb:Nat
 rs:bz
 ax:Nat
 lk:Nat
 pd:uP
noncomputable def cz(l:bG)(i:Nat):Option (TypeId×ap):=zJ (motive:=λ_=>Nat->Option (TypeId×ap)) (λ_=>Z) (λx _ X t=>Hz (motive:=λ_=>Option (TypeId×ap)) x (λm _=>X m) t) l i
def cY:∀(l:bG)(i:Nat),cz l i=(match l[i]? with
  |U (U b)=>U b
  |_=>Z)
 |[],_=>rfl
 |Z::_,0=>rfl
 |U _::_,0=>rfl
 |_::l,i+1=>by rw[tN];exact cY l i
noncomputable section
def uQ:TypeId:=1099511627776
def wj:TypeId:=1099511627777
def xX:TypeId:=1099511627778
def rz(t:TypeId):Bool:=decide (uQ<=t)
def mz(l:bG)(i:Nat):Option (TypeId×ap):=match cz l i with
 |U (t,X)=>if rz t then Z else U (t,X)
 |none=>Z
inductive LK where
 |int (k:IntKind)
 |bool
 |ah (k:RK)
 deriving DecidableEq
abbrev aU:=List LK
inductive XE where
 |normal
 |ret
 |exit (id:Nat)
 |bI (v:C)
inductive LE where
 |ah (r:RE)
 |lit (l:List (List C))
 |kq (a b:LE)
 |tR (n:K) (row:List C)
 |set (a:LE) (i:K) (off:Nat) (cs:List C)
 |sub (a:LE) (lo hi:K)
 |ins (a:LE) (n:Nat) (cs:List C)
inductive bu where
 |lex (cs:List Nat) (desc:Bool)
 |ratio (n d:Nat)
 |dD (k:Nat) (o:bu) (as:List K)
abbrev Bq:=List (FuncId×FuncId×TypeId×bu×Bool)
inductive T where
 |out (e:XE) (s:S)
 |ret (v:C) (bx:bG) (rs:List RK)
 |bI (v:C)
 |aV (b:BE) (t f:T)
 |bi (b:BE) (t:T)
 |call (f:FuncId) (args:List C) (bx:bG) (rs:List RK) (ks:List LK) (jM:C) (t:T)
 |loop (ax:Nat) (ks:List LK) (x0:List C) (t:T)
 |back (ax:Nat) (x:List C)
 |new (e:TypeId) (x:LE) (rs rsn:List RK) (t:T)
 |ac (k:RK) (x:LE) (rs:List RK) (t:T)
 |gQ (g h:BE) (t f:T)
 |pick (n:K) (g h:BE) (t f:T)
 |eL (f g:FuncId) (e:TypeId) (sp:bu) (st:Bool) (r:RE) (rs:List RK) (t:T)
 |stuck (msg:String)
def Ke:Value->C
 |.int k n=>.int k (.c n)
 |.bool b=>.bool (.c b)
 |v=>.ah (.k v)
def Ot:Value->C
 |.int k n=>.int k (.c n)
 |.bool b=>.bool (.c b)
 |.agg X=>.agg (X.toList.map Ke)
 |v=>.ah (.k v)
def ZW(l:ap)(t:Nat):C:=zJ (motive:=λ_=>Nat->C) (λ_=>.any) (λx _ X t=>Hz (motive:=λ_=>C) x (λm _=>X m) t) l t
def ajw(l:ap)(d:Nat)(v:C):ap:=zJ (motive:=λ_=>Nat->ap) (λ_=>[]) (λx X W d=>Hz (motive:=λ_=>ap) (v::X) (λm _=>x::W m) d) l d
@[simp] def xY:∀(l:ap)(t:Nat),ZW l t=l.getD t .any
 |[],_=>rfl
 |_::_,0=>rfl
 |_::X,t+1=>xY X t
@[simp] def wl:∀(l:ap)(d:Nat)(v:C),ajw l d v=l.set d v
 |[],_,_=>rfl
 |_::_,0,_=>rfl
 |x::X,d+1,v=>ko (x::·) (wl X d v)
def S.ev(X:nG)(s:S):Operand->C
 |.tmp t=>ZW s.tmps t
 |.const v=>Ot v
 |.global g=>match X.find? (λx=>x.1==g) with
  |U (_,k,w)=>.el (.v k) w (.c 0) 0
  |none=>.any
 |.func f=>.fn f []
def S.put(s:S)(X:cQ)(v:C):S:=
 match X with
 |U d=>{s with tmps:=ajw s.tmps d v}
 |none=>s
def Fb(r:RE)(i:K)(j:Nat):CT->C
 |.int k=>.int k (.cell r i j)
 |.bool=>.bool (.cell r i j)
 |.ae _ k=>.ah (.cell r i j k)
def Dl:CT->C
 |.int k=>.int k (.c 0)
 |.bool=>.bool (.c E)
 |.ae z _=>.ah (.k z)
def TD.isAgg:TD->Bool
 |.arr _ _|.struct _=>J
 |_=>E
def C.cells:C->ap
 |.agg l=>l
 |v=>[v]
def jD:Value->Bool
 |.agg _|.tuple _=>E
 |_=>J
def RE.HC:RE->Bool
 |.k w=>jD w
 |_=>J
def C.HD:C->Bool
 |.ah (.k w)=>jD w
 |_=>J
def C.single:C->Bool
 |.ah (.k w)=>jD w
 |.agg _|.bO _|.any=>E
 |_=>J
noncomputable def Fc(l:ap):Bool:=zJ (motive:=λ_=>Bool) J (λx _ X=>Kd (motive:=λ_=>Bool) E X x.single) l
def S3:(Fc []=J)/\(∀x X,Fc (x::X)=(x.single&&Fc X)):=⟨rfl,λx X=>by
 show Kd (motive:=λ_=>Bool) E (Fc X) x.single=_;cases x.single<;>rfl⟩
def xZ(l:ap)(X n:Nat):ap:=(l.drop X).take n
def ya(X:TI)(l:ap)(W:Nat):Option C:=
 if X.d.isAgg then(if W+Y X.aj<=Y l then U (.agg (xZ l W (Y X.aj))) else Z) else l[W]?
def l8(l:ap)(X:Nat):ap->ap
 |[]=>l
 |v::r=>l8 (l.set X v) (X+1) r
def zK(place:Nat->Option (Nat×Nat))(cells:ap):List (Nat×C)->HA
 |[]=>U cells
 |(i,v)::V=>
  match place i with
  |none=>Z
  |U (X,W)=>if Y v.cells !=W||decide (Y cells<X+W)|| !v.HD then Z else zK place (l8 cells X v.cells) V
def eG(X:TI):ap:=X.aj.map Dl
def yb(n:Nat)(l:ap):ap:=match n with
 |0=>[]
 |n+1=>l++yb n l
def S4:BinOp->Bool
 |.eql|.neq|.lss|.leq|.gtr|.geq=>J
 |_=>E
def fA:BinOp->Int->Int->Bool
 |.eql,x,y=>x==y
 |.neq,x,y=>x !=y
 |.lss,x,y=>decide (x<y)
 |.leq,x,y=>decide (x<=y)
 |.gtr,x,y=>decide (x>y)
 |.geq,x,y=>decide (x>=y)
 |_,_,_=>E
def aH:BinOp->IntKind->Int->Int->Int
 |.add,k,x,y=>k.wrap (x+y)
 |.sub,k,x,y=>k.wrap (x-y)
 |.mul,k,x,y=>k.wrap (x*y)
 |.quo,k,x,y=>k.wrap (x.tdiv y)
 |.rem,_,x,y=>x.tmod y
 |.shr,k,x,y=>x.fdiv (2^min y.toNat k.bits)
 |.and,k,x,y=>k.wrap (BitVec.ofInt k.bits x&&& BitVec.ofInt k.bits y).toNat
 |_,_,_,_=>0
def ZX:BinOp->Bool
 |.add|.sub|.mul|.and=>J
 |_=>E
def ZY:BinOp->Bool
 |.quo|.rem=>J
 |_=>E
def ajx:BinOp->Bool
 |.shr=>J
 |_=>E
inductive PR where
 |ok (v:C)
 |bi (b:BE) (v:C)
 |no (why:String)
def Fe(X:BinOp)(k:IntKind):K->K->K
 |.c x,.c y=>.c (aH X k x y)
 |a,b=>.bin X k a b
def qG(X:BinOp):K->K->BE
 |.c x,.c y=>.c (fA X x y)
 |a,b=>.cmp X a b
def Ff:BE->BE
 |.c b=>.c (!b)
 |b=>.not b
def wm:BE->BE->BE
 |.c J,b=>b
 |.c E,_=>.c E
 |a,.c J=>a
 |a,b=>.and a b
def Ou:BE->BE->BE
 |.c a,.c b=>.c (a==b)
 |.c J,b=>b
 |.c E,b=>Ff b
 |a,.c J=>a
 |a,.c E=>Ff a
 |a,b=>.beq a b
def wn(i:K)(n:K):BE:=wm (qG .leq (.c 0) i) (qG .lss i n)
def S5(X:Bool):K->K->K
 |.c x,.c y=>.c (if X then max x y else min x y)
 |a,b=>.mm X a b
def HE(X:Bool)(k:IntKind):K->ap->Option K
 |e,[]=>U e
 |e,.int W x::r=>if k=W then HE X k (S5 X e x) r else Z
 |_,_=>Z
abbrev Ty:=TypeId->Fa
def bE(W:Ty):RK->fu
 |.sl e=>match W e with
  |U X=>X.aj
  |none=>[]
 |.mr V=>(match W V.kt with
  |U X=>X.aj
  |none=>[])++(match W V.vt with
  |U X=>X.aj
  |none=>[])
 |_=>[]
def HF:Option CT->RK
 |U (.ae _ k)=>k
 |_=>.ae
def RE.kind(X:Ty)(s:S):RE->RK
 |.v n=>(s.rs.getD n .ae).rd
 |.cell r _ j W=>match RE.kind X s r with
  |.sl e=>if HF (bE X (.sl e))[j]?=W then W else .ae
  |_=>.ae
 |.k (.string _)=>.str
 |.k _=>.ae
def Kf(X:Ty)(s:S):CT->C->C->Option BE
 |.int k,.int W a,.int V b=>if W=k/\V=k then U (qG .eql a b) else Z
 |.bool,.bool a,.bool b=>U (Ou a b)
 |.ae _ .str,.ah a,.ah b=>if a.kind X s=.str/\b.kind X s=.str then U (.seq a b) else Z
 |_,_,_=>Z
def sD(X:Ty)(s:S):fu->ap->ap->Option BE
 |[],[],[]=>U (.c J)
 |c::W,x::V,y::R=>match Kf X s c x y,sD X s W V R with
  |U a,U b=>U (wm a b)
  |_,_=>Z
 |_,_,_=>Z
def Kg(X:Ty)(s:S)(W:Fa)(a b:ap):Option BE:=match W with
 |U ⟨_,aj,J⟩=>sD X s aj a b
 |_=>Z
def ZZ(X:Ty)(W:List (Nat×TypeId))(i:Nat):Option (Nat×Nat):=match W[i]? with
 |U (o,V)=>(X V).map λf=>(o,Y f.aj)
 |none=>Z
def RE.nil:RE->Bool
 |.k (.slice Z 0 0)=>J
 |_=>E
def RE.o8(X:Ty)(s:S)(W:Sh)(r:RE):Bool:=decide (r.kind X s=.mr W)||r.nil
def HG(n:Nat)(X:Bool):C->Option (K×K×K)
 |.int I a=>if n==1&& !X then U (a,.c 0,.c 0) else Z
 |.agg [.int I a]=>if n==1&&X then U (a,.c 0,.c 0) else Z
 |.agg [.int I a,.int I b]=>if n==2&&X then U (a,b,.c 0) else Z
 |.agg [.int I a,.int I b,.int I c]=>if n==3&&X then U (a,b,c) else Z
 |_=>Z
def nH:CT->Bool
 |.ae _ _=>E
 |_=>J
def rB(r:RE)(n:Nat)(a b c:K):Nat->fu->ap
 |_,[]=>[]
 |j,.int k::X=>.int k (.look r n a b c j)::rB r n a b c (j+1) X
 |j,.bool::X=>.bool (.look r n a b c j)::rB r n a b c (j+1) X
 |j,.ae z _::X=>.ah (.k z)::rB r n a b c (j+1) X
def tS(X:Bool)(l:ap):C:=if X then .agg l else l.getD 0 .any
def rC:ap->Option bA
 |[]=>U []
 |.int I (.c k)::_::r=>(rC r).map (k::·)
 |_=>Z
def mS:ap->ap
 |_::v::r=>v::mS r
 |_=>[]
def Br(e:K):bA->ap->Option K
 |k::X,.int _ x::W=>(Br e X W).map λy=>.eB (.cmp .eql e (.c k)) x y
 |[],[]=>U (.c 0)
 |_,_=>Z
def Dm(e:K):bA->ap->Option BE
 |k::X,.bool x::W=>(Dm e X W).map λy=>.eB (.cmp .eql e (.c k)) x y
 |[],[]=>U (.c E)
 |_,_=>Z
def Kh:C->Bool
 |.fn _ _=>J
 |.ah (.k .nilFunc)=>J
 |_=>E
def Ov:Fa->Bool
 |U ⟨.one,[.ae .nilFunc _],_⟩=>J
 |_=>E
def Dn(e:K):bA->ap->BE
 |k::X,.fn _ _::W=>.eB (.cmp .eql e (.c k)) (.c E) (Dn e X W)
 |k::X,_::W=>.eB (.cmp .eql e (.c k)) (.c J) (Dn e X W)
 |_,_=>.c J
def Z0(e:K)(W:bA)(X:ap):CT->Option C
 |.int k=>if X.all λv=>match v with|.int V _=>decide (k=V)|_=>E then(Br e W X).map (.int k) else Z
 |.bool=>(Dm e W X).map .bool
 |.ae .nilFunc _=>if X.all Kh&&Y W==Y X then U (.gz e W X) else Z
 |_=>Z
def Do(e:K)(X:bA)(W:xW):Nat->fu->HA
 |_,[]=>U []
 |j,c::V=>match Z0 e X (W.map λr=>r.getD j .any) c,Do e X W (j+1) V with
  |U v,U r=>U (v::r)
  |_,_=>Z
def HH(e:K):bA->BE
 |[]=>.c E
 |k::X=>.eB (.cmp .eql e (.c k)) (.c J) (HH e X)
def fh{X:Type}(x:Int):bA->List X->Option X
 |k::W,v::V=>if x=k then U v else fh x W V
 |_,_=>Z
def Bs(X:TI)(v:C):Bool:=Y v.cells==Y X.aj&&v.HD&&(match v with
 |.agg _=>X.d.isAgg
 |_=> !X.d.isAgg)
def ajy(X:TI)(e:K)(W:ap):Option (C×BE):=match rC W with
 |U V=>match e with
  |.c x=>match fh x V (mS W) with
   |U v=>U (v,.c J)
   |none=>U (tS X.d.isAgg (eG X),.c E)
  |e=>if(mS W).all (Bs X) then(Do e V ((mS W).map C.cells) 0 X.aj).map λl=>(tS X.d.isAgg l,HH e V) else Z
 |none=>Z
def Z1:CT->Bool
 |.int I=>J
 |_=>E
def tT(X:Ty)(k:TypeId)(n:Nat)(W:Bool):Bool:=match X k with
 |U tk=>Y tk.aj==n&&tk.aj.all Z1&&tk.d.isAgg==W
 |none=>E
def S7(X:Bool)(v:C)(b:BE):PR:=.ok (if X then .bO [v,.bool b] else v)
def S8(V:Ty)(s:S)(k e:TypeId)(n:Nat)(W R:Bool)(i:Nat)(O:C):PR:=match V e,HG n W O,cz s.ao i with
 |U X,U (a,b,c),U (Q,P)=>if !tT V k n W then .no "" else
  if Q==wj then(match P with
   |[.ah r,.int I (.c N),.bool (.c M),.bool (.c L)]=>if r.o8 V s ⟨k,e,n,W,X.d.isAgg⟩&&N==(n:Int)&&M==W&&L==X.d.isAgg&&X.aj.all nH&&Y X.aj !=0 then S7 R (tS X.d.isAgg (rB r n a b c n X.aj)) (.has r n a b c) else .no ""
   |_=>.no "")
  else if Q==uQ then(if n==1&& !W then(match ajy X a P with
   |U (v,x)=>S7 R v x
   |none=>.no "") else .no "")
  else .no ""
 |_,_,_=>.no ""
def Dp(n:Nat):bA:=(e8 n).map λ(i:Nat)=>(i:Int)
def S9(X:TI)(e:K)(V:bA)(W:ap):Option C:=if W.all (Bs X) then(Do e V (W.map C.cells) 0 X.aj).map (tS X.d.isAgg) else Z
def zL(X:ap):cQ:=match X with
 |.loc i _::_=>if X.all λv=>match v with
  |.loc j _=>i==j
  |_=>E then U i else Z
 |_=>Z
def Fh{X:Type}:List (Option X)->Option (List X)
 |[]=>U []
 |U x::r=>(Fh r).map (x::·)
 |Z::_=>Z
def Z2(X:TI)(W:ap):C->Option C
 |.loc _ V=>ya X W V
 |_=>Z
def cH(X:Ty)(W:nG)(s:S):Op->PR
 |.move x|.assign x=>.ok (s.ev W x)
 |.pick c a b=>match s.ev W c with
  |.bool (.c J)=>.ok (s.ev W a)
  |.bool (.c E)=>.ok (s.ev W b)
  |_=>.no ""
 |.load t a=>match X t,s.ev W a with
  |U P,.loc i V=>match mz s.ao i with
   |U (_,H)=>match ya P H V with
    |U v=>.ok v
    |none=>.no ""
   |none=>.no ""
  |U P,.el r w i V=>match r.kind X s with
   |.sl e=>
    if(bE X (.sl e)).length !=w then .no "" else
    match ya P ((e8 w).map λj=>Fb r i j ((bE X (.sl e)).getD j .bool)) V with
    |U v=>.bi (wn i (.len r)) v
    |none=>.no ""
   |_=>.no ""
  |U P,.gz e M N=>match(zL N).bind λi=>mz s.ao i with
   |U (_,H)=>match(Fh (N.map (Z2 P H))).bind (S9 P e M) with
    |U v=>if Y M==Y N then .bi (HH e M) v else .no ""
    |none=>.no ""
   |none=>.no ""
  |_,_=>.no ""
 |.fieldAddr G x f=>match X G,s.ev W x with
  |U ⟨.struct O,_,_⟩,.loc i V=>match O[f]? with
   |U (o,t)=>match X t with
    |U P=>if Y P.aj==0 then .no "" else .ok (.loc i (V+o))
    |none=>.no ""
   |none=>.no ""
  |U ⟨.struct O,_,_⟩,.el r w i V=>match O[f]? with
   |U (o,t)=>match X t with
    |U P=>if Y P.aj==0 then .no "" else .ok (.el r w i (V+o))
    |none=>.no ""
   |none=>.no ""
  |_,_=>.no ""
 |.field G x f=>match X G,s.ev W x with
  |U ⟨.struct O,_,_⟩,.agg l=>match O[f]? with
   |U (o,t)=>match X t with
    |U P=>match ya P l o with
     |U v=>.ok v
     |none=>.no ""
    |none=>.no ""
   |none=>.no ""
  |_,_=>.no ""
 |.indexAddr t x L=>match X t,s.ev W x,s.ev W L with
  |U ⟨.arr n e,_,_⟩,.loc i V,.int _ (.c m)=>match X e with
   |U R=>if decide (0<=m)&&decide (m<(n:Int)) then .ok (.loc i (V+m.toNat*Y R.aj)) else .no ""
   |none=>.no ""
  |U ⟨.arr n e,_,_⟩,.el r w (.c i) V,.int _ m=>match X e with
   |U R=>if Y R.aj==w&&i==0&&V==0&&Y R.aj !=0 then .bi (wn m (.c n)) (.el r w m 0) else
    match m with
    |.c m=>if decide (0<=m)&&decide (m<(n:Int)) then .ok (.el r w (.c i) (V+m.toNat*Y R.aj)) else .no ""
    |_=>.no ""
   |none=>.no ""
  |U ⟨.arr n e,_,_⟩,.el r w i V,.int _ (.c m)=>match X e with
   |U R=>if decide (0<=m)&&decide (m<(n:Int)) then .ok (.el r w i (V+m.toNat*Y R.aj)) else .no ""
   |none=>.no ""
  |U ⟨.slice e,_,_⟩,.ah r,.int _ m=>match X e,r.kind X s with
   |U R,.sl _=>.bi (wn m (.len r)) (.el r (Y R.aj) m 0)
   |_,_=>.no ""
  |U ⟨.slice e,_,_⟩,.jp i V D _,.int _ (.c m)=>match X e with
   |U R=>if decide (0<=m)&&decide (m<(D:Int)) then .ok (.loc i (V+m.toNat*Y R.aj)) else .no ""
   |none=>.no ""
  |U ⟨.arr n e,_,_⟩,.loc i V,.int _ m=>match X e with
   |U R=>.bi (wn m (.c n)) (.gz m (Dp n) ((e8 n).map λj=>.loc i (V+j*Y R.aj)))
   |none=>.no ""
  |_,_,_=>.no ""
 |.index t x L=>match X t,s.ev W x,s.ev W L with
  |U ⟨.arr n e,_,_⟩,.agg l,.int _ (.c m)=>match X e with
   |U R=>if decide (0<=m)&&decide (m<(n:Int)) then(match ya R l (m.toNat*Y R.aj) with
    |U v=>.ok v
    |none=>.no "") else .no ""
   |none=>.no ""
  |U ⟨.arr n e,_,_⟩,.agg l,.int _ m=>match X e with
   |U R=>match(Fh ((e8 n).map λj=>ya R l (j*Y R.aj))).bind (S9 R m (Dp n)) with
    |U v=>.bi (wn m (.c n)) v
    |none=>.no ""
   |none=>.no ""
  |U ⟨.str,_,_⟩,.ah r,.int _ m=>match r.kind X s with
   |.str=>.bi (wn m (.len r)) (.int .u8 (.oe r m))
   |_=>.no ""
  |_,_,_=>.no ""
 |.binOp Q t x y _=>match s.ev W x,s.ev W y with
  |.int k a,.int B b=>
   if ajx Q then(match b with
    |.c n=>if decide (0<=n) then .ok (.int k (Fe Q k a (.c n))) else .no ""
    |b=>.bi (.cmp .leq (.c 0) b) (.int k (Fe Q k a b))) else
   if k≠B then .no "" else
   if S4 Q then .ok (.bool (qG Q a b)) else
   if ZX Q then .ok (.int k (Fe Q k a b)) else
   if ZY Q then(match b with
    |.c n=>if n==0 then .no "" else .ok (.int k (Fe Q k a b))
    |_=>.bi (qG .neq b (.c 0)) (.int k (Fe Q k a b))) else .no ""
  |.bool a,.bool b=>match X t,Q with
   |U ⟨.one,[.bool],_⟩,.eql=>.ok (.bool (Ou a b))
   |U ⟨.one,[.bool],_⟩,.neq=>.ok (.bool (Ff (Ou a b)))
   |_,_=>.no ""
  |.ah (.k .nilFunc),.ah (.k .nilFunc)=>if !Ov (X t) then .no "" else match Q with
   |.eql=>.ok (.bool (.c J))
   |.neq=>.ok (.bool (.c E))
   |_=>.no ""
  |.ah a,.ah b=>match a.kind X s,b.kind X s,Q with
   |.str,.str,.eql=>.ok (.bool (.seq a b))
   |.str,.str,.neq=>.ok (.bool (.not (.seq a b)))
   |_,_,_=>.no ""
  |.fn _ _,.ah (.k .nilFunc)=>if !Ov (X t) then .no "" else match Q with
   |.eql=>.ok (.bool (.c E))
   |.neq=>.ok (.bool (.c J))
   |_=>.no ""
  |.gz e M N,.ah (.k .nilFunc)=>if N.all Kh&&Y M==Y N&&Ov (X t) then(match Q with
   |.eql=>.ok (.bool (Dn e M N))
   |.neq=>.ok (.bool (Ff (Dn e M N)))
   |_=>.no "") else .no ""
  |.agg a,.agg b=>match Q,Kg X s (X t) a b with
   |.eql,U e=>.ok (.bool e)
   |.neq,U e=>.ok (.bool (Ff e))
   |_,_=>.no ""
  |_,_=>.no ""
 |.unOp Q _ x=>match Q,s.ev W x with
  |.not,.bool b=>.ok (.bool (Ff b))
  |.neg,.int k e=>.ok (.int k (Fe .sub k (.c 0) e))
  |_,_=>.no ""
 |.convert A z x=>match X A,X z,s.ev W x with
  |U ⟨.one,[.int _],_⟩,U ⟨.one,[.int k],_⟩,.int _ (.c n)=>.ok (.int k (.c (k.wrap n)))
  |U ⟨.one,[.int _],_⟩,U ⟨.one,[.int k],_⟩,.int _ e=>.ok (.int k (.conv k e))
  |_,_,_=>.no ""
 |.makeInterface t x=>match X t with
  |U ⟨.ik,_,_⟩=>.no ""
  |U _=>.ok (.ik t (s.ev W x))
  |none=>.no ""
 |.makeFunc u first F=>match u,first.toList with
  |.func f,[]=>.ok (.fn f (F.toList.map (s.ev W)))
  |_,_=>.no ""
 |.extract x i=>match s.ev W x with
  |.bO l=>match l[i]? with
   |U v=>.ok v
   |none=>.no ""
  |_=>.no ""
 |.nilCheck x=>match s.ev W x with
  |.loc i V=>.ok (.loc i V)
  |.el r w i V=>.ok (.el r w i V)
  |.fn f F=>.ok (.fn f F)
  |_=>.no ""
 |.slice t x h g d=>match X t,s.ev W x,d with
  |U ⟨.arr n e,_,_⟩,.loc i V,Z=>match X e,h.map (s.ev W),g.map (s.ev W) with
   |U _,Z,Z=>.ok (.jp i V n n)
   |U R,U (.int _ (.c l)),Z=>if decide (0<=l)&&decide (l<(n:Int)) then .ok (.jp i (V+l.toNat*Y R.aj) (n-l.toNat) (n-l.toNat)) else .no ""
   |_,_,_=>.no ""
  |_,_,_=>.no ""
 |.build t parts=>match X t with
  |U ⟨.struct O,aj,q⟩=>if !(O.all λf=>(X f.2).isSome) then .no "" else match zK (ZZ X O) (eG ⟨.struct O,aj,q⟩) (parts.toList.map λp=>(p.1,s.ev W p.2)) with
   |U l=>.ok (.agg l)
   |none=>.no ""
  |U ⟨.arr n e,aj,q⟩=>match X e with
   |U R=>match zK (λi=>U (i*Y R.aj,Y R.aj)) (eG ⟨.arr n e,aj,q⟩) (parts.toList.map λp=>(p.1,s.ev W p.2)) with
    |U l=>.ok (.agg l)
    |none=>.no ""
   |none=>.no ""
  |_=>.no ""
 |.call c=>match c.callee with
  |.builtin .len=>match c.argTypes.toList,c.args.toList.map (s.ev W) with
   |[t],[.ah (.k (.slice Z 0 0))]=>match X t with
    |U ⟨.slice _,_,_⟩=>.ok (.int I (.c 0))
    |_=>.no ""
   |[t],[.ah r]=>match X t,r.kind X s with
    |U ⟨.slice _,_,_⟩,.sl _=>.ok (.int I (.len r))
    |U ⟨.str,_,_⟩,.str=>.ok (.int I (.len r))
    |_,_=>.no ""
   |[t],[.jp _ _ n _]=>match X t with
    |U ⟨.slice _,_,_⟩=>.ok (.int I (.c n))
    |_=>.no ""
   |_,_=>.no ""
  |.builtin .min=>match c.args.toList.map (s.ev W) with
   |.int k x::r=>match HE E k x r with
    |U e=>.ok (.int k e)
    |none=>.no ""
   |_=>.no ""
  |.builtin .max=>match c.args.toList.map (s.ev W) with
   |.int k x::r=>match HE J k x r with
    |U e=>.ok (.int k e)
    |none=>.no ""
   |_=>.no ""
  |_=>.no ""
 |.lookup t x L ok=>match X t,s.ev W x with
  |U ⟨.map k e n ag,_,_⟩,.mp i=>S8 X s k e n ag ok i (s.ev W L)
  |_,_=>.no ""
 |_=>.no ""
def Bt(X:nG)(s:S):Op->cQ
 |.load _ x=>match s.ev X x with
  |.loc i _=>U i
  |.gz _ _ W=>zL W
  |_=>Z
 |.lookup _ x _ _=>match s.ev X x with
  |.mp i=>U i
  |_=>Z
 |_=>Z
def HI:Value->Value->Bool
 |.string a,.string b=>a.data.toList==b.data.toList
 |.slice Z a b,.slice Z c d=>a==c&&b==d
 |.pointer Z,.pointer Z=>J
 |.nilFunc,.nilFunc=>J
 |.nilIface,.nilIface=>J
 |.map Z,.map Z=>J
 |_,_=>E
def Bu(a b:BinOp):Bool:=decide (a=b)
noncomputable def K.aR(e:K):K->Bool:=K.rec (motive_1:=λ_=>K->Bool) (motive_2:=λ_=>BE->Bool) (motive_3:=λ_=>RE->Bool) (λn e=>match e with|K.c N=>n==N|_=>E) (λk e=>match e with|K.v O=>k==O|_=>E) (λo k _ _ X W e=>match e with|K.bin D O V R=>Bu o D&&decide (k=O)&&X V&&W R|_=>E) (λk _ X e=>match e with|K.conv O V=>decide (k=O)&&X V|_=>E) (λ_ Q e=>match e with|K.len P=>Q P|_=>E) (λm _ _ X W e=>match e with|K.mm x V R=>m==x&&X V&&W R|_=>E) (λ_ _ _ W B A e=>match e with|K.eB R z y=>W R&&B z&&A y|_=>E) (λ_ _ j Q L e=>match e with|K.cell P H M=>Q P&&L H&&j==M|_=>E) (λ_ _ Q L e=>match e with|K.oe P H=>Q P&&L H|_=>E) (λ_ n _ _ _ j Q X W G e=>match e with|K.look P N V R F M=>Q P&&n==N&&X V&&W R&&G F&&j==M|_=>E) (λn e=>match e with|BE.c N=>n==N|_=>E) (λk e=>match e with|BE.v O=>k==O|_=>E) (λo _ _ X W e=>match e with|BE.cmp D V R=>Bu o D&&X V&&W R|_=>E) (λ_ X e=>match e with|BE.not V=>X V|_=>E) (λ_ _ X W e=>match e with|BE.and V R=>X V&&W R|_=>E) (λ_ _ X W e=>match e with|BE.beq V R=>X V&&W R|_=>E) (λ_ _ _ W B A e=>match e with|BE.eB R z y=>W R&&B z&&A y|_=>E) (λ_ _ j Q L e=>match e with|BE.cell P H M=>Q P&&L H&&j==M|_=>E) (λ_ _ X W e=>match e with|BE.seq V R=>X V&&W R|_=>E) (λ_ n _ _ _ j Q X W G e=>match e with|BE.look P N V R F M=>Q P&&n==N&&X V&&W R&&G F&&j==M|_=>E) (λ_ n _ _ _ Q X W G e=>match e with|BE.has P N V R F=>Q P&&n==N&&X V&&W R&&G F|_=>E) (λk e=>match e with|RE.v O=>k==O|_=>E) (λ_ _ j k Q L e=>match e with|RE.cell P H M O=>Q P&&L H&&j==M&&decide (k=O)|_=>E) (λv e=>match e with|RE.k w=>HI v w|_=>E) e
noncomputable def BE.aR(e:BE):BE->Bool:=BE.rec (motive_1:=λ_=>K->Bool) (motive_2:=λ_=>BE->Bool) (motive_3:=λ_=>RE->Bool) (λn e=>match e with|K.c N=>n==N|_=>E) (λk e=>match e with|K.v O=>k==O|_=>E) (λo k _ _ X W e=>match e with|K.bin D O V R=>Bu o D&&decide (k=O)&&X V&&W R|_=>E) (λk _ X e=>match e with|K.conv O V=>decide (k=O)&&X V|_=>E) (λ_ Q e=>match e with|K.len P=>Q P|_=>E) (λm _ _ X W e=>match e with|K.mm x V R=>m==x&&X V&&W R|_=>E) (λ_ _ _ W B A e=>match e with|K.eB R z y=>W R&&B z&&A y|_=>E) (λ_ _ j Q L e=>match e with|K.cell P H M=>Q P&&L H&&j==M|_=>E) (λ_ _ Q L e=>match e with|K.oe P H=>Q P&&L H|_=>E) (λ_ n _ _ _ j Q X W G e=>match e with|K.look P N V R F M=>Q P&&n==N&&X V&&W R&&G F&&j==M|_=>E) (λn e=>match e with|BE.c N=>n==N|_=>E) (λk e=>match e with|BE.v O=>k==O|_=>E) (λo _ _ X W e=>match e with|BE.cmp D V R=>Bu o D&&X V&&W R|_=>E) (λ_ X e=>match e with|BE.not V=>X V|_=>E) (λ_ _ X W e=>match e with|BE.and V R=>X V&&W R|_=>E) (λ_ _ X W e=>match e with|BE.beq V R=>X V&&W R|_=>E) (λ_ _ _ W B A e=>match e with|BE.eB R z y=>W R&&B z&&A y|_=>E) (λ_ _ j Q L e=>match e with|BE.cell P H M=>Q P&&L H&&j==M|_=>E) (λ_ _ X W e=>match e with|BE.seq V R=>X V&&W R|_=>E) (λ_ n _ _ _ j Q X W G e=>match e with|BE.look P N V R F M=>Q P&&n==N&&X V&&W R&&G F&&j==M|_=>E) (λ_ n _ _ _ Q X W G e=>match e with|BE.has P N V R F=>Q P&&n==N&&X V&&W R&&G F|_=>E) (λk e=>match e with|RE.v O=>k==O|_=>E) (λ_ _ j k Q L e=>match e with|RE.cell P H M O=>Q P&&L H&&j==M&&decide (k=O)|_=>E) (λv e=>match e with|RE.k w=>HI v w|_=>E) e
noncomputable def RE.aR(e:RE):RE->Bool:=RE.rec (motive_1:=λ_=>K->Bool) (motive_2:=λ_=>BE->Bool) (motive_3:=λ_=>RE->Bool) (λn e=>match e with|K.c N=>n==N|_=>E) (λk e=>match e with|K.v O=>k==O|_=>E) (λo k _ _ X W e=>match e with|K.bin D O V R=>Bu o D&&decide (k=O)&&X V&&W R|_=>E) (λk _ X e=>match e with|K.conv O V=>decide (k=O)&&X V|_=>E) (λ_ Q e=>match e with|K.len P=>Q P|_=>E) (λm _ _ X W e=>match e with|K.mm x V R=>m==x&&X V&&W R|_=>E) (λ_ _ _ W B A e=>match e with|K.eB R z y=>W R&&B z&&A y|_=>E) (λ_ _ j Q L e=>match e with|K.cell P H M=>Q P&&L H&&j==M|_=>E) (λ_ _ Q L e=>match e with|K.oe P H=>Q P&&L H|_=>E) (λ_ n _ _ _ j Q X W G e=>match e with|K.look P N V R F M=>Q P&&n==N&&X V&&W R&&G F&&j==M|_=>E) (λn e=>match e with|BE.c N=>n==N|_=>E) (λk e=>match e with|BE.v O=>k==O|_=>E) (λo _ _ X W e=>match e with|BE.cmp D V R=>Bu o D&&X V&&W R|_=>E) (λ_ X e=>match e with|BE.not V=>X V|_=>E) (λ_ _ X W e=>match e with|BE.and V R=>X V&&W R|_=>E) (λ_ _ X W e=>match e with|BE.beq V R=>X V&&W R|_=>E) (λ_ _ _ W B A e=>match e with|BE.eB R z y=>W R&&B z&&A y|_=>E) (λ_ _ j Q L e=>match e with|BE.cell P H M=>Q P&&L H&&j==M|_=>E) (λ_ _ X W e=>match e with|BE.seq V R=>X V&&W R|_=>E) (λ_ n _ _ _ j Q X W G e=>match e with|BE.look P N V R F M=>Q P&&n==N&&X V&&W R&&G F&&j==M|_=>E) (λ_ n _ _ _ Q X W G e=>match e with|BE.has P N V R F=>Q P&&n==N&&X V&&W R&&G F|_=>E) (λk e=>match e with|RE.v O=>k==O|_=>E) (λ_ _ j k Q L e=>match e with|RE.cell P H M O=>Q P&&L H&&j==M&&decide (k=O)|_=>E) (λv e=>match e with|RE.k w=>HI v w|_=>E) e
def K.iE:(∀n e,K.aR (.c n) e=match e with|K.c Q=>n==Q|_=>E)/\(∀k e,K.aR (.v k) e=match e with|K.v R=>k==R|_=>E)/\(∀o k a b e,K.aR (.bin o k a b) e=match e with|K.bin N R X W=>Bu o N&&decide (k=R)&&K.aR a X&&K.aR b W|_=>E)/\(∀k a e,K.aR (.conv k a) e=match e with|K.conv R X=>decide (k=R)&&K.aR a X|_=>E)/\(∀r e,K.aR (.len r) e=match e with|K.len V=>RE.aR r V|_=>E)/\(∀m a b e,K.aR (.mm m a b) e=match e with|K.mm M X W=>m==M&&K.aR a X&&K.aR b W|_=>E)/\(∀b x y e,K.aR (.eB b x y) e=match e with|K.eB W L H=>BE.aR b W&&K.aR x L&&K.aR y H|_=>E)/\(∀r i j e,K.aR (.cell r i j) e=match e with|K.cell V P O=>RE.aR r V&&K.aR i P&&j==O|_=>E)/\(∀r i e,K.aR (.oe r i) e=match e with|K.oe V P=>RE.aR r V&&K.aR i P|_=>E)/\(∀r n a b c j e,K.aR (.look r n a b c j) e=match e with|K.look V Q X W G O=>RE.aR r V&&n==Q&&K.aR a X&&K.aR b W&&K.aR c G&&j==O|_=>E):=⟨λ_ _=>rfl,λ_ _=>rfl,λ_ _ _ _ _=>rfl,λ_ _ _=>rfl,λ_ _=>rfl,λ_ _ _ _=>rfl,λ_ _ _ _=>rfl,λ_ _ _ _=>rfl,λ_ _ _=>rfl,λ_ _ _ _ _ _ _=>rfl⟩
def BE.iE:(∀n e,BE.aR (.c n) e=match e with|BE.c V=>n==V|_=>E)/\(∀k e,BE.aR (.v k) e=match e with|BE.v O=>k==O|_=>E)/\(∀o a b e,BE.aR (.cmp o a b) e=match e with|BE.cmp N X W=>Bu o N&&K.aR a X&&K.aR b W|_=>E)/\(∀a e,BE.aR (.not a) e=match e with|BE.not X=>BE.aR a X|_=>E)/\(∀a b e,BE.aR (.and a b) e=match e with|BE.and X W=>BE.aR a X&&BE.aR b W|_=>E)/\(∀a b e,BE.aR (.beq a b) e=match e with|BE.beq X W=>BE.aR a X&&BE.aR b W|_=>E)/\(∀b x y e,BE.aR (.eB b x y) e=match e with|BE.eB W M L=>BE.aR b W&&BE.aR x M&&BE.aR y L|_=>E)/\(∀r i j e,BE.aR (.cell r i j) e=match e with|BE.cell R H Q=>RE.aR r R&&K.aR i H&&j==Q|_=>E)/\(∀a b e,BE.aR (.seq a b) e=match e with|BE.seq X W=>RE.aR a X&&RE.aR b W|_=>E)/\(∀r n a b c j e,BE.aR (.look r n a b c j) e=match e with|BE.look R V X W P Q=>RE.aR r R&&n==V&&K.aR a X&&K.aR b W&&K.aR c P&&j==Q|_=>E)/\(∀r n a b c e,BE.aR (.has r n a b c) e=match e with|BE.has R V X W P=>RE.aR r R&&n==V&&K.aR a X&&K.aR b W&&K.aR c P|_=>E):=⟨λ_ _=>rfl,λ_ _=>rfl,λ_ _ _ _=>rfl,λ_ _=>rfl,λ_ _ _=>rfl,λ_ _ _=>rfl,λ_ _ _ _=>rfl,λ_ _ _ _=>rfl,λ_ _ _=>rfl,λ_ _ _ _ _ _ _=>rfl,λ_ _ _ _ _ _=>rfl⟩
def RE.iE:(∀k e,RE.aR (.v k) e=match e with|RE.v X=>k==X|_=>E)/\(∀r i j k e,RE.aR (.cell r i j k) e=match e with|RE.cell W V R X=>RE.aR r W&&K.aR i V&&j==R&&decide (k=X)|_=>E)/\(∀v e,RE.aR (.k v) e=match e with|RE.k Q=>HI v Q|_=>E):=⟨λ_ _=>rfl,λ_ _ _ _ _=>rfl,λ_ _=>rfl⟩
noncomputable def C.aR(v:C):C->Bool:=C.rec (motive_1:=λ_=>C->Bool) (motive_2:=λ_=>ap->Bool) (λk e v=>match v with|C.int O V=>decide (k=O)&&e.aR V|_=>E) (λb v=>match v with|C.bool R=>b.aR R|_=>E) (λr v=>match v with|C.ah Q=>r.aR Q|_=>E) (λi o v=>match v with|C.loc X P=>i==X&&o==P|_=>E) (λr w i o v=>match v with|C.el Q N X P=>r.aR Q&&w==N&&i.aR X&&o==P|_=>E) (λa b c d v=>match v with|C.jp M R L H=>a==M&&b==R&&c==L&&d==H|_=>E) (λ_ h v=>match v with|C.agg W=>h W|_=>E) (λ_ h v=>match v with|C.bO W=>h W|_=>E) (λf _ h v=>match v with|C.fn G W=>f==G&&h W|_=>E) (λt _ h v=>match v with|C.ik F D=>t==F&&h D|_=>E) (λn v=>match v with|C.yl B=>n==B|_=>E) (λv=>match v with|C.any=>J|_=>E) (λi v=>match v with|C.mp X=>i==X|_=>E) (λe A _ h v=>match v with|C.gz V z x=>e.aR V&&A==z&&h x|_=>E) (λl=>match l with|[]=>J|_=>E) (λ_ _ h u l=>match l with|y::s=>h y&&u s|_=>E) v
noncomputable def C.rD(l:ap):ap->Bool:=C.rec_1 (motive_1:=λ_=>C->Bool) (motive_2:=λ_=>ap->Bool) (λk e v=>match v with|C.int O V=>decide (k=O)&&e.aR V|_=>E) (λb v=>match v with|C.bool R=>b.aR R|_=>E) (λr v=>match v with|C.ah Q=>r.aR Q|_=>E) (λi o v=>match v with|C.loc X P=>i==X&&o==P|_=>E) (λr w i o v=>match v with|C.el Q N X P=>r.aR Q&&w==N&&i.aR X&&o==P|_=>E) (λa b c d v=>match v with|C.jp M R L H=>a==M&&b==R&&c==L&&d==H|_=>E) (λ_ h v=>match v with|C.agg W=>h W|_=>E) (λ_ h v=>match v with|C.bO W=>h W|_=>E) (λf _ h v=>match v with|C.fn G W=>f==G&&h W|_=>E) (λt _ h v=>match v with|C.ik F D=>t==F&&h D|_=>E) (λn v=>match v with|C.yl B=>n==B|_=>E) (λv=>match v with|C.any=>J|_=>E) (λi v=>match v with|C.mp X=>i==X|_=>E) (λe A _ h v=>match v with|C.gz V z x=>e.aR V&&A==z&&h x|_=>E) (λl=>match l with|[]=>J|_=>E) (λ_ _ h u l=>match l with|y::s=>h y&&u s|_=>E) l
def C.iE:(∀k e v,C.aR (.int k e) v=match v with|C.int M V=>decide (k=M)&&e.aR V|_=>E)/\(∀b v,C.aR (.bool b) v=match v with|C.bool R=>b.aR R|_=>E)/\(∀r v,C.aR (.ah r) v=match v with|C.ah Q=>r.aR Q|_=>E)/\(∀i o v,C.aR (.loc i o) v=match v with|C.loc X P=>i==X&&o==P|_=>E)/\(∀r w i o v,C.aR (.el r w i o) v=match v with|C.el Q L X P=>r.aR Q&&w==L&&i.aR X&&o==P|_=>E)/\(∀a b c d v,C.aR (.jp a b c d) v=match v with|C.jp H R G F=>a==H&&b==R&&c==G&&d==F|_=>E)/\(∀l v,C.aR (.agg l) v=match v with|C.agg W=>C.rD l W|_=>E)/\(∀l v,C.aR (.bO l) v=match v with|C.bO W=>C.rD l W|_=>E)/\(∀f l v,C.aR (.fn f l) v=match v with|C.fn D W=>f==D&&C.rD l W|_=>E)/\(∀t x v,C.aR (.ik t x) v=match v with|C.ik B A=>t==B&&C.aR x A|_=>E)/\(∀n v,C.aR (.yl n) v=match v with|C.yl z=>n==z|_=>E)/\(∀v,C.aR (.any) v=match v with|C.any=>J|_=>E)/\(∀i v,C.aR (.mp i) v=match v with|C.mp X=>i==X|_=>E)/\(∀e O N v,C.aR (.gz e O N) v=match v with|C.gz V y u=>e.aR V&&O==y&&C.rD N u|_=>E):=⟨λ_ _ _=>rfl,λ_ _=>rfl,λ_ _=>rfl,λ_ _ _=>rfl,λ_ _ _ _ _=>rfl,λ_ _ _ _ _=>rfl,λ_ _=>rfl,λ_ _=>rfl,λ_ _ _=>rfl,λ_ _ _=>rfl,λ_ _=>rfl,λ_=>rfl,λ_ _=>rfl,λ_ _ _ _=>rfl⟩
def C.ajz:(∀l,C.rD [] l=match l with|[]=>J|_=>E)/\(∀x X l,C.rD (x::X) l=match l with|y::W=>C.aR x y&&C.rD X W|_=>E):=⟨λ_=>rfl,λ_ _ _=>rfl⟩
def ajA:∀n:Nat,∃q,8^n=7*q+1
 |0=>⟨0,rfl⟩
 |n+1=>by
  obtain⟨q,h⟩:=ajA n;exact⟨8*q+1,by rw[avQ,h];omega⟩
def A3(n:Nat):Nat:=Nat.div (Nat.sub (Nat.pow 8 n) 1) 7
def ajB(n:Nat):8^n=7*A3 n+1:=by
 obtain⟨q,h⟩:=ajA n;have:A3 n=q:=by
  show(8^n-1)/7=q;rw[h];omega
 rw[this];exact h
def Ta(n:Nat):A3 (n+1)=8*A3 n+1:=by
 have X:=ajB n;have W:=ajB (n+1);rw[avQ,X] at W;omega
def ajC:∀(n j:Nat),(A3 n).testBit j=(decide (j%3=0)&&decide (j/3<n))
 |0,j=>by simp[show A3 0=0 from rfl]
 |n+1,0=>by rw[Ta,avE];simp;omega
 |n+1,1=>by rw[Ta,SP,show(8*A3 n+1)/2=4*A3 n from aa,avE];simp;omega
 |n+1,2=>by rw[Ta,SP,SP,show(8*A3 n+1)/2/2=2*A3 n from aa,avE];simp
 |n+1,j+3=>by
  rw[Ta,SP,SP,SP,show(8*A3 n+1)/2/2/2=A3 n from aa,ajC n j,Nat.add_mod_right,Nat.add_div_right _ aa];simp
def mT(X W V:Nat):Nat:=bX (A3 X) (bX (mP (A3 W) 1) (mP (A3 V) 2))
def Z3(X W V j:Nat):(mT X W V).testBit j=if j%3=0 then decide (j/3<X) else if j%3=1 then decide (j/3<W) else decide (j/3<V):=by
 change(A3 X|||(A3 W<<<1|||A3 V<<<2)).testBit j=_;simp only[E7,avr,ajC];rw[sx];simp only[jL,aw,ce];split;simp only[ce];omega;split;simp only[ce];omega;simp only[ce];omega
def Ow:jo (bX R Q) Q=J<->∀j,R.testBit j=J->Q.testBit j=true:=by
 rw[aju];constructor;intro h j X;have:(R|||Q).testBit j=Q.testBit j:=ko (λx=>Nat.testBit x j) h;rw[<-this,E7,X,avR];intro h;refine Nat.eq_of_testBit_eq λj=> ?_
 change(R|||Q).testBit j=_;rw[E7];cases W:R.testBit j with
 |true=>rw[h j W];rfl
 |false=>simp
def l9(a b A:Nat):jo (bX (bX a b) A) A=(jo (bX a A) A&&jo (bX b A) A):=by
 rw[sx,aw,Ow,Ow,Ow];change(∀j,(a|||b).testBit j=J->_)<->_;simp only[E7,jL];exact⟨λh=>⟨λj k=>h j (.inl k),λj k=>h j (.inr k)⟩,λh j k=>k.elim (h.1 j) (h.2 j)⟩
def Z4(k A:Nat):jo (bX (mP 1 k) A) A=A.testBit k:=by
 rw[sx,Ow];change(∀j,(1<<<k).testBit j=J->_)<->_;simp only[avz,aJe,ce];exact⟨λh=>h k rfl,λh j e=>e▸h⟩
def HJ(A:Nat):jo (bX 0 A) A=true:=Ow.2 λj h=>by simp at h
noncomputable def K.mU(e:K):Nat:=K.rec (motive_1:=λ_=>Nat) (motive_2:=λ_=>Nat) (motive_3:=λ_=>Nat) (λ_=>0) (λk=>mP 1 (3*k)) (λ_ _ _ _ a b=>bX a b) (λ_ _ a=>a) (λ_ r=>r) (λ_ _ _ a b=>bX a b) (λ_ _ _ b x y=>bX (bX b x) y) (λ_ _ _ r i=>bX r i) (λ_ _ r i=>bX r i) (λ_ _ _ _ _ _ r a b c=>bX (bX (bX r a) b) c) (λ_=>0) (λk=>mP 1 (3*k+1)) (λ_ _ _ a b=>bX a b) (λ_ a=>a) (λ_ _ a b=>bX a b) (λ_ _ a b=>bX a b) (λ_ _ _ b x y=>bX (bX b x) y) (λ_ _ _ r i=>bX r i) (λ_ _ a b=>bX a b) (λ_ _ _ _ _ _ r a b c=>bX (bX (bX r a) b) c) (λ_ _ _ _ _ r a b c=>bX (bX (bX r a) b) c) (λk=>mP 1 (3*k+2)) (λ_ _ _ _ r i=>bX r i) (λ_=>0) e
noncomputable def BE.mU(e:BE):Nat:=BE.rec (motive_1:=λ_=>Nat) (motive_2:=λ_=>Nat) (motive_3:=λ_=>Nat) (λ_=>0) (λk=>mP 1 (3*k)) (λ_ _ _ _ a b=>bX a b) (λ_ _ a=>a) (λ_ r=>r) (λ_ _ _ a b=>bX a b) (λ_ _ _ b x y=>bX (bX b x) y) (λ_ _ _ r i=>bX r i) (λ_ _ r i=>bX r i) (λ_ _ _ _ _ _ r a b c=>bX (bX (bX r a) b) c) (λ_=>0) (λk=>mP 1 (3*k+1)) (λ_ _ _ a b=>bX a b) (λ_ a=>a) (λ_ _ a b=>bX a b) (λ_ _ a b=>bX a b) (λ_ _ _ b x y=>bX (bX b x) y) (λ_ _ _ r i=>bX r i) (λ_ _ a b=>bX a b) (λ_ _ _ _ _ _ r a b c=>bX (bX (bX r a) b) c) (λ_ _ _ _ _ r a b c=>bX (bX (bX r a) b) c) (λk=>mP 1 (3*k+2)) (λ_ _ _ _ r i=>bX r i) (λ_=>0) e
noncomputable def RE.mU(e:RE):Nat:=RE.rec (motive_1:=λ_=>Nat) (motive_2:=λ_=>Nat) (motive_3:=λ_=>Nat) (λ_=>0) (λk=>mP 1 (3*k)) (λ_ _ _ _ a b=>bX a b) (λ_ _ a=>a) (λ_ r=>r) (λ_ _ _ a b=>bX a b) (λ_ _ _ b x y=>bX (bX b x) y) (λ_ _ _ r i=>bX r i) (λ_ _ r i=>bX r i) (λ_ _ _ _ _ _ r a b c=>bX (bX (bX r a) b) c) (λ_=>0) (λk=>mP 1 (3*k+1)) (λ_ _ _ a b=>bX a b) (λ_ a=>a) (λ_ _ a b=>bX a b) (λ_ _ a b=>bX a b) (λ_ _ _ b x y=>bX (bX b x) y) (λ_ _ _ r i=>bX r i) (λ_ _ a b=>bX a b) (λ_ _ _ _ _ _ r a b c=>bX (bX (bX r a) b) c) (λ_ _ _ _ _ r a b c=>bX (bX (bX r a) b) c) (λk=>mP 1 (3*k+2)) (λ_ _ _ _ r i=>bX r i) (λ_=>0) e
noncomputable def K.bd(X W V:Nat)(e:K):Bool:=jo (bX e.mU (mT X W V)) (mT X W V)
noncomputable def BE.bd(X W V:Nat)(e:BE):Bool:=jo (bX e.mU (mT X W V)) (mT X W V)
noncomputable def RE.bd(X W V:Nat)(e:RE):Bool:=jo (bX e.mU (mT X W V)) (mT X W V)
def avV(X W V k:Nat):(mT X W V).testBit (3*k)=decide (k<X):=by
 rw[Z3,aL aa,show 3*k/3=k from aa]
def avW(W X V k:Nat):(mT W X V).testBit (3*k+1)=decide (k<X):=by
 rw[Z3,aT aa,aL aa,show(3*k+1)/3=k from aa]
def avX(W V X k:Nat):(mT W V X).testBit (3*k+2)=decide (k<X):=by
 rw[Z3,aT aa,aT aa,show(3*k+2)/3=k from aa]
def K.bo:(∀n,K.bd R Q i (.c n)=J)/\(∀k,K.bd R Q i (.v k)=decide (k<R))/\(∀o k a b,K.bd R Q i (.bin o k a b)=(K.bd R Q i a&&K.bd R Q i b))/\(∀k a,K.bd R Q i (.conv k a)=(K.bd R Q i a))/\(∀r,K.bd R Q i (.len r)=(RE.bd R Q i r))/\(∀m a b,K.bd R Q i (.mm m a b)=(K.bd R Q i a&&K.bd R Q i b))/\(∀b x y,K.bd R Q i (.eB b x y)=(BE.bd R Q i b&&K.bd R Q i x&&K.bd R Q i y))/\(∀r X j,K.bd R Q i (.cell r X j)=(RE.bd R Q i r&&K.bd R Q i X))/\(∀r X,K.bd R Q i (.oe r X)=(RE.bd R Q i r&&K.bd R Q i X))/\(∀r n a b c j,K.bd R Q i (.look r n a b c j)=(RE.bd R Q i r&&K.bd R Q i a&&K.bd R Q i b&&K.bd R Q i c)):=⟨λ_=>HJ _,λ_=>(Z4 _ _).trans (avV _ _ _ _),λ_ _ _ _=>l9 _ _ _,λ_ _=>rfl,λ_=>rfl,λ_ _ _=>l9 _ _ _,λ_ _ _=>(l9 _ _ _).trans (ko (· &&_) (l9 _ _ _)),λ_ _ _=>l9 _ _ _,λ_ _=>l9 _ _ _,λ_ _ _ _ _ _=>(l9 _ _ _).trans (ko (· &&_) ((l9 _ _ _).trans (ko (· &&_) (l9 _ _ _))))⟩
def BE.bo:(∀n,BE.bd R Q i (.c n)=J)/\(∀k,BE.bd R Q i (.v k)=decide (k<Q))/\(∀o a b,BE.bd R Q i (.cmp o a b)=(K.bd R Q i a&&K.bd R Q i b))/\(∀a,BE.bd R Q i (.not a)=(BE.bd R Q i a))/\(∀a b,BE.bd R Q i (.and a b)=(BE.bd R Q i a&&BE.bd R Q i b))/\(∀a b,BE.bd R Q i (.beq a b)=(BE.bd R Q i a&&BE.bd R Q i b))/\(∀b x y,BE.bd R Q i (.eB b x y)=(BE.bd R Q i b&&BE.bd R Q i x&&BE.bd R Q i y))/\(∀r X j,BE.bd R Q i (.cell r X j)=(RE.bd R Q i r&&K.bd R Q i X))/\(∀a b,BE.bd R Q i (.seq a b)=(RE.bd R Q i a&&RE.bd R Q i b))/\(∀r n a b c j,BE.bd R Q i (.look r n a b c j)=(RE.bd R Q i r&&K.bd R Q i a&&K.bd R Q i b&&K.bd R Q i c))/\(∀r n a b c,BE.bd R Q i (.has r n a b c)=(RE.bd R Q i r&&K.bd R Q i a&&K.bd R Q i b&&K.bd R Q i c)):=⟨λ_=>HJ _,λ_=>(Z4 _ _).trans (avW _ _ _ _),λ_ _ _=>l9 _ _ _,λ_=>rfl,λ_ _=>l9 _ _ _,λ_ _=>l9 _ _ _,λ_ _ _=>(l9 _ _ _).trans (ko (· &&_) (l9 _ _ _)),λ_ _ _=>l9 _ _ _,λ_ _=>l9 _ _ _,λ_ _ _ _ _ _=>(l9 _ _ _).trans (ko (· &&_) ((l9 _ _ _).trans (ko (· &&_) (l9 _ _ _)))),λ_ _ _ _ _=>(l9 _ _ _).trans (ko (· &&_) ((l9 _ _ _).trans (ko (· &&_) (l9 _ _ _))))⟩
def RE.bo:(∀k,RE.bd R Q i (.v k)=decide (k<i))/\(∀r X j k,RE.bd R Q i (.cell r X j k)=(RE.bd R Q i r&&K.bd R Q i X))/\(∀v,RE.bd R Q i (.k v)=J):=⟨λ_=>(Z4 _ _).trans (avX _ _ _ _),λ_ _ _ _=>l9 _ _ _,λ_=>HJ _⟩
noncomputable def C.mU(v:C):Nat:=C.rec (motive_1:=λ_=>Nat) (motive_2:=λ_=>Nat) (λ_ e=>e.mU) (λb=>b.mU) (λr=>r.mU) (λ_ _=>0) (λr _ i _=>bX r.mU i.mU) (λ_ _ _ _=>0) (λ_ l=>l) (λ_ l=>l) (λ_ _ l=>l) (λ_ _ x=>x) (λ_=>0) 0 (λ_=>0) (λe _ _ l=>bX e.mU l) 0 (λ_ _ a b=>bX a b) v
noncomputable def C.Ki(l:ap):Nat:=C.rec_1 (motive_1:=λ_=>Nat) (motive_2:=λ_=>Nat) (λ_ e=>e.mU) (λb=>b.mU) (λr=>r.mU) (λ_ _=>0) (λr _ i _=>bX r.mU i.mU) (λ_ _ _ _=>0) (λ_ l=>l) (λ_ l=>l) (λ_ _ l=>l) (λ_ _ x=>x) (λ_=>0) 0 (λ_=>0) (λe _ _ l=>bX e.mU l) 0 (λ_ _ a b=>bX a b) l
noncomputable def C.Bv(v:C):Nat:=C.rec (motive_1:=λ_=>Nat) (motive_2:=λ_=>Nat) (λ_ _=>0) (λ_=>0) (λ_=>0) (λi _=>mP 1 i) (λ_ _ _ _=>0) (λi _ _ _=>mP 1 i) (λ_ l=>l) (λ_ l=>l) (λ_ _ l=>l) (λ_ _ x=>x) (λ_=>0) 0 (λi=>mP 1 i) (λ_ _ _ l=>l) 0 (λ_ _ a b=>bX a b) v
noncomputable def C.HL(l:ap):Nat:=C.rec_1 (motive_1:=λ_=>Nat) (motive_2:=λ_=>Nat) (λ_ _=>0) (λ_=>0) (λ_=>0) (λi _=>mP 1 i) (λ_ _ _ _=>0) (λi _ _ _=>mP 1 i) (λ_ l=>l) (λ_ l=>l) (λ_ _ l=>l) (λ_ _ x=>x) (λ_=>0) 0 (λi=>mP 1 i) (λ_ _ _ l=>l) 0 (λ_ _ a b=>bX a b) l
noncomputable def C.Kj(X:Nat->Bool)(v:C):Bool:=C.rec (motive_1:=λ_=>Bool) (motive_2:=λ_=>Bool) (λ_ _=>J) (λ_=>J) (λ_=>J) (λi _=>X i) (λ_ _ _ _=>J) (λi _ _ _=>X i) (λ_ l=>l) (λ_ l=>l) (λ_ _ l=>l) (λ_ _ x=>x) (λ_=>J) J (λi=>X i) (λ_ _ _ l=>l) J (λ_ _ a b=>a&&b) v
noncomputable def C.Kk(X:Nat->Bool)(l:ap):Bool:=C.rec_1 (motive_1:=λ_=>Bool) (motive_2:=λ_=>Bool) (λ_ _=>J) (λ_=>J) (λ_=>J) (λi _=>X i) (λ_ _ _ _=>J) (λi _ _ _=>X i) (λ_ l=>l) (λ_ l=>l) (λ_ _ l=>l) (λ_ _ x=>x) (λ_=>J) J (λi=>X i) (λ_ _ _ l=>l) J (λ_ _ a b=>a&&b) l
noncomputable def C.bd(X W V:Nat)(R:Nat->Bool)(v:C):Bool:=Kd (motive:=λ_=>Bool) E (Kd (motive:=λ_=>Bool) (v.Kj R) J (jo v.Bv 0)) (jo (bX v.mU (mT X W V)) (mT X W V))
def C.ajD(X W V:Nat)(R:Nat->Bool)(v:C):C.bd X W V R v=(jo (bX v.mU (mT X W V)) (mT X W V)&&(jo v.Bv 0||v.Kj R)):=by
 unfold C.bd;cases jo (bX v.mU (mT X W V)) (mT X W V)<;>cases jo v.Bv 0<;>rfl
noncomputable def C.eo(X W V:Nat)(R:Nat->Bool)(l:ap):Bool:=zJ (motive:=λ_=>Bool) J (λx _ Q=>Kd (motive:=λ_=>Bool) E Q (C.bd X W V R x)) l
def C.ja{X:Nat->Bool}:(C.eo R Q i X []=J)/\(∀x W,C.eo R Q i X (x::W)=(C.bd R Q i X x&&C.eo R Q i X W)):=⟨rfl,λx W=>by
 show Kd (motive:=λ_=>Bool) E (C.eo R Q i X W) (C.bd R Q i X x)=_;cases C.bd R Q i X x<;>rfl⟩
def ajE:jo (bX R Q) 0=(jo R 0&&jo Q 0):=by
 rw[sx,aw,aju,aju,aju];exact Nat.or_eq_zero_iff
def Tb(i:Nat):jo (mP 1 i) 0=false:=by
 have:mP 1 i≠0:=by
  change 1<<<i≠0;rw[avz];exact Nat.ne_of_gt (Nat.two_pow_pos i)
 cases h:jo (mP 1 i) 0 with
 |false=>rfl
 |true=>exact aZ (aI6 h) this
mutual
def Z5(X:Nat->Bool):∀v:C,jo v.Bv 0=J->v.Kj X=J
 |.int _ _,_=>rfl
 |.bool _,_=>rfl
 |.ah _,_=>rfl
 |.loc i _,h=>by rw[show(C.loc i _).Bv=mP 1 i from rfl,Tb] at h;cases h
 |.el _ _ _ _,_=>rfl
 |.jp i _ _ _,h=>by rw[show(C.jp i _ _ _).Bv=mP 1 i from rfl,Tb] at h;cases h
 |.agg l,h=>Kl X l h
 |.bO l,h=>Kl X l h
 |.fn _ l,h=>Kl X l h
 |.ik _ x,h=>Z5 X x h
 |.yl _,_=>rfl
 |.any,_=>rfl
 |.mp i,h=>by rw[show(C.mp i).Bv=mP 1 i from rfl,Tb] at h;cases h
 |.gz _ _ l,h=>Kl X l h
def Kl(X:Nat->Bool):∀l:ap,jo (C.HL l) 0=J->C.Kk X l=J
 |[],_=>rfl
 |x::W,h=>by
  rw[show C.HL (x::W)=bX x.Bv (C.HL W) from rfl,ajE,aw] at h;show(x.Kj X&&C.Kk X W)=J;rw[Z5 X x h.1,Kl X W h.2];rfl
end
def Ox(V R Q:Nat)(W:Nat->Bool):∀l:ap,(jo (bX (C.Ki l) (mT V R Q)) (mT V R Q)&&(jo (C.HL l) 0||C.Kk W l))=C.eo V R Q W l
 |[]=>by rw[show C.Ki []=0 from rfl,HJ];rfl
 |x::X=>by
  rw[C.ja.2,<-Ox V R Q W X,C.ajD,show C.Ki (x::X)=bX x.mU (C.Ki X) from rfl,show C.HL (x::X)=bX x.Bv (C.HL X) from rfl,l9,ajE,show C.Kk W (x::X)=(x.Kj W&&C.Kk W X) from rfl];have P:=Z5 W x;have O:=Kl W X;cases N:jo x.Bv 0<;>cases M:jo (C.HL X) 0<;>cases L:x.Kj W<;>cases H:C.Kk W X<;>cases jo (bX x.mU (mT V R Q)) (mT V R Q)<;>cases jo (bX (C.Ki X) (mT V R Q)) (mT V R Q)<;>simp_all
def C.bo{W:Nat->Bool}:(∀k e,C.bd R Q i W (.int k e)=e.bd R Q i)/\(∀b,C.bd R Q i W (.bool b)=b.bd R Q i)/\(∀r,C.bd R Q i W (.ah r)=r.bd R Q i)/\(∀X o,C.bd R Q i W (.loc X o)=W X)/\(∀X a b c,C.bd R Q i W (.jp X a b c)=W X)/\(∀r w X o,C.bd R Q i W (.el r w X o)=(r.bd R Q i&&X.bd R Q i))/\(∀l,C.bd R Q i W (.agg l)=C.eo R Q i W l)/\(∀l,C.bd R Q i W (.bO l)=C.eo R Q i W l)/\(∀f l,C.bd R Q i W (.fn f l)=C.eo R Q i W l)/\(∀t x,C.bd R Q i W (.ik t x)=C.bd R Q i W x)/\(∀n,C.bd R Q i W (.yl n)=J)/\(C.bd R Q i W .any=J)/\(∀X,C.bd R Q i W (.mp X)=W X)/\(∀e N O,C.bd R Q i W (.gz e N O)=(e.bd R Q i&&C.eo R Q i W O)):=by
 have V:∀b:Bool,(b&&(jo 0 0||J))=b:=λb=>by cases b<;>rfl
 have P:∀X,(jo (bX 0 (mT R Q i)) (mT R Q i)&&(jo (mP 1 X) 0||W X))=W X:=λX=>by rw[HJ,Tb];rfl
 simp only[C.ajD];refine⟨λ_ _=>V _,λ_=>V _,λ_=>V _,λ_ _=>P _,λ_ _ _ _=>P _,λr _ X _=> ?_,λl=>Ox _ _ _ _ l,λl=>Ox _ _ _ _ l,λ_ l=>Ox _ _ _ _ l,λ_ _=>rfl,λ_=>(V _).trans (HJ _),(V _).trans (HJ _),λ_=>P _,λe _ l=> ?_⟩;exact(V _).trans (l9 _ _ _);rw[<-Ox];show(jo (bX (bX e.mU (C.Ki l)) _) _&&_)=_;rw[l9,avK];rfl
def C.rF(X W V:Nat)(R:Nat->Bool):bG->Bool
 |[]=>J
 |U x::Q=>C.eo X W V R x.2&&C.rF X W V R Q
 |Z::Q=>C.rF X W V R Q
def aP(l:bG)(i:Nat):Bool:=(cz l i).isSome
def S.bd(s:S):Bool:=C.eo s.ni s.nb (Y s.rs) (aP s.ao) s.tmps&&C.rF s.ni s.nb (Y s.rs) (aP s.ao) s.ao
def S.fp(s:S)(l:ap):Bool:=s.bd&&C.eo s.ni s.nb (Y s.rs) (aP s.ao) l
structure fP where
 tm:List (Nat×LK)
 cl:List (Nat×Nat×LK)
inductive avY where
 |avZ
 |inv (a:fP)
inductive FK where
 |box
 |slot (t:Nat) (vs:List Int)
 |cell (b j:Nat) (vs:bA)
structure bF where
 ty:Ty
 gl:nG
 inl:FuncId->Option (Code×Nat×od)
 sig:FuncId->sC
 loop:FuncId->Nat->avY
 ajF:TypeId:=3
 zM:FuncId->FuncId->Option (TypeId×bu×Bool):=λ_ _=>Z
 ma:Bool:=E
 Oy:FuncId->Nat->Bool:=λ_ _=>E
 frk:FuncId->Nat->Option FK:=λ_ _=>Z
def S.fresh(s:S):LK->C×S
 |.int k=>(.int k (.v s.ni),{s with ni:=s.ni+1})
 |.bool=>(.bool (.v s.nb),{s with nb:=s.nb+1})
 |.ah e=>(.ah (.v (Y s.rs)),{s with rs:=s.rs++[e]})
def uR:CT->LK
 |.int k=>.int k
 |.bool=>.bool
 |.ae _ k=>.ah k
def S.cT(s:S):aU->ap×S
 |[]=>([],s)
 |k::X=>let r:=s.fresh k;let q:=r.2.cT X;(r.1::q.1,q.2)
def Bw(W:Ty):j5->ap->HA
 |[],_=>U []
 |t::V,l=>match W t with
  |U X=>match Bw W V (l.drop (Y X.aj)) with
   |U r=>U ((if X.d.isAgg then .agg (l.take (Y X.aj)) else l.getD 0 .any)::r)
   |none=>Z
  |none=>Z
def iO(X:Ty):j5->Option aU
 |[]=>U []
 |t::W=>match X t,iO X W with
  |U V,U r=>U (V.aj.map uR++r)
  |_,_=>Z
def one(l:ap):C:=match l with
 |[v]=>v
 |l=>.bO l
def Code.o9:Code->aq
 |.region _ X _=>X.toList.filterMap (·.dst)
 |.seq a b=>Code.o9 a++Code.o9 b
 |.cond _ a b=>Code.o9 a++Code.o9 b
 |.block _ c=>Code.o9 c
 |.loop c=>Code.o9 c
 |.scope c=>Code.o9 c
 |.rangeFunc _ W a b=>W.toList++Code.o9 a++Code.o9 b
 |_=>[]
def Code.first:Code->cQ
 |.region id _ _=>U id
 |.seq a b=>match Code.first a with
  |U i=>U i
  |none=>Code.first b
 |.cond _ a b=>match Code.first a with
  |U i=>U i
  |none=>Code.first b
 |.block _ c=>Code.first c
 |.loop c=>Code.first c
 |.scope c=>Code.first c
 |_=>Z
mutual
def C.HM:C->aq
 |.loc i _=>[i]
 |.jp i _ _ _=>[i]
 |.agg l=>C.pR l
 |.bO l=>C.pR l
 |.fn _ l=>C.pR l
 |.ik _ x=>C.HM x
 |.mp i=>[i]
 |.gz _ _ X=>C.pR X
 |_=>[]
def C.pR:ap->aq
 |[]=>[]
 |x::X=>C.HM x++C.pR X
end
def sF(X:aq):Nat->bG->bG
 |_,[]=>[]
 |n,x::W=>(if X.contains n then x else Z)::sF X (n+1) W
def wq:bG->bG
 |[]=>[]
 |x::X=>match x,wq X with
  |Z,[]=>[]
  |x,r=>x::r
def C.eX:C->Bool
 |.any=>J
 |_=>E
inductive HN where
 |fn (g:FuncId)
 |yl (n:Nat)
abbrev qH:=HN->ap->S->(C->S->T)->(C->S->T)->T
abbrev YH:=Nat->ap->S->(C->S->T)->(C->S->T)->T
def jg:YH:=λ_ _ _ _ _=>.stuck ""
structure OM where
 o:Oper
 ix:Nat
 bP:Bool
 j:Nat
 dr:Bool
 so:Bool
abbrev cZ:=List OM
inductive OR where
 |ok (s:S)
 |bi (b:BE) (s:S)
 |split(b:BE) (s1 s2:S)
 |no (why:String)
def RE.isNil:RE->Bool
 |.k (.slice Z 0 0)=>J
 |_=>E
def RE.fits(X:Ty)(s:S)(k:RK)(r:RE):Bool:=match k with
 |.sl e=>decide (r.kind X s=.sl e)||r.isNil
 |.str=>decide (r.kind X s=.str)
 |_=>E
def tU(X:Ty)(s:S):CT->C->Bool
 |.int k,.int W _=>decide (k=W)
 |.bool,.bool _=>J
 |.ae _ k,.ah r=>r.fits X s k
 |_,_=>E
def mV(X:Ty)(s:S):fu->ap->Bool
 |[],[]=>J
 |c::W,v::V=>tU X s c v&&mV X s W V
 |_,_=>E
def og(X:Ty)(s:S)(aj:fu):xW->Bool
 |[]=>J
 |r::W=>mV X s aj r&&og X s aj W
def jQ(w:Nat):Nat->ap->xW
 |0,_=>[]
 |n+1,l=>l.take w::jQ w n (l.drop w)
def LE.bd(X W V:Nat):LE->Bool
 |.ah r=>r.bd X W V
 |.lit l=>l.all (C.eo X W V λ_=>E)
 |.kq a b=>LE.bd X W V a&&LE.bd X W V b
 |.tR n Q=>n.bd X W V&&C.eo X W V (λ_=>E) Q
 |.set a i _ R=>LE.bd X W V a&&i.bd X W V&&C.eo X W V (λ_=>E) R
 |.sub a P O=>LE.bd X W V a&&P.bd X W V&&O.bd X W V
 |.ins a _ R=>LE.bd X W V a&&C.eo X W V (λ_=>E) R
def RE.root:RE->cQ
 |.v n=>U n
 |.cell r _ _ _=>r.root
 |.k _=>Z
mutual
def C.Z6:C->aq
 |.ah r=>r.root.toList
 |.el r _ _ _=>r.root.toList
 |.agg l=>C.pS l
 |.bO l=>C.pS l
 |.fn _ l=>C.pS l
 |.ik _ x=>C.Z6 x
 |.gz _ _ X=>C.pS X
 |_=>[]
def C.pS:ap->aq
 |[]=>[]
 |x::X=>C.Z6 x++C.pS X
end
def zN(b:Bool):RK->RK
 |.own e=>if b then .sl e else .own e
 |x=>x
def Oz(b:Bool):RK->RK
 |.own e=>if b then .sl e else .am
 |x=>x
def kG(X:aq):Nat->bz->bz
 |_,[]=>[]
 |n,x::W=>zN (X.contains n) x::kG X (n+1) W
def jE(X:aq):Nat->bz->bz
 |_,[]=>[]
 |n,x::W=>(if X.contains n then .am else x)::jE X (n+1) W
def Dq(X:aq):Nat->bz->bz
 |_,[]=>[]
 |n,x::W=>Oz (X.contains n) x::Dq X (n+1) W
mutual
def C.iK(k n:Nat):C->C
 |.ah (.v j)=>if j==k then .ah (.v n) else .ah (.v j)
 |.el (.v j) w i o=>if j==k then .el (.v n) w i o else .el (.v j) w i o
 |.agg l=>.agg (C.pT k n l)
 |.bO l=>.bO (C.pT k n l)
 |.fn f l=>.fn f (C.pT k n l)
 |.ik t x=>.ik t (C.iK k n x)
 |.gz e X W=>.gz e X (C.pT k n W)
 |v=>v
def C.pT(k n:Nat):ap->ap
 |[]=>[]
 |x::X=>C.iK k n x::C.pT k n X
end
def uS(k n:Nat):bG->bG
 |[]=>[]
 |Z::X=>Z::uS k n X
 |U (t,W)::X=>U (t,if rz t then W else C.pT k n W)::uS k n X
def S.iK(s:S)(k n:Nat):S:={s with tmps:=C.pT k n s.tmps,ao:=uS k n s.ao}
structure BI where
 bi:BE
 e:TypeId
 x:LE
 s:S
def Km:Int:=536870912
def Ko(n:K):BE:=qG .leq n (.c Km)
def sG(Q:Ty)(s:S)(e:TypeId)(X:TI):C->Option (LE×BE×aq)
 |.ah r=>if r.isNil then U (.lit [],.c J,[]) else if r.kind Q s=.sl e then U (.ah r,Ko (.len r),[]) else Z
 |.jp i V W _=>match mz s.ao i with
  |U (_,R)=>if og Q s X.aj (jQ (Y X.aj) W (xZ R V (W*Y X.aj)))&&decide (V+W*Y X.aj<=Y R)&&decide ((W:Int)<=Km) then U (.lit (jQ (Y X.aj) W (xZ R V (W*Y X.aj))),.c J,C.pS (xZ R V (W*Y X.aj))) else Z
  |none=>Z
 |_=>Z
def yc(s:S)(e:TypeId)(bP:Bool):C->Option (LE×BE×aq)
 |.ah (.v k)=>if s.rs[k]?=U (.own e)/\ !(bP&&s.lk.testBit (2*k+1)) then U (.ah (.v k),Ko (.len (.v k)),[k]) else Z
 |.ah r=>if r.isNil then U (.lit [],.c J,[]) else Z
 |.jp _ _ 0 0=>U (.lit [],.c J,[])
 |_=>Z
def kH(s:S)(d:cQ)(bi:BE)(e:TypeId)(k:RK)(x:LE)(X dv:aq):Option BI:=
 if s.bd&&X.all (λk=> !dv.contains k)&&LE.bd s.ni s.nb (Y s.rs) x&&bi.bd s.ni s.nb (Y s.rs) then U ⟨bi,e,x,{s with rs:=kG dv 0 (jE X 0 s.rs)++[k]}.put d (.ah (.v (Y s.rs)))⟩ else Z
def fj(X:bF)(o:Oper)(bP R:Bool)(s:S):Option BI:=match o.op with
 |.call c=>match c.callee with
  |.builtin .append=>match c.argTypes.toList,c.args.toList.map (s.ev X.gl) with
   |[t,O],[x,y]=>match X.ty t,X.ty O with
    |U ⟨.slice e,_,_⟩,U ⟨.slice N,_,_⟩=>match X.ty e with
     |U W=>if e≠N\/Y W.aj=0 then Z else match yc s e bP x,sG X.ty s e W y with
      |U (a,M,L),U (b,H,dv)=>kH s o.dst (wm M H) e (.own e) (.kq a b) L dv
      |_,_=>Z
     |none=>Z
    |_,_=>Z
   |_,_=>Z
  |_=>Z
 |.makeSlice t n m=>match X.ty t,s.ev X.gl n,s.ev X.gl m with
  |U ⟨.slice e,_,_⟩,.int I n,.int I m=>match X.ty e with
   |U W=>if n.aR m&&og X.ty s W.aj [eG W]&&Y W.aj !=0 then kH s o.dst (wm (qG .leq (.c 0) n) (Ko n)) e (.own e) (.tR n (eG W)) [] [] else Z
   |none=>Z
  |_,_,_=>Z
 |.buildSlice t V parts=>if R|| !X.ma then Z else match X.ty t with
  |U ⟨.slice e,_,_⟩=>match X.ty e with
   |U W=>match zK (λi=>U (i*Y W.aj,Y W.aj)) (yb V (eG W)) (parts.toList.map λp=>(p.1,s.ev X.gl p.2)) with
    |U l=>if(Y l==V*Y W.aj&&og X.ty s W.aj (jQ (Y W.aj) V l)&&Y W.aj !=0&&decide ((V:Int)<=Km)&&decide (V*Y W.aj<=16777216)&& !(parts.toList.any λp=>(s.ev X.gl p.2).eX)) then kH s o.dst (.c J) e (.own e) (.lit (jQ (Y W.aj) V l)) [] (C.pS l) else Z
    |none=>Z
   |none=>Z
  |_=>Z
 |.slice t x G F D=>if R then Z else match X.ty t,s.ev X.gl x,D.map (s.ev X.gl),F.map (s.ev X.gl),G.map (s.ev X.gl) with
  |U ⟨.slice e,_,_⟩,.ah r,U (.int _ (.c 0)),U (.int _ (.c 0)),Z=>match X.ty e with
   |U _=>if r.kind X.ty s=.sl e\/r.isNil then kH s o.dst (.c J) e (.own e) (.lit []) [] [] else Z
   |none=>Z
  |U ⟨.slice e,_,_⟩,.ah r,Z,U (.int I h),U (.int I l)=>match X.ty e with
   |U _=>if r.kind X.ty s=.sl e then kH s o.dst (wm (qG .leq (.c 0) l) (wm (qG .leq l h) (qG .leq h (.len r)))) e (.sl e) (.sub (.ah r) l h) [] r.root.toList else Z
   |none=>Z
  |U ⟨.slice e,_,_⟩,.ah r,Z,U (.int I h),Z=>match X.ty e with
   |U _=>if r.kind X.ty s=.sl e then kH s o.dst (wm (qG .leq (.c 0) h) (qG .leq h (.len r))) e (.sl e) (.sub (.ah r) (.c 0) h) [] r.root.toList else Z
   |none=>Z
  |U ⟨.slice e,_,_⟩,.ah r,Z,Z,U (.int I l)=>match X.ty e with
   |U _=>if r.kind X.ty s=.sl e then kH s o.dst (wm (qG .leq (.c 0) l) (qG .leq l (.len r))) e (.sl e) (.sub (.ah r) l (.len r)) [] r.root.toList else Z
   |none=>Z
  |_,_,_,_,_=>Z
 |.store t a x=>if R then Z else match X.ty t,s.ev X.gl a with
  |U Q,.el (.v k) w i P=>match s.rs[k]? with
   |U (.own e)=>match X.ty e with
    |U W=>if(Y W.aj==w&&(s.ev X.gl x).cells.length==Y Q.aj&&decide (P+Y Q.aj<=w)&&mV X.ty s ((W.aj.drop P).take (Y Q.aj)) (s.ev X.gl x).cells&&(s.ev X.gl x).HD) then
      (kH s Z (wn i (.len (.v k))) e (.own e) (.set (.ah (.v k)) i P (s.ev X.gl x).cells) [k] (C.pS (s.ev X.gl x).cells)).map λb=>{b with s:=(b.s.iK k (Y s.rs)).put o.dst (.bO [])} else Z
    |none=>Z
   |_=>Z
  |_,_=>Z
 |_=>Z
def S.dw(s:S)(n:Nat)(t:TypeId)(X:ap):S:={s with ao:=s.ao.set n (U (t,X))}
def OA(bP:Bool):C->Nat
 |.loc i _=>if bP then 1<<<(2*i) else 0
 |.el r _ _ _=>if bP then(match r.root with
  |U k=>1<<<(2*k+1)
  |none=>0) else 0
 |.gz _ _ X=>if bP then(match zL X with
  |U i=>1<<<(2*i)
  |none=>0) else 0
 |_=>0
def S.dL(s:S)(d:cQ)(v:C)(l:Nat):S:={s with lk:=s.lk|||l}.put d v
def tV(s:S)(d:cQ)(l:Nat):PR->OR
 |.ok v=>.ok (s.dL d v l)
 |.bi b v=>if b.bd s.ni s.nb (Y s.rs) then .bi b (s.dL d v l) else .no ""
 |.no w=>.no w
def gH(l:bG)(n:Nat):Bool:=match l[n]? with
 |U Z=>J
 |_=>E
def qI(l:bG)(n:Nat)(t:TypeId):Bool:=gH l n&& !rz t
def gR(X:bF)(m:OM)(s:S):OR:=
 if m.o.op.operands.toList.any λx=>(s.ev X.gl x).eX then .no (""++toString m.j++ ""++toString m.o.dst) else
 match m.o.op with
 |.alloc t=>match X.ty t with
  |U W=>if s.fp (eG W)&&qI s.ao m.ix t then .ok ((s.dw m.ix t (eG W)).put m.o.dst (.loc m.ix 0)) else .no ""
  |none=>.no ""
 |.box t x=>match X.ty t with
  |U W=>if(s.ev X.gl x).cells.length==Y W.aj&&s.fp (s.ev X.gl x).cells&&(s.ev X.gl x).HD&&qI s.ao m.ix t then .ok ((s.dw m.ix t (s.ev X.gl x).cells).put m.o.dst (.loc m.ix 0)) else .no ""
  |none=>.no ""
 |.buildSlice t V parts=>match X.ty t with
  |U ⟨.slice e,_,_⟩=>match X.ty e with
   |U R=>match zK (λi=>U (i*Y R.aj,Y R.aj)) (yb V (eG R)) (parts.toList.map λp=>(p.1,s.ev X.gl p.2)) with
    |U l=>if s.fp l&&decide (V*Y R.aj<=16777216)&&qI s.ao m.ix e then .ok ((s.dw m.ix e l).put m.o.dst (.jp m.ix 0 V V)) else .no ""
    |none=>.no ""
   |none=>.no ""
  |_=>.no ""
 |.store t a x=>match X.ty t,s.ev X.gl a with
  |U W,.loc i Q=>match mz s.ao i with
   |U (O,P)=>if(s.ev X.gl x).cells.length==Y W.aj&&decide (Q+(s.ev X.gl x).cells.length<=Y P)&&Fc (s.ev X.gl x).cells&&(s.ev X.gl x).HD&& !(m.bP&&s.lk.testBit (2*i)) then .ok ((s.dw i O (l8 P Q (s.ev X.gl x).cells)).put m.o.dst (.bO [])) else .no ""
   |none=>.no ""
  |_,_=>.no ""
 |.pick c x y=>match s.ev X.gl c with
  |.bool b=>.split b (s.put m.o.dst (s.ev X.gl x)) (s.put m.o.dst (s.ev X.gl y))
  |_=>.no ""
 |.load t a=>tV s m.o.dst (OA m.bP (s.ev X.gl a)) (cH X.ty X.gl s (.load t a))
 |op=>tV s m.o.dst 0 (cH X.ty X.gl s op)
inductive MR where
 |ok (s:S)
 |ac (k:RK) (x:LE) (s:S)
def HO(X:TI)(n:Nat)(W:Bool):TypeId×ap:=if X.aj.all nH&&Y X.aj !=0 then(wj,[.ah (.k (.slice Z 0 0)),.int I (.c n),.bool (.c W),.bool (.c X.d.isAgg)]) else(uQ,[])
def S.zO(s:S)(b:TypeId×ap):S:={s with ao:=s.ao++[U b]}
def By(V:bF)(s:S)(k e:TypeId)(n:Nat)(W:Bool)(X:TI):ap->Option RE
 |[.ah r,.int I (.c R),.bool (.c Q),.bool (.c P)]=>if r.o8 V.ty s ⟨k,e,n,W,X.d.isAgg⟩&&R==(n:Int)&&Q==W&&P==X.d.isAgg&&X.aj.all nH then U r else Z
 |_=>Z
def Fi(V:bF)(d:cQ)(s:S)(t:TypeId)(O R v:C):Option MR:=match V.ty t,O with
 |U ⟨.map k e n X,_,_⟩,.mp i=>match V.ty e,HG n X R,cz s.ao i with
  |U W,U (N,_,_),U (P,Q)=>if !tT V.ty k n X|| !s.fp [R,v]|| !Bs W v then Z else
   if P==wj then(match By V s k e n X W Q with
    |U r=>if mV V.ty s W.aj v.cells then
      U (.ac (RK.mr ⟨k,e,n,X,W.d.isAgg⟩) (.ins (.ah r) n (R.cells++v.cells)) (S.put {s with rs:=s.rs++[RK.mr ⟨k,e,n,X,W.d.isAgg⟩],ao:=s.ao.set i (U (wj,[.ah (.v (Y s.rs)),.int I (.c n),.bool (.c X),.bool (.c W.d.isAgg)]))} d (.bO []))) else Z
    |none=>Z)
   else if P==uQ&&n==1&& !X then(match N,rC Q with
    |.c x,U M=>if M.contains x then Z else U (.ok ((s.dw i uQ (Q++[.int I (.c x),v])).put d (.bO [])))
    |_,_=>Z)
   else Z
  |_,_,_=>Z
 |_,_=>Z
def Td(X:bF)(d:cQ)(s:S)(t:TypeId):Option S:=match X.ty t with
 |U ⟨.map k e n W,_,_⟩=>match X.ty e with
  |U V=>if s.bd&&tT X.ty k n W then U ((s.zO (HO V n W)).put d (.mp (Y s.ao))) else Z
  |none=>Z
 |_=>Z
def ye(X:bF):Sh:=⟨X.ajF,xX,1,E,E⟩
def HQ(X:bF):Bool:=tT X.ty X.ajF 1 E&&(X.ty xX).isNone
def Z7(R:bF)(s:S)(k e:TypeId)(n:Nat)(X:Bool)(Q:TI)(i:Nat):Option K:=match cz s.ao i with
 |U (W,V)=>if W==wj then(By R s k e n X Q V).map .len
  else if W==uQ&&n==1&& !X then(rC V).map λP=>.c (Y P) else Z
 |none=>Z
def Te(X:bF)(d:cQ)(s:S)(t:TypeId)(W:C):Option S:=match X.ty t,W with
 |U ⟨.map k e n V,_,_⟩,.mp i=>match X.ty e with
  |U R=>match Z7 X s k e n V R i with
   |U c=>if s.bd&&c.bd s.ni s.nb (Y s.rs)&&aP s.ao i then U ((s.zO (xX,[.mp i,.int I (.c t),.int I c,.ah (.k (.slice Z 0 0))])).put d (.loc (Y s.ao) 0)) else Z
   |none=>Z
  |none=>Z
 |_,_=>Z
def uT(r:RE)(i:K):Nat->fu->ap
 |_,[]=>[]
 |j,c::X=>Fb r i j c::uT r i (j+1) X
def Kq(r:RE)(i:K)(n:Nat)(X:Bool):C:=tS X ((e8 n).map λj=>.int I (.cell r i j))
def Z8(X:bF)(d:cQ)(s:S)(q W:Nat)(i t:Nat)(c:K)(V v:C):S:=
 S.put {s with ni:=W,rs:=s.rs++[RK.mr (ye X)],ao:=s.ao.set q (U (xX,[.mp i,.int I (.c t),.int I c,.ah (.v (Y s.rs))]))} d (.bO [.bool (.c J),V,v])
def Tf(X:RE)(j:K):BE:=.not (.has X 1 j (.c 0) (.c 0))
def Tg(X:TI)(e:K)(W:bA)(V:ap):Option (C×C):=if V.all (Bs X) then(match Br e (Dp (Y W)) (W.map λk=>.int I (.c k)),Do e (Dp (Y W)) (V.map C.cells) 0 X.aj with
 |U a,U l=>U (.int I a,tS X.d.isAgg l)
 |_,_=>Z) else Z
def Th(W:bF)(s:S)(c:K)(X:RE)(t V:T):T:=
 .pick c (Tf X (.v s.ni)) (.cmp .leq c (.len X)) (.ac (.mr (ye W)) (.ins (.ah X) 1 [.int I (.v s.ni)]) s.rs t) V
def Z9(X:bF)(d:cQ)(s:S)(L:C)(P O:S->T):Option T:=match L with
 |.loc q 0=>match cz s.ao q with
  |U (H,[.mp i,.int I (.c t),.int I c,.ah R])=>if !(H==xX&&HQ X&&R.o8 X.ty s (ye X)&&s.bd&&({s with ni:=s.ni+1}:S).bd&&decide (0<=t)) then Z else match X.ty t.toNat,cz s.ao i with
   |U ⟨.map k e n V,_,_⟩,U (N,Q)=>match X.ty e with
    |U W=>if !tT X.ty k n V then Z else
     if N==wj then(match By X s k e n V W Q with
      |U r=>if c.aR (.len r)&&Y W.aj !=0 then U (Th X s c R (P (Z8 X d s q (s.ni+1) i t.toNat c (Kq r (.v s.ni) n V) (tS W.d.isAgg (uT r (.v s.ni) n W.aj)))) (O (s.put d (.bO [.bool (.c E)])))) else Z
      |none=>Z)
     else if N==uQ&&n==1&& !V then(match rC Q with
      |U M=>if c.aR (.c (Y M)) then(match Tg W (.v s.ni) M (mS Q) with
       |U (G,v)=>U (Th X s c R (P (Z8 X d s q (s.ni+1) i t.toNat c G v)) (O (s.put d (.bO [.bool (.c E)]))))
       |none=>Z) else Z
      |none=>Z)
     else Z
    |none=>Z
   |_,_=>Z
  |_=>Z
 |_=>Z
def wt(X:RE):K:=.cell X (.bin .sub I (.len X) (.c 1)) 0
def aaa(c:K)(X:RE):BE:=wm (wm (qG .leq (.c 1) (.len X)) (Ko (.len X))) (wn (wt X) c)
def aab(X:bF)(d:cQ)(s:S)(M:C)(P:S->T):Option T:=match M with
 |.loc q 0=>match cz s.ao q with
  |U (L,[.mp i,.int I (.c t),.int I c,.ah W])=>if !(L==xX&&HQ X&&W.o8 X.ty s (ye X)&&s.bd&&decide (0<=t)) then Z else match X.ty t.toNat,cz s.ao i with
   |U ⟨.map k e n V,_,_⟩,U (O,Q)=>match X.ty e with
    |U R=>if !tT X.ty k n V then Z else
     if O==wj then(match By X s k e n V R Q with
      |U r=>if c.aR (.len r) then U (.bi (aaa c W) (P (s.put d (.bO [Kq r (wt W) n V,tS R.d.isAgg (uT r (wt W) n R.aj)])))) else Z
      |none=>Z)
     else if O==uQ&&n==1&& !V then(match rC Q with
      |U N=>if c.aR (.c (Y N)) then(match Tg R (wt W) N (mS Q) with
       |U (H,v)=>U (.bi (aaa c W) (P (s.put d (.bO [H,v]))))
       |none=>Z) else Z
      |none=>Z)
     else Z
    |none=>Z
   |_,_=>Z
  |_=>Z
 |_=>Z
def Ti(X:bF)(d:cQ)(s:S)(t:TypeId)(W:Bool)(x y:C)(V:S->T):Option T:=match X.ty t,x,y with
 |U ⟨.slice e,_,_⟩,.ah r,.ah (.k (.slice Z 0 0))=>if r.kind X.ty s=.sl e then U (.gQ (.c J) (.cmp .leq (.len r) (.c 0)) (V (s.put d (.bool (.c W)))) (V (s.put d (.bool (.c (!W)))))) else Z
 |_,_,_=>Z
abbrev Fx:=List (BE×Bool)
def OC(X:Fx):BE->Option Bool
 |.c v=>U v
 |b=>(X.find? λx=>x.1.aR b).map (·.2)
def Dr(s:S)(X:Fx)(b:BE)(t f:Fx->T):T:=match OC X b with
 |U J=>t X
 |U E=>f X
 |none=>if b.bd s.ni s.nb (Y s.rs) then .aV b (t ((b,J)::X)) (f ((b,E)::X)) else .stuck ""
inductive CK where
 |call (g:HN) (args:List C)
 |bI (v:C)
 |op
 |no
def eH(X:bF)(s:S)(o:Oper):CK:=
 match o.op with
 |.panic x=>match s.ev X.gl x with
  |.ik t y=>.bI (.ik t y)
  |_=>.no
 |.call c=>match c.callee with
  |.value f=>match s.ev X.gl f with
   |.fn g W=>if c.args.toList.any λx=>(s.ev X.gl x).eX then .no else .call (.fn g) (c.args.toList.map (s.ev X.gl)++W)
   |.yl n=>if c.args.toList.any λx=>(s.ev X.gl x).eX then .no else .call (.yl n) (c.args.toList.map (s.ev X.gl))
   |_=>.no
  |.invoke _ _=>.no
  |.builtin .panic=>match c.args.toList with
   |[x]=>match s.ev X.gl x with
    |.ik t y=>.bI (.ik t y)
    |_=>.no
   |_=>.no
  |.builtin _=>.op
 |_=>.op
def pU(s:S)(X:Fx):Fx:=X.filter λx=>x.1.bd s.ni s.nb (Y s.rs)
def aac(b:BE):C->C->Option C
 |.int k x,.int X y=>if k=X then U (.int k (.eB b x y)) else Z
 |.bool x,.bool y=>U (.bool (.eB b x y))
 |_,_=>Z
def OD(b:BE):ap->Nat->ap->HA
 |[],_,X=>U X
 |x::V,W,X=>match X[W]? with
  |U R=>match aac b x R with
   |U c=>OD b V (W+1) (X.set W c)
   |none=>Z
  |none=>Z
def HR(e:K)(W:ap):bA->ap->ap->HA
 |[],[],X=>U X
 |k::V,.loc _ R::Q,X=>match OD (.cmp .eql e (.c k)) W R X with
  |U P=>HR e W V Q P
  |none=>Z
 |_,_,_=>Z
def Tj:bA->Bool
 |[]=>J
 |x::X=> !X.contains x&&Tj X
def OE:C->Bool
 |.int _ _|.bool _=>J
 |_=>E
def Kr:ap->Bool
 |[]=>E
 |[x]=>OE x
 |x::X=>OE x&&Kr X
def aad(d:cQ)(s:S)(R:TI)(e:K)(X:bA)(W:ap)(V:C)(k:S->T):Option T:=match zL W with
 |U i=>match mz s.ao i with
  |U (Q,P)=>match HR e V.cells X W P with
   |U O=>if Y R.aj==Y V.cells&&Y X==Y W&&Tj X&&Kr V.cells then U (.bi (HH e X) (k ((s.dw i Q O).put d (.bO [])))) else Z
   |none=>Z
  |none=>Z
 |none=>Z
def Bz(X:bF)(m:OM)(s:S)(V:S->Fx->T)(R:Fx):Option T:=if m.dr||m.o.op.operands.toList.any λx=>(s.ev X.gl x).eX then Z else match m.o.op with
 |.makeMap t Z=>(Td X m.o.dst s t).map λW=>V W R
 |.mapUpdate t x y z=>match Fi X m.o.dst s t (s.ev X.gl x) (s.ev X.gl y) (s.ev X.gl z) with
  |U (.ok W)=>U (V W R)
  |U (.ac k x W)=>U (.ac k x s.rs (V W (pU s R)))
  |none=>Z
 |.insert t x y z=>match Fi X m.o.dst s t (s.ev X.gl x) (s.ev X.gl y) (s.ev X.gl z) with
  |U (.ok W)=>U (V W R)
  |U (.ac k x W)=>U (.ac k x s.rs (V W (pU s R)))
  |none=>Z
 |.range t x=>(Te X m.o.dst s t (s.ev X.gl x)).map λW=>V W R
 |.next Q E=>Z9 X m.o.dst s (s.ev X.gl Q) (λW=>V W (pU s R)) (λW=>V W R)
 |.entry Q=>aab X m.o.dst s (s.ev X.gl Q) λW=>V W R
 |.store t a x=>match X.ty t,s.ev X.gl a with
  |U P,.gz e O N=>aad m.o.dst s P e O N (s.ev X.gl x) λW=>V W R
  |_,_=>Z
 |.binOp M t x y _=>match M with
  |.eql=>Ti X m.o.dst s t E (s.ev X.gl x) (s.ev X.gl y) λW=>V W R
  |.neq=>Ti X m.o.dst s t J (s.ev X.gl x) (s.ev X.gl y) λW=>V W R
  |_=>Z
 |_=>Z
def BA(X:bF)(m:OM)(s:S):Option (K×bA×ap×ap):=if m.dr then Z else match m.o.op with
 |.call c=>match c.callee with
  |.value f=>match s.ev X.gl f with
   |.gz e W V=>if(c.args.toList.any λx=>(s.ev X.gl x).eX)|| !e.bd s.ni s.nb (Y s.rs) then Z else U (e,W,V,c.args.toList.map (s.ev X.gl))
   |_=>Z
  |_=>Z
 |_=>Z
def Fj(e:K)(X:FuncId->ap->T):bA->ap->T
 |k::W,.fn g R::V=>.aV (.cmp .eql e (.c k)) (X g R) (Fj e X W V)
 |k::W,.ah (.k .nilFunc)::V=>.aV (.cmp .eql e (.c k)) (.stuck "") (Fj e X W V)
 |_,_=>.stuck ""
structure BB where
 f:FuncId
 g:FuncId
 e:TypeId
 sp:bu
 st:Bool
 r:RE
 s:S
def OF:ap->Option (List K×FuncId)
 |[.fn g []]=>U ([],g)
 |.int I e::r=>match OF r with
  |U x=>U (e::x.1,x.2)
  |none=>Z
 |_=>Z
def bu.fill:bu->List K->Option bu
 |.dD k o _,X=>U (.dD k o X)
 |W,[]=>U W
 |_,_::_=>Z
def aae(V:bF)(f:FuncId)(R:ap)(s:S)(d:cQ):Option BB:=match R with
 |.ah r::Q=>match OF Q with
  |U (P,g)=>match(if f==g then Z else V.zM f g) with
   |U (e,O,X)=>match O.fill P with
    |U W=>match r with
     |.v k=>if s.rs[k]?=U (.own e) then U ⟨f,g,e,W,X,.v k,(({s with rs:=kG [] 0 (jE [k] 0 s.rs)++[.own e]}:S).iK k (Y s.rs)).put d (.bO [])⟩ else Z
     |.k (.slice Z 0 0)=>U ⟨f,g,e,W,X,.k (.slice Z 0 0),({s with rs:=kG [] 0 (jE [] 0 s.rs)++[.own e]}:S).put d (.bO [])⟩
     |_=>Z
    |none=>Z
   |none=>Z
  |none=>Z
 |_=>Z
def HS(V:bF)(f:FuncId)(R:ap)(s:S)(d:cQ):Option BB:=match R with
 |[.int I i,.loc X 0,.loc W 0]=>match V.zM f f with
  |U (e,.dD 0 o _,J)=>match cz s.ao X,cz s.ao W with
   |U (Q,[.ah (.v k)]),U (P,[.fn O [.loc N 0,.loc M 0]])=>if i.bd s.ni s.nb (Y s.rs)&&O==f&&N==X&&M==W&& !rz Q&& !rz P&&decide (s.rs[k]?=U (.own e)) then U ⟨f,f,e,.dD 0 o [i],J,.v k,(({s with rs:=kG [] 0 (jE [k] 0 s.rs)++[.own e]}:S).iK k (Y s.rs)).put d (.int I (.cell (.v (Y s.rs)) i 0))⟩ else Z
   |_,_=>Z
  |_=>Z
 |_=>Z
def Ds(X:bF)(m:OM)(s:S):Option BB:=if m.dr|| !s.bd then Z else match eH X s m.o with
 |.call (.fn f) W=>match aae X f W s m.o.dst with
  |U u=>U u
  |none=>HS X f W s m.o.dst
 |_=>Z
def HT(X:bF)(o:Oper)(s:S):Option BB:=if !s.bd then Z else match eH X s o with
 |.call (.fn f) W=>HS X f W s o.dst
 |_=>Z
def BC(R:bF)(O:qH)(m:OM)(s:S)(X:S->Fx->T)(P:C->S->T)(W:Fx):T:=
 match BA R m s with
 |U (e,N,M,Q)=>Fj e (λg L=>O (.fn g) (Q++L) s (λv V=>X (V.put m.o.dst v) (pU s W)) P) N M
 |none=>
 match Ds R m s with
 |U u=>.eL u.f u.g u.e u.sp u.st u.r s.rs (X u.s (pU s W))
 |none=>
 match eH R s m.o with
 |.call (.fn g) Q=>O (.fn g) Q s (λv V=>X (V.put m.o.dst v) (pU s W)) P
 |.call (.yl n) Q=>if m.so then O (.yl n) Q s (λv V=>X (V.put m.o.dst v) (pU s W)) P else .stuck ""
 |.bI v=>P v s
 |.no=>.stuck ""
 |.op=>match Bz R m s X W with
  |U t=>t
  |none=>match fj R m.o m.bP m.dr s with
  |U b=>.bi b.bi (.new b.e b.x s.rs b.s.rs (X b.s (pU s W)))
  |none=>match gR R m s with
  |.ok V=>X V W
  |.bi b V=>.bi b (X V W)
  |.split b H G=>Dr s W b (X H) (X G)
  |.no F=>.stuck F
def Tk(R:dQ)(m:OM)(s:S)(X:Fx)(W V:Fx->T):T:=
 match m.o.guard with
 |none=>W X
 |U (j,Q)=>match(R[j]?).bind (·.dst) with
  |U d=>match s.tmps[d]? with
   |U (.bool b)=>if Q then Dr s X b W V else Dr s X b V W
   |U (.bO [])=>V X
   |_=>.stuck ""
  |none=>.stuck ""
def oM(X:bF)(W:qH)(V:dQ)(k:S->T)(R:C->S->T):cZ->S->Fx->T
 |[],s,_=>k s
 |m::Q,s,P=>Tk V m s P (BC X W m s (oM X W V k R Q) R) (oM X W V k R Q (s.put m.o.dst (.bO [])))
def gZ:Op->Bool
 |.alloc _|.box _ _|.buildSlice _ _ _=>J
 |_=>E
def mA(l:pQ):Nat:=(l.filter λo=>gZ o.op).length
def hJ(bP:Nat->Bool)(X W:Bool):Nat->Nat->pQ->cZ
 |_,_,[]=>[]
 |j,n,o::r=>⟨o,n,bP j,j,W,X⟩::hJ bP X W (j+1) (if gZ o.op then n+1 else n) r
def S.room(s:S)(n:Nat):S:={s with ao:=s.ao++eF n Z,lk:=0}
def uU(X:bF)(s:S):od->HA
 |[]=>U []
 |.tmp t::W=>match uU X s W with
  |U l=>if(s.tmps.getD t .any).eX then Z else U (s.tmps.getD t .any::l)
  |none=>Z
 |.cell a t::W=>match uU X s W,s.tmps.getD a .any,X.ty t with
  |U l,.loc i V,U R=>match mz s.ao i with
   |U (_,Q)=>match ya R Q V with
    |U v=>U (v::l)
    |none=>Z
   |none=>Z
  |_,_,_=>Z
def wu(n:Nat):List (Nat×LK)->ap->Option C
 |(t,_)::r,v::X=>if t==n then U v else wu n r X
 |_,_=>Z
def BD(b n:Nat):List (Nat×Nat×LK)->ap->Option C
 |(X,W,_)::r,v::V=>if X==b&&W==n then U v else BD b n r V
 |_,_=>Z
def ajH(l:bG)(x:Nat×Nat×LK):C:=match cz l x.1 with
 |U (_,X)=>X.getD x.2.1 .any
 |none=>.any
def fP.ks(a:fP):aU:=a.tm.map (·.2)++a.cl.map (·.2.2)
def kX(a:fP)(s:S):ap:=a.tm.map (λx=>s.tmps.getD x.1 .any)++a.cl.map (ajH s.ao)
def Tl:LK->C->aq
 |.ah (.own _),.ah (.v k)=>[k]
 |_,_=>[]
def Dt:aU->ap->aq
 |k::X,v::W=>Tl k v++Dt X W
 |_,_=>[]
def HV(a:fP)(s:S):aq:=Dt a.ks (kX a s)
def jF(a:fP)(s:S):bz:=jE (HV a s) 0 s.rs
def zP:bz->bz->Bool
 |[],_=>J
 |x::X,y::W=>(decide (x=.am)||decide (x=y))&&zP X W
 |_::_,[]=>E
def nJ:aq->Bool
 |[]=>J
 |x::X=> !X.contains x&&nJ X
def HW(X:bz)(l:aq):Bool:=nJ l&&l.all λk=>decide (Y X<=k)||decide (X[k]?=U .am)
def BF(a:fP)(X:aq)(W:ap):Nat->ap->ap
 |_,[]=>[]
 |n,x::V=>(wu n a.tm W).getD (if X.contains n then .any else x)::BF a X W (n+1) V
def HX(a:fP)(X:ap)(b:Nat):Nat->ap->ap
 |_,[]=>[]
 |n,x::W=>(BD b n a.cl X).getD x::HX a X b (n+1) W
def uV(a:fP)(X:ap):Nat->bG->bG
 |_,[]=>[]
 |n,Z::W=>Z::uV a X (n+1) W
 |n,U (t,V)::W=>U (t,HX a X n 0 V)::uV a X (n+1) W
def rG(a:fP)(X:aq)(s:S):S:=
 let r:ap×S:=S.cT {s with ax:=s.ax+1,rs:=jF a s} a.ks
 {r.2 with tmps:=BF a X r.1 0 s.tmps,ao:=uV a (r.1.drop (Y a.tm)) 0 s.ao}
def zQ(a:fP)(X:aq):Nat->ap->ap->Bool
 |_,[],[]=>J
 |n,x::W,y::V=>(a.tm.any (·.1==n)||X.contains n||C.aR x y)&&zQ a X (n+1) W V
 |_,_,_=>E
def HY(a:fP)(b:Nat):Nat->ap->ap->Bool
 |_,[],[]=>J
 |n,x::X,y::W=>(a.cl.any (λc=>c.1==b&&c.2.1==n)||C.aR x y)&&HY a b (n+1) X W
 |_,_,_=>E
def tW(a:fP):Nat->bG->bG->Bool
 |_,[],_=>J
 |n,Z::X,_::W=>tW a (n+1) X W
 |n,U x::X,U y::W=>x.1==y.1&&HY a n 0 x.2 y.2&&tW a (n+1) X W
 |_,_,_=>E
def Du(s:S):LK->C->Bool
 |.int k,.int X _=>decide (k=X)
 |.bool,.bool _=>J
 |.ah e,.ah (.v k)=>s.rs[k]?==U e
 |.ah (.sl _),.ah (.k (.slice Z 0 0))=>J
 |.ah (.own _),.ah (.k (.slice Z 0 0))=>J
 |.ah (.mr _),.ah (.k (.slice Z 0 0))=>J
 |_,_=>E
def tX(s:S):aU->ap->Bool
 |[],[]=>J
 |k::X,v::W=>Du s k v&&tX s X W
 |_,_=>E
def HZ:LK->Bool
 |.ah (.own _)=>E
 |_=>J
def qJ:aU->Bool
 |[]=>J
 |k::X=>HZ k&&qJ X
def OG:aU->Bool
 |[]=>E
 |.ah _::_=>J
 |_::X=>OG X
def OH(X:ap)(n:Nat):aq:=if(C.pR X).isEmpty then C.pS X else e8 n
def OI(W:ap)(X:bz):bz:=Dq (OH W (Y X)) 0 X
def Dv(W:ap)(V:aU)(X:bz):bz:=if OG V then kG (OH W (Y X)) 0 X else X
def S.cut(s:S)(X:ap)(W:aU):S:={s with rs:=Dv X W s.rs}
def zR(V:bF)(f:FuncId)(X:ap)(s:S)(k:C->S->T):T:=
 match V.sig f with
 |U R=>match iO V.ty R with
  |U W=>match Bw V.ty R ((s.cut X W).cT W).1 with
   |U l=>if s.fp X&&qJ W then .call f X (wq (sF (C.pR X) 0 s.ao)) (OI X s.rs) W (one l) (k (one l) ((s.cut X W).cT W).2) else .stuck ""
   |none=>.stuck ""
  |none=>.stuck ""
 |none=>.stuck (""++toString f)
def mb(o:Oper):aq:=(o.after.toList.filter λe=>avS .any e).map (·.on)
def pV(X:pQ):aq:=X.foldl (λacc o=>acc++[(mb o).foldl (λl e=>l|||(1<<<e)|||acc.getD e 0) 0]) []
def BG:Op->Bool
 |.load _ _=>J
 |_=>E
def zS:Op->Bool
 |.store _ _ _=>J
 |_=>E
def oh:Op->Bool
 |.call c=>match c.callee with
  |.builtin .len|.builtin .min|.builtin .max=>J
  |_=>E
 |.move _|.assign _|.pick _ _ _|.load _ _|.fieldAddr _ _ _|.field _ _ _|.indexAddr _ _ _|.index _ _ _|.binOp _ _ _ _ _|.unOp _ _ _|.convert _ _ _|.makeInterface _ _|.makeFunc _ _ _|.extract _ _|.nilCheck _|.slice _ _ _ _ _|.build _ _|.lookup _ _ _ _=>J
 |_=>E
def j6(X:dQ)(o:Oper):aq:=o.op.operands.toList.filterMap (λx=>match x with
  |.tmp t=>U t
  |_=>Z)++(match o.guard with
  |U (j,_)=>((X[j]?).bind (·.dst)).toList
  |none=>[])
def Ks:Op->Bool
 |.panic _=>J
 |.call c=>match c.callee with
  |.builtin .panic=>J
  |_=>E
 |_=>E
def Dw:Op->Bool
 |.call c=>match c.callee with
  |.builtin .append=>J
  |_=>E
 |_=>E
def uW:Op->Bool
 |.call c=>match c.callee with
  |.builtin .append=>J
  |_=>E
 |.makeSlice _ _ _=>J
 |_=>E
def looks:Op->Bool
 |.call _|.load _ _|.indexAddr _ _ _|.index _ _ _|.lookup _ _ _ _=>J
 |.binOp X _ _ _ _=>S4 X
 |_=>E
def Tm(X:dQ)(x y:OM):Bool:=
 x.dr&&y.dr&&oh x.o.op&& !Ks y.o.op&&(match x.o.dst with
  |U d=> !(j6 X y.o).contains d&&y.o.dst !=U d&& !(j6 X x.o).contains d
  |none=>E)&&(match y.o.dst with
  |U d=> !(j6 X x.o).contains d
  |none=>J)&&(!(zS y.o.op)|| !(BG x.o.op)||(x.bP&&y.bP))&&(!(Dw y.o.op)|| !(looks x.o.op)||(BG x.o.op&&x.bP&&y.bP))
def yf:Operand->Bool
 |.global _=>E
 |_=>J
def zT:Op->Bool
 |.call c=>match c.callee with
  |.value _=>J
  |_=>E
 |_=>E
def H0:Op->Bool
 |.alloc _=>J
 |_=>E
def Tn(X:dQ)(x y:OM):Bool:=(match x.o.dst with
  |U d=> !(j6 X y.o).contains d&&y.o.dst !=U d
  |none=>J)&&(match y.o.dst with
  |U d=> !(j6 X x.o).contains d
  |none=>J)
def Kt:Op->Bool
 |.call c=>match c.callee with
  |.value (.func _)=>c.args.toList.isEmpty
  |_=>E
 |_=>E
def To(X:dQ):Bool:=(e8 X.size).all λi=>(e8 X.size).all λj=>match X[i]?,X[j]? with
 |U x,U y=> !(zT x.op)|| !(gZ y.op||uW y.op)||((pV X.toList).getD i 0).testBit j||((pV X.toList).getD j 0).testBit i||(Kt x.op&&H0 y.op)
 |_,_=>J
def Ku(X:dQ)(x y:OM):Bool:=
 x.dr&&y.dr&&H0 y.o.op&&y.o.guard.isNone&&(gZ x.o.op||uW x.o.op||zT x.o.op)&&(!gZ x.o.op||x.ix !=y.ix)&&x.o.op.operands.toList.all yf&&Tn X x y&&(!zT x.o.op|| !To X||Kt x.o.op)
def Fk:Op->Bool
 |.move _|.assign _|.fieldAddr _ _ _=>J
 |_=>E
def OJ(X:dQ)(x y:OM):Bool:=
 x.dr&&y.dr&&gZ x.o.op&& !H0 x.o.op&&x.o.guard.isNone&&x.o.op.operands.toList.all yf&&y.o.op.operands.toList.all yf&&(gZ y.o.op||uW y.o.op||zT y.o.op||Fk y.o.op||zS y.o.op)&&(!gZ y.o.op||x.ix !=y.ix)&&Tn X x y&&(!zT y.o.op|| !To X)
def uX(X:dQ)(x y:OM):Bool:= !x.so&& !y.so&&(Tm X x y||Ku X x y||OJ X x y)
def OK(X:pQ):Nat->aq->aq
 |0,acc=>acc
 |n+1,acc=>
  let W:=(e8 (Y X)).filter λi=> !acc.contains i&&(match X[i]? with
   |U o=>(mb o).all acc.contains
   |none=>E)
  match W.find? λi=>match X[i]? with
   |U o=>oh o.op
   |none=>E with
  |U i=>OK X n (acc++[i])
  |none=>match(W.find? λi=>match X[i]? with
   |U o=>gZ o.op&& !H0 o.op
   |none=>E).or (W.find? λi=>match X[i]? with
   |U o=> !H0 o.op
   |none=>E) with
   |U i=>OK X n (acc++[i])
   |none=>match W with
   |i::_=>OK X n (acc++[i])
   |[]=>acc
def Fl(X:dQ)(W:aq):cZ->Bool
 |[]=>J
 |x::r=>(r.all λy=>(W.getD y.j 0).testBit x.j||uX X x y)&&Fl X W r
def Fm(X:dQ):aq->cZ->Bool
 |_,[]=>J
 |done,x::r=>(match X[x.j]? with
  |U o=>(mb o).all done.contains
  |none=>E)&&Fm X (x.j::done) r
def Tp(X:pQ)(W:aq):Bool:=(e8 (Y X)).all λj=>match X[j]? with
 |U o=>(mb o).all (λe=>decide (e<j))&&(e8 (Y X)).all λi=> !(W.getD j 0).testBit i||(mb o).contains i||(mb o).any λe=>(W.getD e 0).testBit i
 |none=>E
def OL(X:pQ)(W:aq)(j:Nat):Bool:=match X[j]? with
 |U o=>(BG o.op&&(e8 (Y X)).any λi=>(match X[i]? with
   |U q=>zS q.op||Dw q.op
   |none=>E)&& !(W.getD i 0).testBit j&& !(W.getD j 0).testBit i)||
  ((zS o.op||Dw o.op)&&(e8 (Y X)).any λi=>(match X[i]? with
   |U q=>BG q.op
   |none=>E)&& !(W.getD i 0).testBit j&& !(W.getD j 0).testBit i)
 |none=>E
def BH(X:aq):cZ->Bool
 |[]=>J
 |x::r=>(r.all λy=>(X.getD y.j 0).testBit x.j)&&BH X r
def av0:Op->Bool
 |.call c=>match c.callee with
  |.value (.tmp _)=>J
  |_=>E
 |_=>E
def uY(X:aq):cZ->cZ->cZ
 |_,[]=>[]
 |W,m::r=>{m with so:=av0 m.o.op&&BH X (m::r)&&W.all (λx=>(X.getD m.j 0).testBit x.j)}::uY X (W++[m]) r
def tY(X:aq):Nat->ap->ap
 |_,[]=>[]
 |n,x::W=>(if X.contains n then .any else x)::tY X (n+1) W
def S.plus(s:S)(X:bG):S:={s with ao:=s.ao++X}
abbrev yg:=FuncId->ap->S->Option (C×bG)
def zU(W:bF)(V:yg)(R:YH):qH
 |.fn f,X,s,k,_=>match V f X s with
  |U (v,Q)=>if s.bd then k v (s.plus Q) else .stuck ""
  |none=>zR W f X s k
 |.yl n,X,s,k,P=>R n X s k P
def Kv(l:cZ)(X:aq):cZ:=X.filterMap λi=>l[i]?
def Fo(l:pQ):aq:=l.filterMap (·.dst)
def Kw(X:dQ)(n:Nat):Option cZ:=
 let V:=pV X.toList;let W:=uY V [] (Kv (hJ (OL X.toList V) E J 0 n X.toList) (OK X.toList X.size []))
 if Tp X.toList V&&Fm X [] W&&Fl X V W&&nJ (W.filterMap (·.o.dst))&&nJ (W.map (·.j))&&nJ ((W.filter λm=>gZ m.o.op).map (·.ix))&&Y W==X.size&&(e8 X.size).all (λi=>W.any λm=>m.j==i) then U W else Z
def H3(X:bF)(t:TypeId):Bool:=(X.ty t).isSome&& !rz t
def Kx(X:bF):pQ->Bool
 |[]=>J
 |o::r=>(match o.op with
  |.alloc t=>H3 X t
  |_=>J)&&Kx X r
def ajI(s:S)(X:aq):aq:=X.filter λd=>match s.tmps[d]? with
 |U w=> !(w.bd s.ni s.nb (Y s.rs) (aP s.ao))
 |none=>J
def S.BJ(s:S)(X:dQ)(W:cZ):S:={s.room (mA X.toList) with tmps:=tY (ajI s (Fo (W.dropLast.map (·.o)))) 0 s.tmps}
def Tq(X:S->T)(k:XE->S->T):XE->S->T
 |.normal,s=>X s
 |e,s=>k e s
def aaf(id:Nat)(k:XE->S->T):XE->S->T
 |.exit j,s=>if j==id then k .normal s else k (.exit j) s
 |e,s=>k e s
def Ky(W:bF)(s:S)(V:od)(k R:C->S->T):XE->S->T
 |.normal,X=>match uU W X V with
  |U l=>k (one l) {X with tmps:=s.tmps}
  |none=>.stuck ""
 |.ret,X=>match uU W X V with
  |U l=>k (one l) {X with tmps:=s.tmps}
  |none=>.stuck ""
 |.bI v,X=>R v {X with tmps:=s.tmps}
 |.exit _,_=>.stuck ""
def kJ(W:bF)(R:FuncId->Code->S->(XE->S->T)->T)(Q:YH):qH
 |.fn f,X,s,k,V=>match W.inl f with
  |U (c,P,O)=>if s.fp X then R f c {s with tmps:=X++eF (P-Y X) (.bO [])} (Ky W s O k V) else .stuck ""
  |none=>zR W f X s k
 |.yl n,X,s,k,V=>Q n X s k V
def aag(b:Bool)(R:bF)(V:qH):qH
 |.fn f,X,s,k,W=>if b then zR R f X s k else V (.fn f) X s k W
 |.yl n,X,s,k,W=>V (.yl n) X s k W
def av1:T:=.gQ (.c E) (.c E) (.stuck "") (.stuck "")
def aah:T->Bool
 |.gQ (.c E) (.c E) _ _=>J
 |_=>E
mutual
def C.BK:C->Bool
 |.agg l=>C.yi l
 |.bO l=>C.yi l
 |.fn _ l=>C.yi l
 |.ik _ x=>C.BK x
 |.yl _=>E
 |.gz _ _ X=>C.yi X
 |_=>J
def C.yi:ap->Bool
 |[]=>J
 |x::X=>C.BK x&&C.yi X
end
def Fp:bG->Bool
 |[]=>J
 |Z::X=>Fp X
 |U x::X=>C.yi x.2&&Fp X
def nK:bG->bG->Bool
 |[],[]=>J
 |Z::X,Z::W=>nK X W
 |U x::X,U y::W=>x.1==y.1&&C.rD x.2 y.2&&nK X W
 |_,_=>E
def oN(W:ap)(X:bG):bG:=if W.isEmpty then X.map (λ_=>Z) else X
def uZ(X:ap)(s:S):S:=⟨[],oN X s.ao,s.ni,s.nb,s.rs.map RK.rd,0,0,[]⟩
def ajJ(W V X:S):Bool:=nK X.ao V.ao&&X.ni==W.ni&&X.nb==W.nb&&decide (X.rs=W.rs)
def Kz(V:bF)(R:FuncId->Code->S->(XE->S->T)->T)(g:FuncId)(W:ap)(s:S):Option (C×bG):=
 match kJ V R jg (.fn g) W (uZ W s) (λv X=>.out .normal {X with tmps:=[v]}) (λ_ _=>.stuck "") with
 |.out .normal X=>match X.tmps with
  |[v]=>if C.yi W&&Fp (oN W s.ao)&&v.BK&&Fp X.ao&&nK (X.ao.take (Y s.ao)) (oN W s.ao)&&v.bd s.ni s.nb (Y s.rs) (aP X.ao)&&C.rF s.ni s.nb (Y s.rs) (aP X.ao) X.ao&&aah (kJ V R jg (.fn g) W (uZ W s) (λQ P=>if Q.aR v&&ajJ (uZ W s) X P then av1 else .stuck "") (λ_ _=>.stuck "")) then U (v,X.ao.drop (Y s.ao)) else Z
  |_=>Z
 |_=>Z
def Fq(X:bF)(W:dQ)(V:FuncId->Code->S->(XE->S->T)->T):yg:=λg R s=>if To W&&(X.inl g).isSome then Kz X V g R s else Z
def aai:Op->Bool
 |.pick _ _ _=>J
 |_=>E
def ajK:Op->Bool
 |.buildSlice _ _ _=>J
 |_=>E
def ON:Op->Bool
 |.buildSlice _ _ _|.alloc _|.box _ _|.store _ _ _=>J
 |_=>E
def BL(X:bF)(s:S)(o:Oper):Option (BE×C):=
 if(o.op.operands.toList.any λx=>(s.ev X.gl x).eX)||aai o.op then Z else match cH X.ty X.gl s o.op with
 |.ok v=>U (.c J,v)
 |.bi b v=>if b.bd s.ni s.nb (Y s.rs) then U (b,v) else Z
 |.no _=>Z
def BE.isT:BE->Bool
 |.c b=>b
 |_=>E
def Fs(X:bF):cZ->S->Option (S×List BE)
 |[],s=>U (s,[])
 |q::r,s=>match BL X s q.o with
  |U (b,v)=>(Fs X r (s.put q.o.dst v)).map λx=>(x.1,if b.isT then x.2 else b::x.2)
  |none=>Z
def aak(X:bF)(mW:List BE)(s:S)(W:cZ):Bool:=W.all λq=>match q.o.dst,BL X s q.o with
 |U d,U (b,v)=>(match s.tmps[d]? with
  |U w=>v.aR w&&(b.isT||mW.any λx=>x.aR b)
  |none=>E)
 |_,_=>E
def Ts:List BE->T->T
 |[],t=>t
 |b::r,t=>.bi b (Ts r t)
def S.bN(s:S)(X:aq):S:={s with tmps:=tY X 0 s.tmps}
def KC{X:Type}:List X->List (X×List X)
 |[]=>[]
 |x::r=>(x,r)::(KC r).map λy=>(y.1,x::y.2)
def aal(X:aq)(x:OM×cZ):Bool:=x.2.all λy=> !(X.getD x.1.j 0).testBit y.j
def KD:xW->xW->Bool
 |[],[]=>J
 |x::X,y::W=>C.rD x y&&KD X W
 |_,_=>E
def LE.aR:LE->LE->Bool
 |.ah r,.ah Q=>r.aR Q
 |.lit l,.lit P=>KD l P
 |.kq a b,.kq X O=>LE.aR a X&&LE.aR b O
 |.tR n N,.tR W M=>n.aR W&&C.rD N M
 |.set a i L V,.set X H G R=>LE.aR a X&&i.aR H&&L==G&&C.rD V R
 |.sub a F D,.sub X B A=>LE.aR a X&&F.aR B&&D.aR A
 |.ins a n V,.ins X W R=>LE.aR a X&&n==W&&C.rD V R
 |_,_=>E
def S.aR(s X:S):Bool:=C.rD s.tmps X.tmps&&nK s.ao X.ao&&s.ni==X.ni&&s.nb==X.nb&&decide (s.rs=X.rs)&&s.ax==X.ax&&s.lk==X.lk&&decide (s.pd=X.pd)
def T.aR:T->T->Bool
 |.ret v P W,.ret O N V=>v.aR O&&nK P N&&decide (W=V)
 |.bI v,.bI O=>v.aR O
 |.aV b t f,.aV M X R=>b.aR M&&T.aR t X&&T.aR f R
 |.bi b t,.bi M X=>b.aR M&&T.aR t X
 |.call f B P W L jM t,.call R A N V H z X=>f==R&&C.rD B A&&nK P N&&decide (W=V)&&decide (L=H)&&jM.aR z&&T.aR t X
 |.loop ax L y t,.loop G H w X=>ax==G&&decide (L=H)&&C.rD y w&&T.aR t X
 |.back ax x,.back G Q=>ax==G&&C.rD x Q
 |.new e x W u t,.new r Q V q X=>e==r&&LE.aR x Q&&decide (W=V)&&decide (u=q)&&T.aR t X
 |.ac k x W t,.ac p Q V X=>decide (k=p)&&LE.aR x Q&&decide (W=V)&&T.aR t X
 |.gQ g h t f,.gQ F D X R=>g.aR F&&h.aR D&&T.aR t X&&T.aR f R
 |.pick n g h t f,.pick o F D X R=>n.aR o&&g.aR F&&h.aR D&&T.aR t X&&T.aR f R
 |.out .normal s,.out .normal m=>S.aR s m
 |_,_=>E
def H4:List T->List T
 |[]=>[]
 |t::X=>if X.any (T.aR t) then H4 X else t::H4 X
def Dx:List T->T
 |[]=>.stuck ""
 |[t]=>t
 |t::X=>.gQ (.c J) (.c J) t (Dx X)
def KE:Op->Bool
 |.call c=>match c.callee with
  |.builtin .append=>J
  |_=>E
 |.makeSlice _ _ _|.buildSlice _ _ _|.slice _ _ _ _ _|.store _ _ _=>J
 |_=>E
def av2:Op->Bool
 |.mapUpdate _ _ _ _=>J
 |_=>E
def Dy(X:bF)(o:Oper)(s:S):Option MR:=match o.op with
 |.mapUpdate t x y z=>if o.op.operands.toList.any λx=>(s.ev X.gl x).eX then Z else Fi X o.dst s t (s.ev X.gl x) (s.ev X.gl y) (s.ev X.gl z)
 |_=>Z
def Ft(V:bF)(P:qH)(R:aq)(O:C->S->T)(m:OM)(W:S->T)(s:S):T:=match HT V m.o s with
 |U u=>.eL u.f u.g u.e u.sp u.st u.r s.rs (W u.s)
 |none=>match eH V s m.o with
  |.call (.fn g) Q=>P (.fn g) Q s (λv X=>W (X.put m.o.dst v)) (λv X=>O v (X.bN R))
  |.call (.yl n) Q=>P (.yl n) Q (s.bN R) (λv X=>W (X.put m.o.dst v)) (λv X=>O v (X.bN R))
  |.op=>match(if KE m.o.op then fj V m.o m.bP E s else Z) with
   |U b=>.bi b.bi (.new b.e b.x s.rs b.s.rs (W b.s))
   |none=>match Dy V m.o s with
    |U (.ok X)=>W X
    |U (.ac k x X)=>.ac k x s.rs (W X)
    |none=>if oh m.o.op then(match BL V s m.o with
     |U (b,v)=>.bi b (W (s.put m.o.dst v))
     |none=>.stuck "") else
    if ON m.o.op then(match gR V m s with
     |.ok X=>W X
     |_=>.stuck "") else .stuck ""
  |_=>.stuck ""
def KF(X:aq)(m:OM)(W:cZ):cZ:=W.filter λq=> !(X.getD m.j 0).testBit q.j
def pW(X:bF)(R:qH)(W:aq)(mW:List BE)(V:cZ)(Q:aq)(k:S->T)(P:C->S->T):Nat->cZ->S->T
 |_,[],s=>if aak X mW s V then k s else .stuck ""
 |0,_::_,_=>.stuck ""
 |n+1,m::r,s=>if !aak X mW s V then .stuck "" else Dx (H4 (((KC (m::r)).filter (aal W)).map λx=>Ft X R Q P x.1 (λO=>pW X R W mW (KF W x.1 V) Q k P n x.2 O) s))
def T.nL(k:S->T)(X:C->S->T):T->T
 |.out .normal s=>k s
 |.out (.bI v) s=>X v s
 |.aV b t f=>.aV b (t.nL k X) (f.nL k X)
 |.bi b t=>.bi b (t.nL k X)
 |.call f a V W R jM t=>.call f a V W R jM (t.nL k X)
 |.new e x W Q t=>.new e x W Q (t.nL k X)
 |.ac e x W t=>.ac e x W (t.nL k X)
 |.eL f g e P O r W t=>.eL f g e P O r W (t.nL k X)
 |.gQ g h t f=>.gQ g h (t.nL k X) (f.nL k X)
 |t=>t
def OO(X:bF):qH
 |.fn g,W,s,k,_=>if(X.inl g).isNone then zR X g W s k else .stuck ""
 |_,_,_,_,_=>.stuck ""
def av3:Op->Bool
 |.slice _ _ _ _ _=>J
 |_=>E
def av4:Op->Bool
 |.indexAddr .. =>J
 |_=>E
def av5:Op->Bool
 |.store _ _ _=>J
 |_=>E
def Tt(W:Bool)(X:dQ):aq:=(e8 X.size).foldl (λacc i=>match X[i]? with
 |U o=>if oh o.op&&(W|| !av3 o.op)&& !(av4 o.op&&(e8 i).any λj=>match X[j]? with
   |U x=>av5 x.op
   |none=>E)&&((e8 X.size).all λj=>match(X[j]?).bind (·.dst) with
   |U d=> !(j6 X o).contains d||acc.contains j
   |none=>J) then acc++[i] else acc
 |none=>acc) []
structure OP where
 qs:cZ
 ch:cZ
 s:S
 mW:List BE
def aam(X:bF)(s:S)(W:pQ):Bool:=W.any λo=>match o.op with
 |.call c=>(match c.callee with
  |.value (.func g)=>(X.inl g).isSome
  |.value (.tmp t)=>(Fo W).contains t||(match s.tmps[t]? with
   |U (.fn g _)=>(X.inl g).isSome
   |_=>E)
  |_=>E)
 |_=>E
def aan(X:dQ)(Q:aq)(W V R:cZ):Bool:=
 Tp X.toList Q&&W.all (λm=>m.o.guard.isNone&& !m.bP)&&nJ (W.filterMap (·.o.dst))&&
 W.all (λm=>W.all λx=>match x.o.dst with
  |U d=> !(j6 X m.o).contains d||(Q.getD m.j 0).testBit x.j
  |none=>J)&&V.all (λq=>oh q.o.op&&q.o.dst.isSome)&&(e8 X.size).all (λi=>(V++R).any λm=>m.j==i)&&(V++R).length==X.size&&nJ ((V++R).map (·.j))&&
 R.all (λm=>oh m.o.op||ON m.o.op||KE m.o.op||av2 m.o.op||(match m.o.op with
  |.call _=>J
  |_=>E))
def Dz(W:Bool)(X:dQ)(n:Nat):cZ:=(hJ (λ_=>E) E J 0 n X.toList).filter λm=>(Tt W X).contains m.j
def DA(W:Bool)(X:dQ)(n:Nat):cZ:=(hJ (λ_=>E) E J 0 n X.toList).filter λm=> !(Tt W X).contains m.j
def KG(W:Bool)(X:dQ)(n:Nat):Bool:=aan X (pV X.toList) (hJ (λ_=>E) E J 0 n X.toList) (Dz W X n) (DA W X n)
def av6:CK->Bool
 |.call (.yl _) _=>J
 |_=>E
def chI(W:bF)(V X:cZ)(x:S×List BE):Option OP:=if X.any λm=>av6 (eH W x.1 m.o) then Z else U ⟨V,X,x.1,x.2⟩
def KH(V:bF)(W:Bool)(X:dQ)(s:S):Option OP:=
 if(!W||(aam V s X.toList||(V.ma&&X.toList.any λo=>ajK o.op))&&BH (pV X.toList) (DA W X (Y s.ao)))&&KG W X (Y s.ao) then(Fs V (Dz W X (Y s.ao)) (s.room (mA X.toList))).bind (chI V (Dz W X (Y s.ao)) (DA W X (Y s.ao))) else Z
def ajL(X:fP)(s W:S):String:= ""
def Tu(W:fP)(V:aq)(s:S)(k:XE->S->T):XE->S->T
 |.normal,X=>if zQ W V 0 s.tmps X.tmps&&tW W 0 s.ao X.ao&&tX X W.ks (kX W X)&&zP (jF W s) X.rs&&HW (jF W s) (HV W X)&&decide (X.pd=s.pd) then .back s.ax (kX W X) else .stuck (ajL W s X)
 |e,X=>k e X
mutual
def C.yj(n:Nat):C->Bool
 |.agg l=>C.pX n l
 |.bO l=>C.pX n l
 |.fn _ l=>C.pX n l
 |.ik _ x=>C.yj n x
 |.yl m=>decide (n<=m)
 |.gz _ _ X=>C.pX n X
 |_=>E
def C.pX(n:Nat):ap->Bool
 |[]=>E
 |x::X=>C.yj n x||C.pX n X
end
def yk(n:Nat):bG->Bool
 |[]=>E
 |Z::X=>yk n X
 |U x::X=>C.pX n x.2||yk n X
def S.yj(s:S)(n:Nat):Bool:=C.pX n s.tmps||yk n s.ao
def H5:aq->ap->ap->ap
 |p::X,v::W,l=>H5 X W (l.set p v)
 |_,_,l=>l
def oj(n:Nat):Nat->bG->bG
 |_,[]=>[]
 |k+1,x::X=>x::oj n k X
 |0,Z::X=>Z::oj n 0 X
 |0,U x::X=>(if C.pX n x.2 then Z else U x)::oj n 0 X
def S.u0(s X:S):S:={X with tmps:=s.tmps,ao:=oj (Y s.pd) (Y s.ao) X.ao,pd:=X.pd.take (Y s.pd)}
def H6(s:S)(k:XE->S->T):XE->S->T
 |.bI v,X=>if v.yj (Y s.pd)||yk (Y s.pd) (s.u0 X).ao then .stuck "" else k (.bI v) (s.u0 X)
 |.exit _,_=>.stuck ""
 |_,X=>if yk (Y s.pd) (s.u0 X).ao then .stuck "" else match X.pd[Y s.pd]? with
  |U .ready=>k .normal (s.u0 X)
  |U (.done .ret)=>k .ret (s.u0 X)
  |U (.done (.exit id))=>k (.exit id) (s.u0 X)
  |_=>.stuck ""
def ku:Code->Bool
 |.seq a b=>ku a||ku b
 |.cond _ a b=>ku a||ku b
 |.block _ c=>ku c
 |.loop c=>ku c
 |.scope c=>ku c
 |.rangeFunc _ _ _ _=>J
 |_=>E
def Tv(n:Nat)(W:S)(k V:C->S->T):XE->S->T
 |.normal,X=>k (.bool (.c J)) {X with tmps:=W.tmps,pd:=X.pd.set n .ready}
 |.ret,X=>k (.bool (.c E)) {X with tmps:=W.tmps,pd:=X.pd.set n (.done .ret)}
 |.exit id,X=>k (.bool (.c E)) {X with tmps:=W.tmps,pd:=X.pd.set n (.done (.exit id))}
 |.bI v,X=>V v {X with tmps:=W.tmps}
def OQ(n:Nat)(k:S->T):XE->S->T
 |.normal,X=>if decide (X.pd[n]?=U .ready) then k X else .stuck ""
 |_,_=>.stuck ""
def KI(s:S)(W:Nat)(X:ap):S:={s with tmps:=(.yl (Y s.pd)::X)++eF (W-(C.yl (Y s.pd)::X).length) (.bO []),pd:=s.pd++[.ready]}
def OS(n V:Nat)(R:ap->S->(C->S->T)->(C->S->T)->T):YH:=λm X W Q P=>
 if m==n&&decide (W.pd[n]?=U .ready)&&Y X==V&&W.fp X then R X W Q P else .stuck ""
def DB(X s:S)(W:aq)(V:ap):S:={X with tmps:=H5 W V s.tmps}
def S.DC(s:S)(n:Nat)(x:HB):S:={s with pd:=s.pd.set n x}
def ajM(X:fP)(W:aq)(s:S):String:= ""
def fP.at(a:fP)(s:S):fP:=⟨a.tm,a.cl.filterMap λx=>match cz s.ao (x.1%1000) with
 |U (t,X)=>(match X[x.2.1]? with
  |U v=>if Du s x.2.2 v&&(!rz t||(match x.2.2 with
   |.ah _=>J
   |_=>E))&&(x.1/1000==0||decide (Y s.ao<=x.1/1000)) then U (x.1%1000,x.2) else Z
  |none=>Z)
 |none=>Z⟩
def ajN:ap->Option (K×bA)
 |[]=>Z
 |.gz e X _::_=>U (e,X)
 |_::r=>ajN r
def Tw:bG->Option (K×bA)
 |[]=>Z
 |U x::r=>match ajN x.2 with
  |U y=>U y
  |none=>Tw r
 |Z::r=>Tw r
def H7(k:Int):bA->ap->Option C
 |X::W,.fn f l::V=>if k=X then U (.fn f l) else H7 k W V
 |X::W,.ah (.k .nilFunc)::V=>if k=X then U (.ah (.k .nilFunc)) else H7 k W V
 |_,_=>Z
def OT(e:K)(k:Int):Nat->BE->BE
 |0,b=>b
 |n+1,.eB (.cmp .eql X (.c W)) x y=>if K.aR e X then(if k=W then OT e k n x else OT e k n y) else .eB (.cmp .eql X (.c W)) x y
 |_,b=>b
def OU(e:K)(k:Int):Nat->K->K
 |0,b=>b
 |n+1,.eB (.cmp .eql X (.c W)) x y=>if K.aR e X then(if k=W then OU e k n x else OU e k n y) else .eB (.cmp .eql X (.c W)) x y
 |_,b=>b
def aap(e:K)(k:Int):C->C
 |.bool b=>.bool (OT e k 20 b)
 |.int t b=>.int t (OU e k 20 b)
 |.gz X W V=>if K.aR e X then(match H7 k W V with
  |U v=>v
  |none=>.gz X W V) else .gz X W V
 |v=>v
def Tx(e:K)(V:bA):C->C
 |.gz X W R=>if K.aR e X&&W.all V.contains then .ah (.k .nilFunc) else .gz X W R
 |v=>v
def H8(f:C->C)(l:bG):bG:=l.map λx=>match x with
 |U y=>U (y.1,y.2.map f)
 |none=>Z
def S.fix(f:C->C)(s:S):S:={s with ao:=H8 f s.ao}
def KJ(e:K)(gQ:Int->S)(ae:T)(g:S->T):bA->T
 |[]=>ae
 |k::X=>.aV (.cmp .eql e (.c k)) (g (gQ k)) (KJ e gQ ae g X)
def aaq(e:K)(v:Int):C->C
 |.int k x=>if K.aR e x then .int k (.c v) else .int k x
 |y=>y
def Tz(V:bF)(R id:Nat)(s:S):Option (K×bA×(Int->S)×Option S):=match V.frk R id with
 |U .box=>match Tw s.ao with
  |U (e,X)=>U (e,X,λk=>s.fix (aap e k),match Tw (H8 (Tx e X) s.ao) with
   |none=>U (s.fix (Tx e X))
   |U _=>Z)
  |none=>Z
 |U (.slot t W)=>match ZW s.tmps t with
  |.int _ (.c _)=>Z
  |.int k e=>U (e,W,λv=>{s with tmps:=s.tmps.set t (.int k (.c v))},Z)
  |_=>Z
 |U (.cell b j W)=>match cz s.ao b with
  |U (_,Q)=>match Q.getD j .any with
   |.int _ (.c _)=>Z
   |.int _ e=>U (e,W,λv=>s.fix (aaq e v),Z)
   |_=>Z
  |none=>Z
 |none=>Z
def aar(g:S->T):Option S->T
 |U s=>g s
 |none=>.stuck ""
def OV(W:bF)(V:qH)(X:dQ)(k:XE->S->T)(c:OP):T:=Ts c.mW (if BH (pV X.toList) c.ch||aam W c.s X.toList then pW W V (pV X.toList) c.mW c.qs (Fo X.toList) (k .normal) (λv=>k (.bI v)) (Y c.ch) c.ch c.s
 else(pW W (OO W) (pV X.toList) c.mW c.qs (Fo X.toList) (.out .normal) (λv=>.out (.bI v)) (Y c.ch) c.ch c.s).nL (k .normal) λv=>k (.bI v))
def aas(X:fP)(s:S):aq:=(X.tm.filterMap λx=>match x.2,s.tmps[x.1]? with
 |.ah (.sl e),U (.ah (.v k))=>if s.rs[k]?=U (.own e) then U k else Z
 |_,_=>Z)++X.cl.filterMap λx=>match x.2.2,cz s.ao (x.1%1000) with
 |.ah (.sl e),U (_,W)=>(match W[x.2.1]? with
  |U (.ah (.v k))=>if s.rs[k]?=U (.own e) then U k else Z
  |_=>Z)
 |_,_=>Z
def S.dv(X:fP)(s:S):S:={s with rs:=kG (aas X s) 0 s.rs}
def gp(X:bF):Nat->FuncId->Code->S->YH->(XE->S->T)->T
 |0,_,_,_,_,_=>.stuck ""
 |n+1,V,c,s,W,k=>
  match c with
  |.skip=>k .normal s
  |.label _=>k .normal s
  |.ret=>k .ret s
  |.exit id=>k (.exit id) s
  |.seq a b=>gp X n V a s W (Tq (λP=>gp X n V b P W k) k)
  |.block id a=>gp X n V a s W (aaf id k)
  |.scope a=>gp X n V a s W k
  |.cond c a b=>match s.ev X.gl c with
   |.bool (.c J)=>gp X n V a s W k
   |.bool (.c E)=>gp X n V b s W k
   |.bool x=>match c with
    |.tmp t=>.aV x (gp X n V a {s with tmps:=s.tmps.set t (.bool (.c J))} W k) (gp X n V b {s with tmps:=s.tmps.set t (.bool (.c E))} W k)
    |_=>.stuck ""
   |_=>.stuck ""
  |.region id R O=>match Tz X V id s with
   |U (e,G,gQ,ae)=>KJ e gQ (aar (λP=>gp X n V (.region id R O) P W k) ae) (λP=>gp X n V (.region id R O) P W k) G
   |none=>if O then
    match KH X (!X.Oy V id) R s with
    |U c=>OV X (kJ X (λf c s k=>gp X n f c s W k) W) R k c
    |none=>match Kw R (Y s.ao) with
    |U M=>if !Kx X R.toList then .stuck "" else oM X (zU X (Fq X R λf c s k=>gp X n f c s jg k) W) R (k .normal) (λv=>k (.bI v)) M (s.BJ R M) []
    |none=>match KH X E R s with
     |U c=>OV X (kJ X (λf c s k=>gp X n f c s W k) W) R k c
     |none=>.stuck ""
   else
   oM X (aag (X.Oy V (id+1000000)) X (kJ X (λf c s k=>gp X n f c s W k) W)) R (k .normal) (λv=>k (.bI v)) (hJ (λ_=>E) J E 0 (Y s.ao) R.toList) (s.room (mA R.toList)) []
  |.loop a=>match(Code.first a).map (X.loop V) with
   |U (.inv Q)=>
    if !(aas Q s).isEmpty then gp X n V (.loop a) (s.dv Q) W k else
    if !s.bd|| !tX s (Q.at s).ks (kX (Q.at s) s)|| !zQ (Q.at s) (Code.o9 a) 0 s.tmps s.tmps|| !tW (Q.at s) 0 s.ao s.ao|| !zP (jF (Q.at s) s) s.rs|| !HW (jF (Q.at s) s) (HV (Q.at s) s) then .stuck (ajM (Q.at s) (Code.o9 a) s) else
    .loop s.ax (Q.at s).ks (kX (Q.at s) s) (gp X n V a (rG (Q.at s) (Code.o9 a) s) W (Tu (Q.at s) (Code.o9 a) s k))
   |_=>gp X n V a s W (Tq (λP=>gp X n V (.loop a) P W k) k)
  |.rangeFunc f L assign body=>match s.ev X.gl f with
   |.fn g N=>match X.inl g with
    |U (c,F,[])=>
     if !s.fp N||s.yj (Y s.pd)||C.pX (Y s.pd) N||ku assign||ku body then .stuck "" else
     gp X n g c (KI s F N)
      (OS (Y s.pd) L.size λD H B A=>
       gp X n V assign (DB H s L.toList D) jg (OQ (Y s.pd) λz=>
        gp X n V body (z.DC (Y s.pd) .busy) W (Tv (Y s.pd) H B A))) (H6 s k)
    |_=>.stuck ""
   |_=>.stuck ""
  |_=>.stuck ""
def KK{X:Type}(f:C->bz->(C->bz->X)->X):ap->bz->(ap->bz->X)->X
 |[],W,k=>k [] W
 |x::V,W,k=>f x W λR Q=>KK f V Q λP O=>k (R::P) O
def S.dW(X:bz):S:=⟨[],[],0,0,X,0,0,[]⟩
def KL(R:bF)(P:bG):Nat->C->bz->(C->bz->T)->T
 |0,_,_,_=>.stuck ""
 |n+1,.jp i N Q M,X,k=>match mz P i with
  |U (e,L)=>match R.ty e with
   |U V=>KK (KL R P n) L X λO W=>if og R.ty (.dW W) V.aj (jQ (Y V.aj) Q O)&&Y O==Q*Y V.aj&&N==0&&decide (Q<=M)&&Y V.aj !=0 then .new e (.lit (jQ (Y V.aj) Q O)) W (W++[.sl e]) (k (.ah (.v (Y W))) (W++[.sl e])) else .stuck ""
   |none=>.stuck ""
  |none=>.stuck ""
 |n+1,.agg l,X,k=>KK (KL R P n) l X λH W=>k (.agg H) W
 |_+1,.int q e,X,k=>k (.int q e) X
 |_+1,.bool e,X,k=>k (.bool e) X
 |_+1,.ah r,X,k=>k (.ah r) X
 |_+1,_,_,_=>.stuck ""
mutual
def C.av7:C->Bool
 |.jp _ _ _ _=>J
 |.agg l=>C.aat l
 |_=>E
def C.aat:ap->Bool
 |[]=>E
 |x::X=>C.av7 x||C.aat X
end
def OW(V:bF)(W:Nat)(l:ap)(X:S):T:=if W==0&&C.aat l&&X.bd&&C.eo X.ni X.nb (Y X.rs) (aP X.ao) l then KK (KL V X.ao 9) l (X.rs.map RK.rd) λR Q=>.ret (one R) [] Q else .ret (one l) (wq (X.ao.take W)) (X.rs.map RK.rd)
def TA(W:bF)(V:Nat)(R:od):XE->S->T
 |.normal,X=>match uU W X R with
  |U l=>OW W V l X
  |none=>.stuck ""
 |.ret,X=>match uU W X R with
  |U l=>OW W V l X
  |none=>.stuck ""
 |.bI v,_=>.bI v
 |.exit _,_=>.stuck ""
def OX(X:bF)(n:Nat)(V:FuncId)(c:Code)(R:Nat)(Q:od)(W:ap)(s:S):T:=
 gp X n V c {s with tmps:=W++eF (R-Y W) (.bO [])} jg (TA X (Y s.ao) Q)
structure DI where
 tZ:dQ
 rest:Code
 g:FuncId
 te:Nat
 tf:Nat
def ajO(tZ:dQ)(Q:Code):pQ->Option DI
 |[X,W]=>match X.op,X.dst,X.guard,W.op,W.guard,W.dst with
  |.makeFunc (.func g) first P,U V,Z,.defer R,Z,Z=>match first.toList,P.toList,R.callee,R.args.toList with
   |[],[.tmp O],.value (.tmp N),[]=>if V==N then U ⟨tZ,Q,g,O,V⟩ else Z
   |_,_,_,_=>Z
  |_,_,_,_,_,_=>Z
 |_=>Z
def zV:Code->Option DI
 |.seq (.region _ tZ E) (.seq (.region _ X E) W)=>ajO tZ W X.toList
 |_=>Z
def t6(W:bF)(V:Nat)(R:od)(X:S):T:=match uU W X R with
 |U l=>.ret (one l) (wq (X.ao.take V)) (X.rs.map RK.rd)
 |none=>.stuck ""
def aau(W:bF)(V:Nat)(R:TypeId)(P:Nat)(Q:od):XE->S->T
 |.normal,X=>t6 W V Q X
 |.ret,X=>t6 W V Q X
 |.bI v,X=>match v with
  |.ik t (.int I x)=>match cz X.ao P with
   |U (O,[.int I _])=>if t==R&&O==R then t6 W V Q {X with ao:=X.ao.set P (U (R,[.int I x]))} else .stuck ""
   |_=>.stuck ""
  |_=>.stuck ""
 |.exit _,_=>.stuck ""
def aav(W:bF)(n:Nat)(R:FuncId)(d:DI)(V:TypeId)(Q:Nat)(P:od)(X:S):T:=match X.tmps[d.te]? with
 |U (.loc i 0)=>if !rz V&&aP X.ao i&&decide (d.tf<Y X.tmps) then gp W n R d.rest (X.put (U d.tf) (.fn d.g [.loc i 0])) jg (aau W Q V i P) else .stuck ""
 |_=>.stuck ""
def OY(X:bF)(n:Nat)(V:FuncId)(c:Code)(R:Nat)(Q:od)(P:TypeId)(W:ap)(s:S):T:=match zV c with
 |U d=>oM X (kJ X (λf c s k=>gp X n f c s jg k) jg) d.tZ (aav X n V d P (Y s.ao) Q) (λ_ _=>.stuck "") (hJ (λ_=>E) J E 0 (Y s.ao) d.tZ.toList) (({s with tmps:=W++eF (R-Y W) (C.bO [])}:S).room (mA d.tZ.toList)) []
 |none=>.stuck ""
end
end Go.Proofs.YtejplpmpldcmlaaGreatDoor.Y
namespace Go.Proofs.YtejplpmpldcmlaaGreatDoor
open Go.RowKit
structure im(S:List Nat)(w w':World):Prop where
 os:w'.os=w.os
 tape:w'.tape=w.tape
 output:w'.output=w.output
 size:w.heap.size<=w'.heap.size
 block:∀k,k<w.heap.size->k∉S->w'.heap[k]?=w.heap[k]?
def im.refl(S:List Nat)(w:World):im S w w:=⟨rfl,rfl,rfl,bY _,λ_ _ _=>rfl⟩
def im.trans{S:List Nat}{a b c:World}(h:im S a b)(k:im S b c):im S a c:=
 ⟨k.os.trans h.os,k.tape.trans h.tape,k.output.trans h.output,pO h.size k.size,λi X W=>(k.block i (ZG X h.size) W).trans (h.block i X W)⟩
def im.mono{S X:List Nat}{a b:World}(h:im S a b)(W:∀x,x∈S->x∈X):im X a b:=
 ⟨h.os,h.tape,h.output,h.size,λi V R=>h.block i V (λm=>R (W i m))⟩
def im.alloc{S:List Nat}{a w:World}(h:im S a w)(o:Obj):im S a (w.alloc o):=
 h.trans ⟨rfl,rfl,rfl,by simp,λk X _=>Below.heap_alloc _ _ _ X⟩
def im.drew{S:List Nat}{a w:World}(h:im S a w):im S a w.drew:=⟨h.os,h.tape,h.output,h.size,h.block⟩
def im.setCell{S:List Nat}{a w:World}(h:im S a w){p:Addr}(X:p.block∈S)(u:Value):im S a (w.setCell p u):=
 h.trans ⟨rfl,rfl,rfl,by simp[ZQ],λk _ W=>Below.heap_setCell _ _ _ _ (λe=>W (e▸X))⟩
def im.putObj{S:List Nat}{a w:World}(h:im S a w){r:Nat}(X:r∈S)(o:Obj):im S a (w.putObj r o):=
 h.trans ⟨rfl,rfl,rfl,by simp[Hv],λk _ W=>uM (λe=>W (e▸X))⟩
def im.av8{S:List Nat}{w X:World}(h:Below w.heap.size w X):im S w X:=⟨h.os,h.tape,h.output,h.size,λk W _=>h.block k W⟩
def im.call{S:List Nat}{a w X:World}(h:im S a w)(k:Below w.heap.size w X):im S a X:=h.trans (im.av8 k)
def im.grown{S:List Nat}{a w W:World}{V:Option Nat}(h:im S a w)(X:w.grownBy W V)(O:∀k,V=U k->k∈S\/a.heap.size<=k):im S a W:=
 ⟨X.os.trans h.os,X.tape.trans h.tape,X.output.trans h.output,pO h.size X.size,λk R Q=>(X.block k (ZG R h.size) (λe=>by rcases O k e.symm with P|P;exact Q P;omega)).trans (h.block k R Q)⟩
def im.heap{S:List Nat}{w V:World}(h:im S w V){b:Nat}{o:Obj}(X:w.heap[b]?=U o)(R:b∉S):V.heap[b]?=U o:=by
 have W:b<w.heap.size:=by
  by_cases W:b<w.heap.size;exact W;rw[aI3 (by omega)] at X;cases X
 exact(h.block b W R).trans X
end Go.Proofs.YtejplpmpldcmlaaGreatDoor
namespace Go.Proofs.YtejplpmpldcmlaaGreatDoor.Y
open Go.RowKit
noncomputable section
variable{t:Bool}{R Q i:Nat}{X:TypeId}{c:Value}{N:World}{F:Oper}{r:Operand}
inductive RV where
 |mk (val:Value) (rows:List (List RV))
abbrev ar:=List (List RV)
abbrev aF:=List RV
abbrev DD:=Option (List (List RV))
abbrev BM:=List Deferred
def RV.val:RV->Value
 |.mk v _=>v
def RV.ac:RV->ar
 |.mk _ r=>r
@[simp] def RV.nM (v:Value) (r:ar):(RV.mk v r).val=v:=rfl
@[simp] def RV.nN (v:Value) (r:ar):(RV.mk v r).ac=r:=rfl
instance:Inhabited RV:=⟨.mk (.pointer Z) []⟩
structure ai where
 i:bA
 b:my
 r:aF
 y:aq
def ai.at(O:ai)(y:aq):ai:={O with y:=y}
def ai.rv(O:ai)(k:Nat):RV:=O.r.getD k default
def bn:Value->Int
 |.int _ n=>n
 |_=>0
def gA:Value->Bool
 |.bool b=>b
 |_=>E
def lenOf:Value->Int
 |.slice _ n _=>n
 |.string s=>s.size
 |_=>0
def kY(v:Value)(i:Int):Int:=match v with
 |.string s=>match s[i.toNat]? with
  |U b=>b.toNat
  |none=>0
 |_=>0
def t7:Value->Value->Bool
 |.string a,.string b=>a.toList==b.toList
 |_,_=>E
def kZ(n:Nat)(X:bA)(W:aF):Bool:=decide ((W.take n).map (λc=>bn c.val)=X.take n)
def jb(n:Nat)(X:bA)(W:ar):Option aF:=W.find? (kZ n X)
def gq(n:Nat)(X:aF):ar->ar
 |[]=>[X]
 |r::W=>if kZ n ((X.take n).map λc=>bn c.val) r then X::W else r::gq n X W
def ld(x:Int):bA->gG->Value
 |k::X,v::W=>if x=k then(if jD v then v else .nilFunc) else ld x X W
 |_,_=>.nilFunc
def aQ(X:ar)(i:Int)(j:Nat):RV:=(X.getD i.toNat []).getD j default
def cg:RK->RV->RV
 |.sl _,v|.own _,v=>match v.val with
  |.slice _ _ _=>v
  |_=>.mk (.slice Z 0 0) []
 |.str,v=>match v.val with
  |.string s=>.mk (.string s) []
  |_=>.mk (.string ⟨#[]⟩) []
 |.ae,v=>if jD v.val then .mk v.val [] else .mk (.pointer Z) []
 |.am,v=>if jD v.val then v else .mk (.pointer Z) []
 |.mr _,v=>match v.val with
  |.slice _ _ _=>v
  |_=>.mk (.slice Z 0 0) []
mutual
def K.ab(O:ai):K->Int
 |.c n=>n
 |.v k=>O.i.getD k 0
 |.bin X k a b=>aH X k (a.ab O) (b.ab O)
 |.conv k a=>k.wrap (a.ab O)
 |.len r=>lenOf (r.rv O).val
 |.mm W a b=>if W then max (a.ab O) (b.ab O) else min (a.ab O) (b.ab O)
 |.eB b x y=>if b.ab O then x.ab O else y.ab O
 |.cell r i j=>bn (aQ (r.rv O).ac (i.ab O) j).val
 |.oe r i=>kY (r.rv O).val (i.ab O)
 |.look r n a b c j=>match jb n [a.ab O,b.ab O,c.ab O] (r.rv O).ac with
  |U V=>bn (V.getD j default).val
  |none=>0
def BE.ab(O:ai):BE->Bool
 |.c b=>b
 |.v k=>O.b.getD k E
 |.cmp X a b=>fA X (a.ab O) (b.ab O)
 |.not a=> !(a.ab O)
 |.and a b=>a.ab O&&b.ab O
 |.beq a b=>a.ab O==b.ab O
 |.eB b x y=>if b.ab O then x.ab O else y.ab O
 |.cell r i j=>gA (aQ (r.rv O).ac (i.ab O) j).val
 |.seq a b=>t7 (a.rv O).val (b.rv O).val
 |.look r n a b c j=>match jb n [a.ab O,b.ab O,c.ab O] (r.rv O).ac with
  |U W=>gA (W.getD j default).val
  |none=>E
 |.has r n a b c=>(jb n [a.ab O,b.ab O,c.ab O] (r.rv O).ac).isSome
def RE.rv(O:ai):RE->RV
 |.v k=>O.rv k
 |.cell r i j k=>cg k (aQ (r.rv O).ac (i.ab O) j)
 |.k v=>.mk v []
end
def RE.ab(O:ai)(r:RE):Value:=(r.rv O).val
def C.cj(O:ai):C->RV
 |.int k e=>.mk (.int k (e.ab O)) []
 |.bool b=>.mk (.bool (b.ab O)) []
 |.ah r=>r.rv O
 |_=>default
def gT(X:aF)(W:Nat):aF->aF
 |[]=>X
 |v::r=>gT (X.set W v) (W+1) r
def LE.ac(O:ai):LE->ar
 |.ah r=>(r.rv O).ac
 |.lit l=>l.map λX=>X.map (C.cj O)
 |.kq a b=>a.ac O++b.ac O
 |.tR n X=>eF (n.ab O).toNat (X.map (C.cj O))
 |.set a i V W=>(a.ac O).modify (i.ab O).toNat λX=>gT X V (W.map (C.cj O))
 |.sub a R Q=>((a.ac O).take (Q.ab O).toNat).drop (R.ab O).toNat
 |.ins a n W=>gq n (W.map (C.cj O)) (a.ac O)
def gI(x:LE)(O:ai):RV:=.mk (.slice Z (x.ac O).length (x.ac O).length) (x.ac O)
def aM(c:Nat)(X:aF):Int:=bn (X.getD c default).val
def jR(X:Bool):aq->aF->aF->Bool
 |[],_,_=>E
 |c::W,x,y=>if aM c x=aM c y then jR X W x y else if X then decide (aM c y<aM c x) else decide (aM c x<aM c y)
def bu.lt:bu->aF->aF->Bool
 |.lex X d,x,y=>jR d X x y
 |.ratio n d,x,y=>decide (aM n x*aM d y<aM n y*aM d x)
 |.dD _ _ _,_,_=>E
def gC(n d:Int):Bool:=decide (1<=d)&&decide (d<=1073741824)&&decide (-1073741824<=n)&&decide (n<=1073741824)&&lG n.natAbs d.toNat==1
def bu.ok:bu->aF->Bool
 |.lex _ _,_=>J
 |.ratio n d,x=>gC (aM n x) (aM d x)
 |.dD _ _ _,_=>E
def eI(lt:aF->aF->Bool)(x:aF):ar->ar
 |[]=>[x]
 |y::r=>if lt x y then x::y::r else y::eI lt x r
def bT(lt:aF->aF->Bool)(l:ar):ar:=l.foldl (λacc x=>eI lt x acc) []
def ym(lt:aF->aF->Bool):ar->Bool
 |[]=>J
 |x::r=>r.all (λy=>lt x y||lt y x)&&ym lt r
def jh:bu->Bool->ar->DD
 |.dD _ _ _,_,_=>Z
 |W,V,X=>if decide (Y X<=1099511627776)&&(X.all W.ok&&(V||ym W.lt X)) then U (bT W.lt X) else Z
def mB(X:ar):Bool:=(e8 (Y X)).all λk=>decide (0<=aM 0 (X.getD k []))&&decide (aM 0 (X.getD k [])<=k)
def rH:Nat->Int->ar->ar
 |0,_,X=>X
 |n+1,i,X=>if aM 0 (X.getD i.toNat [])=i then X else(rH n (aM 0 (X.getD i.toNat [])) X).set i.toNat ((rH n (aM 0 (X.getD i.toNat [])) X).getD (aM 0 (X.getD i.toNat [])).toNat [])
def wv(i:Int)(X:ar):DD:=if decide (Y X<=1099511627776)&&decide (0<=i)&&decide (i<Y X)&&mB X then U (rH (Y X) i X) else Z
def bp(X:ar)(a b:Nat):ar:=(X.drop a).take (b-a)
def yo(lt:aF->aF->Bool):ar->Bool
 |[]=>J
 |x::r=>r.all (λy=> !lt y x)&&yo lt r
def nO(k:Nat)(o:bu)(W:bA)(X:ar):DD:=match k,W with
 |0,[a,b,n]=>if decide (0<=a)&&decide (0<=n)&&decide (a+n<=b)&&decide (b+n<=Y X) then U (X.take a.toNat++(bp X b.toNat (b+n).toNat++(bp X (a+n).toNat b.toNat++(bp X a.toNat (a+n).toNat++X.drop (b+n).toNat)))) else Z
 |1,[a,m,b]=>if decide (0<=a)&&decide (a<m)&&decide (m<b)&&decide (b<=Y X) then U (X.take a.toNat++(bp X m.toNat b.toNat++(bp X a.toNat m.toNat++X.drop b.toNat))) else Z
 |2,[a,b]=>if decide (0<=a)&&decide (a<=b)&&decide (b<=Y X)&&X.all o.ok then U (X.take a.toNat++(bT o.lt (bp X a.toNat b.toNat)++X.drop b.toNat)) else Z
 |n+3,[a,m,b]=>if decide (0<=a)&&decide (a<m)&&decide (m<b)&&decide (b<=Y X)&&decide (b-a<n)&&X.all o.ok&&yo o.lt (bp X a.toNat m.toNat)&&yo o.lt (bp X m.toNat b.toNat) then U (X.take a.toNat++(bT o.lt (bp X a.toNat b.toNat)++X.drop b.toNat)) else Z
 |_,_=>Z
def ad(V:aq)(i:Nat):Nat:=V.getD i 0
def oO(v:Value)(n:Nat):Addr:=match v with
 |.slice (U a) _ _=>⟨a.block,a.off+n,Z⟩
 |_=>⟨0,n,Z⟩
mutual
def C.ab(O:ai)(V:aq):C->Value
 |.int k e=>.int k (e.ab O)
 |.bool b=>.bool (b.ab O)
 |.ah r=>r.ab O
 |.loc i X=>.pointer (U ⟨ad V i,X,Z⟩)
 |.el r w i X=>.pointer (U (oO (r.ab O) ((i.ab O).toNat*w+X)))
 |.jp i X W R=>.slice (U ⟨ad V i,X,Z⟩) W R
 |.agg l=>.agg (C.aG O V l).toArray
 |.bO l=>.tuple (C.aG O V l).toArray
 |.fn f l=>.func (.func f) #[] (C.aG O V l).toArray
 |.ik t x=>.iface t (C.ab O V x)
 |.yl n=>.func (.yield (O.y.getD n 0)) #[] #[]
 |.any=>undef
 |.mp i=>.map (U (ad V i))
 |.gz e Q P=>ld (e.ab O) Q (C.aG O V P)
def C.aG(O:ai)(V:aq):ap->gG
 |[]=>[]
 |x::X=>C.ab O V x::C.aG O V X
end
def pY(O:ai)(V:aq):∀l,C.aG O V l=l.map (C.ab O V)
 |[]=>rfl
 |x::X=>by rw[C.aG,pY O V X];rfl
@[simp] def H9 (O:ai) (V:aq) (l:ap):(C.aG O V l).length=Y l:=by rw[pY];simp
def t8(O:ai)(V:aq)(l:ap)(i:Nat):(C.aG O V l)[i]?=(l[i]?).map (C.ab O V):=by rw[pY];simp
def TC(O:ai)(V:aq)(l m:ap):C.aG O V (l++m)=C.aG O V l++C.aG O V m:=by simp[pY]
inductive bJ(W:World)(ty:Ty):RK->RV->Prop where
 |sl (e:TypeId) (A:Option Addr) (len cap:Nat) (rows:List (List RV)) (h1:Y rows=len) (h2:len<=cap)
   (h3:∀(i:Nat)(row:List RV),rows[i]?=U row->Y row=(bE ty (.sl e)).length/\∃b off,A=U ⟨b,off,Z⟩/\(∃cs t fr,W.heap[b]?=U (.cells cs t fr))/\
    ∀(j:Nat)(c:RV),row[j]?=U c->W.cell? ⟨b,off+i*(bE ty (.sl e)).length+j,Z⟩=U c.val)
   (hi:∀(i j:Nat)(row:List RV)(c:RV)(k:IntKind),rows[i]?=U row->row[j]?=U c->(bE ty (.sl e))[j]?=U (.int k)->∃n,c.val=.int k n)
   (hb:∀(i j:Nat)(row:List RV)(c:RV),rows[i]?=U row->row[j]?=U c->(bE ty (.sl e))[j]?=U .bool->∃x,c.val=.bool x)
   (ho:∀(i j:Nat)(row:List RV)(c:RV)(z:Value)(k:RK),rows[i]?=U row->row[j]?=U c->(bE ty (.sl e))[j]?=U (.ae z k)->bJ W ty k c):
   bJ W ty (.sl e) (.mk (.slice A len cap) rows)
 |str (s:ByteArray):bJ W ty .str (.mk (.string s) [])
 |ae (v:Value) (h:jD v=J):bJ W ty .ae (.mk v [])
 |own (e:TypeId) (rv:RV) (h:bJ W ty (.sl e) rv) (hn:∀l c,rv.val=.slice Z l c->c=0):bJ W ty (.own e) rv
 |am (rv:RV) (h:jD rv.val=J):bJ W ty .am rv
 |mr (sh:Sh) (rows:List (List RV)) (h1:∀(i:Nat)(row:List RV),rows[i]?=U row->Y row=(bE ty (.mr sh)).length)
   (hi:∀(i j:Nat)(row:List RV)(c:RV)(k:IntKind),rows[i]?=U row->row[j]?=U c->(bE ty (.mr sh))[j]?=U (.int k)->∃n,c=.mk (.int k n) [])
   (hb:∀(i j:Nat)(row:List RV)(c:RV),rows[i]?=U row->row[j]?=U c->(bE ty (.mr sh))[j]?=U .bool->∃x,c=.mk (.bool x) [])
   (ho:∀(i j:Nat)(row:List RV)(c:RV)(z:Value)(k:RK),rows[i]?=U row->row[j]?=U c->(bE ty (.mr sh))[j]?≠U (.ae z k)):
   bJ W ty (.mr sh) (.mk (.slice Z (Y rows) (Y rows)) rows)
inductive et(ty:Ty):RK->RV->Nat->Prop where
 |here (e:TypeId) (a:Addr) (len cap:Nat) (rows:List (List RV)):et ty (.sl e) (.mk (.slice (U a) (len+1) cap) rows) a.block
 |deep (e:TypeId) (v:Value) (rows:List (List RV)) (i j:Nat) (row:List RV) (c:RV) (z:Value) (k:RK) (b:Nat):rows[i]?=U row->row[j]?=U c->(bE ty (.sl e))[j]?=U (.ae z k)->et ty k c b->et ty (.sl e) (.mk v rows) b
 |own (e:TypeId) (rv:RV) (b:Nat):et ty (.sl e) rv b->et ty (.own e) rv b
def RV.lH(X:RV):cQ:=match X.val with
 |.slice (U a) _ (_+1)=>U a.block
 |_=>Z
def zW(W:Ty)(e:RK)(X:RV)(b:Nat):Prop:=et W e X b\/(∃t,e=.own t)/\X.lH=U b
def ol(X:Ty)(e:TypeId)(V:ar)(b:Nat):Prop:=∃(i j:Nat)(W:aF)(c:RV)(z:Value)(k:RK),V[i]?=U W/\W[j]?=U c/\(bE X (.sl e))[j]?=U (.ae z k)/\et X k c b
structure zX(S0:aq)(w0:World)(V:aq)(O:ai)(bx:bG)(ty:Ty)(rs:bz)(W:World)(k:Nat)(e:TypeId)(rv:RV)(b:Nat):Prop where
 own:w0.heap.size<=b\/b∈S0
 mem:∃len cap di,rv.val=.slice (U ⟨b,0,Z⟩) len cap/\W.heap[b]?=U (.cells di e (0,0))/\len<=cap/\cap<=maxLen/\di.size=cap*(bE ty (.sl e)).length
 box:∀i,aP bx i=J->ad V i≠b
 alone:∀(k':Nat)(e':RK)(rv':RV),k'≠k->rs[k']?=U e'->O.r[k']?=U rv'->¬zW ty e' rv' b
 inner:¬ol ty e rv.ac b
def C.io(O:ai)(V:aq)(v:C):RV:=match v with
 |.ah r=>r.rv O
 |v=>.mk (v.ab O V) []
def C.dR(O:ai)(V:aq)(l:ap):aF:=l.map (C.io O V)
def gU:Nat->tQ->List MapEntry
 |_,[]=>[]
 |n,x::r=>⟨x.1,x.2,n⟩::gU (n+1) r
def qK(l:tQ):Obj:=.map (gU 0 l).toArray (Y l)
def DE:gG->tQ
 |k::v::r=>(k,v)::DE r
 |_=>[]
def rI(a:Bool)(l:aF):Value:=if a then .agg (l.map RV.val).toArray else(l.headD default).val
def ww(n:Nat)(W V:Bool)(X:aF):Value×Value:=(rI W (X.take n),rI V (X.drop n))
def ajP:Value->cQ
 |.map a=>a
 |_=>Z
def pZ(X:aF):Nat:=(bn (X.headD default).val).toNat
def mC(t:TypeId)(l:aF):Obj:=
 if t=uQ then qK (DE (l.map RV.val)) else
 if t=wj then(match l with
  |[X,.mk (.int _ n) _,.mk (.bool W) _,.mk (.bool V) _]=>qK (X.ac.map (ww n.toNat W V))
  |_=>qK []) else
 if t=xX then(match l with
  |[R,_,.mk (.int _ n) _,Q]=>.mapIter (ajP R.val) n.toNat (Q.ac.map pZ).toArray n.toNat
  |_=>qK []) else
 .cells (l.map RV.val).toArray t (0,0)
structure j7(S0:aq)(w0:World)(V:aq)(O:ai)(bx:bG)(ty:Ty)(rs:bz)(W:World):Prop where
 base:im S0 w0 W
 own:∀i,aP bx i=J->w0.heap.size<=ad V i\/ad V i∈S0
 inj:∀i j,aP bx i=J->aP bx j=J->ad V i=ad V j->i=j
 box:∀(i:Nat)(t:TypeId)(cs:ap),cz bx i=U (t,cs)->W.heap[ad V i]?=U (mC t (C.dR O V cs))
 ah:∀(k:Nat)(e:RK)(rv:RV),rs[k]?=U e->O.r[k]?=U rv->bJ W ty e rv/\∀b,et ty e rv b->∀i,aP bx i=J->ad V i≠b
structure cq where
 out:aq
 dF:List (Nat×Loop)
 rd:Bool
 base:BM
def cq.none:cq:=⟨[],[],E,[]⟩
def mD(r:Nat):Deferred:={target:=.collected r,args:= #[]}
def PX.code:PX->Code
 |.ret=>.ret
 |.exit id=>.exit id
def sH(r:Loop):HB->Loop
 |.ready=>{r with state:=.ready,pending:=Z}
 |.busy=>{r with state:=.busy,pending:=Z}
 |.done e=>{r with state:=.done,pending:=U e.code}
structure eN(w0:World)(D:cq)(pd:uP)(y:aq)(dfr:BM)(W:World):Prop where
 len:Y D.dF=Y pd
 qL:Y y=Y pd
 dF:∀(n l:Nat)(r:Loop)(st:HB),D.dF[n]?=U (l,r)->pd[n]?=U st->y[n]?=U l/\W.heap[l]?=U (.loop (sH r st))/\w0.heap.size<=l
 inj:∀(n n' l:Nat)(r r':Loop),D.dF[n]?=U (l,r)->D.dF[n']?=U (l,r')->n=n'
 mE:∃ms:aq,dfr=ms.map mD++D.base/\(D.rd=J->ms=[])/\(ms++D.out).Nodup/\∀d∈ms++D.out,W.heap[d]?=U (.deferred (U []))/\w0.heap.size<=d
structure az(S0:aq)(w0:World)(D:cq)(ty:Ty)(V:aq)(O:ai)(s:S)(a:Act)(W:World):Prop where
 mem:j7 S0 w0 V O s.ao ty s.rs W
 gV:Y V=Y s.ao
 ei:Y O.i=s.ni
 eb:Y O.b=s.nb
 er:Y O.r=Y s.rs
 dp:eN w0 D s.pd O.y a.defers W
 size:a.tmps.size=Y s.tmps
 tmps:∀(t:Nat)(sv:C),s.tmps[t]?=U sv->sv=.any\/a.tmps[t]?=U (sv.ab O V)
 gD:∀(k:Nat)(e:TypeId)(rv:RV)(b:Nat),s.rs[k]?=U (.own e)->O.r[k]?=U rv->rv.lH=U b->zX S0 w0 V O s.ao ty s.rs W k e rv b
def ai.qM(X:Ty)(O:ai)(W:bz)(b:Nat):Prop:=∃(k:Nat)(e:RK),W[k]?=U e/\et X e (O.rv k) b
inductive XV where
 |i (n:Int)
 |b (x:Bool)
 |r (v:RV)
abbrev bv:=List XV
def ai.add(O:ai):XV->ai
 |.i n=>{O with i:=O.i++[n]}
 |.b x=>{O with b:=O.b++[x]}
 |.r v=>{O with r:=O.r++[v]}
def ai.ext(O:ai):bv->ai
 |[]=>O
 |x::X=>(O.add x).ext X
def C.xv(O:ai):C->XV
 |.int _ e=>.i (e.ab O)
 |.bool b=>.b (b.ab O)
 |.ah r=>.r (r.rv O)
 |_=>.i 0
def sI:LK->XV->Prop
 |.int _,.i _=>True
 |.bool,.b _=>True
 |.ah _,.r _=>True
 |_,_=>False
def eY:aU->bv->Prop
 |[],[]=>True
 |k::X,x::W=>sI k x/\eY X W
 |_,_=>False
def av9(X:Ty)(W:World)(B:Nat)(R:Nat->Prop):LK->XV->Prop
 |.ah e,.r V=>bJ W X e V/\∀b,et X e V b->B<=b\/R b
 |_,_=>True
def KM(X:Ty)(W:World)(B:Nat)(V:Nat->Prop):aU->bv->Prop
 |k::R,x::Q=>av9 X W B V k x/\KM X W B V R Q
 |_,_=>True
structure Ia(ty:Ty)(S0:aq)(w0:World)(e:TypeId)(x:LE)(rs:bz)(O:ai)(rv:RV):Prop where
 val:∃A n c,rv=.mk (.slice A n c) (x.ac O)/\(x.ac O).length=n
 qM:∀b,et ty (.sl e) rv b->w0.heap.size<=b\/b∈S0\/O.qM ty rs b
 aaw:∀(k:Nat)(i:K)(off:Nat)(cs:ap),x=.set (.ah (.v k)) i off cs->rv.val=(O.rv k).val
structure LC where
 ax:Nat
 I:bv->Prop
 μ:bv->Nat
 m:Nat
abbrev dG:=List LC
def oP(ax:Nat):dG->Option LC
 |[]=>Z
 |x::X=>if x.ax=ax then U x else oP ax X
def XE.to(O:ai)(V:aq):XE->Exit
 |.normal=>.normal
 |.ret=>.ret
 |.exit id=>.exit id
 |.bI v=>.panic [{v:=v.ab O V,recovered:=E}]
structure Sp where
 P:Program
 ty:Ty
 S0:aq
 w0:World
 D:cq
 R:Ending->World->Prop
 Q:Exit->Act->World->Prop
def p7(k:Nat)(o:bu)(W:bA)(X:ar):DD:=if Y X<=1099511627776 then nO k o W X else Z
def lg(O:ai):bu->Bool->ar->DD
 |.dD k o W,E,X=>p7 k o (W.map (K.ab O)) X
 |.dD _ _ [i],J,X=>wv (i.ab O) X
 |.dD _ _ _,J,_=>Z
 |V,R,X=>jh V R X
def oo(O:ai):bu->Bool->ar->DD
 |.dD _ _ _,E,_=>Z
 |.dD _ _ [i],J,X=>wv (i.ab O) X
 |.dD _ _ _,J,_=>Z
 |W,V,X=>jh W V X
def ajQ{O:ai}{X:bu}{W r:ar}(h:oo O X t W=U r):lg O X t W=U r:=by
 cases X with
 |lex R d=>exact h
 |ratio n d=>exact h
 |dD k o V=>
  cases t with
  |false=>simp[oo] at h
  |true=>
   cases V with
   |nil=>simp[oo] at h
   |cons i l=>
    cases l with
    |nil=>exact h
    |cons j l=>simp[oo] at h
def T.aS(p:Sp):T->ai->dG->Prop
 |.out e s,O,_=>∀y V a W,az p.S0 p.w0 p.D p.ty V (O.at y) s a W->p.Q (e.to (O.at y) V) a W
 |.ret v F M,O,_=>∀y V W,j7 p.S0 p.w0 V (O.at y) F p.ty M W->p.R (.returned (v.ab (O.at y) V)) W
 |.bI v,O,_=>∀y V W,im p.S0 p.w0 W->p.R (.panicked [{v:=v.ab (O.at y) V,recovered:=E}]) W
 |.aV b t f,O,L=>(b.ab O=J->t.aS p O L)/\(b.ab O=E->f.aS p O L)
 |.bi b t,O,L=>b.ab O=J/\t.aS p O L
 |.call f w F M G jM t,O,L=>∀y V W,j7 p.S0 p.w0 V (O.at y) F p.ty M W->Calls p.P f (C.aG (O.at y) V w).toArray W λ
   |.returned v,H=>∃N,eY G N/\v=jM.ab ((O.ext N).at y) V/\Below W.heap.size W H/\KM p.ty H W.heap.size (O.qM p.ty M) G N/\t.aS p (O.ext N) L
   |.panicked u,H=>Below W.heap.size W H/\p.R (.panicked u) H
   |.outgrown,_=>False
 |.loop ax G q t,O,L=>∃X B,X (q.map (C.xv O))/\∀N,eY G N->X N->t.aS p (O.ext N) (⟨ax,X,B,B N⟩::L)
 |.back ax x,O,L=>match oP ax L with
   |U c=>c.I (x.map (C.xv O))/\c.μ (x.map (C.xv O))<c.m
   |none=>False
 |.new e x M _ t,O,L=>∀A,Ia p.ty p.S0 p.w0 e x M O A->t.aS p (O.add (.r A)) L
 |.ac _ x _ t,O,L=>t.aS p (O.add (.r (gI x O))) L
 |.gQ g h t f,O,L=>(g.ab O=J->t.aS p O L)/\(h.ab O=J->f.aS p O L)
 |.pick n g h t f,O,L=>(∀j:Int,0<=j->j<n.ab O->g.ab (O.add (.i j))=J->t.aS p (O.add (.i j)) L)/\(h.ab O=J->f.aS p O L)
 |.eL _ _ _ o l r _ t,O,L=>∃z,lg O o l (r.rv O).ac=U z/\t.aS p (O.add (.r (.mk (r.rv O).val z))) L
 |.stuck _,_,_=>False
variable{l:ai}{x:bG}{w:ap}{y:aq}
def ajR:∀(a b:Value),HI a b=J->a=b:=by
 intro a b h;unfold HI at h;split at h;rename_i a b;have X:a.data.toList=b.data.toList:=by simpa using h
 have W:a.data=b.data:=by simpa using X
 cases a;cases b;simp_all;simp at h;rw[h.1,h.2]
 all_goals first|rfl|cases h
mutual
def K.bU:∀(a b:K),K.aR a b=J->a=b
 |.c a,b,h=>by cases b<;>simp[K.iE] at h;rw[h]
 |.v a,b,h=>by cases b<;>simp[K.iE] at h;rw[h]
 |.bin o k a b,x,h=>by
  cases x<;>simp[K.iE,Bu] at h;obtain⟨⟨⟨rfl,rfl⟩,X⟩,W⟩:=h;rw[K.bU _ _ X,K.bU _ _ W]
 |.conv k a,x,h=>by
  cases x<;>simp[K.iE] at h;obtain⟨rfl,X⟩:=h;rw[K.bU _ _ X]
 |.len r,x,h=>by
  cases x<;>simp[K.iE] at h;rw[RE.bU _ _ h]
 |.mm m a b,x,h=>by
  cases x<;>simp[K.iE] at h;obtain⟨⟨rfl,X⟩,W⟩:=h;rw[K.bU _ _ X,K.bU _ _ W]
 |.eB b a c,x,h=>by
  cases x<;>simp[K.iE] at h;obtain⟨⟨V,X⟩,W⟩:=h;rw[BE.bU _ _ V,K.bU _ _ X,K.bU _ _ W]
 |.cell r i j,x,h=>by
  cases x<;>simp[K.iE] at h;obtain⟨⟨V,X⟩,rfl⟩:=h;rw[RE.bU _ _ V,K.bU _ _ X]
 |.oe r i,x,h=>by
  cases x<;>simp[K.iE] at h;obtain⟨V,X⟩:=h;rw[RE.bU _ _ V,K.bU _ _ X]
 |.look r n a b c j,x,h=>by
  cases x<;>simp[K.iE] at h;obtain⟨⟨⟨⟨⟨V,rfl⟩,X⟩,W⟩,R⟩,rfl⟩:=h;rw[RE.bU _ _ V,K.bU _ _ X,K.bU _ _ W,K.bU _ _ R]
def BE.bU:∀(a b:BE),BE.aR a b=J->a=b
 |.c a,b,h=>by cases b<;>simp[BE.iE] at h;rw[h]
 |.v a,b,h=>by cases b<;>simp[BE.iE] at h;rw[h]
 |.cmp o a b,x,h=>by
  cases x<;>simp[BE.iE,Bu] at h;obtain⟨⟨rfl,X⟩,W⟩:=h;rw[K.bU _ _ X,K.bU _ _ W]
 |.not a,x,h=>by
  cases x<;>simp[BE.iE] at h;rw[BE.bU _ _ h]
 |.and a b,x,h=>by
  cases x<;>simp[BE.iE] at h;rw[BE.bU _ _ h.1,BE.bU _ _ h.2]
 |.beq a b,x,h=>by
  cases x<;>simp[BE.iE] at h;rw[BE.bU _ _ h.1,BE.bU _ _ h.2]
 |.eB b a c,x,h=>by
  cases x<;>simp[BE.iE] at h;obtain⟨⟨V,X⟩,W⟩:=h;rw[BE.bU _ _ V,BE.bU _ _ X,BE.bU _ _ W]
 |.cell r i j,x,h=>by
  cases x<;>simp[BE.iE] at h;obtain⟨⟨V,X⟩,rfl⟩:=h;rw[RE.bU _ _ V,K.bU _ _ X]
 |.seq a b,x,h=>by
  cases x<;>simp[BE.iE] at h;rw[RE.bU _ _ h.1,RE.bU _ _ h.2]
 |.look r n a b c j,x,h=>by
  cases x<;>simp[BE.iE] at h;obtain⟨⟨⟨⟨⟨V,rfl⟩,X⟩,W⟩,R⟩,rfl⟩:=h;rw[RE.bU _ _ V,K.bU _ _ X,K.bU _ _ W,K.bU _ _ R]
 |.has r n a b c,x,h=>by
  cases x<;>simp[BE.iE] at h;obtain⟨⟨⟨⟨V,rfl⟩,X⟩,W⟩,R⟩:=h;rw[RE.bU _ _ V,K.bU _ _ X,K.bU _ _ W,K.bU _ _ R]
def RE.bU:∀(a b:RE),RE.aR a b=J->a=b
 |.v a,b,h=>by cases b<;>simp[RE.iE] at h;rw[h]
 |.cell r i j k,x,h=>by
  cases x<;>simp[RE.iE] at h;obtain⟨⟨⟨X,W⟩,rfl⟩,rfl⟩:=h;rw[RE.bU _ _ X,K.bU _ _ W]
 |.k a,b,h=>by cases b<;>simp[RE.iE] at h;rw[ajR _ _ h]
end
mutual
def C.bU:∀(a b:C),C.aR a b=J->a=b
 |.int k e,x,h=>by cases x<;>simp[C.iE] at h;rw[h.1,K.bU _ _ h.2]
 |.bool b,x,h=>by cases x<;>simp[C.iE] at h;rw[BE.bU _ _ h]
 |.ah r,x,h=>by cases x<;>simp[C.iE] at h;rw[RE.bU _ _ h]
 |.loc i o,x,h=>by cases x<;>simp[C.iE] at h;rw[h.1,h.2]
 |.el r w i o,x,h=>by
  cases x<;>simp[C.iE] at h;obtain⟨⟨⟨X,rfl⟩,W⟩,rfl⟩:=h;rw[RE.bU _ _ X,K.bU _ _ W]
 |.jp a b c d,x,h=>by
  cases x<;>simp[C.iE] at h;obtain⟨⟨⟨rfl,rfl⟩,rfl⟩,rfl⟩:=h;rfl
 |.agg l,x,h=>by cases x<;>simp[C.iE] at h;rw[C.ua _ _ h]
 |.bO l,x,h=>by cases x<;>simp[C.iE] at h;rw[C.ua _ _ h]
 |.fn f l,x,h=>by cases x<;>simp[C.iE] at h;rw[h.1,C.ua _ _ h.2]
 |.ik t y,x,h=>by cases x<;>simp[C.iE] at h;rw[h.1,C.bU _ _ h.2]
 |.yl n,x,h=>by cases x<;>simp[C.iE] at h;rw[h]
 |.any,x,h=>by cases x<;>simp[C.iE] at h;rfl
 |.mp i,x,h=>by cases x<;>simp[C.iE] at h;rw[h]
 |.gz e V R,x,h=>by cases x<;>simp[C.iE] at h;rw[K.bU _ _ h.1.1,h.1.2,C.ua _ _ h.2]
def C.ua:∀(a b:ap),C.rD a b=J->a=b
 |[],b,h=>by cases b<;>simp[C.ajz] at h;rfl
 |x::X,b,h=>by cases b<;>simp[C.ajz] at h;rw[C.bU _ _ h.1,C.ua _ _ h.2]
end
structure ji(O O':ai)(ni nb nr:Nat):Prop where
 i:∀k,k<ni->O'.i.getD k 0=O.i.getD k 0
 b:∀k,k<nb->O'.b.getD k E=O.b.getD k E
 r:∀k,k<nr->O'.rv k=O.rv k
 y:O'.y=O.y
mutual
def K.eC{O W:ai}{V R Q:Nat}(X:ji O W V R Q):∀(e:K),e.bd V R Q=J->e.ab W=e.ab O
 |.c n,_=>by simp[K.ab]
 |.v k,h=>by simp[K.bo] at h;simp only[K.ab];exact X.i k h
 |.bin o k a b,h=>by simp[K.bo] at h;simp only[K.ab,K.eC X a h.1,K.eC X b h.2]
 |.conv k a,h=>by simp[K.bo] at h;simp only[K.ab,K.eC X a h]
 |.len r,h=>by simp[K.bo] at h;simp only[K.ab,RE.sJ X r h]
 |.mm m a b,h=>by simp[K.bo] at h;simp only[K.ab,K.eC X a h.1,K.eC X b h.2]
 |.eB b x y,h=>by simp[K.bo] at h;simp only[K.ab,BE.eC X b h.1.1,K.eC X x h.1.2,K.eC X y h.2]
 |.cell r i j,h=>by simp[K.bo] at h;simp only[K.ab,K.eC X i h.2,RE.sJ X r h.1]
 |.oe r i,h=>by simp[K.bo] at h;simp only[K.ab,RE.sJ X r h.1,K.eC X i h.2]
 |.look r n a b c j,h=>by simp[K.bo] at h;simp only[K.ab,RE.sJ X r h.1.1.1,K.eC X a h.1.1.2,K.eC X b h.1.2,K.eC X c h.2]
def BE.eC{O W:ai}{V R Q:Nat}(X:ji O W V R Q):∀(e:BE),e.bd V R Q=J->e.ab W=e.ab O
 |.c n,_=>by simp[BE.ab]
 |.v k,h=>by simp[BE.bo] at h;simp only[BE.ab];exact X.b k h
 |.cmp o a b,h=>by simp[BE.bo] at h;simp only[BE.ab,K.eC X a h.1,K.eC X b h.2]
 |.not a,h=>by simp[BE.bo] at h;simp only[BE.ab,BE.eC X a h]
 |.and a b,h=>by simp[BE.bo] at h;simp only[BE.ab,BE.eC X a h.1,BE.eC X b h.2]
 |.beq a b,h=>by simp[BE.bo] at h;simp only[BE.ab,BE.eC X a h.1,BE.eC X b h.2]
 |.eB b x y,h=>by simp[BE.bo] at h;simp only[BE.ab,BE.eC X b h.1.1,BE.eC X x h.1.2,BE.eC X y h.2]
 |.cell r i j,h=>by simp[BE.bo] at h;simp only[BE.ab,K.eC X i h.2,RE.sJ X r h.1]
 |.seq a b,h=>by simp[BE.bo] at h;simp only[BE.ab,RE.sJ X a h.1,RE.sJ X b h.2]
 |.look r n a b c j,h=>by simp[BE.bo] at h;simp only[BE.ab,RE.sJ X r h.1.1.1,K.eC X a h.1.1.2,K.eC X b h.1.2,K.eC X c h.2]
 |.has r n a b c,h=>by simp[BE.bo] at h;simp only[BE.ab,RE.sJ X r h.1.1.1,K.eC X a h.1.1.2,K.eC X b h.1.2,K.eC X c h.2]
def RE.sJ{O W:ai}{V R Q:Nat}(X:ji O W V R Q):∀(e:RE),e.bd V R Q=J->e.rv W=e.rv O
 |.v k,h=>by simp[RE.bo] at h;simp only[RE.rv,X.r k h]
 |.cell r i j k,h=>by simp[RE.bo] at h;simp only[RE.rv,K.eC X i h.2,RE.sJ X r h.1]
 |.k v,_=>by simp[RE.rv]
end
def RE.eC{X:ai}(W:ji l X R Q i)(e:RE)(h:e.bd R Q i=J):e.ab X=e.ab l:=by simp only[RE.ab,RE.sJ W e h]
mutual
def C.eC{O R:ai}{V Q:aq}{P N M:Nat}{L:Nat->Bool}(X:ji O R P N M)(W:∀k,L k=J->ad Q k=ad V k):∀(v:C),v.bd P N M L=J->v.ab R Q=v.ab O V
 |.int k e,h=>by simp[C.bo] at h;simp only[C.ab,K.eC X e h]
 |.bool e,h=>by simp[C.bo] at h;simp only[C.ab,BE.eC X e h]
 |.ah e,h=>by simp[C.bo] at h;simp only[C.ab,RE.eC X e h]
 |.loc i o,h=>by simp[C.bo] at h;simp only[C.ab,W i h]
 |.el r w i o,h=>by simp[C.bo] at h;simp only[C.ab,RE.eC X r h.1,K.eC X i h.2]
 |.jp i o l c,h=>by simp[C.bo] at h;simp only[C.ab,W i h]
 |.agg l,h=>by simp[C.bo] at h;simp only[C.ab,C.KN X W l h]
 |.bO l,h=>by simp[C.bo] at h;simp only[C.ab,C.KN X W l h]
 |.fn f l,h=>by simp[C.bo] at h;simp only[C.ab,C.KN X W l h]
 |.ik t x,h=>by simp[C.bo] at h;simp only[C.ab,C.eC X W x h]
 |.yl n,_=>by simp only[C.ab,X.y]
 |.any,_=>by simp[C.ab]
 |.mp i,h=>by simp[C.bo] at h;simp only[C.ab,W i h]
 |.gz e G H,h=>by simp[C.bo] at h;simp only[C.ab,K.eC X e h.1,C.KN X W H h.2]
def C.KN{O X:ai}{V W:aq}{R Q P:Nat}{N:Nat->Bool}(M:ji O X R Q P)(L:∀k,N k=J->ad W k=ad V k):∀(l:ap),C.eo R Q P N l=J->C.aG X W l=C.aG O V l
 |[],_=>rfl
 |x::H,h=>by simp[C.ja] at h;simp only[C.aG,C.eC M L x h.1,C.KN M L H h.2]
end
def wz{W V R:Nat}{Q:Nat->Bool}:∀{l:ap}{i:Nat}{v:C},C.eo W V R Q l=J->l[i]?=U v->v.bd W V R Q=J
 |[],i,v,_,h=>by simp at h
 |x::P,0,v,X,h=>by simp[C.ja] at X;simp at h;exact h▸X.1
 |x::P,i+1,v,X,h=>by simp[C.ja] at X;simp at h;exact wz X.2 h
def kw{b:TypeId×ap}:cz x R=U b<->x[R]?=U (U b):=by
 simp only[cY];cases h:x[R]? with
 |none=>simp
 |some X=>cases X<;>simp
def ub{V R Q:Nat}{P:Nat->Bool}:∀{l:bG}{i:Nat}{v:TypeId×ap},C.rF V R Q P l=J->cz l i=U v->C.eo V R Q P v.2=J
 |[],i,v,_,h=>by simp[cY] at h
 |U x::W,0,v,X,h=>by simp[C.rF] at X;simp[cY] at h;exact h▸X.1
 |Z::W,0,v,X,h=>by simp[cY] at h
 |U x::W,i+1,v,X,h=>by simp[C.rF] at X;exact ub X.2 (by simpa[cY] using h)
 |Z::W,i+1,v,X,h=>by simp[C.rF] at X;exact ub X (by simpa[cY] using h)
def ji.refl(O:ai)(X W V:Nat):ji O O X W V:=⟨λ_ _=>rfl,λ_ _=>rfl,λ_ _=>rfl,rfl⟩
def ji.trans{a b c:ai}{W V R:Nat}(h:ji a b W V R)(k:ji b c W V R):ji a c W V R:=
 ⟨λj X=>(k.i j X).trans (h.i j X),λj X=>(k.b j X).trans (h.b j X),λj X=>(k.r j X).trans (h.r j X),k.y.trans h.y⟩
def ji.mono{b:ai}{X W V:Nat}(h:ji l b R Q i)(O:X<=R)(N:W<=Q)(M:V<=i):ji l b X W V:=
 ⟨λj P=>h.i j aa,λj P=>h.b j aa,λj P=>h.r j aa,h.y⟩
def TE(O:ai)(x:XV):ji O (O.add x) (Y O.i) (Y O.b) (Y O.r):=by
 cases x<;>refine⟨λk X=> ?_,λk X=> ?_,λk X=> ?_,rfl⟩<;>simp[ai.add,ai.rv,dN,X]
def Fu:∀(X:bv)(O:ai),ji O (O.ext X) (Y O.i) (Y O.b) (Y O.r)
 |[],O=>ji.refl _ _ _ _
 |x::X,O=>by
  have W:=TE O x;have V:=Fu X (O.add x);exact W.trans (V.mono (by cases x<;>simp[ai.add]) (by cases x<;>simp[ai.add]) (by cases x<;>simp[ai.add]))
mutual
def TF{O:ai}{V X:aq}(h:ad X=ad V):∀(v:C),v.ab O X=v.ab O V
 |.int k e=>by simp only[C.ab]
 |.bool e=>by simp only[C.ab]
 |.ah e=>by simp only[C.ab]
 |.loc i o=>by simp only[C.ab,h]
 |.el r w i o=>by simp only[C.ab]
 |.jp i o l c=>by simp only[C.ab,h]
 |.agg l=>by simp only[C.ab,OZ h l]
 |.bO l=>by simp only[C.ab,OZ h l]
 |.fn f l=>by simp only[C.ab,OZ h l]
 |.ik t x=>by simp only[C.ab,TF h x]
 |.yl n=>by simp only[C.ab]
 |.any=>by simp only[C.ab]
 |.mp i=>by simp only[C.ab,h]
 |.gz e R W=>by simp only[C.ab,OZ h W]
def OZ{O:ai}{V X:aq}(h:ad X=ad V):∀(l:ap),C.aG O X l=C.aG O V l
 |[]=>rfl
 |x::W=>by simp only[C.aG,TF h x,OZ h W]
end
def awa(O:ai)(V:aq)(v:C):(v.io O V).val=v.ab O V:=by
 cases v<;>simp[C.io,C.ab,RE.ab]
def ajS(O:ai)(V:aq)(l:ap):(C.dR O V l).map RV.val=C.aG O V l:=by
 rw[pY,C.dR,oJ];exact jA λv _=>awa O V v
def uc(h:rz X=E)(O:ai)(V:aq)(l:ap):mC X (C.dR O V l)=.cells (C.aG O V l).toArray X (0,0):=by
 have W:=of_decide_eq_false h;unfold mC;rw[aT (λe=>W (by rw[e];exact bY _)),aT (λe=>W (by rw[e];decide)),aT (λe=>W (by rw[e];decide)),ajS]
def zY(h:mz x R=U (X,w)):cz x R=U (X,w)/\rz X=false:=by
 unfold mz at h;split at h;rename_i Q P W;split at h;cases h;rename_i V;cases h;exact⟨W,by simpa using V⟩;cases h
def O4{X:bG}(h:cz X Q=cz x R):mz X Q=mz x R:=by simp[mz,h]
def aax{X:ai}{W:aq}{P:Nat->Bool}(N:ji l X R Q i)(M:∀k,P k=J->ad W k=ad y k)(v:C)(h:v.bd R Q i P=J):v.io X W=v.io l y:=by
 have L:=C.eC N M v h;cases v<;>simp only[C.io]<;>try rw[L]
 simp only[C.bo] at h;exact RE.sJ N _ h
def O5{O X:ai}{V W:aq}{R Q P:Nat}{N:Nat->Bool}(M:ji O X R Q P)(L:∀k,N k=J->ad W k=ad V k):∀(l:ap),C.eo R Q P N l=J->C.dR X W l=C.dR O V l
 |[],_=>rfl
 |x::H,h=>by
  simp only[C.ja,aw] at h;have:=O5 M L H h.2;simp only[C.dR,dU] at this⊢;rw[aax M L x h.1,this]
def ajT{W:aq}(h:ad W=ad y)(X:ap):C.dR l W X=C.dR l y X:=by
 refine jA λv _=> ?_
 have R:=TF (O:=l) h v;cases v<;>simp only[C.io]<;>rw[R]
def aay(x:Int):∀(X:bA)(W:gG),jD (ld x X W)=J
 |[],_=>by simp[ld,jD]
 |_::_,[]=>by simp[ld,jD]
 |k::X,v::W=>by
  simp only[ld];split;split;rename_i h;exact h;rfl;exact aay x X W
def awb(h:jD c=J):c.cells.toList=[c]:=by
 cases c<;>simp[jD] at h<;>rfl
variable{v:TI}{M:C}
def rJ(c:CT):Value:=match c with
 |.int k=>.int k 0
 |.bool=>.bool E
 |.ae z _=>z
def TD.Ok(P:Program)(t:TypeId)(aj:fu):TD->Prop
 |.struct X=>∃F:Array Field,P.underlying t=U (.struct F)/\F.toList.map (λf=>(f.offset,f.type))=X
 |.arr n e=>P.underlying t=U (.array n e)
 |.slice e=>P.underlying t=U (.slice e)
 |.str=>P.underlying t=U .string
 |.one=>∃d,P.underlying t=U d/\((match d with|.struct _|.array _ _|.slice _|.string|.interface _=>False|_=>True)/\∀k,aj=[.ae .nilFunc k]->∃a b c,d=.func a b c)/\(∀k,aj=[.int k]->d=.int k)/\(aj=[.bool]->d=.bool)
 |.ik=>∃m,P.underlying t=U (.interface m)
 |.map k e _ _=>P.underlying t=U (.map k e)
def DF:Value->Value->Option Bool
 |.int k a,.int X b=>if k=X then U (a==b) else Z
 |.bool a,.bool b=>U (a==b)
 |.string a,.string b=>U (a.toList==b.toList)
 |_,_=>Z
def DG:CT->Value->Prop
 |.int k,.int X _=>k=X
 |.bool,.bool _=>True
 |.ae _ .str,.string _=>True
 |_,_=>False
def lI:fu->gG->Prop
 |[],[]=>True
 |c::X,v::R=>DG c v/\lI X R
 |_,_=>False
def ky:gG->gG->Option Bool
 |[],[]=>U J
 |x::X,y::R=>match DF x y,ky X R with
  |U a,U b=>U (a&&b)
  |_,_=>Z
 |_,_=>Z
def ip(X:Bool)(l:bA):Value:=if X then .agg (l.map (Value.int I)).toArray else .int I (l.headD 0)
def yp:Value->bA
 |.int _ x=>[x]
 |.agg X=>X.toList.map bn
 |_=>[]
def oQ(l:bA):List MapEntry->Nat->Option (Nat×Value)
 |[],_=>Z
 |e::X,i=>if yp e.key=l then U (i,e.val) else oQ l X (i+1)
def u4(P:Program)(k:TypeId)(n:Nat)(X:Bool):Prop:=(X=E->n=1)/\∀(l:bA)(R:List MapEntry)(W:World),Y l=n->(∀e∈R,∃Q:bA,Y Q=n/\e.key=ip X Q)->
 (∀b,(Instr.checkKey b 10000 k (ip X l)).run P W=.ok () W)/\(Instr.findKey k (ip X l) R).run P W=.ok (oQ l R 0) W
def TG:Value->Bool
 |.agg _=>J
 |_=>E
structure fw(P:Program)(t:TypeId)(ti:TI):Prop where
 KO:∃i,P.info? t=U i/\i.size=Y ti.aj/\∃z,i.zero=U z/\z.cells.toList=ti.aj.map rJ
 desc:ti.d.Ok P t ti.aj
 bytes:∀i,P.info? t=U i->i.bytes<=131072
 eq:ti.eq=J->∀(xs ys:gG)(r:Bool)(x y:Operand)(w:World),lI ti.aj xs->lI ti.aj ys->ky xs ys=U r->
  (do eqGuard .eql t x y (.agg xs.toArray) (.agg ys.toArray);binOp .eql t (.agg xs.toArray) (.agg ys.toArray)).run P w=.ok (.bool r) w/\
  (do eqGuard .neq t x y (.agg xs.toArray) (.agg ys.toArray);binOp .neq t (.agg xs.toArray) (.agg ys.toArray)).run P w=.ok (.bool !r) w
 key:∀k e n ag,ti.d=.map k e n ag->u4 P k n ag
 ajU:∀i z,P.info? t=U i->i.zero=U z->TG z=ti.d.isAgg
def jq(P:Program)(o:Ty):Prop:=∀t X,o t=U X->fw P t X
def fk(gl:nG)(O:ai):Prop:=∀x∈gl,x.2.1<Y O.r/\∃X R,(O.rv x.2.1).val=.slice (U ⟨x.1,0,Z⟩) X R
section
variable{P:Program}{o:Ty}{gl:nG}{W:World}
def fw.iL{d:TypeDesc}(h:P.underlying X=U d):(underlying X).run P W=.ok d W:=by simp[underlying,h]
def fw.oq(h:fw P X v):(Go.sizeOf X).run P W=.ok (Y v.aj) W:=by
 obtain⟨i,R,Q,_⟩:=h.KO;simp[Go.sizeOf,typeInfo,R,Q]
def fw.ajV(h:fw P X v):(isAgg X).run P W=.ok v.d.isAgg W:=by
 have Q:=h.desc;revert Q;cases v.d<;>simp only[TD.Ok,TD.isAgg];rintro⟨d,R,⟨N,-⟩,-,-⟩;cases d<;>simp[isAgg,underlying,R]<;>simp at N;rintro⟨m,R⟩;simp[isAgg,underlying,R];intro R;simp[isAgg,underlying,R];intro R;simp[isAgg,underlying,R];intro R;simp[isAgg,underlying,R];rintro⟨F,R,-⟩;simp[isAgg,underlying,R];intro R;simp[isAgg,underlying,R]
def yq(b X n:Nat):(⟨b,X,Z⟩:Addr).add n=⟨b,X+n,Z⟩:=by
 unfold Addr.add;split;rename_i h;subst h;rfl;rfl
def aaz(h:fw P X v)(Q:ya v w R=U M):
  (part X (C.aG l y w).toArray R).run P W=.ok (M.ab l y) W:=by
 unfold ya at Q;simp only[part,dC,h.ajV,du];by_cases N:v.d.isAgg=J;simp only[N,cS] at Q⊢;split at Q;rename_i H;cases Q;simp only[C.ab,xZ,dC,h.oq,du,fz];congr 2;apply nF;simp only[pY,List.map_take,List.map_drop,Array.toList_extract,List.extract_eq_take_drop];simp;cases Q;have L:v.d.isAgg=false:=by simpa using N
 simp only[L,jB,gw] at Q⊢;have:(C.aG l y w).toArray[R]?=U (M.ab l y):=by simp[t8,Q]
 rw[this];rfl
def TH(h:fw P X v){O:ai}{V:aq}{b base:Nat}(Q:ya v w R=U M)
  (H:∀j x,w[j]?=U x->W.cell? ⟨b,base+j,Z⟩=U (x.ab O V)):
  (Instr.loadAt X (.pointer (U ⟨b,base+R,Z⟩))).run P W=.ok (M.ab O V) W:=by
 unfold ya at Q;simp only[Instr.loadAt,Instr.sureAddr,loadVar,dC,fz,du,h.ajV];by_cases G:v.d.isAgg=J;simp only[G,cS] at Q⊢;split at Q;rename_i A;cases Q;simp only[dC,h.oq,du,C.ab];have F:(C.aG O V (xZ w R (Y v.aj))).length=Y v.aj:=by simp[xZ];omega
 have:=run_loadCells_list (P:=P) W ⟨b,base+R,Z⟩ (C.aG O V (xZ w R (Y v.aj))) (λj M N=>by
  rw[t8] at N;cases L:(xZ w R (Y v.aj))[j]? with
  |none=>rw[L] at N;cases N
  |some x=>
   rw[L] at N;simp at N;simp only[xZ,nD,uN] at L;split at L;rw[yq,<-N,Ht];exact H _ _ L;cases L)
 rw[F] at this;rw[this];simp;cases Q;have B:v.d.isAgg=false:=by simpa using G
 simp only[B,jB,gw] at Q⊢;have:=H R M Q;simp[this]
end
section
variable{p:aq}{q:World}{D:cq}{P:Program}{o:Ty}{gl:nG}{V:aq}{O:ai}{s:S}{a:Act}{W:World}
def awc(v:Value):(Ke v).ab O V=v:=by unfold Ke;split<;>simp[C.ab,K.ab,BE.ab,RE.ab,RE.rv]
def awd(v:Value):(Ot v).ab O V=v:=by
 unfold Ot;split;simp[C.ab,K.ab];simp[C.ab,BE.ab];rename_i X;simp only[C.ab,pY,oJ];congr 1;have:(C.ab O V∘Ke)=id:=by funext v;simp[awc]
 rw[this];simp;simp[C.ab,RE.ab,RE.rv]
def dA(R:az p q D o V O s a W)(L:fk gl O)(x:Operand)(h:(s.ev gl x).eX=E):a.eval x=(s.ev gl x).ab O V:=by
 cases x with
 |tmp t=>
  simp only[S.ev,xY,cw] at h⊢;cases X:s.tmps[t]? with
  |none=>rw[X] at h;simp[C.eX] at h
  |some H=>
   rw[X] at h;simp only[oI] at h⊢;rcases R.tmps t H X with rfl|Q;simp[C.eX] at h;simp[Act.eval,Q]
 |const v=>simp only[S.ev,Act.eval,awd]
 |global g=>
  simp only[S.ev] at h⊢;split at h;rename_i k w N;obtain⟨Q,F,B,G⟩:=L _ (SK N);have M:=SU N;simp only[dK] at M;simp only[C.ab,RE.ab,RE.rv,Act.eval,oO,G,K.ab,M];simp;simp[C.eX] at h
 |func f=>simp[S.ev,Act.eval,C.ab,C.aG]
def KP(X:BinOp)(k:IntKind)(x y:K):(Fe X k x y).ab O=aH X k (x.ab O) (y.ab O):=by unfold Fe;split<;>simp[K.ab]
def DH(X:BinOp)(x y:K):(qG X x y).ab O=fA X (x.ab O) (y.ab O):=by unfold qG;split<;>simp[K.ab,BE.ab]
def O6(x:BE):(Ff x).ab O= !(x.ab O):=by unfold Ff;split<;>simp[BE.ab]
def aaA(x y:BE):(wm x y).ab O=(x.ab O&&y.ab O):=by unfold wm;split<;>simp[BE.ab]
def aaB(x y:BE):(Ou x y).ab O=(x.ab O==y.ab O):=by unfold Ou;split<;>simp[BE.ab,O6]<;>cases BE.ab O _<;>simp
def awe(m:Bool)(x y:K):(S5 m x y).ab O=if m then max (x.ab O) (y.ab O) else min (x.ab O) (y.ab O):=by unfold S5;split<;>simp[K.ab]
def KQ(i n:K):(wn i n).ab O=J<->0<=i.ab O/\i.ab O<n.ab O:=by
 rw[wn,aaA,DH,DH,aw];exact and_congr decide_eq_true_iff decide_eq_true_iff
def aaC(X:Bool)(k:IntKind):∀(l:ap)(e r:K),HE X k e l=U r->
  ((C.aG O V l).foldlM (if X then Builtin.max2 else Builtin.min2) (.int k (e.ab O)):Sem Value).run P W=.ok (.int k (r.ab O)) W
 |[],e,r,h=>by simp[HE] at h;subst h;simp[C.aG]
 |.int Q x::l,e,r,h=>by
  simp only[HE] at h;split at h;have R:=aaC X k l (S5 X e x) r h;rw[awe] at R;simp only[C.aG,C.ab,List.foldlM_cons,dC];cases X;simp only[jB,gw] at R⊢;simp only[Builtin.min2,fz,du];rw[show(if x.ab O<e.ab O then x.ab O else e.ab O)=min (e.ab O) (x.ab O) from aa];exact R;simp only[cS] at R⊢;simp only[Builtin.max2,fz,du];rw[show(if x.ab O>e.ab O then x.ab O else e.ab O)=max (e.ab O) (x.ab O) from aa];exact R;cases h
 |.bool _::_,_,_,h|.ah _::_,_,_,h|.loc _ _::_,_,_,h|.el _ _ _ _::_,_,_,h|.jp _ _ _ _::_,_,_,h|.agg _::_,_,_,h|.bO _::_,_,_,h|.fn _ _::_,_,_,h|.ik _ _::_,_,_,h|.any::_,_,_,h=>by simp[HE] at h
end
section
variable{V:aq}{O:ai}
def TJ{R Q:Type}{x:Int}{f:R->Q}:∀{W:bA}{X:List R},fh x W (X.map f)=(fh x W X).map f
 |[],X=>by simp[fh]
 |_::_,[]=>by simp[fh]
 |k::W,v::X=>by
  simp only[dU,fh];split;rfl;exact TJ
def KR{W:Type}{x:Int}:∀{R:bA}{X:List W}{v:W},fh x R X=U v->v∈X
 |[],X,v,h=>by simp[fh] at h
 |_::_,[],v,h=>by simp[fh] at h
 |k::R,u::X,v,h=>by
  simp only[fh] at h;split at h;cases h;simp;exact Dd _ (KR h)
def aaD{e:K}:∀{R:bA}{Q:ap}{y:K},Br e R Q=U y->∃w,y.ab O=w/\(∀v,fh (e.ab O) R Q=U v->∃k z,v=.int k z/\w=z.ab O)/\(fh (e.ab O) R Q=Z->w=0)
 |[],[],y,h=>by simp[Br] at h;subst h;exact⟨0,rfl,λv h=>by simp[fh] at h,λ_=>rfl⟩
 |k::R,v::Q,y,h=>by
  cases v<;>simp only[Br] at h<;>try cases h
  rename_i N x;cases P:Br e R Q with
  |none=>rw[P] at h;cases h
  |some G=>
   rw[P] at h;simp only[eh,cX] at h;subst h;obtain⟨w,M,L,H⟩:=aaD P;simp only[K.ab,BE.ab,fA,fh];by_cases W:e.ab O=k;refine⟨x.ab O,by simp[W],λv X=> ?_,λX=> ?_⟩;rw[aL W] at X;cases X;exact⟨N,x,rfl,rfl⟩;rw[aL W] at X;cases X;refine⟨w,by simp[W,M],λv X=> ?_,λX=> ?_⟩;rw[aT W] at X;exact L v X;rw[aT W] at X;exact H X
 |[],_::_,y,h=>by simp[Br] at h
 |_::_,[],y,h=>by simp[Br] at h
def ajW{e:K}:∀{R:bA}{Q:ap}{y:BE},Dm e R Q=U y->∃w,y.ab O=w/\(∀v,fh (e.ab O) R Q=U v->∃z,v=.bool z/\w=z.ab O)/\(fh (e.ab O) R Q=Z->w=E)
 |[],[],y,h=>by simp[Dm] at h;subst h;exact⟨E,rfl,λv h=>by simp[fh] at h,λ_=>rfl⟩
 |k::R,v::Q,y,h=>by
  cases v<;>simp only[Dm] at h<;>try cases h
  rename_i x;cases P:Dm e R Q with
  |none=>rw[P] at h;cases h
  |some H=>
   rw[P] at h;simp only[eh,cX] at h;subst h;obtain⟨w,N,M,L⟩:=ajW P;simp only[BE.ab,K.ab,fA,fh];by_cases W:e.ab O=k;refine⟨x.ab O,by simp[W],λv X=> ?_,λX=> ?_⟩;rw[aL W] at X;cases X;exact⟨x,rfl,rfl⟩;rw[aL W] at X;cases X;refine⟨w,by simp[W,N],λv X=> ?_,λX=> ?_⟩;rw[aT W] at X;exact M v X;rw[aT W] at X;exact L X
 |[],_::_,y,h=>by simp[Dm] at h
 |_::_,[],y,h=>by simp[Dm] at h
def ajX{x:Int}:∀{ks:bA}{X:ap},X.all Kh=J->(∀v,fh x ks X=U v->ld x ks (C.aG O V X)=v.ab O V)/\(fh x ks X=Z->ld x ks (C.aG O V X)=.nilFunc)
 |[],X,_=>⟨λv h=>by simp[fh] at h,λ_=>by simp[ld]⟩
 |_::_,[],_=>⟨λv h=>by simp[fh] at h,λ_=>by simp[ld,C.aG]⟩
 |k::ks,u::X,W=>by
  simp only[Om,aw] at W;obtain⟨P,N⟩:=ajX (ks:=ks) W.2;simp only[fh,C.aG,ld];by_cases Q:x=k;simp only[Q,cS];refine⟨λv R=> ?_,λR=>by cases R⟩;cases R;have M:jD (u.ab O V)=true:=by
   have:=W.1;unfold Kh at this;split at this;rfl;rfl;cases this
  rw[aL M];simp only[Q,gw];exact⟨P,N⟩
def awf{e:K}{Q:bA}{H:CT}(h:Z0 e Q w H=U M):(∀v,fh (e.ab O) Q w=U v->M.ab O V=v.ab O V)/\(fh (e.ab O) Q w=Z->M.ab O V=rJ H):=by
 unfold Z0 at h;split at h;rename_i k;split at h;rename_i N;cases W:Br e Q w with
 |none=>rw[W] at h;cases h
 |some y=>
  rw[W] at h;simp only[eh,cX] at h;subst h;obtain⟨x,R,P,L⟩:=aaD (O:=O) W;refine⟨λv X=> ?_,λX=>by simp only[C.ab,R,L X,rJ]⟩;obtain⟨G,z,rfl,rfl⟩:=P v X;have:=fZ.1 N _ (KR X);simp at this;subst this;simp only[C.ab,R]
 cases h;cases W:Dm e Q w with
 |none=>rw[W] at h;cases h
 |some y=>
  rw[W] at h;simp only[eh,cX] at h;subst h;obtain⟨x,R,P,L⟩:=ajW (O:=O) W;refine⟨λv X=> ?_,λX=>by simp only[C.ab,R,L X,rJ]⟩;obtain⟨z,rfl,rfl⟩:=P v X;simp only[C.ab,R]
 split at h;rename_i N;simp only[aw] at N;cases h;obtain⟨R,P⟩:=ajX (O:=O) (V:=V) (x:=e.ab O) (ks:=Q) N.1;exact⟨λv X=>by simp only[C.ab];exact R v X,λX=>by simp only[C.ab,rJ];exact P X⟩;cases h;cases h
def TK{e:K}{Q:bA}{P:xW}:∀{aj:fu}{j:Nat}{l:ap},Do e Q P j aj=U l->
  Y l=Y aj/\(∀X,fh (e.ab O) Q P=U X->Y X=j+Y aj->C.aG O V l=C.aG O V (X.drop j))/\(fh (e.ab O) Q P=Z->C.aG O V l=aj.map rJ)
 |[],j,l,h=>by
  simp[Do] at h;subst h;exact⟨rfl,λX _ R=>by rw[avq (by simp at R;omega)],λ_=>rfl⟩
 |c::aj,j,l,h=>by
  simp only[Do] at h;split at h;rename_i v r H G;cases h;obtain⟨F,D,B⟩:=TK G;obtain⟨N,M⟩:=awf (O:=O) (V:=V) H;rw[TJ] at N M;refine⟨by simp[F],λX W R=> ?_,λW=> ?_⟩;have L:j<Y X:=by simp at R;omega
  rw[Bj L];simp only[C.aG];rw[D X W (by simp at R⊢;omega),N _ (by rw[W];rfl)];simp[cw,L];simp only[C.aG,dU];rw[B W,M (by rw[W];rfl)];cases h
def TL{e:K}:∀{X:bA}{W:Type}{R:List W},Y X=Y R->(HH e X).ab O=(fh (e.ab O) X R).isSome
 |[],W,R,h=>by simp[HH,BE.ab,fh]
 |k::X,W,[],h=>by simp at h
 |k::X,W,v::R,h=>by
  simp only[HH,BE.ab,K.ab,fA,fh];by_cases Q:e.ab O=k;simp[Q];simp only[Q,gw,dK];exact TL (by simpa using h)
def TN(W:∀r:RE,r.HC=J->jD (r.ab O)=J)(h:Bs v M=J):M.ab O V=if v.d.isAgg then .agg (C.aG O V M.cells).toArray else(C.aG O V M.cells).headD undef:=by
 simp only[Bs,aw] at h;obtain⟨⟨-,R⟩,X⟩:=h;cases M<;>simp only[iw] at X<;>rw[X]<;>rfl
def DJ(h:t=E->Y w=1):(tS t w).ab O V=if t then .agg (C.aG O V w).toArray else(C.aG O V w).headD undef:=by
 cases t;obtain⟨x,rfl⟩:=oZ.1 (h rfl);rfl;rfl
def TO{x:Int}:∀{W:bA}{X:ap}{v:C},fh x W X=U v->jD (v.ab O V)=J->ld x W (C.aG O V X)=v.ab O V
 |[],X,v,h,_=>by simp[fh] at h
 |_::_,[],v,h,_=>by simp[fh] at h
 |k::W,u::X,v,h,Q=>by
  simp only[fh] at h;simp only[C.aG,ld];split at h;rename_i R;cases h;rw[aL R,aL Q];rename_i R;rw[aT R];exact TO h Q
def awg(h:Bs v M=J):(v.d.isAgg=E->Y v.aj=1)/\Y M.cells=Y v.aj:=by
 simp only[Bs,aw,dK] at h;obtain⟨⟨X,Q⟩,W⟩:=h;refine⟨λR=> ?_,X⟩;cases M<;>simp only[C.cells,ZC] at X<;>first|exact X.symm|(rw[R] at W;cases W)
def ajY(N:∀r:RE,r.HC=J->jD (r.ab O)=J){e:K}{X:bA}{p:C}(h:S9 v e X w=U M)(R:fh (e.ab O) X w=U p):M.ab O V=p.ab O V:=by
 unfold S9 at h;split at h;rename_i L;cases W:Do e X (w.map C.cells) 0 v.aj with
 |none=>rw[W] at h;cases h
 |some l=>
  rw[W] at h;cases h;obtain⟨H,G,-⟩:=TK (O:=O) (V:=V) W;have F:=KR R;have Q:=fZ.1 L p F;obtain⟨D,B⟩:=awg Q;have P:=G p.cells (by rw[TJ,R];rfl) (by rw[B,jf]);rw[avL] at P;rw[DJ (λA=>by rw[H];exact D A),TN N Q,P]
 cases h
def ajZ{X:Type}{x:Int}{f:Nat->X}(L:0<=x)(H:x<(R:Int)):fh x (Dp R) ((e8 R).map f)=U (f x.toNat):=by
 unfold Dp;have W:∀(m k:Nat),(k:Int)<=x->x<((k+m:Nat):Int)->fh x ((xV k m).map λi:Nat=>(i:Int)) ((xV k m).map f)=U (f x.toNat):=by
  intro m;induction m with
  |zero=>intro k Q P;omega
  |succ m N=>
   intro k Q P;simp only[ZK,dU,fh];split;rename_i M;subst M;simp;exact N (k+1) aa aa
 rw[SN];exact W R 0 aa aa
def aaE{R L:Type}{f:R->Option L}{x:Int}:∀{Q:bA}{vs:List R}{W:List L}{v:R},Fh (vs.map f)=U W->fh x Q vs=U v->∃p,f v=U p/\fh x Q W=U p
 |[],vs,W,v,_,h=>by simp[fh] at h
 |_::_,[],W,v,_,h=>by simp[fh] at h
 |k::Q,u::vs,W,v,X,h=>by
  simp only[dU] at X;cases P:f u with
  |none=>rw[P] at X;cases X
  |some p=>
   rw[P] at X;simp only[Fh] at X;cases N:Fh (vs.map f) with
   |none=>rw[N] at X;cases X
   |some H=>
    rw[N] at X;simp only[eh,cX] at X;subst X;simp only[fh] at h⊢;split at h;rename_i M;cases h;rw[aL M];exact⟨p,P,rfl⟩;rename_i M;rw[aT M];exact aaE N h
def aj0(h:zL w=U R)(W:M∈w):∃X,M=.loc R X:=by
 unfold zL at h;split at h;rename_i j o r;split at h;rename_i Q;cases h;have:=fZ.1 Q M W;split at this;rename_i P X;simp only[dK] at this;subst this;exact⟨X,rfl⟩;cases this;cases h;cases h
end
variable{n:Ty}{z:RK}{L:RV}
def PR.gives(O:ai)(v:C):PR->Prop
 |.ok x=>v=x
 |.bi b x=>b.ab O=J/\v=x
 |_=>False
def aj1(h:bJ N n z L):cg z L=L:=by
 cases h with
 |sl e A M H X=>rfl
 |str s=>rfl
 |ae L R=>simp[cg,R]
 |own e Q h G=>cases h;rfl
 |am Q h=>simp[cg,h]
 |mr F X=>rfl
def aj2(k:RK):bJ N n k (cg k default):=by
 cases k with
 |sl e=>
  refine bJ.sl e Z 0 0 [] rfl (bY _) ?_ ?_ ?_ ?_<;>(intro i;intros;rename_i h;simp at*)
 |str=>exact bJ.str _
 |ae=>exact bJ.ae _ rfl
 |own e=>
  refine bJ.own e _ (bJ.sl e Z 0 0 [] rfl (bY _) ?_ ?_ ?_ ?_) (λl c h=>by cases h;rfl)<;>(intro i;intros;rename_i h;simp at*)
 |am=>exact bJ.am _ rfl
 |mr X=>
  refine bJ.mr X [] ?_ ?_ ?_ ?_<;>(intro i;intros;rename_i h;simp at*)
def awh(k:RK)(v:RV):jD (cg k v).val=true:=by
 cases k;simp only[cg];split;rename_i h;rw[h];rfl;rfl;simp only[cg];split<;>rfl;simp only[cg];split;rename_i h;exact h;rfl;simp only[cg];split;rename_i h;rw[h];rfl;rfl;simp only[cg];split;rename_i h;exact h;rfl;simp only[cg];split;rename_i h;rw[h];rfl;rfl
def KS(h:bJ N n z L):jD L.val=true:=by
 cases h with
 |sl e A M H X=>rfl
 |str s=>rfl
 |ae L R=>exact R
 |own e Q h G=>cases h;rfl
 |am Q h=>exact h
 |mr F X=>rfl
def aj3(h:bJ N n z L):bJ N n z.rd L:=by
 cases h with
 |own e u h t=>exact h
 |sl e A G F X R Q M H B y=>exact bJ.sl e A G F X R Q M H B y
 |str s=>exact bJ.str s
 |ae L x=>exact bJ.ae L x
 |am _ h=>exact bJ.am _ h
 |mr w X R Q M H=>exact bJ.mr w X R Q M H
def awi(h:bJ N n (.sl X) L)(i:Int)(j:Nat)(k:RK)(Q:HF (bE n (.sl X))[j]?=k):bJ N n k (cg k (aQ L.ac i j)):=by
 cases h with
 |sl X A p o x m l w u t r=>
  simp only[RV.nN,aQ];cases M:x[i.toNat]? with
  |none=>simp only[cw,M,aje,List.getElem?_nil];exact aj2 k
  |some H=>
   simp only[cw,M,oI];cases F:H[j]? with
   |none=>simp only[aje];exact aj2 k
   |some c=>
    simp only[oI];have g:j<(bE n (.sl X)).length:=by
     have:=(w _ H M).1;have:=(cu.1 F).1;omega
    cases G:(bE n (.sl X))[j]? with
    |none=>rw[Dc] at G;omega
    |some q=>
     rw[G] at Q;cases q with
     |int B=>
      simp only[HF] at Q;subst Q;obtain⟨R,y⟩:=u _ _ H c B M F G;simp only[cg,y,jD,cS];exact bJ.ae _ rfl
     |bool=>
      simp only[HF] at Q;subst Q;obtain⟨R,y⟩:=t _ _ H c M F G;simp only[cg,y,jD,cS];exact bJ.ae _ rfl
     |ae z B=>
      simp only[HF] at Q;subst Q;have:=r _ _ H c z B M F G;rw[aj1 this];exact this
section
variable{g:aq}{m:World}{D:cq}{P:Program}{ty:Ty}{B:nG}{V:aq}{O:ai}{s:S}{a:Act}{W:World}
def aaF(X:az g m D ty V O s a W)(h:s.rs[R]?=U z):bJ W ty z (O.rv R):=by
 have Q:R<Y O.r:=by rw[X.er];exact(cu.1 h).1
 have:=(X.mem.ah R z O.r[R] h (cP Q)).1;simpa[ai.rv,Q] using this
def sK(R:az g m D ty V O s a W):∀{r:RE}{e:RK},e≠ .ae->r.kind ty s=e->bJ W ty e (r.rv O)
 |.v k,e,X,h=>by
  simp only[RE.kind,cw] at h;cases Q:s.rs[k]? with
  |none=>rw[Q] at h;exact aZ (show e=.ae from h.symm) X
  |some q=>rw[Q] at h;simp at h;subst h;exact aj3 (aaF R Q)
 |.cell r i j L,e,X,h=>by
  simp only[RE.kind] at h;split at h;rename_i H N;split at h;rename_i M;subst h;exact awi (sK R av N) (i.ab O) j _ M;exact aZ h.symm X;exact aZ h.symm X
 |.k v,e,X,h=>by
  cases v<;>simp only[RE.kind] at h
  case string s=>subst h;exact bJ.str s
  all_goals exact aZ h.symm X
def O7(R:az g m D ty V O s a W){r:RE}(h:r.kind ty s=.sl X):∃x l c,r.ab O=.slice x l c:=by
 have:=sK R av h;unfold RE.ab;revert this;generalize r.rv O=v;intro Q;cases Q with
 |sl X A N M L=>exact⟨A,N,M,rfl⟩
def Fv(R:az g m D ty V O s a W){r:RE}(h:r.kind ty s=.str):∃x,r.ab O=.string x:=by
 have:=sK R av h;unfold RE.ab;revert this;generalize r.rv O=v;intro X;cases X with
 |str s=>exact⟨s,rfl⟩
def awj(R:az g m D ty V O s a W){c:CT}{y:C}{e:BE}(h:Kf ty s c M y=U e):DG c (M.ab O V)/\DG c (y.ab O V)/\DF (M.ab O V) (y.ab O V)=U (e.ab O):=by
 unfold Kf at h;split at h;split at h;rename_i X;obtain⟨rfl,rfl⟩:=X;cases h;exact⟨rfl,rfl,by simp[C.ab,DF,DH,fA]⟩;cases h;cases h;exact⟨trivial,trivial,by simp[C.ab,DF,aaB]⟩;split at h;rename_i X;cases h;obtain⟨p,Q⟩:=Fv R X.1;obtain⟨q,N⟩:=Fv R X.2;simp only[C.ab,Q,N];unfold RE.ab at Q N;exact⟨trivial,trivial,by simp[DF,BE.ab,Q,N,t7]⟩;cases h;cases h
def aj4(R:az g m D ty V O s a W):∀{X:fu}{x y:ap}{e:BE},sD ty s X x y=U e->lI X (C.aG O V x)/\lI X (C.aG O V y)/\ky (C.aG O V x) (C.aG O V y)=U (e.ab O)
 |[],[],[],e,h=>by simp[sD] at h;subst h;exact⟨trivial,trivial,by simp[C.aG,ky,BE.ab]⟩
 |c::X,x::B,y::A,e,h=>by
  simp only[sD] at h;split at h;rename_i a b Q N;cases h;obtain⟨M,a2,L⟩:=awj R Q;obtain⟨H,G,F⟩:=aj4 R N;exact⟨⟨M,H⟩,⟨a2,G⟩,by simp only[C.aG,ky,L,F,aaA]⟩;cases h
 |[],[],_::_,e,h=>by simp[sD] at h
 |[],_::_,_,e,h=>by simp[sD] at h
 |_::_,[],_,e,h=>by simp[sD] at h
 |_::_,_::_,[],e,h=>by simp[sD] at h
def aj5(R:az g m D ty V O s a W){X:Fa}{y:ap}{e:BE}(h:Kg ty s X w y=U e):∃aj d,X=U ⟨d,aj,J⟩/\lI aj (C.aG O V w)/\lI aj (C.aG O V y)/\ky (C.aG O V w) (C.aG O V y)=U (e.ab O):=by
 unfold Kg at h;split at h;exact⟨_,_,rfl,aj4 R h⟩;cases h
def aj6(B:bJ W ty (.sl X) L)(i:Int)(h:0<=i)(y:i<lenOf L.val):
  ∃Q b N,L.ac[i.toNat]?=U Q/\Y Q=(bE ty (.sl X)).length/\(∃l c,L.val=.slice (U ⟨b,N,Z⟩) l c)/\(∀(j:Nat)(c:RV),Q[j]?=U c->W.cell? ⟨b,N+i.toNat*(bE ty (.sl X)).length+j,Z⟩=U c.val)/\
   (∀(j:Nat)(c:RV)(M:CT),Q[j]?=U c->(bE ty (.sl X))[j]?=U M->match M with
    |.int k=>∃n,c.val=.int k n
    |.bool=>∃x,c.val=.bool x
    |.ae _ k=>bJ W ty k c):=by
 cases B with
 |sl X A w v H g f u t r q=>
  simp only[RV.nM,lenOf] at y;have p:i.toNat<Y H:=aa;have R:H[i.toNat]?=U H[i.toNat]:=cP p;obtain⟨o,b,N,rfl,d,m⟩:=u i.toNat _ R;refine⟨H[i.toNat],b,N,R,o,⟨w,v,rfl⟩,m,λj c M G F=> ?_⟩;cases M with
  |int k=>exact t _ j _ c k R G F
  |bool=>exact r _ j _ c R G F
  |ae z k=>exact q _ j _ c z k R G F
def awk{r:RE}{i:K}{H:aF}{X:CT}(G:(r.rv O).ac[(i.ab O).toNat]?=U H)(F:H[R]?=U L)(Q:match X with
    |.int k=>∃n,L.val=.int k n
    |.bool=>∃y,L.val=.bool y
    |.ae _ k=>bJ W ty k L):
  (Fb r i R X).ab O V=L.val:=by
 have N:aQ (r.rv O).ac (i.ab O) R=L:=by simp[aQ,G,F]
 cases X with
 |int B=>obtain⟨n,M⟩:=Q;simp[Fb,C.ab,K.ab,N,bn,M]
 |bool=>obtain⟨n,M⟩:=Q;simp[Fb,C.ab,BE.ab,N,gA,M]
 |ae z e=>simp only[Fb,C.ab,RE.ab,RE.rv,N];rw[aj1 Q]
def wB(R:az g m D ty V O s a W):∀(r:RE),r.HC=J->jD (r.ab O)=J
 |.v k,_=>by
  simp only[RE.ab,RE.rv];by_cases X:k<Y s.rs;exact KS (aaF R (cP X));have:O.rv k=default:=by
   have:=R.er;simp[ai.rv,show¬k<Y O.r from aa]
  rw[this];rfl
 |.cell r i j k,_=>awh k _
 |.k w,h=>h
def awl(R:az g m D ty V O s a W)(d:jq P ty)(hg:fk B O)(A:F.op=.load X r)(hk:(s.ev B r).eX=E)
  (h:(cH ty B s (.load X r)).gives O M):(execOp a.eval F).run P W=.ok (.value (M.ab O V)) W:=by
 have he:=dA R hg r hk;simp only[execOp,A,dC,he];simp only[cH] at h;split at h;rename_i ti i p n k;rw[k];split at h;rename_i tt f N;split at h;rename_i w L;cases h;have:=TH (P:=P) (W:=W) (d _ _ n) (O:=O) (V:=V) (b:=ad V i) (base:=0) L (λj y hy=>by
  obtain⟨N,A⟩:=zY N;have:=R.mem.box i tt f N;rw[uc A] at this;simp[oK,this,t8,hy])
 simp only[jf] at this;simp only[C.ab,this,du,fz];exact h.elim;exact h.elim;rename_i ti Q w i p n k;rw[k];split at h;rename_i e a4;split at h;exact h.elim;rename_i hw;split at h;rename_i y L;obtain⟨N,rfl⟩:=h;rw[KQ] at N;simp only[K.ab] at N;have hh:=sK R av a4;have a9:w=(bE ty (.sl e)).length:=by simpa using Eq.symm (by simpa using hw:(bE ty (.sl e)).length=w)
 obtain⟨af,b,aA,h1,bg,⟨l,c,h3⟩,h4,h5⟩:=aj6 hh (i.ab O) N.1 N.2;have:=TH (P:=P) (W:=W) (d _ _ n) (O:=O) (V:=V) (b:=b) (base:=aA+(i.ab O).toNat*w) L (λj z G=>by
  simp only[dS] at G;cases hj:(e8 w)[j]? with
  |none=>rw[hj] at G;cases G
  |some H=>
   have ba:j<w/\H=j:=by
    have:=cu.1 hj;obtain⟨q1,q2⟩:=this;simp at q1 q2;exact⟨q1,q2.symm⟩
   obtain⟨bk,rfl⟩:=ba;rw[hj] at G;simp only[eh,cX] at G;have bb:(bE ty (.sl e))[H]?=U ((bE ty (.sl e)).getD H .bool):=by
    rw[cw,cP aa];rfl
   have bc:H<Y af:=aa;have ag:af[H]?=U af[H]:=cP bc;rw[<-G,awk (W:=W) (ty:=ty) h1 ag (h5 H _ _ ag bb)];rw[a9];exact h4 H _ ag)
 have hA:oO (RE.ab O Q) ((i.ab O).toNat*w+p)=⟨b,aA+(i.ab O).toNat*w+p,Z⟩:=by
  simp only[RE.ab,h3,oO,Ht]
 simp only[C.ab,hA,this,du,fz];exact h.elim;exact h.elim;rename_i ti e ks vs n k;rw[k];split at h;rename_i tt f N;split at h;rename_i w L;split at h;rename_i aC;obtain⟨a0,rfl⟩:=h;simp only[dK] at aC;cases al:zL vs with
 |none=>rw[al] at N;cases N
 |some i=>
  rw[al] at N;simp only[ZL] at N;rw[TL aC] at a0;obtain⟨u,hu⟩:=lF.1 a0;obtain⟨p,rfl⟩:=aj0 al (KR hu);cases an:Fh (vs.map (Z2 ti f)) with
  |none=>rw[an] at L;cases L
  |some ps=>
   rw[an] at L;simp only[ZL] at L;obtain⟨q,a1,bd⟩:=aaE an hu;simp only[Z2] at a1;have a3:=TH (P:=P) (W:=W) (d _ _ n) (O:=O) (V:=V) (b:=ad V i) (base:=0) a1 (λj y hy=>by
    obtain⟨N,A⟩:=zY N;have:=R.mem.box i tt f N;rw[uc A] at this;simp[oK,this,t8,hy])
   simp only[jf] at a3;have bf:(C.gz e ks vs).ab O V=.pointer (U ⟨ad V i,p,Z⟩):=by
    simp only[C.ab];rw[TO hu rfl];rfl
   rw[bf,ajY (wB R) L bd];simp only[a3,du,fz]
 exact h.elim;exact h.elim;exact h.elim;exact h.elim
def awm(Q:az g m D ty V O s a W)(af:jq P ty)(hg:fk B O)(ho:F.op=.fieldAddr X r R)(hk:(s.ev B r).eX=E)
  (h:(cH ty B s (.fieldAddr X r R)).gives O M):(execOp a.eval F).run P W=.ok (.value (M.ab O V)) W:=by
 have he:=dA Q hg r hk;have ag:∀(G:List (Nat×TypeId))(aj:fu)(q:Bool)(y:Nat)(p:TypeId)(H:TI)(A:Addr),ty X=U ⟨.struct G,aj,q⟩->G[R]?=U (y,p)->ty p=U H->(Y H.aj==0)=E->A.spot=Z->
   (Instr.fieldAt X (.pointer (U A)) R).run P W=.ok (.pointer (U ⟨A.block,A.off+y,Z⟩)) W:=by
  intro G aj q y p H A h1 u h3 h4 h5;obtain⟨N,hF,al⟩:=(af _ _ h1).desc;rw[<-al,dS] at u;cases z:N.toList[R]? with
  |none=>rw[z] at u;cases u
  |some fd=>
   rw[z] at u;simp only[eh,cX,Dh] at u;obtain⟨rfl,rfl⟩:=u;have an:N[R]?=U fd:=by simpa using z
   have aA:¬Y H.aj=0:=by simpa using h4
   obtain⟨b,of,sp⟩:=A;simp only at h5;subst h5;simp only[Instr.fieldAt,Instr.sureAddr,fieldPlace,dC,fw.iL hF,du,an,fz,(af _ _ h3).oq,aT aA,Sem.run_ite,yq]
 simp only[execOp,ho,dC,he];simp only[cH] at h;split at h;rename_i G aj q i y l k;rw[k];split at h;rename_i j e z;split at h;rename_i H d;split at h;exact h.elim;rename_i c;cases h;simp only[C.ab,ag G aj q j e H ⟨ad V i,y,Z⟩ l z d (by simpa using c) rfl,du,fz];exact h.elim;exact h.elim;rename_i G aj q L w i y l k;rw[k];split at h;rename_i j e z;split at h;rename_i H d;split at h;exact h.elim;rename_i c;cases h;have aC:∀M n,(oO M n).spot=none:=by intro M n;unfold oO;split<;>rfl
 simp only[C.ab,ag G aj q j e H _ l z d (by simpa using c) (aC _ _),du,fz];congr 4;unfold oO;split;simp only[Addr.mk.injEq,and_true,true_and];omega;simp only[Addr.mk.injEq,and_true,true_and];omega;exact h.elim;exact h.elim;exact h.elim
end
section
variable{G:aq}{H:World}{D:cq}{P:Program}{u:Ty}{B:nG}{V:aq}{O:ai}{s:S}{a:Act}{W:World}
def awn(Q:az G H D u V O s a W)(z:jq P u)(w:fk B O)(p:F.op=.field X r R)(n:(s.ev B r).eX=E)
  (h:(cH u B s (.field X r R)).gives O M):(execOp a.eval F).run P W=.ok (.value (M.ab O V)) W:=by
 have m:=dA Q w r n;simp only[execOp,p,dC,m];simp only[cH] at h;split at h;rename_i fs aj q l k j;rw[j];split at h;rename_i o' t' L;split at h;rename_i ti i;split at h;rename_i y g;cases h;obtain⟨N,e,d⟩:=(z _ _ k).desc;rw[<-d,dS] at L;cases A:N.toList[R]? with
 |none=>rw[A] at L;cases L
 |some c=>
  rw[A] at L;simp only[eh,cX,Dh] at L;obtain⟨rfl,rfl⟩:=L;have b:N[R]?=U c:=by simpa using A
  simp only[C.ab,Instr.field,dC,fw.iL e,du,b,asAgg,fz,aaz (z _ _ i) g]
 exact h.elim;exact h.elim;exact h.elim;exact h.elim
def awo(R:az G H D u V O s a W)(ag:jq P u)(hg:fk B O){y:Operand}(ho:F.op=.indexAddr X r y)(hk:(s.ev B r).eX=E)(aC:(s.ev B y).eX=E)
  (h:(cH u B s (.indexAddr X r y)).gives O M):(execOp a.eval F).run P W=.ok (.value (M.ab O V)) W:=by
 have he:=dA R hg r hk;have a0:=dA R hg y aC;have al:∀(n:Nat)(e:TypeId)(aj:fu)(q:Bool)(L:TI)(A:Addr)(k:IntKind)(m:Int),u X=U ⟨.arr n e,aj,q⟩->u e=U L->0<=m->m<n->A.spot=Z->
   (Instr.indexAt X (.pointer (U A)) (.int k m)).run P W=.ok (.pointer (U ⟨A.block,A.off+m.toNat*Y L.aj,Z⟩)) W:=by
  intro n e aj q L A k m h1 h2 h3 h4 h5;have hd:P.underlying X=U (.array n e):=(ag _ _ h1).desc;obtain⟨b,of,sp⟩:=A;simp only at h5;subst h5;simp only[Instr.indexAt,asIntOf,dC,fz,du,fw.iL hd,Instr.sureAddr,h3,h4,and_self,cS,(ag _ _ h2).oq,yq]
 simp only[execOp,ho,dC,he,a0];simp only[cH] at h;split at h;rename_i n e aj q i af k m g d hy;rw[d,hy];split at h;rename_i L f;split at h;rename_i z;cases h;simp only[aw,ce] at z;simp only[C.ab,K.ab,al n e aj q L ⟨ad V i,af,Z⟩ k m g f z.1 z.2 rfl,du,fz];exact h.elim;exact h.elim;rename_i n e aj q Q w i af k m g d hy;rw[d,hy];have an:∀M n,(oO M n).spot=none:=by intro M n;unfold oO;split<;>rfl
 have aA:∀(M:Value)(p q:Nat),(⟨(oO M p).block,(oO M p).off+q,Z⟩:Addr)=oO M (p+q):=by intro M p q;unfold oO;split<;>simp[Ht]
 split at h;rename_i L f;split at h;rename_i hc;obtain⟨N,rfl⟩:=h;rw[KQ] at N;simp only[aw,dK] at hc;obtain⟨⟨⟨h1,h2⟩,h3⟩,-⟩:=hc;subst h1 h2 h3;simp only[K.ab] at N;simp only[C.ab,al n e aj q L _ k (m.ab O) g f N.1 N.2 (an _ _),du,fz,aA];simp[K.ab];split at h;rename_i m;split at h;rename_i z;cases h;simp only[aw,ce] at z;simp only[C.ab,K.ab,al n e aj q L _ k m g f z.1 z.2 (an _ _),du,fz,aA,Ht];exact h.elim;exact h.elim;exact h.elim;rename_i n e aj q Q w i af k m a4 g d hy;rw[d,hy];have an:∀M n,(oO M n).spot=none:=by intro M n;unfold oO;split<;>rfl
 have aA:∀(M:Value)(p q:Nat),(⟨(oO M p).block,(oO M p).off+q,Z⟩:Addr)=oO M (p+q):=by intro M p q;unfold oO;split<;>simp[Ht]
 split at h;rename_i L f;split at h;rename_i z;cases h;simp only[aw,ce] at z;simp only[C.ab,K.ab,al n e aj q L _ k m g f z.1 z.2 (an _ _),du,fz,aA,Ht];exact h.elim;exact h.elim;rename_i e aj q Q k m g d hy;rw[d,hy];split at h;rename_i L e' f a1;obtain⟨N,rfl⟩:=h;rw[KQ] at N;simp only[K.ab] at N;have hh:=aj6 (sK R av a1) (m.ab O) N.1 N.2;obtain⟨a9,b,af,-,-,⟨l,c,hv⟩,-⟩:=hh;have hd:P.underlying X=U (.slice e):=(ag _ _ g).desc;rw[hv] at N;simp only[lenOf] at N;simp only[C.ab,RE.ab,hv,Instr.indexAt,asIntOf,dC,fz,du,fw.iL hd,N.1,N.2,and_self,cS,(ag _ _ f).oq,yq,oO,wh];exact h.elim;rename_i e aj q i af ba bb k m g d hy;rw[d,hy];split at h;rename_i L f;split at h;rename_i z;cases h;simp only[aw,ce] at z;have hd:P.underlying X=U (.slice e):=(ag _ _ g).desc;simp only[C.ab,K.ab,Instr.indexAt,asIntOf,dC,fz,du,fw.iL hd,z.1,z.2,and_self,cS,(ag _ _ f).oq,yq];exact h.elim;exact h.elim;rename_i n e aj q i af k m bc g d hy;rw[d,hy];split at h;rename_i L f;obtain⟨N,rfl⟩:=h;rw[KQ] at N;simp only[K.ab] at N;have a3:(C.gz m (Dp n) ((e8 n).map λj=>C.loc i (af+j*Y L.aj))).ab O V=.pointer (U ⟨ad V i,af+(m.ab O).toNat*Y L.aj,Z⟩):=by
  simp only[C.ab];rw[TO (ajZ N.1 N.2) rfl];rfl
 rw[a3];simp only[C.ab,al n e aj q L ⟨ad V i,af,Z⟩ k (m.ab O) g f N.1 N.2 rfl,du,fz];exact h.elim;exact h.elim
def awp(R:az G H D u V O s a W)(L:jq P u)(hg:fk B O){y:Operand}(ho:F.op=.index X r y)(hk:(s.ev B r).eX=E)(an:(s.ev B y).eX=E)
  (h:(cH u B s (.index X r y)).gives O M):(execOp a.eval F).run P W=.ok (.value (M.ab O V)) W:=by
 have he:=dA R hg r hk;have aA:=dA R hg y an;simp only[execOp,ho,dC,he,aA];simp only[cH] at h;split at h;rename_i n e aj q l k m A w i;rw[w,i];split at h;rename_i b g;split at h;rename_i hm;split at h;rename_i z hp;cases h;simp only[aw,ce] at hm;have d:P.underlying X=U (.array n e):=(L _ _ A).desc;simp only[C.ab,K.ab,Instr.index,asIntOf,dC,fz,du,fw.iL d,hm.1,hm.2,and_self,cS,(L _ _ g).oq,aaz (L _ _ g) hp];exact h.elim;exact h.elim;exact h.elim;rename_i n e aj q l k m a4 A w i;rw[w,i];split at h;rename_i b g;split at h;rename_i z c;obtain⟨N,rfl⟩:=h;rw[KQ] at N;simp only[K.ab] at N;cases af:Fh ((e8 n).map λj=>ya b l (j*Y b.aj)) with
 |none=>rw[af] at c;cases c
 |some ps=>
  rw[af] at c;simp only[ZL] at c;obtain⟨p,aC,a0⟩:=aaE (vs:=e8 n) af (by have:=ajZ (f:=λj=>j) N.1 N.2;simpa using this);have d:P.underlying X=U (.array n e):=(L _ _ A).desc;rw[ajY (wB R) c a0];simp only[C.ab,Instr.index,asIntOf,dC,fz,du,fw.iL d,N.1,N.2,and_self,cS,(L _ _ g).oq,aaz (L _ _ g) aC]
 exact h.elim;exact h.elim;rename_i aj q Q k m A w i;rw[w,i];split at h;rename_i a1;obtain⟨N,rfl⟩:=h;rw[KQ] at N;obtain⟨ag,al⟩:=Fv R a1;unfold RE.ab at al;have d:P.underlying X=U .string:=(L _ _ A).desc;simp only[K.ab,al,lenOf] at N;have a3:(m.ab O).toNat<ag.size:=aa;simp only[C.ab,RE.ab,al,K.ab,Instr.index,asIntOf,dC,fz,du,fw.iL d,N.1,cS,kY];have:ag[(m.ab O).toNat]?=U ag[(m.ab O).toNat]:=by simp[a3]
 rw[this];rfl;exact h.elim;exact h.elim
def awq(X:BinOp)(R:S4 X=J)(t:TypeId)(k:IntKind)(m n:Int):(binOp X t (.int k m) (.int k n)).run P W=.ok (.bool (fA X m n)) W:=by
 cases X<;>simp[S4] at R<;>simp[binOp,Op.intCmp,fA]
def awr(X:BinOp)(R:ZX X=J)(t:TypeId)(k:IntKind)(m n:Int):(binOp X t (.int k m) (.int k n)).run P W=.ok (.int k (aH X k m n)) W:=by
 cases X<;>simp[ZX] at R<;>simp[binOp,Op.intArith,Op.intBits,aH]
def aj7(X:BinOp)(R:ZY X=J)(t:TypeId)(k:IntKind)(m n:Int)(Q:n≠0):(binOp X t (.int k m) (.int k n)).run P W=.ok (.int k (aH X k m n)) W:=by
 cases X<;>simp[ZY] at R<;>simp[binOp,Op.intDiv,aH,Q]
def aaG(X:BinOp)(t:TypeId)(x y:Operand)(k:IntKind)(n:Int)(w:Value):(eqGuard X t x y (.int k n) w).run P W=.ok () W:=by cases X<;>rfl
def aws(X:BinOp)(t:TypeId)(x y:Operand)(n:Bool)(w:Value):(eqGuard X t x y (.bool n) w).run P W=.ok () W:=by cases X<;>rfl
def aj8(X:BinOp)(t:TypeId)(x y:Operand)(n:ByteArray)(w:Value):(eqGuard X t x y (.string n) w).run P W=.ok () W:=by cases X<;>rfl
def aj9(R:P.underlying X=U .bool)(m n:Bool):(E9 X (.bool m) (.bool n)).run P W=.ok (m==n) W:=by
 have:E9 X (.bool m) (.bool n)=Di (9999+1) X (.bool m) (.bool n):=rfl;rw[this,Di,dC,fw.iL R];rfl
def awt(R:P.underlying X=U .bool)(m n:Bool):(binOp .eql X (.bool m) (.bool n)).run P W=.ok (.bool (m==n)) W:=by
 show((E9 X (.bool m) (.bool n))>>=λb=>(pure (.bool b):Sem Value)).run P W=_;rw[dC,aj9 R];rfl
def awu(R:P.underlying X=U .bool)(m n:Bool):(binOp .neq X (.bool m) (.bool n)).run P W=.ok (.bool !(m==n)) W:=by
 show((E9 X (.bool m) (.bool n))>>=λb=>(pure (.bool !b):Sem Value)).run P W=_;rw[dC,aj9 R];rfl
def aaH(R:jq P u)(h:Ov (u X)=J):∃a b c,P.underlying X=U (.func a b c):=by
 unfold Ov at h;split at h;rename_i k q Q;obtain⟨d,N,⟨-,M⟩,-,-⟩:=(R _ _ Q).desc;obtain⟨a,b,c,rfl⟩:=M k rfl;exact⟨a,b,c,N⟩;cases h
def aaI{x y:Operand}{Q:_}{N:_}{M:_}(L:P.underlying X=U (.func Q N M))(v:Value)(n:Bool)(R:(v=.nilFunc/\n=J)\/(∃f a b,v=.func f a b)/\n=E):
  (do eqGuard .eql X x y v .nilFunc;binOp .eql X v .nilFunc).run P W=.ok (.bool n) W/\(do eqGuard .neq X x y v .nilFunc;binOp .neq X v .nilFunc).run P W=.ok (.bool !n) W:=by
 have H:(E9 X v .nilFunc).run P W=.ok n W:=by
  have G:E9 X v .nilFunc=Di (9999+1) X v .nilFunc:=rfl;rw[G,Di,dC,fw.iL L,du];rcases R with⟨rfl,rfl⟩|⟨⟨f,a,b,rfl⟩,rfl⟩<;>rfl
 rcases R with⟨rfl,rfl⟩|⟨⟨f,a,b,rfl⟩,rfl⟩<;>constructor<;>simp[eqGuard,binOp,H]
def aka{e:K}:∀{ks:bA}{vs:ap},vs.all Kh=J->Y ks=Y vs->
  (ld (e.ab O) ks (C.aG O V vs)=.nilFunc/\(Dn e ks vs).ab O=J)\/((∃f a b,ld (e.ab O) ks (C.aG O V vs)=.func f a b)/\(Dn e ks vs).ab O=E)
 |[],[],_,_=>.inl ⟨rfl,rfl⟩
 |[],_::_,_,h=>by simp at h
 |_::_,[],_,h=>by simp at h
 |k::ks,v::vs,R,M=>by
  simp only[Om,aw] at R;have N:=aka (e:=e) (ks:=ks) (vs:=vs) R.2 (by simpa using M);have Q:=R.1;unfold Kh at Q;split at Q;rename_i g L;simp only[C.aG,C.ab,ld,Dn,BE.ab,fA,K.ab];by_cases X:e.ab O=k;right;simp[X,jD];simp only[X,gw,dK];exact N;simp only[C.aG,C.ab,ld,Dn,BE.ab,fA,K.ab];by_cases X:e.ab O=k;left;simp[X,RE.ab,RE.rv,jD];simp only[X,gw,dK];exact N;cases Q
def awv(R:az G H D u V O s a W)(l:jq P u)(hg:fk B O){z:BinOp}{t2:TypeId}{y:Operand}(ho:F.op=.binOp z X r y t2)(hk:(s.ev B r).eX=E)(af:(s.ev B y).eX=E)
  (h:(cH u B s (.binOp z X r y t2)).gives O M):(execOp a.eval F).run P W=.ok (.value (M.ab O V)) W:=by
 have he:=dA R hg r hk;have ag:=dA R hg y af;simp only[execOp,ho];rw[dC,he,ag];simp only[cH] at h;split at h;rename_i k m k' n Q N;rw[Q,N];split at h;rename_i al;have an:z=.shr:=by cases z<;>simp[ajx] at al;rfl
 subst an;split at h;rename_i n;split at h;rename_i L;have j:¬n<0:=by simp only[ce] at L;omega
 cases h;simp only[C.ab,KP,K.ab];rw[dC,aaG,du];simp[binOp,Op.shift,aH,j];exact h.elim;obtain⟨L,rfl⟩:=h;have a3:0<=n.ab O:=by
  simp only[BE.ab,K.ab,fA] at L;exact tP L
 have j:¬n.ab O<0:=aa;simp only[C.ab,KP];rw[dC,aaG,du];simp[binOp,Op.shift,aH,j];split at h;exact h.elim;rename_i aA;have aC:k=k':=by simpa using aA
 subst aC;simp only[C.ab];rw[dC,aaG,du];split at h;rename_i hc;cases h;simp only[awq z hc,du,fz,C.ab,DH];split at h;rename_i hc;cases h;simp only[awr z hc,du,fz,C.ab,KP];split at h;rename_i hc;split at h;rename_i n;split at h;exact h.elim;rename_i L;cases h;have j:n≠0:=by simpa using L
 simp only[C.ab,KP,K.ab];rw[aj7 z hc _ _ _ _ j];rfl;obtain⟨hb,rfl⟩:=h;rw[DH] at hb;have j:n.ab O≠0:=by simpa[fA,K.ab] using hb
 simp only[C.ab,KP];rw[aj7 z hc _ _ _ _ j];rfl;exact h.elim;rename_i m n Q N;rw[Q,N];simp only[C.ab];rw[dC,aws,du];split at h;rename_i q i;cases h;obtain⟨d,A,-,-,hb⟩:=(l _ _ i).desc;rw[hb rfl] at A;rw[awt A];simp[C.ab,aaB];rename_i q i;cases h;obtain⟨d,A,-,-,hb⟩:=(l _ _ i).desc;rw[hb rfl] at A;rw[awu A];simp[C.ab,aaB,O6];exact h.elim;rename_i Q N;rw[Q,N];split at h;exact h.elim;rename_i w;obtain⟨d1,d2,d3,A⟩:=aaH l (by simpa using w);obtain⟨q1,q2⟩:=aaI (x:=r) (y:=y) (W:=W) A .nilFunc J (.inl ⟨rfl,rfl⟩);have L:C.ab O V (.ah (.k .nilFunc))=.nilFunc:=rfl;rw[L];split at h;cases h;rw[q1];rfl;cases h;rw[q2];rfl;exact h.elim;rename_i m n a4 Q N;rw[Q,N];split at h;rename_i g c;cases h;obtain⟨p,b⟩:=Fv R g;obtain⟨q,hq⟩:=Fv R c;simp only[C.ab,b,hq];rw[dC,aj8,du];unfold RE.ab at b hq;simp[binOp,Op.stringOp,BE.ab,b,hq,t7];rename_i g c;cases h;obtain⟨p,b⟩:=Fv R g;obtain⟨q,hq⟩:=Fv R c;simp only[C.ab,b,hq];rw[dC,aj8,du];unfold RE.ab at b hq;simp[binOp,Op.stringOp,BE.ab,b,hq,t7];exact h.elim;rename_i f a0 Q N;rw[Q,N];split at h;exact h.elim;rename_i w;obtain⟨d1,d2,d3,A⟩:=aaH l (by simpa using w);obtain⟨q1,q2⟩:=aaI (x:=r) (y:=y) (W:=W) A ((C.fn f a0).ab O V) E (.inr ⟨⟨_,_,_,rfl⟩,rfl⟩);have L:C.ab O V (.ah (.k .nilFunc))=.nilFunc:=rfl;rw[L];split at h;cases h;rw[q1];rfl;cases h;rw[q2];rfl;exact h.elim;rename_i e ks vs Q N;rw[Q,N];split at h;rename_i w;simp only[aw,dK] at w;obtain⟨d1,d2,d3,A⟩:=aaH l w.2;have a1:=aka (O:=O) (V:=V) (e:=e) w.1.1 w.1.2;obtain⟨q1,q2⟩:=aaI (x:=r) (y:=y) (W:=W) A (ld (e.ab O) ks (C.aG O V vs)) ((Dn e ks vs).ab O) a1;have L:C.ab O V (.ah (.k .nilFunc))=.nilFunc:=rfl;rw[L,C.ab];split at h;cases h;rw[q1];rfl;cases h;rw[q2];simp[C.ab,O6];exact h.elim;exact h.elim;rename_i m n Q N;rw[Q,N];simp only[C.ab];split at h;rename_i e he;cases h;obtain⟨aj,d,i,g,c,h3⟩:=aj5 R he;have:=((l _ _ i).eq rfl _ _ _ r y W g c h3).1;rw[this];rfl;rename_i e he;cases h;obtain⟨aj,d,i,g,c,h3⟩:=aj5 R he;have:=((l _ _ i).eq rfl _ _ _ r y W g c h3).2;rw[this];simp[C.ab,O6];exact h.elim;exact h.elim
end
section
variable{d:aq}{g:World}{D:cq}{P:Program}{b:Ty}{B:nG}{V:aq}{O:ai}{s:S}{a:Act}{W:World}
def TP(X:∀r:RE,r.HC=J->jD (r.ab O)=J)(h:M.HD=J):(M.ab O V).cells.toList=C.aG O V M.cells:=by
 cases M with
 |agg l=>simp[C.ab,C.cells,Value.cells]
 |ah r=>
  have:jD (r.ab O)=true:=X r (by cases r<;>simp_all[C.HD,RE.HC]);simp only[C.ab,C.cells,C.aG];revert this;cases r.ab O<;>simp[jD,Value.cells]
 |gz e R Q=>
  simp only[C.ab,C.cells,C.aG];exact awb (aay _ _ _)
 |_=>simp[C.ab,C.cells,Value.cells,C.aG,undef]
def akb:∀(M l:ap)(R:Nat),C.aG O V (l8 l R M)=(C.aG O V M).zipIdx.foldl (λQ x=>Q.set (R+x.2) x.1) (C.aG O V l)
 |[],l,R=>by simp[l8,C.aG]
 |v::M,l,R=>by
  rw[l8,akb M (l.set R v) (R+1)];simp only[C.aG,List.zipIdx_cons,E5,wh,jf];rw[show C.aG O V (l.set R v)=(C.aG O V l).set R (v.ab O V) by simp[pY]];generalize(C.aG O V l).set R (v.ab O V)=X;have:∀(N:gG)(n:Nat)(X:gG),(N.zipIdx n).foldl (λQ x=>Q.set (R+1+x.2) x.1) X=(N.zipIdx (n+1)).foldl (λQ x=>Q.set (R+x.2) x.1) X:=by
   intro N;induction N with
   |nil=>intro n X;rfl
   |cons w N L=>intro n X;simp only[List.zipIdx_cons,E5];rw[L,show R+1+n=R+(n+1) from aa]
  exact this _ 0 X
def akc:∀(l:List (Value×Nat))(R:Nat)(X:mR),(l.foldl (λQ (x:Value×Nat)=>Q.setIfInBounds (R+x.2) x.1) X).toList=l.foldl (λQ x=>Q.set (R+x.2) x.1) X.toList
 |[],_,_=>rfl
 |x::l,R,X=>by simp only[E5];rw[akc l R];simp
def O8(R:∀r:RE,r.HC=J->jD (r.ab O)=J)(place:Nat->Option (Nat×Nat)):∀(parts:List (Nat×C))(cells l:ap),zK place cells parts=U l->
  Instr.fill place (C.aG O V cells).toArray (parts.map λp=>(p.1,p.2.ab O V))=U (C.aG O V l).toArray
 |[],cells,l,h=>by simp[zK] at h;simp[Instr.fill,h]
 |(i,v)::L,cells,l,h=>by
  simp only[zK] at h;cases X:place i with
  |none=>rw[X] at h;cases h
  |some q=>
   obtain⟨Q,H⟩:=q;rw[X] at h;simp only at h;split at h;cases h;rename_i N;simp only[jL,bne_iff_ne,ce,iw,not_or,Hn,Decidable.not_not,Nat.not_lt] at N;obtain⟨⟨G,y⟩,F⟩:=N;have M:=TP (V:=V) R F;have B:(v.ab O V).cells.size=H:=by rw[<-E3,M];simp[G]
   simp only[dU,Instr.fill,X,B];rw[aT dl];have A:=O8 R place L _ l h;rw[<-A];congr 1;apply nF;have e:((v.ab O V).cells.zipIdx.foldl (λz (x:Value×Nat)=>z.setIfInBounds (Q+x.2) x.1) (C.aG O V cells).toArray).toList=C.aG O V (l8 cells Q v.cells):=by
    rw[<-aJi,akc,akb,Array.toList_zipIdx,M]
   simpa using e
def aww(c:CT):(Dl c).ab O V=rJ c:=by cases c<;>simp[Dl,C.ab,rJ,K.ab,BE.ab,RE.ab,RE.rv]
def akd(X:TI):C.aG O V (eG X)=X.aj.map rJ:=by
 simp only[eG,pY,oJ];congr 1;funext c;exact aww c
def KT(h:fw P X v):∃z,(zeroValue X).run P W=.ok z W/\z.cells=(C.aG O V (eG v)).toArray:=by
 obtain⟨i,R,-,z,Q,N⟩:=h.KO;exact⟨z,by simp[zeroValue,typeInfo,R,Q],by rw[akd,<-N]⟩
def awx(R:az d g D b V O s a W)(H:jq P b)(hg:fk B O){parts:Array (Nat×Operand)}(ho:F.op=.build X parts)(hk:∀p∈parts.toList,(s.ev B p.2).eX=E)
  (h:(cH b B s (.build X parts)).gives O M):(execOp a.eval F).run P W=.ok (.value (M.ab O V)) W:=by
 have c:(parts.map λ(i,x)=>(i,a.eval x)).toList=(parts.toList.map λp=>(p.1,s.ev B p.2)).map λp=>(p.1,p.2.ab O V):=by
  simp only[xT,oJ];apply jA;intro p hp;simp[dA R hg p.2 (hk p hp)]
 simp only[execOp,ho,dC];simp only[cH] at h;split at h;rename_i y aj q G;split at h;exact h.elim;rename_i u;have u:∀f∈y,(b f.2).isSome=true:=by
  have:(y.all λf=>(b f.2).isSome)=true:=by simpa only[iw,Hn] using u
  exact fZ.1 this
 split at h;rename_i l N;cases h;obtain⟨Q,hF,af⟩:=(H _ _ G).desc;obtain⟨z,r,k⟩:=KT (P:=P) (W:=W) (O:=O) (V:=V) (H _ _ G);have al:∀(L:List Field),(∀f∈L,∃A,b f.type=U A)->(L.mapM (m:=Sem) λf=>do pure (f.offset,<-Go.sizeOf f.type)).run P W=.ok (L.map λf=>(f.offset,((b f.type).map (·.aj.length)).getD 0)) W:=by
  intro L hL;induction L with
  |nil=>rfl
  |cons f L ih=>
   obtain⟨A,w⟩:=hL f av;have:=ih (λf N=>hL f (by simp[N]));simp only[avM,dC,(H _ _ w).oq,du,fz,this,dU,w,eh,oI]
 have ag:∀f∈Q.toList,∃A,b f.type=U A:=by
  intro f N;have:(f.offset,f.type)∈y:=by rw[<-af];exact iD.2 ⟨f,N,rfl⟩
  have:=u _ this;exact lF.1 this
 have hm:=al Q.toList ag;have j:=O8 (V:=V) (wB R) _ _ _ _ N;simp only[Instr.build,dC,r,du,fw.iL hF,aIV,Sem.run_map,hm,c,k];have an:(λi=>(Q.toList.map λf=>(f.offset,((b f.type).map (·.aj.length)).getD 0)).toArray[i]?)=ZZ b y:=by
  funext i;rw[<-af,ZZ];simp only[ai8,dS];cases hi:Q.toList[i]? with
  |none=>simp
  |some f=>
   obtain⟨A,w⟩:=ag f (jK hi);simp[w]
 rw[an,j];simp[C.ab];exact h.elim;rename_i n e aj q G;split at h;rename_i te aA;split at h;rename_i l N;cases h;obtain⟨z,r,k⟩:=KT (P:=P) (W:=W) (O:=O) (V:=V) (H _ _ G);have hd:P.underlying X=U (.array n e):=(H _ _ G).desc;have j:=O8 (V:=V) (wB R) _ _ _ _ N;simp only[Instr.build,dC,r,du,fw.iL hd,(H _ _ aA).oq,c,k,j];simp[C.ab];exact h.elim;exact h.elim;exact h.elim
def awy(R:az d g D b V O s a W)(H:jq P b)(w:fk B O){Q L u:Option Operand}(f:F.op=.slice X r Q L u)(c:(s.ev B r).eX=E)(af:∀y,Q=U y->(s.ev B y).eX=E)
  (h:(cH b B s (.slice X r Q L u)).gives O M):(execOp a.eval F).run P W=.ok (.value (M.ab O V)) W:=by
 have he:=dA R w r c;simp only[execOp,f,dC,he];simp only[cH] at h;split at h;rename_i n e aj q i aA ht hx;rw[hx];have p:P.underlying X=U (.array n e):=(H _ _ ht).desc;split at h;rename_i te G N A;cases h;have ag:Q=none:=by simpa using N
 have z:L=none:=by simpa using A
 subst ag z;simp[C.ab,Instr.sliceAt,fw.iL p,Instr.sureAddr,Instr.sliceBounds,(H _ _ G).oq,yq];rename_i te k l G N A;split at h;rename_i m;cases h;simp only[aw,ce] at m;have z:L=none:=by simpa using A
 subst z;cases Q with
 |none=>cases N
 |some y=>
  simp only[eh,cX] at N;have j:=dA R w y (af y rfl);rw[N] at j;have al:l<=n:=aa;have an:¬n=l.toNat:=aa;simp[C.ab,K.ab,Instr.sliceAt,fw.iL p,Instr.sureAddr,Instr.sliceBounds,Instr.sliceBound,asIntOf,j,m.1,al,(H _ _ G).oq,yq,an]
 exact h.elim;exact h.elim;exact h.elim
def awz(R:az d g D b V O s a W)(y:jq P b)(p:fk B O){c:Call}(m:F.op=.call c)(u:c.callee=.builtin .len)(k:∀x∈c.args.toList,(s.ev B x).eX=E)
  (h:(cH b B s (.call c)).gives O M):(execOp a.eval F).run P W=.ok (.value (M.ab O V)) W:=by
 have j:c.args.map a.eval=((c.args.toList.map (s.ev B)).map (C.ab O V)).toArray:=by
  apply nF;simp only[xT,oJ];exact jA λx f=>dA R p x (k x f)
 simp only[execOp,m,resolve,u,dC,fz,du,invoke,builtin,j];simp only[cH,u] at h;split at h;rename_i t L H;have N:c.argTypes[0]?=U t:=by have:=ko (λl=>l[0]?) L;simpa using this
 rw[H];split at h;rename_i e aj q X;cases h;have Q:P.underlying t=U (.slice e):=(y _ _ X).desc;simp[Builtin.len_,N,C.ab,K.ab,RE.ab,RE.rv,fw.iL Q,goInt];exact h.elim;rename_i t r af L H;have N:c.argTypes[0]?=U t:=by have:=ko (λl=>l[0]?) L;simpa using this
 rw[H];split at h;rename_i e aj q e' X w;cases h;have Q:P.underlying t=U (.slice e):=(y _ _ X).desc;obtain⟨A,l,cc,G⟩:=O7 R w;have z:=G;unfold RE.ab at z;simp[Builtin.len_,N,C.ab,K.ab,G,z,fw.iL Q,lenOf,goInt];rename_i aj q X w;cases h;have Q:P.underlying t=U .string:=(y _ _ X).desc;obtain⟨ag,G⟩:=Fv R w;have z:=G;unfold RE.ab at z;simp[Builtin.len_,N,C.ab,K.ab,G,z,fw.iL Q,lenOf,goInt];exact h.elim;rename_i t i al n an L H;have N:c.argTypes[0]?=U t:=by have:=ko (λl=>l[0]?) L;simpa using this
 rw[H];split at h;rename_i e aj q X;cases h;have Q:P.underlying t=U (.slice e):=(y _ _ X).desc;simp[Builtin.len_,N,C.ab,K.ab,fw.iL Q,goInt];exact h.elim;exact h.elim
def ake(R:az d g D b V O s a W)(G:fk B O){c:Call}(L:F.op=.call c)(X:c.callee=.builtin .min\/c.callee=.builtin .max)(A:∀x∈c.args.toList,(s.ev B x).eX=E)
  (h:(cH b B s (.call c)).gives O M):(execOp a.eval F).run P W=.ok (.value (M.ab O V)) W:=by
 have H:c.args.map a.eval=((c.args.toList.map (s.ev B)).map (C.ab O V)).toArray:=by
  apply nF;simp only[xT,oJ];exact jA λx z=>dA R G x (A x z)
 rcases X with X|X;simp only[execOp,L,resolve,X,dC,fz,du,invoke,builtin,H];simp only[cH,X] at h;split at h;rename_i k x l Q;rw[Q];split at h;rename_i e N;cases h;have:=aaC (P:=P) (W:=W) (O:=O) (V:=V) E k l x e N;simp only[jB,gw] at this;simp only[dU,C.ab,Builtin.min_,<-pY,this,du];exact h.elim;exact h.elim;simp only[execOp,L,resolve,X,dC,fz,du,invoke,builtin,H];simp only[cH,X] at h;split at h;rename_i k x l Q;rw[Q];split at h;rename_i e N;cases h;have:=aaC (P:=P) (W:=W) (O:=O) (V:=V) J k l x e N;simp only[cS] at this;simp only[dU,C.ab,Builtin.max_,<-pY,this,du];exact h.elim;exact h.elim
end
section
variable{g:aq}{A:World}{D:cq}{P:Program}{f:Ty}{B:nG}{V:aq}{O:ai}{s:S}{a:Act}{W:World}
def aaJ{l:bA}(h:t=E->Y l=1):yp (ip t l)=l:=by
 cases t;obtain⟨x,rfl⟩:=oZ.1 (h rfl);rfl;simp[ip,yp,Function.comp_def,bn]
def aaK{x y z:K}(h:HG R t M=U (x,y,z)):M.ab O V=ip t ([x.ab O,y.ab O,z.ab O].take R)/\([x.ab O,y.ab O,z.ab O].take R).length=R:=by
 unfold HG at h;split at h;split at h;rename_i X;cases h;simp only[aw,dK,iw] at X;obtain⟨rfl,rfl⟩:=X;simp[ip,C.ab];cases h;split at h;rename_i X;cases h;simp only[aw,dK] at X;obtain⟨rfl,rfl⟩:=X;simp[ip,C.ab,C.aG];cases h;split at h;rename_i X;cases h;simp only[aw,dK] at X;obtain⟨rfl,rfl⟩:=X;simp[ip,C.ab,C.aG];cases h;split at h;rename_i X;cases h;simp only[aw,dK] at X;obtain⟨rfl,rfl⟩:=X;simp[ip,C.ab,C.aG];cases h;cases h
def aaL:∀{l:tQ}{m:Nat}{e:MapEntry},e∈gU m l->∃p∈l,e.key=p.1
 |[],m,e,h=>by simp[gU] at h
 |x::r,m,e,h=>by
  simp only[gU,dV] at h;rcases h with rfl|h;exact⟨x,av,rfl⟩;obtain⟨p,X,R⟩:=aaL h;exact⟨p,by simp[X],R⟩
def Fw(n:Nat)(X:aF):Prop:=∃l:bA,Y l=n/\X.take n=l.map λx=>.mk (.int I x) []
def O9{ag:Bool}(M:ag=E->R=1){X:aF}(h:Fw R X):∃l:bA,Y l=R/\rI ag (X.take R)=ip ag l/\(X.take R).map (λc=>bn c.val)=l:=by
 obtain⟨l,Q,N⟩:=h;refine⟨l,Q, ?_,by rw[N];simp[Function.comp_def,bn]⟩;rw[N];cases ag;obtain⟨x,rfl⟩:=oZ.1 (Q.trans (M rfl));rfl;simp[rI,ip,Function.comp_def]
def akf{n:Nat}{Q va:Bool}(N:Q=E->n=1){R:bA}(H:(R.take n).length=n):∀{rows:ar}{m i:Nat},(∀X∈rows,Fw n X)->
  (jb n R rows=Z/\oQ (R.take n) (gU m (rows.map (ww n Q va))) i=Z)\/∃X j,jb n R rows=U X/\X∈rows/\oQ (R.take n) (gU m (rows.map (ww n Q va))) i=U (j,rI va (X.drop n))
 |[],m,i,_=>.inl ⟨rfl,rfl⟩
 |X::rows,m,i,h=>by
  obtain⟨l,G,F,B⟩:=O9 (ag:=Q) N (h X av);simp only[jb,Ka,dU,gU,oQ,ww,F];rw[aaJ (λe=>G.trans (N e))];have A:kZ n R X=decide (l=R.take n):=by simp only[kZ,B]
  rw[A];by_cases L:l=R.take n;right;simp only[L,decide_true,cS];exact⟨X,i,rfl,av,rfl⟩;simp only[L,decide_false,gw];rcases akf (rows:=rows) (m:=m+1) (i:=i+1) (va:=va) N H (λr z=>h r (by simp[z])) with M|⟨r,j,M,y,x⟩;exact .inl M;exact .inr ⟨r,j,M,by simp[y],x⟩
def akg(O:ai)(V:aq){k e:TypeId}(F:P.underlying X=U (.map k e))(B:u4 P k R t)(A:fw P e v){l:tQ}(y:W.heap[Q]?=U (qK l)){L:bA}(u:Y L=R)
  (q:∀p∈l,∃M:bA,Y M=R/\p.1=ip t M)(H:Bool):
  ∃z,(zeroValue e).run P W=.ok z W/\(Instr.lookup X (.map (U Q)) (ip t L) H).run P W=.ok (let r:=match oQ L (gU 0 l) 0 with
   |U (_,N)=>(N,J)
   |none=>(z,E);if H then .tuple #[r.1,.bool r.2] else r.1) W:=by
 obtain⟨z,G,af⟩:=KT (P:=P) (W:=W) (O:=O) (V:=V) A;refine⟨z,G, ?_⟩;have o:∀x∈gU 0 l,∃M:bA,Y M=R/\x.key=ip t M:=λx m=>by
  obtain⟨p,i,h⟩:=aaL m;obtain⟨M,g,f⟩:=q p i;exact⟨M,g,h.trans f⟩
 obtain⟨d,c⟩:=B.2 L (gU 0 l) W u o;have hg:=MapKept.run_getObj_map (P:=P) (w:=W) y;simp only[Instr.lookup,dC,fw.iL F,du,hg,fz,d,c];cases hf:oQ L (gU 0 l) 0 with
 |none=>simp[G]
 |some p=>obtain⟨j,N⟩:=p;simp
structure Ib(f:Ty)(sh:Sh)(row:aF):Prop where
 len:Y row=(bE f (.mr sh)).length
 int:∀(j:Nat)(c:RV)(k:IntKind),row[j]?=U c->(bE f (.mr sh))[j]?=U (.int k)->∃n,c=.mk (.int k n) []
 bool:∀(j:Nat)(c:RV),row[j]?=U c->(bE f (.mr sh))[j]?=U .bool->∃x,c=.mk (.bool x) []
def awA{R:Sh}(h:bJ W f (.mr R) L):∀X∈L.ac,Ib f R X:=by
 cases h with
 |mr R A H G F z=>
  intro X B;obtain⟨i,Q⟩:=tO B;exact⟨H i X Q,λj c k N M=>G i j X c k Q N M,λj c N M=>F i j X c Q N M⟩
def Ic(R:az g A D f V O s a W){X:Sh}{r:RE}(h:r.o8 f s X=J):∀Q∈(r.rv O).ac,Ib f X Q:=by
 unfold RE.o8 at h;rcases avu.1 h with h|h;exact awA (sK R av (tP h));unfold RE.nil at h;split at h;intro Q N;simp[RE.rv] at N;cases h
def KU{e:TypeId}{va:Bool}(Q:tT f X R t=J)(M:f e=U v):∃N:fu,bE f (.mr ⟨X,e,R,t,va⟩)=N++v.aj/\Y N=R/\∀c∈N,c=.int I:=by
 unfold tT at Q;split at Q;rename_i tk L;simp only[aw,dK] at Q;refine⟨tk.aj,by simp[bE,L,M],Q.1.1,λc H=> ?_⟩;have:=fZ.1 Q.1.2 c H;unfold Z1 at this;split at this;rfl;cases this;cases Q
def KV{e:TypeId}{N:Bool}(G:tT f X R t=J)(F:f e=U v){Q:aF}(h:Ib f ⟨X,e,R,t,N⟩ Q):Fw R Q:=by
 obtain⟨u,M,B,A⟩:=KU (va:=N) G F;have z:=h.len;rw[M,gP,B] at z;refine⟨(Q.take R).map λc=>bn c.val,dl, ?_⟩;apply kU;intro j;rw[dS,dS,nD];by_cases L:j<R;rw[aL L];have H:j<Y Q:=aa;rw[cP H];have y:(bE f (.mr ⟨X,e,R,t,N⟩))[j]?=U (.int I):=by
  rw[M,dN aa,cP aa];congr 1;exact A _ (pM _)
 obtain⟨x,w⟩:=h.int j _ I (cP H) y;simp only[eh,w,RV.nM,bn];rw[aT L];rfl
def aaM{r:RE}{n:Nat}{x y z:K}{R:aF}(L:jb n [x.ab O,y.ab O,z.ab O] (r.rv O).ac=U R):∀{aj:fu}{j:Nat},aj.all nH=J->Y R=j+Y aj->
  (∀(i:Nat)(k:IntKind),aj[i]?=U (.int k)->∃m,R[j+i]?=U (.mk (.int k m) []))->(∀(i:Nat),aj[i]?=U .bool->∃m,R[j+i]?=U (.mk (.bool m) []))->
  C.aG O V (rB r n x y z j aj)=(R.drop j).map RV.val
 |[],j,_,Q,_,_=>by rw[avq (by simp at Q;omega)];rfl
 |.int k::aj,j,N,Q,H,G=>by
  obtain⟨m,X⟩:=H 0 k rfl;have F:=aaM L (aj:=aj) (j:=j+1) (by simpa[nH] using N) (by simp at Q⊢;omega) (λi k h=>by have:=H (i+1) k (by simpa using h);rwa [show j+(i+1)=j+1+i from aa] at this) (λi h=>by have:=G (i+1) (by simpa using h);rwa [show j+(i+1)=j+1+i from aa] at this);have B:R.drop j=.mk (.int k m) []::R.drop (j+1):=by
   rw[wh] at X;have M:=(cu.1 X).1;rw[Bj M];congr 1;rw[cP M] at X;simpa using X
  rw[wh] at X;simp only[rB,C.aG,C.ab,K.ab,L,F,B,dU,RV.nM,cw,X,oI,bn]
 |.bool::aj,j,N,Q,H,G=>by
  obtain⟨m,X⟩:=G 0 rfl;have F:=aaM L (aj:=aj) (j:=j+1) (by simpa[nH] using N) (by simp at Q⊢;omega) (λi k h=>by have:=H (i+1) k (by simpa using h);rwa [show j+(i+1)=j+1+i from aa] at this) (λi h=>by have:=G (i+1) (by simpa using h);rwa [show j+(i+1)=j+1+i from aa] at this);have B:R.drop j=.mk (.bool m) []::R.drop (j+1):=by
   rw[wh] at X;have M:=(cu.1 X).1;rw[Bj M];congr 1;rw[cP M] at X;simpa using X
  rw[wh] at X;simp only[rB,C.aG,C.ab,BE.ab,L,F,B,dU,RV.nM,cw,X,oI,gA]
 |.ae _ _::aj,j,N,_,_,_=>by simp[nH] at N
def aaN{r:RE}{n:Nat}{x y z:K}(R:jb n [x.ab O,y.ab O,z.ab O] (r.rv O).ac=Z):∀{aj:fu}{j:Nat},aj.all nH=J->C.aG O V (rB r n x y z j aj)=aj.map rJ
 |[],j,_=>rfl
 |.int k::aj,j,X=>by
  simp only[rB,C.aG,C.ab,K.ab,R,dU,rJ,aaN R (aj:=aj) (j:=j+1) (by simpa[nH] using X)]
 |.bool::aj,j,X=>by
  simp only[rB,C.aG,C.ab,BE.ab,R,dU,rJ,aaN R (aj:=aj) (j:=j+1) (by simpa[nH] using X)]
 |.ae _ _::aj,j,X=>by simp[nH] at X
def TQ{r:RE}{n:Nat}{x y z:K}:∀{aj:fu}{j:Nat},(rB r n x y z j aj).length=Y aj
 |[],j=>rfl
 |.int _::aj,j=>by simp[rB,TQ (aj:=aj)]
 |.bool::aj,j=>by simp[rB,TQ (aj:=aj)]
 |.ae _ _::aj,j=>by simp[rB,TQ (aj:=aj)]
def aaO(h:fw P X v)(R:(zeroValue X).run P W=.ok c W):c=if v.d.isAgg then .agg (v.aj.map rJ).toArray else(v.aj.map rJ).headD undef:=by
 obtain⟨i,Q,-,M,N,L⟩:=h.KO;have H:c=M:=by simp[zeroValue,typeInfo,Q,N] at R;exact R.symm
 subst H;have G:=h.ajU i c Q N;rw[<-G,<-L];cases c<;>simp[TG,Value.cells]
def BN(h:fw P X v)(Q:v.d.isAgg=E):Y v.aj=1:=by
 obtain⟨i,N,H,z,M,L⟩:=h.KO;have:=h.ajU i z N M;rw[Q] at this;have R:=ko Y L;simp only[pN] at R;rw[<-R];cases z<;>simp[TG] at this<;>rfl
def KW:∀{R:ap}{X:bA},rC R=U X->DE (C.aG O V R)=(X.zip (mS R)).map (λp=>(.int I p.1,p.2.ab O V))/\Y X=(mS R).length
 |[],X,h=>by simp[rC] at h;subst h;exact⟨rfl,rfl⟩
 |[v],X,h=>by unfold rC at h;split at h<;>simp_all
 |u::v::r,X,h=>by
  unfold rC at h;split at h;rename_i Q;cases Q;rename_i k H G Q;cases Q;cases N:rC r with
  |none=>rw[N] at h;cases h
  |some F=>
   rw[N] at h;simp only[eh,cX] at h;subst h;obtain⟨M,L⟩:=KW N;exact⟨by simp only[C.aG,C.ab,K.ab,DE,M,mS,ZH,dU],by simp[mS,L]⟩
  cases h
def akh{x:Int}:∀{ks:bA}{vs:ap}{m i:Nat},(oQ [x] (gU m ((ks.zip vs).map λp=>(.int I p.1,p.2.ab O V))) i).map (·.2)=(fh x ks vs).map (C.ab O V)
 |[],vs,m,i=>by simp[gU,oQ,fh]
 |_::_,[],m,i=>by simp[gU,oQ,fh]
 |k::ks,v::vs,m,i=>by
  simp only[ZH,dU,gU,oQ,yp,xU,and_true,fh];by_cases h:x=k;subst h;simp;rw[aT (λe=>h e.symm),aT h];exact akh
def Fy{r:RE}{X:Bool}:mC wj (C.dR O V [.ah r,.int I (.c (R:Int)),.bool (.c t),.bool (.c X)])=qK ((r.rv O).ac.map (ww R t X)):=by
 simp[mC,wj,uQ,C.dR,C.io,C.ab,K.ab,BE.ab]
def Fz:mC uQ (C.dR O V w)=qK (DE (C.aG O V w)):=by
 simp only[mC,cS,ajS]
def awB(R:az g A D f V O s a W)(a3:jq P f)(hg:fk B O){ix:Operand}(ho:F.op=.lookup X r ix t)(hk:(s.ev B r).eX=E)(b0:(s.ev B ix).eX=E)
  (h:(cH f B s (.lookup X r ix t)).gives O M):(execOp a.eval F).run P W=.ok (.value (M.ab O V)) W:=by
 have he:=dA R hg r hk;have b1:=dA R hg ix b0;simp only[execOp,ho,dC,he,b1];simp only[cH] at h;split at h;rename_i k e n ag aj q i ht hx;rw[hx];have hd:P.underlying X=U (.map k e):=(a3 _ _ ht).desc;have hK:u4 P k n ag:=(a3 _ _ ht).key k e n ag rfl;unfold S8 at h;split at h;rename_i N H xb xc bt cs g1 g2 g3;have af:=a3 _ _ g1;split at h;exact h.elim;rename_i a0;have a0:tT f k n ag=true:=by simpa using a0
 obtain⟨b2,a4⟩:=aaK (O:=O) (V:=V) g2;have an:=R.mem.box i bt cs g3;simp only[C.ab,b2];split at h;rename_i aA;simp only[dK] at aA;subst aA;split at h;rename_i Q nk ka va;split at h;rename_i bd;simp only[aw,dK] at bd;obtain⟨⟨⟨⟨⟨c1,c2⟩,c3⟩,c4⟩,c5⟩,-⟩:=bd;subst c2 c3 c4;rw[Fy] at an;have bf:=Ic R c1;have bg:∀G∈(Q.rv O).ac,Fw n G:=λG hr=>KV a0 g1 (bf G hr)
 obtain⟨z,hz,a9⟩:=akg O V hd hK af an a4 (λp hp=>by
  obtain⟨G,hr,rfl⟩:=iD.1 hp;obtain⟨l,q1,q2,-⟩:=O9 hK.1 (bg G hr);exact⟨l,q1,q2⟩) t
 rw[a9];simp only[S7,PR.gives] at h;subst h;have a1:N.d.isAgg=E->(rB Q n H xb xc n N.aj).length=1:=λha=>by rw[TQ];exact BN af ha
 rcases akf (m:=0) (i:=0) (va:=N.d.isAgg) hK.1 a4 bg with⟨f1,f2⟩|⟨G,j,f1,f2,f3⟩;have hv:(tS N.d.isAgg (rB Q n H xb xc n N.aj)).ab O V=z:=by
  rw[DJ a1,aaN f1 c5];exact(aaO af hz).symm
 simp only[f2];cases t;simp only[jB,gw,hv];rfl;simp only[cS,C.ab,C.aG,hv,BE.ab,f1];rfl;obtain⟨kc,r1,r2,r3⟩:=KU (va:=N.d.isAgg) a0 g1;have ba:=bf G f2;have b3:Y G=n+Y N.aj:=by rw[ba.len,r1,gP,r2]
 have bk:∀(m:Nat)(ct:CT),N.aj[m]?=U ct->(bE f (.mr ⟨k,e,n,_,N.d.isAgg⟩))[n+m]?=U ct:=λm ct hm=>by
  rw[r1,iJ aa,r2,show n+m-n=m from aa];exact hm
 have bl:∀(m:Nat)(ct:CT),N.aj[m]?=U ct->∃c,G[n+m]?=U c:=λm ct hm=>by
  have:m<Y N.aj:=(cu.1 hm).1;exact⟨G[n+m]' aa,cP _⟩
 have b4:=aaM (V:=V) f1 (aj:=N.aj) (j:=n) c5 b3 (λm kk hm=>by
  obtain⟨c,hc⟩:=bl m _ hm;obtain⟨x',bb⟩:=ba.int (n+m) c kk hc (bk m _ hm);exact⟨x',by rw[hc,bb]⟩) (λm hm=>by
  obtain⟨c,hc⟩:=bl m _ hm;obtain⟨x',bb⟩:=ba.bool (n+m) c hc (bk m _ hm);exact⟨x',by rw[hc,bb]⟩)
 have hv:(tS N.d.isAgg (rB Q n H xb xc n N.aj)).ab O V=rI N.d.isAgg (G.drop n):=by
  rw[DJ a1,b4,rI];cases b5:N.d.isAgg;have h1:=BN af b5;obtain⟨c,hc⟩:=oZ.1 (show(G.drop n).length=1 from dl);rw[hc];rfl;rfl
 simp only[f3];cases t;simp only[jB,gw,hv];rfl;simp only[cS,C.ab,C.aG,hv,BE.ab,f1];rfl;exact h.elim;exact h.elim;split at h;rename_i aA;simp only[dK] at aA;subst aA;split at h;rename_i br;simp only[aw,dK,iw] at br;obtain⟨rfl,rfl⟩:=br;rw[Fz] at an;split at h;rename_i v0 y L;simp only[S7,PR.gives] at h;subst h;unfold ajy at L;split at L;rename_i ks b6;obtain⟨p1,p2⟩:=KW (O:=O) (V:=V) b6;rw[p1] at an;obtain⟨z,hz,a9⟩:=akg O V hd hK af an a4 (λp hp=>by
  obtain⟨u,b,rfl⟩:=iD.1 hp;exact⟨[u.1],rfl,rfl⟩) t
 rw[a9];have al:=akh (O:=O) (V:=V) (x:=H.ab O) (ks:=ks) (vs:=mS cs) (m:=0) (i:=0);have bs:(∀u,fh (H.ab O) ks (mS cs)=U u->v0.ab O V=u.ab O V/\y.ab O=J)/\(fh (H.ab O) ks (mS cs)=Z->v0.ab O V=z/\y.ab O=E):=by
  split at L;rename_i x0;simp only[K.ab] at*;split at L;rename_i u b;cases L;exact⟨λu' aC=>by rw[b] at aC;cases aC;exact⟨rfl,rfl⟩,λhn=>by rw[b] at hn;cases hn⟩;rename_i b;cases L;refine⟨λu' aC=>(by rw[b] at aC;cases aC),λ_=>⟨?_,rfl⟩⟩;rw[DJ (λha=>by simp[eG];exact BN af ha),akd];exact(aaO af hz).symm;rename_i ca;split at L;rename_i b7;cases bc:Do H ks ((mS cs).map C.cells) 0 N.aj with
  |none=>rw[bc] at L;cases L
  |some l=>
   rw[bc] at L;simp only[eh,cX,Dh] at L;obtain⟨rfl,rfl⟩:=L;obtain⟨s0,s1,s2⟩:=TK (O:=O) (V:=V) bc;rw[TJ] at s1 s2;have a1:N.d.isAgg=E->Y l=1:=λha=>by rw[s0];exact BN af ha
   rw[DJ a1,TL p2];refine⟨λu b=> ?_,λb=> ?_⟩;have bx:=fZ.1 b7 u (KR b);have b8:Y u.cells=0+Y N.aj:=by
    simp only[Bs,aw,dK] at bx;omega
   rw[s1 u.cells (by rw[b];rfl) b8,b,TN (wB R) bx];exact⟨rfl,rfl⟩;rw[s2 (by rw[b];rfl),b];exact⟨(aaO af hz).symm,rfl⟩
  cases L
 have hL:[H.ab O,xb.ab O,xc.ab O].take 1=[H.ab O]:=rfl;rw[hL] at*;cases hp:fh (H.ab O) ks (mS cs) with
 |some u=>
  rw[hp] at al;obtain⟨q1,q2⟩:=bs.1 u hp;cases hf:oQ [H.ab O] (gU 0 ((ks.zip (mS cs)).map λp=>(.int I p.1,p.2.ab O V))) 0 with
  |none=>rw[hf] at al;cases al
  |some jv=>
   obtain⟨j,w⟩:=jv;rw[hf] at al;simp only[eh,cX] at al;subst al;cases t;simp only[jB,gw,q1];rfl;simp only[cS,C.ab,C.aG,q1,q2];rfl
 |none=>
  rw[hp] at al;obtain⟨q1,q2⟩:=bs.2 hp;cases hf:oQ [H.ab O] (gU 0 ((ks.zip (mS cs)).map λp=>(.int I p.1,p.2.ab O V))) 0 with
  |some jv=>rw[hf] at al;cases al
  |none=>
   cases t;simp only[jB,gw,q1];rfl;simp only[cS,C.ab,C.aG,q1,q2];rfl
 cases L;exact h.elim;exact h.elim;exact h.elim;exact h.elim;exact h.elim
end
section
variable{j:aq}{u:World}{D:cq}{P:Program}{g:Ty}{B:nG}{V:aq}{O:ai}{s:S}{a:Act}{W:World}
def aki(R:az j u D g V O s a W)(G:jq P g)(N:fk B O)(o:Oper)(Q:∀x∈o.op.operands.toList,(s.ev B x).eX=E)
  (h:(cH g B s o.op).gives O M):(execOp a.eval o).run P W=.ok (.value (M.ab O V)) W:=by
 cases X:o.op with
 |move x=>
  rw[X] at h Q;have H:=dA R N x (Q x cN);simp only[cH,PR.gives] at h;simp[execOp,X,H,h]
 |assign x=>
  rw[X] at h Q;have H:=dA R N x (Q x cN);simp only[cH,PR.gives] at h;simp[execOp,X,H,h]
 |pick c x y=>
  rw[X] at h Q;have A:=dA R N c (Q c cN);have L:=dA R N x (Q x cN);have hy:=dA R N y (Q y cN);simp only[cH] at h;split at h;rename_i an;cases h;rw[an] at A;simp[execOp,X,A,L,C.ab,BE.ab,asBool];rename_i an;cases h;rw[an] at A;simp[execOp,X,A,hy,C.ab,BE.ab,asBool];exact h.elim
 |load t x=>rw[X] at h Q;exact awl R G N X (Q x cN) h
 |fieldAddr t x f=>rw[X] at h Q;exact awm R G N X (Q x cN) h
 |field t x f=>rw[X] at h Q;exact awn R G N X (Q x cN) h
 |indexAddr t x y=>rw[X] at h Q;exact awo R G N X (Q x cN) (Q y cN) h
 |index t x y=>rw[X] at h Q;exact awp R G N X (Q x cN) (Q y cN) h
 |binOp op t x y t2=>rw[X] at h Q;exact awv R G N X (Q x cN) (Q y cN) h
 |unOp op t x=>
  rw[X] at h Q;have H:=dA R N x (Q x cN);simp only[cH] at h;split at h;rename_i b L;cases h;simp[execOp,X,H,L,C.ab,Op.unary,O6];rename_i k e L;cases h;simp[execOp,X,H,L,C.ab,Op.unary,Op.intArith,KP,aH,K.ab];exact h.elim
 |convert t1 t2 x=>
  rw[X] at h Q;have H:=dA R N x (Q x cN);simp only[cH] at h;split at h;rename_i k1 q1 k2 q2 k n h1 h2 L;cases h;obtain⟨d1,ag,-,aA,-⟩:=(G _ _ h1).desc;obtain⟨d2,al,-,aC,-⟩:=(G _ _ h2).desc;rw[aA _ rfl] at ag;rw[aC _ rfl] at al;simp[execOp,X,H,L,C.ab,convert,fw.iL ag,fw.iL al,Conv.intToInt,K.ab];rename_i k1 q1 k2 q2 k n hn h1 h2 L;cases h;obtain⟨d1,ag,-,aA,-⟩:=(G _ _ h1).desc;obtain⟨d2,al,-,aC,-⟩:=(G _ _ h2).desc;rw[aA _ rfl] at ag;rw[aC _ rfl] at al;simp[execOp,X,H,L,C.ab,convert,fw.iL ag,fw.iL al,Conv.intToInt,K.ab];exact h.elim
 |makeInterface t x=>
  rw[X] at h Q;have H:=dA R N x (Q x cN);simp only[cH] at h;split at h;exact h.elim;rename_i ti a3 ht;cases h;have hd:=(G _ _ ht).desc;have af:∀d,P.underlying t=U d->(∀m,d≠ .interface m)->(Instr.makeInterface t (a.eval x)).run P W=.ok (.iface t (a.eval x)) W:=by
   intro d h1 h2;simp only[Instr.makeInterface,dC,fw.iL h1,du];cases d<;>first|rfl|exact aZ rfl (h2 _)
  have:(Instr.makeInterface t (a.eval x)).run P W=.ok (.iface t (a.eval x)) W:=by
   obtain⟨d,aj,q⟩:=ti;cases d with
   |one=>obtain⟨d,h1,⟨h2,-⟩,-⟩:=hd;exact af d h1 (λm z=>by rw[z] at h2;exact h2)
   |ik=>exact aZ rfl (a3 _ _)
   |str=>exact af _ hd (λm z=>by cases z)
   |slice e=>exact af _ hd (λm z=>by cases z)
   |arr n e=>exact af _ hd (λm z=>by cases z)
   |struct fs=>obtain⟨F,h1,-⟩:=hd;exact af _ h1 (λm z=>by cases z)
   |map k e=>exact af _ hd (λm z=>by cases z)
  rw[H] at this;simp[execOp,X,H,this,C.ab];exact h.elim
 |makeFunc fn first a1=>
  rw[X] at h Q;simp only[cH] at h;split at h;rename_i f hf;cases h;have a4:first= #[]:=by apply nF;simpa using hf
  subst a4;have a9:a1.map a.eval=(C.aG O V (a1.toList.map (s.ev B))).toArray:=by
   apply nF;simp only[xT,pY,oJ];exact jA λx L=>dA R N x (Q x (by simp[iN];simpa using L))
  simp[execOp,X,Instr.makeFunc,C.ab,a9];exact h.elim
 |extract x i=>
  rw[X] at h Q;have H:=dA R N x (Q x cN);simp only[cH] at h;split at h;rename_i l L;split at h;rename_i y hy;simp only[PR.gives] at h;subst h;have:(C.aG O V l).toArray[i]?=U (M.ab O V):=by simp[t8,hy]
  simp[execOp,X,H,L,C.ab,Instr.extract,this,-ai8];exact h.elim;exact h.elim
 |nilCheck x=>
  rw[X] at h Q;have H:=dA R N x (Q x cN);simp only[cH] at h;split at h;rename_i i ba L;cases h;simp[execOp,X,H,L,C.ab];rename_i r w i ba L;cases h;simp[execOp,X,H,L,C.ab];rename_i f l L;cases h;simp[execOp,X,H,L,C.ab];exact h.elim
 |slice t x lo hi mx=>
  rw[X] at h Q;exact awy R G N X (Q x cN) (λy hy=>Q y (by subst hy;simp[iN])) h
 |build t parts=>
  rw[X] at h Q;exact awx R G N X (λp hp=>Q p.2 (by simp[iN];exact⟨p.1,by simpa using hp⟩)) h
 |lookup t x ix ok=>
  rw[X] at h Q;exact awB R G N X (Q x cN) (Q ix cN) h
 |call c=>
  rw[X] at h Q;have a0:∀x∈c.args.toList,(s.ev B x).eX=false:=λx L=>Q x (by simp[iN,Bo];exact .inr (by simpa using L))
  cases A:c.callee with
  |builtin b=>
   cases b with
   |len=>exact awz R G N X A a0 h
   |min=>exact ake R N X (.inl A) a0 h
   |max=>exact ake R N X (.inr A) a0 h
   |_=>simp only[cH,A,PR.gives] at h
  |value f=>simp only[cH,A,PR.gives] at h
  |invoke r m=>simp only[cH,A,PR.gives] at h
 |_=>rw[X] at h;simp only[cH,PR.gives] at h
end
section
variable{p:aq}{q:World}{D:cq}{P:Program}{f:Ty}{B:nG}{V:aq}{O:ai}{s:S}{a:Act}{W:World}
def BO{o:Obj}(h:N.heap[R]?=U o):R<N.heap.size:=(oY.1 h).1
def eN.world{X:uP}{R:BM}{W':World}(h:eN q D X y R N)(Q:∀(b:Nat)(o:Obj),N.heap[b]?=U o->(∀L t H,o≠ .cells L t H)->W'.heap[b]?=U o):eN q D X y R W':=
 ⟨h.len,h.qL,λn l r G F B=>let⟨a,b,c⟩:=h.dF n l r G F B;⟨a,Q _ _ b (λ_ _ _ h=>by cases h),c⟩,h.inj,let⟨A,a,z,b,c⟩:=h.mE;⟨A,a,z,b,λd M=>⟨Q _ _ (c d M).1 (λ_ _ _ h=>by cases h),(c d M).2⟩⟩⟩
def KY:Obj->Bool
 |.loop _|.deferred _=>J
 |_=>E
def akj{o:Obj}(h:KY o=J):∀X t R,o≠ .cells X t R:=λX t R e=>by subst e;cases h
def akk{o:Obj}(h:KY o=J):∀t l,o≠mC t l:=by
 intro t l e;subst e;unfold mC at h;split at h;cases h;split at h;split at h<;>cases h;split at h;split at h<;>cases h;cases h
def eN.awC{X:uP}{R:BM}{Q:World}(h:eN q D X y R N)(M:∀(b:Nat)(o:Obj),N.heap[b]?=U o->KY o=J->Q.heap[b]?=U o):eN q D X y R Q:=
 ⟨h.len,h.qL,λn l r H G F=>let⟨a,b,c⟩:=h.dF n l r H G F;⟨a,M _ _ b rfl,c⟩,h.inj,let⟨B,a,A,b,c⟩:=h.mE;⟨B,a,A,b,λd L=>⟨M _ _ (c d L).1 rfl,(c d L).2⟩⟩⟩
def eN.below{X:uP}{R:BM}{Q:World}(h:eN q D X y R N)(L:Below N.heap.size N Q):eN q D X y R Q:=
 h.world λb o M _=>(L.block b (BO M)).trans M
def eN.cells{M:uP}{L:BM}{H:World}(h:eN q D M y L N){G:mR}{F:Nat×Nat}(B:N.heap[R]?=U (.cells G X F))(A:∀b,b≠R->b<N.heap.size->H.heap[b]?=N.heap[b]?):eN q D M y L H:=
 h.world λb o Q z=>(A b (λe=>by subst e;rw[B] at Q;cases Q;exact z _ _ _ rfl) (BO Q)).trans Q
def bJ.KZ{B:World}(h:bJ N f z L)(y:∀b,et f z L b->B.heap[b]?=N.heap[b]?)(hs:N.heap.size<=B.heap.size):bJ B f z L:=by
 induction h with
 |sl e A Q p M x w u g d ho t=>
  refine bJ.sl e A Q p M x w (λi H R=> ?_) g d (λi j H c X o R G n=>t i j H c X o R G n (λb r=>y b (et.deep e _ _ i j H c X o b R G n r)));obtain⟨q1,b,m,rfl,⟨lj,t0,af,q2⟩,q3⟩:=u i H R;have ag:0<Q:=by have:=(cu.1 R).1;omega
  obtain⟨q,rfl⟩:∃q,Q=q+1:=⟨Q-1,aa⟩;have F:=y b (et.here e ⟨b,m,Z⟩ q p M);refine⟨q1,b,m,rfl,⟨lj,t0,af,F.trans q2⟩,λj c G=> ?_⟩;have l:=q3 j c G;simp only[oK,F] at l⊢;exact l
 |str s=>exact bJ.str s
 |ae v hv=>exact bJ.ae v hv
 |own e L h hn t=>exact bJ.own e L (t λb r=>y b (et.own e L b r)) hn
 |am L h=>exact bJ.am L h
 |mr sh M x w u F=>exact bJ.mr sh M x w u F
def bJ.lt(h:bJ N f z L)(Q:et f z L R):R<N.heap.size:=by
 induction h generalizing R with
 |sl e A q p M o n G m g d H=>
  cases Q with
  |here e a l c M=>
   have F:0<Y M:=aa;obtain⟨-,R,af,B,⟨_,_,_,y⟩,-⟩:=G 0 _ (cP F);cases B;exact BO y
  |deep e v M i j x c X z R w u t r=>exact H i j x c X z w u t r
 |str s=>cases Q
 |ae v hv=>cases Q
 |own e L h hn H=>cases Q with
  |own e L R Q=>exact H Q
 |am L h=>cases Q
 |mr sh M=>cases Q
def bJ.grow{G:World}(h:bJ N f z L)(x:Below N.heap.size N G):bJ G f z L:=by
 induction h with
 |sl e A w u X R Q M t r ho H=>
  refine bJ.sl e A w u X R Q (λi q p=> ?_) t r H;obtain⟨o,b,n,rfl,⟨lj,m,l,F⟩,g⟩:=M i q p;have B:=x.block b (BO F);refine⟨o,b,n,rfl,⟨lj,m,l,B.trans F⟩,λj c d=> ?_⟩;have y:=g j c d;simp only[oK,B] at y⊢;exact y
 |str s=>exact bJ.str s
 |ae v hv=>exact bJ.ae v hv
 |own e L h hn H=>exact bJ.own e L H hn
 |am L h=>exact bJ.am L h
 |mr sh X R Q M h4=>exact bJ.mr sh X R Q M h4
def j7.lt{Q:bz}(X:j7 p q V O x f Q W)(h:aP x R=J):ad V R<W.heap.size:=by
 unfold aP at h;obtain⟨⟨t,N⟩,M⟩:=lF.1 h;exact(oY.1 (X.box R t N M)).1
def j7.below{Q:bz}(R:j7 p q V O x f Q W)(X:Below W.heap.size W N):j7 p q V O x f Q N:=by
 refine⟨R.base.call X,R.own,R.inj,λi t M h=> ?_,λk e L H G=> ?_⟩;rw[X.block _ (R.lt (by simp[aP,h]))];exact R.box i t M h;obtain⟨F,B⟩:=R.ah k e L H G;exact⟨F.grow X,B⟩
def zX.lt{N:bz}(h:zX p q V O x f N W R X L Q):Q<W.heap.size:=by
 obtain⟨H,G,di,-,M,-⟩:=h.mem;exact(oY.1 M).1
def zX.world{N:bz}{W':World}(h:zX p q V O x f N W R X L Q)(M:W'.heap[Q]?=W.heap[Q]?):zX p q V O x f N W' R X L Q:=by
 obtain⟨H,G,di,F,B,A⟩:=h.mem;exact⟨h.own,⟨H,G,di,F,M.trans B,A⟩,h.box,h.alone,h.inner⟩
def az.below{Q:World}(R:az p q D f V O s a W)(X:Below W.heap.size W Q):az p q D f V O s a Q:=
 ⟨R.mem.below X,R.gV,R.ei,R.eb,R.er,R.dp.below X,R.size,R.tmps,λk e N b M L H=>let t:=R.gD k e N b M L H;t.world (X.block b t.lt)⟩
def az.put(R:az p q D f V O s a W)(X:cQ)(v:C):az p q D f V O (s.put X v) (a.put X (v.ab O V)) W:=by
 cases X with
 |none=>exact R
 |some d=>
  refine⟨R.mem,R.gV,R.ei,R.eb,R.er,R.dp,by simp[S.put,wl,Act.put,R.size],λt M h=> ?_,R.gD⟩;simp only[S.put,wl,wc] at h;simp only[Act.put];split at h;rename_i Q;subst Q;split at h;rename_i L;cases h;right;have:d<a.tmps.size:=by rw[R.size];exact L
  simp[this];cases h;rename_i Q;rcases R.tmps t M h with N|N;exact .inl N;right;rw[ai4 Q];exact N
def az.zZ(R:az p q D f V O s a W)(X:s.bd=J):C.eo (Y O.i) (Y O.b) (Y O.r) (aP s.ao) s.tmps=J/\C.rF (Y O.i) (Y O.b) (Y O.r) (aP s.ao) s.ao=true:=by
 simp only[S.bd,aw] at X;rw[R.ei,R.eb,R.er];exact X
structure ot(bx:bG)(O O':ai)(V V':aq):Prop where
 agree:ji O O' (Y O.i) (Y O.b) (Y O.r)
 li:Y O.i<=Y O'.i
 lb:Y O.b<=Y O'.b
 lr:Y O.r<=Y O'.r
 ad:∀k,aP bx k=J->ad V' k=ad V k
def ot.refl(X:bG)(O:ai)(V:aq):ot X O O V V:=⟨ji.refl _ _ _ _,bY _,bY _,bY _,λ_ _=>rfl⟩
def ot.trans{X R:bG}{O Q N:ai}{V M L:aq}(h:ot X O Q V M)(k:ot R Q N M L)(G:∀i,aP X i=J->aP R i=J):ot X O N V L:=
 ⟨h.agree.trans (k.agree.mono h.li h.lb h.lr),pO h.li k.li,pO h.lb k.lb,pO h.lr k.lr,λj H=>(k.ad j (G j H)).trans (h.ad j H)⟩
def awD(O:ai)(x:XV):Y O.i<=(O.add x).i.length/\Y O.b<=(O.add x).b.length/\Y O.r<=(O.add x).r.length:=by cases x<;>simp[ai.add]
def TR:∀(X:bv)(O:ai),Y O.i<=(O.ext X).i.length/\Y O.b<=(O.ext X).b.length/\Y O.r<=(O.ext X).r.length
 |[],O=>by simp[ai.ext]
 |x::X,O=>by
  have R:=awD O x;have Q:=TR X (O.add x);simp only[ai.ext];omega
def DK(R:bG)(O:ai)(X:bv)(V:aq):ot R O (O.ext X) V V:=by
 have h:=TR X O;exact⟨Fu X O,h.1,h.2.1,h.2.2,λ_ _=>rfl⟩
def ot.ab{X:ai}{R:aq}(h:ot x l X y R)(Q:M.bd (Y l.i) (Y l.b) (Y l.r) (aP x)=J):M.ab X R=M.ab l y:=C.eC h.agree h.ad M Q
def ot.aG{X:ai}{R:aq}(h:ot x l X y R)(Q:C.eo (Y l.i) (Y l.b) (Y l.r) (aP x) w=J):C.aG X R w=C.aG l y w:=C.KN h.agree h.ad w Q
def ot.dR{X:ai}{R:aq}(h:ot x l X y R)(Q:C.eo (Y l.i) (Y l.b) (Y l.r) (aP x) w=J):C.dR X R w=C.dR l y w:=O5 h.agree h.ad w Q
def fk.ext{R:ai}{M:aq}(h:fk B l)(Q:ot x l R y M):fk B R:=by
 intro X L;obtain⟨N,H⟩:=h X L;exact⟨ZG N Q.lr,by rw[Q.agree.r _ N];exact H⟩
def DL(h:i≠R):ad (y.set R Q) i=ad y i:=by simp[ad,ss (Ne.symm h)]
def DM(h:R<Y y):ad (y.set R Q) R=Q:=by simp[ad,h]
def ud(h:qI x R X=J):gH x R=true:=by simp only[qI,aw] at h;exact h.1
def K0(h:qI x R X=J):rz X=false:=by simp only[qI,aw,iw] at h;exact h.2
def nP(h:gH x R=J):aP x R=E/\R<Y x:=by
 unfold gH at h;split at h;rename_i X;exact⟨by simp[aP,cY,X],(cu.1 X).1⟩;cases h
def akl(h:gH x R=J)(O:ai)(V:aq)(X:Nat):ot x O O V (V.set R X):=
 ⟨ji.refl _ _ _ _,bY _,bY _,bY _,λk Q=>DL (λe=>by subst e;rw[(nP h).1] at Q;cases Q)⟩
def Aa{X:Option (TypeId×ap)}(h:Q≠R):cz (x.set R X) Q=cz x Q:=by simp[cY,ss (Ne.symm h)]
def Ie{X:TypeId×ap}(h:R<Y x):cz (x.set R (U X)) R=U X:=by simp[cY,h]
def p8{X:TypeId×ap}(h:R<Y x):aP (x.set R (U X)) Q=J<->Q=R\/aP x Q=true:=by
 by_cases N:Q=R;subst N;simp[aP,Ie h];simp[aP,Aa N,N]
def az.alloc(R:az p q D f V O s a W){n:Nat}(v:gH s.ao n=J)(t:TypeId)(F:ap)(G:s.fp F=J):
  az p q D f (V.set n W.heap.size) O (s.dw n t F) a (W.alloc (mC t (C.dR O V F))):=by
 simp only[S.fp,aw] at G;obtain⟨B,G⟩:=G;obtain⟨r,o⟩:=R.zZ B;rw[<-R.ei,<-R.eb,<-R.er] at G;obtain⟨m,M⟩:=nP v;have y:=akl v O V W.heap.size;have A:Below W.heap.size W (W.alloc (mC t (C.dR O V F))):=(Below.refl _ _).alloc (bY _) _;have H:n<Y V:=by rw[R.gV];exact M
 have L:∀i,aP s.ao i=J->i≠n:=λi Q e=>by subst e;rw[m] at Q;cases Q
 refine⟨⟨R.mem.base.alloc _, ?_, ?_, ?_, ?_⟩,by simp[S.dw,R.gV],R.ei,R.eb,R.er,R.dp.below A,R.size, ?_,λk e x b X N z=> ?_⟩;intro i Q;rcases(p8 M).1 Q with rfl|h;rw[DM H];exact .inl R.mem.base.size;rw[DL (L i h)];exact R.mem.own i h;intro i j Q u h;rcases(p8 M).1 Q with rfl|X;rcases(p8 M).1 u with rfl|N;rfl;rw[DM H,DL (L j N)] at h;have:=R.mem.lt N;omega;rcases(p8 M).1 u with rfl|N;rw[DM H,DL (L i X)] at h;have:=R.mem.lt X;omega;rw[DL (L i X),DL (L j N)] at h;exact R.mem.inj i j X N h;intro i w l h;by_cases X:i=n;subst X;rw[S.dw,Ie M] at h;simp only[cX,Dh] at h;obtain⟨rfl,rfl⟩:=h;rw[DM H,y.dR G];exact SO W _;rw[S.dw,Aa X] at h;rw[DL X,A.block _ (R.mem.lt (by simp[aP,h])),y.dR (ub o h)];exact R.mem.box i w l h;intro k e x X N;obtain⟨z,g⟩:=R.mem.ah k e x X N;refine⟨z.grow A,λb B i Q=> ?_⟩;rcases(p8 M).1 Q with rfl|h;rw[DM H];have:=z.lt B;omega;rw[DL (L i h)];exact g b B i h;intro w d h;rcases R.tmps w d h with X|X;exact .inl X;right;rw[y.ab (wz r h)];exact X;have t:=R.gD k e x b X N z;obtain⟨c,af,di,q1,q2,q3⟩:=t.mem;refine⟨t.own,⟨c,af,di,q1,(A.block b t.lt).trans q2,q3⟩,λi Q=> ?_,t.alone,t.inner⟩;rcases(p8 M).1 Q with rfl|h;rw[DM H];have:=t.lt;omega;rw[DL (L i h)];exact t.box i h
def Ac(l:gG)(X:Nat):gG->gG
 |[]=>l
 |v::r=>Ac (l.set X v) (X+1) r
def aaP:∀(R l:gG)(X:Nat),(Ac l X R).length=Y l
 |[],l,X=>rfl
 |v::R,l,X=>by rw[Ac,aaP];simp
def akm:∀(X l:ap)(R:Nat),C.aG O V (l8 l R X)=Ac (C.aG O V l) R (C.aG O V X)
 |[],l,R=>rfl
 |v::X,l,R=>by
  rw[l8,akm X,C.aG,Ac];congr 1;simp[pY]
def akn(h:jD c=J):c.oneCell'=true:=by cases c<;>simp_all[jD,Value.oneCell']
def aaQ(b X:Nat)(t:TypeId):∀(Q:gG)(i:Nat)(di:mR)(W:World),W.heap[b]?=U (.cells di t (0,0))->X+i+Y Q<=di.size->(∀v∈Q,jD v=J)->
  ∃R,(storeCells ⟨b,X,Z⟩ Q i).run P W=.ok () R/\R.heap[b]?=U (.cells (Ac di.toList (X+i) Q).toArray t (0,0))/\(∀k,k≠b->R.heap[k]?=W.heap[k]?)/\R.heap.size=W.heap.size/\R.os=W.os/\R.tape=W.tape/\R.output=W.output
 |[],i,di,W,N,_,_=>⟨W,rfl,by simpa[Ac] using N,λ_ _=>rfl,rfl,rfl,rfl,rfl⟩
 |v::Q,i,di,W,N,H,M=>by
  simp only[kV] at H;have G:X+i<di.size:=aa;have F:W.cell? ⟨b,X+i,Z⟩=U di[X+i]:=by simp[oK,N,G]
  have B:W.frozen? ⟨b,X+i,Z⟩=false:=by simp[ZR,N]
  have A:(store ((⟨b,X,Z⟩:Addr).add i) v).run P W=.ok () (W.setCell ⟨b,X+i,Z⟩ v):=by
   rw[yq,run_store P W _ v _ (akn (M v av)),F];simp[B]
  have z:(W.setCell ⟨b,X+i,Z⟩ v).heap[b]?=U (.cells (di.setIfInBounds (X+i) v) t (0,0)):=by
   simp[ZQ,SM,N]
  obtain⟨R,y,w,u,r,q,p,o⟩:=aaQ b X t Q (i+1) (di.setIfInBounds (X+i) v) (W.setCell ⟨b,X+i,Z⟩ v) z dl (λx n=>M x (by simp[n]));refine⟨R,by simp only[storeCells,dC,A,du,y], ?_,λk L=>(u k L).trans (Below.heap_setCell _ _ _ _ L),r.trans (by simp[ZQ]),q,p,o⟩;rw[w,Ac];simp[Ht]
def ako(R:az p q D f V O s a W):∀{l:ap},Fc l=J->∀v∈C.aG O V l,jD v=J
 |[],_,v,X=>by simp[C.aG] at X
 |x::N,h,v,X=>by
  simp only[S3,aw] at h;simp only[C.aG,dV] at X;rcases X with rfl|X;have Q:=h.1;cases x<;>simp[C.single] at Q<;>try rfl
  rename_i r;exact wB R r (by cases r<;>simp_all[RE.HC]);simp only[C.ab];exact aay _ _ _;exact ako R h.2 v X
def az.store(Q:az p q D f V O s a W){H:TypeId}{z:TI}(d:fw P X z){off:Nat}{v:C}(M:cz s.ao R=U (H,w))(o:rz H=E)(c:Y v.cells=Y z.aj)(ho:off+Y v.cells<=Y w)(hs:Fc v.cells=J)(n:(v.ab O V).cells.toList=C.aG O V v.cells):
  ∃G,(Instr.storeAt X (.pointer (U ⟨ad V R,off,Z⟩)) (v.ab O V)).run P W=.ok () G/\az p q D f V O (s.dw R H (l8 w off v.cells)) a G:=by
 have y:=Q.mem.box R H w M;rw[uc o] at y;obtain⟨G,h1,h2,F,h4,h5,h6,h7⟩:=aaQ (P:=P) (ad V R) off H (C.aG O V v.cells) 0 _ W y dl (ako Q hs);have af:(v.ab O V).cells.size=Y z.aj:=by rw[<-E3,n];simp[c]
 have m:R<Y s.ao:=(cu.1 (kw.1 M)).1;have B:aP s.ao R=true:=by simp[aP,M]
 have A:∀j,aP (s.ao.set R (U (H,l8 w off v.cells))) j=J->aP s.ao j=true:=λj N=>by
  rcases(p8 m).1 N with rfl|h;exact B;exact h
 refine⟨G, ?_,⟨⟨?_,λj N=>Q.mem.own j (A j N),λj k N x=>Q.mem.inj j k (A j N) (A k x), ?_, ?_⟩,by simpa[S.dw] using Q.gV,Q.ei,Q.eb,Q.er,Q.dp.cells y (λb M _=>F b M),Q.size,Q.tmps,λk e u b q1 q2 q3=> ?_⟩⟩;simp only[Instr.storeAt,Instr.sureAddr,storeVar,dC,fz,du,d.oq,af,n,ne_eq,not_true_eq_false,gw,h1];refine⟨h5.trans Q.mem.base.os,h6.trans Q.mem.base.tape,h7.trans Q.mem.base.output,by rw[h4];exact Q.mem.base.size,λk x l=> ?_⟩;have ag:k≠ad V R:=by
  rintro rfl;rcases Q.mem.own R B with h|h;omega;exact l h
 rw[F k ag];exact Q.mem.base.block k x l;intro j L al N;by_cases r:j=R;subst r;rw[S.dw,Ie m] at N;simp only[cX,Dh] at N;obtain⟨rfl,rfl⟩:=N;rw[h2,uc o,akm];simp;rw[S.dw,Aa r] at N;rw[F _ (λh=>r (Q.mem.inj j R (by simp[aP,N]) B h))];exact Q.mem.box j L al N;intro k e u an aA;obtain⟨aC,g⟩:=Q.mem.ah k e u an aA;exact⟨aC.KZ (λb M=>F b (λh=>g b M R B h.symm)) aa,λb M j N=>g b M j (A j N)⟩;have X:=Q.gD k e u b q1 q2 q3;have L:=X.world (W':=G) (F b (λh=>X.box R B h.symm));exact⟨L.own,L.mem,λj N=>L.box j (A j N),L.alone,L.inner⟩
end
def K1(X:aq):∀(l:bz)(n i:Nat),(jE X n l)[i]?=(l[i]?).map λx=>if X.contains (n+i) then .am else x
 |[],n,i=>by simp[jE]
 |x::R,n,0=>by simp[jE]
 |x::R,n,i+1=>by
  simp only[jE,tN];rw[K1 X R (n+1) i,show n+1+i=n+(i+1) from aa]
def K2(X:aq):∀(l:bz)(n i:Nat),(kG X n l)[i]?=(l[i]?).map (zN (X.contains (n+i)))
 |[],n,i=>by simp[kG]
 |x::R,n,0=>by simp[kG]
 |x::R,n,i+1=>by
  simp only[kG,tN];rw[K2 X R (n+1) i,show n+1+i=n+(i+1) from aa]
def aaR(X:aq):∀(l:bz)(n i:Nat),(Dq X n l)[i]?=(l[i]?).map (Oz (X.contains (n+i)))
 |[],n,i=>by simp[Dq]
 |x::R,n,0=>by simp[Dq]
 |x::R,n,i+1=>by
  simp only[Dq,tN];rw[aaR X R (n+1) i,show n+1+i=n+(i+1) from aa]
def BP(X:aq):∀(l:bz)(n:Nat),(jE X n l).length=Y l
 |[],n=>rfl
 |x::R,n=>by simp[jE,BP X R (n+1)]
def BQ(X:aq):∀(l:bz)(n:Nat),(kG X n l).length=Y l
 |[],n=>rfl
 |x::R,n=>by simp[kG,BQ X R (n+1)]
def akp(X:aq):∀(l:bz)(n:Nat),(Dq X n l).length=Y l
 |[],n=>rfl
 |x::R,n=>by simp[Dq,akp X R (n+1)]
def rK(e X:RK):Prop:=X=e\/X=.am\/∃t,e=.own t/\X=.sl t
structure qN(rs rs':bz):Prop where
 len:Y rs'=Y rs
 get:∀(k:Nat)(e':RK),rs'[k]?=U e'->∃e,rs[k]?=U e/\rK e e'
def qN.refl(X:bz):qN X X:=⟨rfl,λk e h=>⟨e,h,.inl rfl⟩⟩
def rK.trans{b c:RK}(h:rK z b)(k:rK b c):rK z c:=by
 rcases k with rfl|rfl|⟨t,rfl,rfl⟩;exact h;exact .inr (.inl rfl);rcases h with h|h|⟨R,Q,X⟩;exact .inr (.inr ⟨t,h.symm,rfl⟩);cases h;cases X
def qN.trans{a b c:bz}(h:qN a b)(k:qN b c):qN a c:=
 ⟨k.len.trans h.len,λi e X=>let⟨R,Q,N⟩:=k.get i e X;let⟨M,L,H⟩:=h.get i R Q;⟨M,L,H.trans N⟩⟩
def awE(b:Bool)(e:RK):rK e (zN b e):=by
 cases e<;>simp only[zN]
 case own t=>cases b;exact .inl rfl;exact .inr (.inr ⟨t,rfl,rfl⟩)
 all_goals exact .inl rfl
def akq(b:Bool)(e:RK):rK e (Oz b e):=by
 cases e<;>simp only[Oz]
 case own t=>cases b;exact .inr (.inl rfl);exact .inr (.inr ⟨t,rfl,rfl⟩)
 all_goals exact .inl rfl
def Pa(Q:aq)(X:bz):qN X (kG Q 0 X):=by
 refine⟨BQ _ _ _,λk N h=> ?_⟩;rw[K2] at h;cases R:X[k]? with
 |none=>rw[R] at h;cases h
 |some e=>rw[R] at h;simp only[eh,cX] at h;exact⟨e,rfl,h▸awE _ e⟩
def akr(Q:aq)(X:bz):qN X (Dq Q 0 X):=by
 refine⟨akp _ _ _,λk N h=> ?_⟩;rw[aaR] at h;cases R:X[k]? with
 |none=>rw[R] at h;cases h
 |some e=>rw[R] at h;simp only[eh,cX] at h;exact⟨e,rfl,h▸akq _ e⟩
def bJ.mX{X:RK}(h:bJ N n z L)(w:rK z X):bJ N n X L:=by
 rcases w with rfl|rfl|⟨t,rfl,rfl⟩;exact h;exact bJ.am L (KS h);exact aj3 h
def et.mX{X:RK}(w:rK z X)(h:et n X L R):et n z L R:=by
 rcases w with rfl|rfl|⟨t,rfl,rfl⟩;exact h;cases h;exact et.own _ _ _ h
def zW.mX{d:Ty}{e R:RK}{Q:RV}{b:Nat}(w:rK e R)(h:zW d R Q b):zW d e Q b:=by
 rcases h with h|⟨⟨t,rfl⟩,h⟩;exact .inl (h.mX w);rcases w with rfl|X|⟨N,_,X⟩;exact .inr ⟨⟨t,rfl⟩,h⟩;cases X;cases X
def rK.own(w:rK z (.own X)):z=.own X:=by
 rcases w with h|h|⟨R,_,h⟩;exact h.symm;cases h;cases h
section
variable{p:aq}{q:World}{D:cq}{P:Program}{d:Ty}{B:nG}{V:aq}{O:ai}{s:S}{a:Act}{W:World}
def j7.mX{X:bG}{Q N:bz}(R:j7 p q V O X d Q W)(h:qN Q N):j7 p q V O X d N W:=
 ⟨R.base,R.own,R.inj,R.box,λk e M B L=>let⟨H,G,F⟩:=h.get k e B;⟨(R.ah k H M G L).1.mX F,λb A i z=>(R.ah k H M G L).2 b (A.mX F) i z⟩⟩
def az.mX(R:az p q D d V O s a W){X:bz}(h:qN s.rs X):az p q D d V O {s with rs:=X} a W:=by
 refine⟨R.mem.mX h,R.gV,R.ei,R.eb,R.er.trans h.len.symm,R.dp,R.size,R.tmps,λk e N b M L H=> ?_⟩;obtain⟨o,G,F⟩:=h.get k _ M;have:=F.own;subst this;have t:=R.gD k e N b G L H;exact⟨t.own,t.mem,t.box,λQ B A z y x w=>let⟨v,u,r⟩:=h.get Q B y;t.alone Q v A z u x (w.mX r),t.inner⟩
def az.eL(Q:az p q D d V O s a W)(g:s.rs[R]?=U (.own X))(hr:O.r[R]?=U L)(B:W.grownBy N L.lH):
  az p q D d V O {s with rs:=jE [R] 0 s.rs} a N:=by
 have m:∀M G,(jE [R] 0 s.rs)[M]?=U G->(M=R/\G=.am)\/(M≠R/\s.rs[M]?=U G):=by
  intro M G h;rw[K1] at h;cases f:s.rs[M]? with
  |none=>rw[f] at h;cases h
  |some x=>
   rw[f] at h;simp only[jf,eh,cX] at h;by_cases F:M=R;subst F;left;simp at h;exact⟨rfl,h.symm⟩;right;simp[F] at h;exact⟨F,by rw[h]⟩
 have y:∀b,L.lH=U b->zX p q V O s.ao d s.rs W R X L b:=λb H=>Q.gD R X L b g hr H
 have ag:im p q N:=Q.mem.base.grown B (λb H=>((y b H).own).symm);refine⟨⟨ag,Q.mem.own,Q.mem.inj,λi t cs h=> ?_,λM G A l z=> ?_⟩,Q.gV,Q.ei,Q.eb,by simp[BP];exact Q.er, ?_,Q.size,Q.tmps,λM G A b l z w=> ?_⟩;rw[B.block _ (Q.mem.lt (by simp[aP,h])) (λH=>(y _ H.symm).box i (by simp[aP,h]) rfl)];exact Q.mem.box i t cs h;rcases m M G l with⟨rfl,rfl⟩|⟨v,u⟩;refine⟨bJ.am _ ?_,λb H=>by cases H⟩;exact KS (Q.mem.ah M _ A g z).1;obtain⟨w,h4⟩:=Q.mem.ah M G A u z;exact⟨w.KZ (λb H=>B.block b (w.lt H) (λF=>(y b F.symm).alone M G A v u z (.inl H))) B.size,h4⟩;cases H:L.lH with
 |none=>exact Q.dp.world λb o h _=>(B.block b (BO h) (by rw[H];simp)).trans h
 |some b0=>
  obtain⟨c,af,di,q1,j,q3⟩:=(y b0 H).mem;exact Q.dp.cells j (λb v al=>B.block b al (λX=>v (by rw[H] at X;cases X;rfl)))
 rcases m M _ l with⟨-,F⟩|⟨v,u⟩;cases F;have t:=Q.gD M G A b u z w;have hw:N.heap[b]?=W.heap[b]?:=B.block b t.lt (λF=>(y b F.symm).alone M _ A v u z (.inr ⟨⟨G,rfl⟩,w⟩));obtain⟨c,af,di,q1,j,q3⟩:=t.mem;refine⟨t.own,⟨c,af,di,q1,hw.trans j,q3⟩,t.box,λk2 e2 an g1 g2 g3 n=> ?_,t.inner⟩;rcases m k2 e2 g2 with⟨rfl,rfl⟩|⟨_,aA⟩;rcases n with n|⟨⟨t',aC⟩,_⟩;cases n;cases aC;exact t.alone k2 e2 an g1 aA g3 n
def az.grown(R:az p q D d V O s a W)(X:W.grownBy N Z):az p q D d V O s a N:=
 R.below ⟨X.os,X.tape,X.output,X.size,λk Q=>X.block k Q av⟩
def sL(X:bG)(O:ai)(x:XV)(V:aq):ot X O (O.add x) V V:=by
 have h:=DK X O [x] V;exact h
def If{v:RV}(h:(O.add (.r L)).r[R]?=U v):(R<Y O.r/\O.r[R]?=U v)\/(R=Y O.r/\v=L):=by
 simp only[ai.add] at h;by_cases X:R<Y O.r;rw[dN X] at h;exact .inl ⟨X,h⟩;have:R=Y O.r:=by have:=(cu.1 h).1;simp at this;omega
 subst this;simp at h;exact .inr ⟨rfl,h.symm⟩
structure awF(p:aq)(q:World)(V:aq)(O:ai)(bx:bG)(d:Ty)(rs:bz)(W:World)(e:TypeId)(rv:RV)(b:Nat):Prop where
 own:q.heap.size<=b\/b∈p
 mem:∃len cap di,rv.val=.slice (U ⟨b,0,Z⟩) len cap/\W.heap[b]?=U (.cells di e (0,0))/\len<=cap/\cap<=maxLen/\di.size=cap*(bE d (.sl e)).length
 box:∀i,aP bx i=J->ad V i≠b
 alone:∀(k':Nat)(e':RK)(rv':RV),rs[k']?=U e'->O.r[k']?=U rv'->¬zW d e' rv' b
 inner:¬ol d e rv.ac b
def az.add(R:az p q D d V O s a W)(n:s.bd=J){N:RK}{rv:RV}(m:bJ W d N rv)(l:∀b,et d N rv b->∀i,aP s.ao i=J->ad V i≠b)
  (j:∀(k:Nat)(e:TypeId)(H:RV)(b:Nat),s.rs[k]?=U (.own e)->O.r[k]?=U H->H.lH=U b->¬zW d N rv b)
  (g:∀e b,N=.own e->rv.lH=U b->awF p q V O s.ao d s.rs W e rv b):az p q D d V (O.add (.r rv)) {s with rs:=s.rs++[N]} a W:=by
 obtain⟨f,c⟩:=R.zZ n;have x:=sL s.ao O (.r rv) V;have F:∀{k:Nat}{e:RK},(s.rs++[N])[k]?=U e->(k<Y O.r/\s.rs[k]?=U e)\/(k=Y O.r/\e=N):=by
  intro k e h;rw[R.er];by_cases G:k<Y s.rs;rw[dN G] at h;exact .inl ⟨G,h⟩;have:k=Y s.rs:=by have:=(cu.1 h).1;simp at this;omega
  subst this;simp at h;exact .inr ⟨rfl,h.symm⟩
 refine⟨⟨R.mem.base,R.mem.own,R.mem.inj,λi t cs h=> ?_,λk e v X M=> ?_⟩,R.gV,R.ei,R.eb,by simp[ai.add,R.er],R.dp,R.size,λt sv h=> ?_,λk e v b X M B=> ?_⟩;rw[x.dR (ub c h)];exact R.mem.box i t cs h;rcases F X with⟨G,X⟩|⟨rfl,rfl⟩;rcases If M with⟨_,M⟩|⟨rfl,rfl⟩;exact R.mem.ah k e v X M;omega;rcases If M with⟨G,_⟩|⟨_,rfl⟩;omega;exact⟨m,l⟩;rcases R.tmps t sv h with X|X;exact .inl X;right;rw[x.ab (wz f h)];exact X;rcases F X with⟨G,w⟩|⟨rfl,af⟩;rcases If M with⟨_,u⟩|⟨rfl,rfl⟩;have t:=R.gD k e v b w u B;refine⟨t.own,t.mem,t.box,λA z H y L Q=> ?_,t.inner⟩;rcases F L with⟨o,L⟩|⟨o,ag⟩;rcases If Q with⟨_,Q⟩|⟨rfl,rfl⟩;exact t.alone A z H y L Q;omega;rcases If Q with⟨an,_⟩|⟨_,al⟩;omega;rw[ag,al];exact j k e v b w u B;omega;rcases If M with⟨G,_⟩|⟨_,rfl⟩;omega;have t:=g e b af.symm B;refine⟨t.own,t.mem,t.box,λA z H y L Q=> ?_,t.inner⟩;rcases F L with⟨o,L⟩|⟨rfl,_⟩;rcases If Q with⟨_,Q⟩|⟨rfl,rfl⟩;exact t.alone A z H L Q;omega;exact aZ rfl y
end
variable{k:ar}
structure gc(W:World)(o:Ty)(e:TypeId)(rows:ar):Prop where
 len:∀(i:Nat)(row:aF),rows[i]?=U row->Y row=(bE o (.sl e)).length
 int:∀(i j:Nat)(row:aF)(c:RV)(k:IntKind),rows[i]?=U row->row[j]?=U c->(bE o (.sl e))[j]?=U (.int k)->∃n,c.val=.int k n
 bool:∀(i j:Nat)(row:aF)(c:RV),rows[i]?=U row->row[j]?=U c->(bE o (.sl e))[j]?=U .bool->∃x,c.val=.bool x
 ae:∀(i j:Nat)(row:aF)(c:RV)(z:Value)(k:RK),rows[i]?=U row->row[j]?=U c->(bE o (.sl e))[j]?=U (.ae z k)->bJ W o k c
def eO(rows:ar):gG:=rows.flatMap λX=>X.map RV.val
def BR{w:Nat}:∀{rows:ar},(∀(i:Nat)(X:aF),rows[i]?=U X->Y X=w)->(eO rows).length=Y rows*w
 |[],_=>by simp[eO]
 |r::Q,h=>by
  have N:=h 0 r rfl;have R:=BR (rows:=Q) (λi X M=>h (i+1) X (by simpa using M));simp only[eO,ZJ,gP,pN,kV,N] at R⊢;rw[R,nE];omega
def Pb{w:Nat}:∀{rows:ar},(∀(i:Nat)(row:aF),rows[i]?=U row->Y row=w)->∀{i j:Nat}{row:aF}{c:RV},rows[i]?=U row->row[j]?=U c->(eO rows)[i*w+j]?=U c.val
 |[],_,i,j,row,c,h,_=>by simp at h
 |r::Q,h,0,j,row,c,X,R=>by
  simp at X;subst X;have L:j<Y r:=(cu.1 R).1;simp only[eO,ZJ,Nat.zero_mul,jf];rw[dN (by simpa using L)];simp[R]
 |r::Q,h,i+1,j,row,c,X,R=>by
  have N:=h 0 r rfl;have M:=Pb (rows:=Q) (λi row H=>h (i+1) row (by simpa using H)) (i:=i) (by simpa using X) R;simp only[eO,ZJ] at M⊢;rw[iJ (by simp[N,nE];omega)];rw[<-M];congr 1;simp[N,nE];omega
def K3{w:Nat}:∀{rows:ar},(∀(i:Nat)(X:aF),rows[i]?=U X->Y X=w)->∀{q:Nat}{u:Value},(eO rows)[q]?=U u->∃i j X c,rows[i]?=U X/\X[j]?=U c/\q=i*w+j/\u=c.val
 |[],_,q,u,h=>by simp[eO] at h
 |r::N,h,q,u,R=>by
  have A:=h 0 r rfl;simp only[eO,ZJ] at R;by_cases M:q<Y r;rw[dN (by simpa using M),dS] at R;cases Q:r[q]? with
  |none=>rw[Q] at R;cases R
  |some c=>rw[Q] at R;simp at R;exact⟨0,q,r,c,rfl,Q,av,R.symm⟩
  rw[iJ dl] at R;obtain⟨i,j,X,c,L,H,G,F⟩:=K3 (rows:=N) (λi X B=>h (i+1) X (by simpa using B)) R;refine⟨i+1,j,X,c,by simpa using L,H, ?_,F⟩;simp only[pN] at G;rw[nE];omega
def aaS(a b:ar):eO (a++b)=eO a++eO b:=by simp[eO]
section
variable{W W':World}{o:Ty}{e:TypeId}{rows aE:ar}
def gc.yr{v:Value}(h:bJ W o (.sl e) (.mk v rows)):gc W o e rows:=by
 cases h with
 |sl e A H G rows F B X R Q N=>exact⟨λi M L=>(X i M L).1,R,Q,N⟩
def ue{A:oL}(h:bJ W o (.sl e) (.mk (.slice A R Q) rows)):Y rows=R/\R<=Q:=by
 cases h with
 |sl e A R Q rows X N M L H G=>exact⟨X,N⟩
def Pc{A:oL}(h:bJ W o (.sl e) (.mk (.slice A R Q) rows)):∀(q:Nat)(u:Value),(eO rows)[q]?=U u->∃b X,A=U ⟨b,X,Z⟩/\(∃N t M,W.heap[b]?=U (.cells N t M))/\W.cell? ⟨b,X+q,Z⟩=U u:=by
 intro q u L;have H:=gc.yr h;obtain⟨i,j,G,c,F,B,rfl,rfl⟩:=K3 H.len L;cases h with
 |sl e A R Q rows w v z r p n=>
  obtain⟨-,b,X,rfl,y,x⟩:=z i G F;exact⟨b,X,rfl,y,by rw[<-Ht];exact x j c B⟩
def aaT(h:gc W o e rows)(M:∃L t H,W.heap[R]?=U (.cells L t H))(G:∀(q:Nat)(u:Value),(eO rows)[q]?=U u->W.cell? ⟨R,Q+q,Z⟩=U u)(F:Y rows<=i):bJ W o (.sl e) (.mk (.slice (U ⟨R,Q,Z⟩) (Y rows) i) rows):=
 bJ.sl e _ _ _ _ rfl F (λX B N=>⟨h.len X B N,R,Q,rfl,M,λj c A=>by
  have:=G _ _ (Pb h.len N A)
  rwa [<-Ht] at this⟩) h.int h.bool h.ae
def DN(A:oL)(Q:Nat):bJ W o (.sl e) (.mk (.slice A 0 Q) []):=
 bJ.sl e _ _ _ _ rfl (Hx _) (λi R X=>by simp at X) (λi j R c k X=>by simp at X) (λi j R c X=>by simp at X) (λi j R c z k X=>by simp at X)
def gc.single(h:gc W o e rows):∀u∈eO rows,jD u=true:=by
 intro u L;obtain⟨q,H⟩:=tO L;obtain⟨i,j,X,c,R,Q,rfl,rfl⟩:=K3 h.len H;have F:j<(bE o (.sl e)).length:=by rw[<-h.len i X R];exact(cu.1 Q).1
 cases N:(bE o (.sl e))[j]? with
 |none=>rw[Dc] at N;omega
 |some G=>
  cases G with
  |int k=>obtain⟨n,M⟩:=h.int i j X c k R Q N;rw[M];rfl
  |bool=>obtain⟨n,M⟩:=h.bool i j X c R Q N;rw[M];rfl
  |ae z k=>exact KS (h.ae i j X c z k R Q N)
def gc.world(h:gc W o e rows)(M:∀b,ol o e rows b->W'.heap[b]?=W.heap[b]?)(L:W.heap.size<=W'.heap.size):gc W' o e rows:=
 ⟨h.len,h.int,h.bool,λi j X c z k R Q N=>(h.ae i j X c z k R Q N).KZ (λb H=>M b ⟨i,j,X,c,z,k,R,Q,N,H⟩) L⟩
def gc.lt(h:gc W o e rows){b:Nat}(X:ol o e rows b):b<W.heap.size:=by
 obtain⟨i,j,R,c,z,k,Q,N,M,L⟩:=X;exact(h.ae i j R c z k Q N M).lt L
def gc.nil:gc W o e []:=⟨λi X h=>by simp at h,λi j X c k h=>by simp at h,λi j X c h=>by simp at h,λi j X c z k h=>by simp at h⟩
def Pd{b:ar}{X:aF}(h:(k++b)[R]?=U X):k[R]?=U X\/b[R-Y k]?=U X:=by
 by_cases Q:R<Y k;rw[dN Q] at h;exact .inl h;rw[iJ aa] at h;exact .inr h
def gc.kq(h:gc W o e rows)(R:gc W o e aE):gc W o e (rows++aE):=
 ⟨λi Q X=>(Pd X).elim (h.len _ _) (R.len _ _),λi j Q c k X=>(Pd X).elim (h.int _ _ _ _ _) (R.int _ _ _ _ _),
  λi j Q c X=>(Pd X).elim (h.bool _ _ _ _) (R.bool _ _ _ _),λi j Q c z k X=>(Pd X).elim (h.ae _ _ _ _ _ _) (R.ae _ _ _ _ _ _)⟩
def awG(h:ol o e (rows++aE) R):ol o e rows R\/ol o e aE R:=by
 obtain⟨i,j,Q,c,z,k,X,N,M,L⟩:=h;exact(Pd X).imp (λX=>⟨_,j,Q,c,z,k,X,N,M,L⟩) (λX=>⟨_,j,Q,c,z,k,X,N,M,L⟩)
def Pe(h:ol o e [] R):False:=by
 obtain⟨i,j,Q,c,z,k,X,-⟩:=h;simp at X
def TS(h:ol o e rows R):et o (.sl e) (.mk c rows) R:=by
 obtain⟨i,j,Q,X,z,k,N,M,L,H⟩:=h;exact et.deep e c rows i j Q X z k R N M L H
def aks(h:et o (.sl e) (.mk c rows) R):(∃a Q N,c=.slice (U a) (Q+1) N/\R=a.block)\/ol o e rows R:=by
 cases h with
 |here e a Q N rows=>exact .inl ⟨a,Q,N,rfl,rfl⟩
 |deep e c rows i j M X z k R L H G F=>exact .inr ⟨i,j,M,X,z,k,L,H,G,F⟩
end
def awH(h:et n z (cg z L) R):et n z L R:=by
 cases z with
 |sl e=>
  simp only[cg] at h;split at h;exact h;cases h with
  |deep e L rows i j N c X z R Q=>simp at Q
 |str=>cases h
 |ae=>cases h
 |own e=>
  simp only[cg] at h;split at h;exact h;cases h with
  |own e H R M=>cases M with
   |deep e L rows i j N c X z R Q=>simp at Q
 |am=>cases h
 |mr G=>cases h
def akt(h:et n z default R):False:=by
 cases h with
 |deep e v rows i j N c X z R Q=>simp at Q
 |own e L R M=>cases M with
  |deep e v rows i j N c X z R Q=>simp at Q
def TU(h:et n z.rd L R):et n z L R:=by
 cases z with
 |own t=>exact et.own _ _ _ h
 |_=>exact h
def awI{i:Int}(L:HF (bE n (.sl X))[R]?=z)(H:z≠ .ae)(h:et n z (cg z (aQ k i R)) Q):ol n X k Q:=by
 have M:=awH h;simp only[aQ,cw] at M;cases G:k[i.toNat]? with
 |none=>rw[G] at M;exact(akt (by simpa using M)).elim
 |some A=>
  rw[G] at M;simp only[oI] at M;cases F:A[R]? with
  |none=>rw[F] at M;exact(akt (by simpa using M)).elim
  |some c=>
   rw[F] at M;cases B:(bE n (.sl X))[R]? with
   |none=>rw[B] at L;exact aZ L.symm H
   |some y=>
    rw[B] at L;subst L;cases y with
    |ae N x=>exact⟨_,R,A,c,N,x,G,F,B,by simpa[HF] using M⟩
    |int _=>exact aZ rfl H
    |bool=>exact aZ rfl H
def TV{o:Ty}{O:ai}{s:S}{b:Nat}:∀{r:RE}{e:RK},e≠ .ae->r.kind o s=e->et o e (r.rv O) b->
  ∃R Q,r.root=U R/\s.rs[R]?=U Q/\((r=.v R/\Q.rd=e)\/∃t,Q.rd=.sl t/\ol o t (O.rv R).ac b)
 |.v k,e,X,h,N=>by
  simp only[RE.kind,cw] at h;cases H:s.rs[k]? with
  |none=>rw[H] at h;exact aZ (show e=.ae from h.symm) X
  |some q=>rw[H] at h;simp at h;exact⟨k,q,rfl,H,.inl ⟨rfl,h⟩⟩
 |.cell r i j x,e,X,h,N=>by
  simp only[RE.kind] at h;split at h;rename_i G F;split at h;rename_i B;subst h;simp only[RE.rv] at N;have L:=awI B X N;have A:et o (.sl G) (r.rv O) b:=by
   revert L;generalize r.rv O=v;intro L;obtain⟨v,rows⟩:=v;exact TS L
  obtain⟨R,Q,z,y,M⟩:=TV (r:=r) (e:=.sl G) av F A;refine⟨R,Q,z,y,.inr ?_⟩;rcases M with⟨rfl,M⟩|M;exact⟨G,M,by simpa[RE.rv] using L⟩;exact M;exact aZ h.symm X;exact aZ h.symm X
 |.k v,e,X,h,N=>by
  cases v<;>simp only[RE.kind] at h
  case string s=>subst h;cases N
  all_goals exact aZ h.symm X
section
variable{p:aq}{d:World}{D:cq}{P:Program}{o:Ty}{B:nG}{V:aq}{O:ai}{s:S}{a:Act}{W:World}
def u5(X:az p d D o V O s a W)(h:s.rs[R]?=U z):O.r[R]?=U (O.rv R):=by
 have Q:R<Y O.r:=by rw[X.er];exact(cu.1 h).1
 simp[ai.rv,Q]
def Ig(v:RV):RV.mk v.val v.ac=v:=by cases v;rfl
def K4{e0:RK}(h:e0.rd=.sl X)(N:ol o X (O.rv R).ac Q):et o e0 (O.rv R) Q:=by
 apply TU;rw[h,<-Ig (O.rv R)];exact TS N
def Pf(N:az p d D o V O s a W)(H:s.rs[R]?=U (.own X))(F:O.r[R]?=U L)(x:L.lH=U Q){t:TypeId}(M:s.rs[i]?=U z)(G:z.rd=.sl t)(B:ol o t (O.rv i).ac Q):False:=by
 have A:=N.gD R X L Q H F x;by_cases y:i=R;subst y;rw[H] at M;cases M;simp only[RK.rd,RK.sl.injEq] at G;subst G;have:=u5 N H;rw[F] at this;cases this;exact A.inner B;exact A.alone i z (O.rv i) y M (u5 N M) (.inl (K4 G B))
def TW(N:az p d D o V O s a W)(F:s.rs[R]?=U (.own X))(B:O.r[R]?=U L)(A:L.lH=U Q){r:RE}(w:z≠ .ae)(h:r.kind o s=z)(y:et o z (r.rv O) Q):r=.v R:=by
 obtain⟨H,u,m,G,M⟩:=TV w h y;rcases M with⟨rfl,M⟩|⟨t,M,q⟩;by_cases x:H=R;rw[x];have n:=N.gD R X L Q F B A;exact aZ (.inl (TU (by rw[M];exact y))) (n.alone H u (O.rv H) x G (u5 N G));exact(Pf N F B A G M q).elim
def K5(X:az p d D o V O s a W){r:RE}(F:z≠ .ae)(h:r.kind o s=z)(H:et o z (r.rv O) R):O.qM o s.rs R/\∀i,aP s.ao i=J->ad V i≠R:=by
 obtain⟨N,M,A,L,Q⟩:=TV F h H;have G:et o M (O.rv N) R:=by
  rcases Q with⟨rfl,Q⟩|⟨t,Q,B⟩;exact TU (by rw[Q];exact H);exact K4 Q B
 exact⟨⟨N,M,L,G⟩,(X.mem.ah N M _ L (u5 X L)).2 R G⟩
def aku(R:az p d D o V O s a W){k:RK}{r:RE}(h:r.fits o s k=J):bJ W o k (r.rv O):=by
 unfold RE.fits at h;split at h;rename_i e;simp only[jL,ce] at h;rcases h with h|h;exact sK R av h;unfold RE.isNil at h;split at h;exact DN Z 0;cases h;simp only[ce] at h;exact sK R av h;cases h
def aaU{r:RE}(h:r.fits o s z=J)(Q:et o z (r.rv O) R):r.kind o s=z/\z≠ .ae:=by
 unfold RE.fits at h;split at h;rename_i e;simp only[jL,ce] at h;rcases h with h|h;exact⟨h,av⟩;unfold RE.isNil at h;split at h;simp only[RE.rv] at Q;cases Q with
 |deep e v rows i j M c X z R N=>simp at N
 cases h;simp only[ce] at h;exact⟨h,av⟩;cases h
def Ih:∀{aj:fu}{R:ap},mV o s aj R=J->Y R=Y aj/\∀(j:Nat)(X:CT)(v:C),aj[j]?=U X->R[j]?=U v->tU o s X v=J
 |[],[],_=>⟨rfl,λj X v h=>by simp at h⟩
 |[],_::_,h=>by simp[mV] at h
 |_::_,[],h=>by simp[mV] at h
 |c::G,v::F,h=>by
  simp only[mV,aw] at h;obtain⟨M,L⟩:=Ih h.2;refine⟨by simp[M],λj X H Q N=> ?_⟩;cases j with
  |zero=>simp at Q N;subst Q N;exact h.1
  |succ j=>exact L j X H (by simpa using Q) (by simpa using N)
def akv{X:CT}(h:tU o s X M=J):M.ab O V=(M.cj O).val:=by
 unfold tU at h;split at h<;>first|rfl|cases h
structure TX(W:World)(o:Ty)(aj:fu)(row:aF):Prop where
 len:Y row=Y aj
 int:∀(j:Nat)(c:RV)(k:IntKind),row[j]?=U c->aj[j]?=U (.int k)->∃n,c.val=.int k n
 bool:∀(j:Nat)(c:RV),row[j]?=U c->aj[j]?=U .bool->∃x,c.val=.bool x
 ae:∀(j:Nat)(c:RV)(z:Value)(k:RK),row[j]?=U c->aj[j]?=U (.ae z k)->bJ W o k c
def gc.of(h:∀(i:Nat)(Q:aF),k[i]?=U Q->TX W o (bE o (.sl X)) Q):gc W o X k:=
 ⟨λi Q N=>(h i Q N).len,λi j Q c R N=>(h i Q N).int j c R,λi j Q c N=>(h i Q N).bool j c,λi j Q c z R N=>(h i Q N).ae j c z R⟩
def gc.get(h:gc W o X k){N:aF}(M:k[R]?=U N):TX W o (bE o (.sl X)) N:=
 ⟨h.len R N M,λj c Q=>h.int R j N c Q M,λj c=>h.bool R j N c M,λj c z Q=>h.ae R j N c z Q M⟩
def aaV(R:az p d D o V O s a W){aj:fu}(h:mV o s aj w=J):TX W o aj (w.map (C.cj O)):=by
 obtain⟨F,B⟩:=Ih h;have H:∀(j:Nat)(c:RV)(L:CT),(w.map (C.cj O))[j]?=U c->aj[j]?=U L->∃v,tU o s L v=J/\c=v.cj O:=by
  intro j c L N M;rw[dS] at N;cases G:w[j]? with
  |none=>rw[G] at N;cases N
  |some v=>rw[G] at N;simp at N;exact⟨v,B j L v M G,N.symm⟩
 refine⟨by simpa using F,λj c k N M=> ?_,λj c N M=> ?_,λj c z k N M=> ?_⟩;obtain⟨v,Q,rfl⟩:=H j c _ N M;unfold tU at Q;split at Q;rename_i X;cases X;simp at Q;subst Q;exact⟨_,rfl⟩;rename_i X;cases X;rename_i X;cases X;cases Q;obtain⟨v,Q,rfl⟩:=H j c _ N M;unfold tU at Q;split at Q;rename_i X;cases X;exact⟨_,rfl⟩;rename_i X;cases X;cases Q;obtain⟨v,Q,rfl⟩:=H j c _ N M;unfold tU at Q;split at Q;rename_i X;cases X;rename_i X;cases X;rename_i X;cases X;exact aku R Q;cases Q
def aaW{aj:fu}(h:mV o s aj w=J)(X:(w.map (C.cj O))[R]?=U L)(F:aj[R]?=U (.ae c z))(H:et o z L Q):
  ∃r:RE,w[R]?=U (.ah r)/\r.kind o s=z/\z≠ .ae/\et o z (r.rv O) Q:=by
 obtain⟨A,B⟩:=Ih h;rw[dS] at X;cases G:w[R]? with
 |none=>rw[G] at X;cases X
 |some v=>
  rw[G] at X;simp at X;subst X;have N:=B R _ v F G;unfold tU at N;split at N;rename_i M;cases M;rename_i M;cases M;rename_i r M;cases M;exact⟨r,rfl,(aaU (O:=O) N H).1,(aaU (O:=O) N H).2,H⟩;cases N
def FA:∀{aj:fu}{l:xW},og o s aj l=J->∀(i:Nat)(X:ap),l[i]?=U X->mV o s aj X=J
 |aj,[],_,i,X,h=>by simp at h
 |aj,r::Q,h,0,X,R=>by simp only[og,aw] at h;simp at R;subst R;exact h.1
 |aj,r::Q,h,i+1,X,R=>by simp only[og,aw] at h;exact FA h.2 i X (by simpa using R)
def aaX{Q:bz}(h:(kG y 0 Q)[R]?=U (.own X)):Q[R]?=U (.own X)/\R∉y:=by
 rw[K2] at h;cases M:Q[R]? with
 |none=>rw[M] at h;cases h
 |some x=>
  rw[M] at h;simp only[jf,eh,cX] at h;cases x<;>simp[zN] at h
  case own t=>
   by_cases N:R∈y;simp[N] at h;simp[N] at h;exact⟨by rw[h],N⟩
def akw{Q:bz}(h:(jE y 0 Q)[R]?=U z):(R∈y/\z=.am)\/(R∉y/\Q[R]?=U z):=by
 rw[K1] at h;cases N:Q[R]? with
 |none=>rw[N] at h;cases h
 |some x=>
  rw[N] at h;simp only[jf,eh,cX] at h;by_cases X:R∈y;simp[X] at h;exact .inl ⟨X,h.symm⟩;simp[X] at h;exact .inr ⟨X,by rw[h]⟩
structure FB(W W':World)(e:TypeId)(w:Nat)(old:cQ)(rows:ar)(A:oL)(cap:Nat):Prop where
 le:Y rows<=cap
 nil:A=Z->cap=0
 mem:cap=0\/∃b di,A=U ⟨b,0,Z⟩/\W'.heap[b]?=U (.cells di e (0,0))/\cap<=maxLen/\di.size=cap*w/\di.toList.take (Y rows*w)=eO rows/\(W.heap.size<=b\/old=U b)
def DO(o:Ty)(V:aq)(O:ai)(s:S)(e:TypeId)(rows:ar)(dv:aq):Prop:=
 ∀b,ol o e rows b->O.qM o s.rs b/\(∀i,aP s.ao i=J->ad V i≠b)/\∀(k:Nat)(t:TypeId)(X:RV),s.rs[k]?=U (.own t)->O.r[k]?=U X->X.lH=U b->k∈dv
def Pg{X:bz}(h:s.bd=J)(R:Y X=Y s.rs):({s with rs:=X}:S).bd=true:=by
 simp only[S.bd,R] at h⊢;exact h
def az.bind(R:az p d D o V O s a W)(hb:s.bd=J){e:TypeId}{rows:ar}{kill dv:aq}{old:cQ}{W':World}{A:oL}{cap:Nat}
  (hk:(kill=[]/\old=Z)\/∃k t v,kill=[k]/\s.rs[k]?=U (.own t)/\O.r[k]?=U v/\old=v.lH)(a4:∀k∈kill,k∉dv)
  (f:W.grownBy W' old)(al:gc W o e rows)(af:DO o V O s e rows dv)(z:FB W W' e (bE o (.sl e)).length old rows A cap):
  az p d D o V (O.add (.r (.mk (.slice A (Y rows) cap) rows))) {s with rs:=kG dv 0 (jE kill 0 s.rs)++[.own e]} a W'/\∀b,et o (.sl e) (.mk (.slice A (Y rows) cap) rows) b->d.heap.size<=b\/b∈p\/O.qM o s.rs b:=by
 have y:∀b,old=U b->(d.heap.size<=b\/b∈p)/\b<W.heap.size/\(∀i,aP s.ao i=J->ad V i≠b)/\(∀L H M,L∉kill->s.rs[L]?=U H->O.r[L]?=U M->¬zW o H M b)/\¬ol o e rows b:=by
  intro b j;rcases hk with⟨_,m⟩|⟨k,t,v,rfl,X,F,x⟩;rw[m] at j;cases j;rw[x] at j;have tp:=R.gD k t v b X F j;refine⟨tp.own,tp.lt,tp.box,λL H M hn=>tp.alone L H M (by simpa using hn),λG=> ?_⟩;exact a4 k av ((af b G).2.2 k t v X F j)
 have R1:az p d D o V O {s with rs:=jE kill 0 s.rs} a W':=by
  rcases hk with⟨rfl,rfl⟩|⟨k,t,v,rfl,X,F,rfl⟩;have:jE [] 0 s.rs=s.rs:=by
   apply kU;intro i;rw[K1];cases s.rs[i]?<;>simp
  rw[this];exact R.grown f;exact R.eL X F f
 have R2:=R1.mX (Pa dv _);have a9:gc W' o e rows:=al.world (λb G=>f.block b (al.lt G) (λh=>(y b h.symm).2.2.2.2 G)) f.size;have ba:bJ W' o (.sl e) (.mk (.slice A (Y rows) cap) rows):=by
  rcases z.mem with m|⟨b,di,rfl,X,F,x,h4,Q⟩;have N:=z.le;have:rows=[]:=tM aa;subst this;exact DN A cap;refine aaT a9 ⟨_,_,_,X⟩ (λq u hq=> ?_) z.le;rw[<-h4,nD] at hq;split at hq;simp only[oK,X,jf];simpa using hq;cases hq
 have an:∀b,zW o (.own e) (.mk (.slice A (Y rows) cap) rows) b->(W.heap.size<=b\/old=U b)\/ol o e rows b:=by
  intro b N;have a1:∀n,A=U n->cap≠0->n.block=b->(W.heap.size<=b\/old=U b):=by
   intro n hA hc ag;rcases z.mem with m|⟨w,di,X,_,_,_,_,Q⟩;exact aZ m hc;rw[X] at hA;cases hA;simp only at ag;subst ag;exact Q
  rcases N with N|⟨-,N⟩;cases N with
  |own e v b N=>
   rcases aks N with⟨n,br,bs,X,rfl⟩|X;simp only[Value.slice.injEq] at X;exact .inl (a1 n X.1 (by have:=z.le;omega) rfl);exact .inr X
  simp only[RV.lH,RV.nM] at N;split at N;rename_i n l0 c0 X;cases X;simp at N;exact .inl (a1 n rfl aa N);cases N
 have bb:∀{k:Nat}{H:RK},(kG dv 0 (jE kill 0 s.rs))[k]?=U H->∃e0,(jE kill 0 s.rs)[k]?=U e0/\rK e0 H:=λh=>(Pa dv _).get _ _ h
 constructor;refine R2.add (Pg (Pg hb (BP _ _ _)) (BQ _ _ _)) (bJ.own e _ ba (λl c h=>by cases h;exact z.nil rfl)) (λb N i G=> ?_) (λk t M b X F x N=> ?_) (λt b ht a3=> ?_);rcases an b (.inl N) with(h|h)|h;have:=R.mem.lt G;omega;exact(y b h).2.2.1 i G;exact(af b h).2.1 i G;obtain⟨bc,bf⟩:=aaX X;rcases akw bc with⟨_,h⟩|⟨bg,aA⟩;cases h;rcases an b N with(h|h)|h;have:=(R.gD k t M b aA F x).lt;omega;exact(y b h).2.2.2.1 k _ M bg aA F (.inr ⟨⟨t,rfl⟩,x⟩);exact bf ((af b h).2.2 k t M aA F x);cases ht;have bk:cap≠0:=by
  intro h;subst h;simp[RV.lH] at a3
 rcases z.mem with m|⟨w,di,rfl,X,F,x,h4,Q⟩;exact aZ m bk;have ag:w=b:=by
  obtain⟨c',rfl⟩:∃c',cap=c'+1:=⟨cap-1,aa⟩;simpa[RV.lH] using a3
 subst ag;have bl:∀(L:Nat)(H:RK)(M:RV),(jE kill 0 s.rs)[L]?=U H->O.r[L]?=U M->¬zW o H M w:=by
  intro L H M g1 g B;rcases akw g1 with⟨_,rfl⟩|⟨hn,aC⟩;rcases B with B|⟨⟨t,ht⟩,_⟩;cases B;cases ht;rcases Q with Q|Q;rcases B with B|⟨⟨t,rfl⟩,B⟩;have:=(R.mem.ah L H M aC g).1.lt B;omega;have:=(R.gD L t M w aC g B).lt;omega;exact(y w Q).2.2.2.1 L H M hn aC g B
 refine⟨?_,⟨Y rows,cap,di,rfl,X,z.le,F,x⟩,λi G=> ?_,λL H M g1 g B=> ?_,λG=> ?_⟩;rcases Q with Q|Q;exact .inl (pO R.mem.base.size Q);exact(y w Q).1;rcases Q with Q|Q;have:=R.mem.lt G;omega;exact(y w Q).2.2.1 i G;obtain⟨e0,g4,hw⟩:=bb g1;exact bl L e0 M g4 g (B.mX hw);rcases Q with Q|Q;have:=al.lt G;omega;exact(y w Q).2.2.2.2 G;intro b N;rcases an b (.inl (et.own _ _ _ N)) with(h|h)|h;exact .inl (pO R.mem.base.size h);exact(y b h).1.imp id .inl;exact .inr (.inr (af b h).1)
end
section
variable{p:aq}{d:World}{D:cq}{P:Program}{o:Ty}{V:aq}{O:ai}{s:S}{a:Act}{W:World}
def lJ(A:oL)(X:Nat):cQ:=match A,X with
 |U a,_+1=>U a.block
 |_,_=>Z
def K6(A:oL)(n X:Nat)(R:ar):(RV.mk (.slice A n X) R).lH=lJ A X:=by
 cases A<;>cases X<;>rfl
structure K7(W:World)(e:TypeId)(w:Nat)(A:oL)(cap:Nat):Prop where
 nil:A=Z->cap=0
 mem:cap=0\/∃b di,A=U ⟨b,0,Z⟩/\W.heap[b]?=U (.cells di e (0,0))/\cap<=maxLen/\di.size=cap*w
def aaY{di:mR}{t:TypeId}{M:Nat×Nat}(h:bJ W o (.sl X) (.mk (.slice (U ⟨R,0,Z⟩) Q i) k))(L:W.heap[R]?=U (.cells di t M)):
  di.toList.take (Y k*(bE o (.sl X)).length)=eO k:=by
 have B:=BR (gc.yr h).len;have H:∀(q:Nat)(u:Value),(eO k)[q]?=U u->di[q]?=U u:=by
  intro q u N;obtain⟨A,z,G,y,F⟩:=Pc h q u N;cases G;simpa[oK,L] using F
 apply kU;intro q;rw[nD];by_cases N:q<(eO k).length;rw[aL aa,cP N];simpa using H q _ (cP N);rw[aT aa,km aa]
def awJ{t t2 tyR:TypeId}(a9:fw P X v)(hw:Y v.aj≠0)(al:(bE o (.sl X)).length=Y v.aj)(p:P.underlying t=U (.slice X))(n:P.underlying t2=U (.slice X))
  {H:ar}{F m:oL}{cap2:Nat}(y:bJ W o (.sl X) (.mk (.slice F R Q) k))(hr:K7 W X (Y v.aj) F Q)
  (an:Y H=i)(ba:gc W o X H)(bb:∀(q:Nat)(u:Value),(eO H)[q]?=U u->∃l,m=U l/\W.cell? (l.add q)=U u)
  (ca:R<=536870912)(cc:i<=536870912):
  ∃A bc W',(Builtin.append_ #[t,t2] tyR #[.slice F R Q,.slice m i cap2]).run P W=.ok (.slice A (R+i) bc) W'/\W.grownBy W' (lJ F Q)/\FB W W' X (Y v.aj) (lJ F Q) (k++H) A bc:=by
 obtain⟨N,w,r,z,hz,bk⟩:=a9.KO;have bl:=a9.bytes N w;have br:z.cells.size=Y v.aj:=by rw[<-E3,bk];simp
 obtain⟨g,cf⟩:=ue y;have bs:=gc.yr y;have bd:(eO k).length=R*N.size:=by rw[BR bs.len,g,al,r]
 have aA:(eO H).length=i*N.size:=by rw[BR ba.len,an,al,r]
 have aC:(eO (k++H)).length=(R+i)*Y v.aj:=by rw[aaS,gP,bd,aA,r,nE]
 have f:(k++H).length=R+i:=by simp[g,an]
 have a3:∀G:World,(∀x,G.cell? x=W.cell? x)->(Builtin.firstCells N.size i (.slice m i cap2)).run P G=.ok (eO H).toArray G:=by
  intro G d;cases m with
  |none=>
   have:eO H=[]:=by
    cases hq:eO H with
    |nil=>rfl
    |cons x xs=>obtain⟨l,h,_⟩:=bb 0 x (by rw[hq];rfl);cases h
   rw[run_firstCells_none,this]
  |some a2=>
   refine run_firstCells_some G N.size i a2 i cap2 _ aA (λj M hj=> ?_);obtain⟨l,h,h'⟩:=bb j M hj;cases h;rw[d];exact h'
 have bt:∀G:World,(∀x,G.cell? x=W.cell? x)->(Builtin.firstCells N.size R (.slice F R Q)).run P G=.ok (eO k).toArray G:=by
  intro G d;cases F with
  |none=>
   have:eO k=[]:=by
    cases hq:eO k with
    |nil=>rfl
    |cons x xs=>obtain⟨b,bx,h,_⟩:=Pc y 0 x (by rw[hq];rfl);cases h
   rw[run_firstCells_none,this]
  |some a1=>
   refine run_firstCells_some G N.size R a1 R Q _ bd (λj M hj=> ?_);obtain⟨b,bx,h,_,h'⟩:=Pc y j M hj;cases h;rw[d,yq];exact h'
 by_cases af:R+i<=Q
 
 rcases Bm Q with h0|h0;have e1:R=0:=aa;have e2:i=0:=aa;subst h0 e1 e2;have r1:k=[]:=tM g;have r2:H=[]:=tM an;subst r1 r2;refine⟨F,0,W, ?_,⟨rfl,rfl,rfl,bY _,λ_ _ _=>rfl⟩,⟨bY _,λ_=>rfl,.inl rfl⟩⟩;have B:=a3 W (λ_=>rfl);have ag:∀a1:Addr,(storeCells a1 [] 0).run P W=.ok () W:=λ_=>rfl
 cases F with
 |none=>simp[Builtin.append_,run_underlying p,run_underlying n,Go.sizeOf,typeInfo,w,Builtin.lenOf,B,eO]
 |some a1=>simp[Builtin.append_,run_underlying p,run_underlying n,Go.sizeOf,typeInfo,w,Builtin.lenOf,B,eO,ag]
 rcases hr.mem with d|⟨b,di,rfl,hg,a4,b0⟩;omega;have b1:R*N.size+(eO H).length<=di.size:=by rw[aA,b0,<-nE,r];exact zG _ af
 have B:=a3 W (λ_=>rfl);have ag:=run_storeCells_at P b (R*N.size) X (eO H) 0 di W hg (by simpa using b1) (λu hu=>akn (ba.single u hu));simp only[wh] at ag;have bf:lJ (U ⟨b,0,Z⟩) Q=U b:=by cases Q with
  |zero=>omega
  |succ c=>rfl
 refine⟨U ⟨b,0,Z⟩,Q,W.setRow b (di.toList.take (R*N.size)++eO H++di.toList.drop (R*N.size+(eO H).length)).toArray, ?_,⟨rfl,rfl,rfl,by simp[World.setRow],λL _ hk=>setRow_other W b L _ (λh=>hk (by rw[bf,h]))⟩,
  ⟨by rw[f];exact af,av,.inr ⟨b,_,rfl,setRow_heap W b di _ X _ hg,a4, ?_, ?_,.inr bf⟩⟩⟩
 simp[Builtin.append_,run_underlying p,run_underlying n,Go.sizeOf,typeInfo,w,Builtin.lenOf,af,B,Addr.add_lit,ag];simp only[Ho,gP,E4,Df,E3];omega;have bg:=aaY y hg;rw[g,al,<-r] at bg;rw[f,bg,<-aaS,<-aC];exact List.take_left
 
 have b2:R+i<=1073741824:=aa;have b3:(R+i)*N.bytes<=140737488355328:=by
  have:(R+i)*N.bytes<=1073741824*131072:=Dg b2 bl;omega
 have ch:=growslice_fits (show Q<R+i from aa) b3;have b4:R+i<=maxLen:=by simp only[maxLen];omega
 have b5:=grownCap_ge W (R+i) Q X;have a4:=grownCap_le_maxLen W (R+i) Q X b4;have B:=a3 W.drew (λ_=>av);have b6:=bt W.drew (λ_=>av);have b7:¬(9223372036854775807<((R:Int)+(i:Int))):=aa;have b8:¬(281474976710656<Builtin.nextslicecap (R+i) Q*N.bytes):=aa;refine⟨U ⟨W.heap.size,0,Z⟩,grownCap W (R+i) Q X,W.drew.alloc (.cells ((eO (k++H)).toArray++Builtin.zeroCells z.cells (grownCap W (R+i) Q X-(R+i))) X), ?_,
  ⟨rfl,rfl,rfl,av,λL hk _=>Below.heap_alloc W.drew _ _ hk⟩,⟨by rw[f];exact b5,av,.inr ⟨W.heap.size,_,rfl,SO W.drew _,a4, ?_, ?_,.inl (bY _)⟩⟩⟩
 simp[Builtin.append_,run_underlying p,run_underlying n,Go.sizeOf,typeInfo,zeroValue,w,hz,Builtin.lenOf,af,b7,b8,Question.forced,B,b6,newRow,grownCap];congr 2;apply nF;simp[Bn,aaS];simp only[Array.size_append,Ho,size_zeroCells,br,aC,<-nE];congr 1;omega;simp only[Array.toList_append,f,<-aC];exact List.take_left
end
structure bH(s:S)(O:ai)(V:aq)(s':S)(O':ai)(V':aq):Prop where
 ext:ot s.ao O O' V V'
 mono:∀i,aP s.ao i=J->aP s'.ao i=J
 len:Y s.ao<=Y s'.ao
 ax:s.ax<=s'.ax
def bH.refl(s:S)(O:ai)(V:aq):bH s O V s O V:=⟨ot.refl _ _ _,λ_ h=>h,bY _,bY _⟩
def bH.trans{s s' X:S}{O R Q:ai}{V N M:aq}(h:bH s O V s' R N)(k:bH s' R N X Q M):bH s O V X Q M:=
 ⟨h.ext.trans k.ext h.mono,λi L=>k.mono i (h.mono i L),pO h.len k.len,pO h.ax k.ax⟩
def bH.put{s s':S}{X:ai}{R:aq}(h:bH s l y s' X R)(d:cQ)(v:C):bH s l y (s'.put d v) X R:=by
 cases d<;>exact⟨h.ext,h.mono,h.len,h.ax⟩
def OR.gives(O:ai)(X:S):OR->Prop
 |.ok x=>X=x
 |.bi b x=>b.ab O=J/\X=x
 |.split b R Q=>X=if b.ab O then R else Q
 |.no _=>False
def sM(P:Program)(o:Oper)(a:Act)(W:World)(v:Value)(X:World):Prop:=
 (execOp a.eval o).run P W=.ok (.value v) X\/((execOp a.eval o).run P W=.ok .skip X/\v=undef)
def aaZ{s:S}(h:gH s.ao R=J)(t:TypeId)(X:ap)(d:cQ)(v:C):bH s l y ((s.dw R t X).put d v) l (y.set R Q):=by
 refine bH.put (s':=s.dw R t X) ⟨akl h l y Q,λi N=>(p8 (nP h).2).2 (.inr N),by simp[S.dw],by simp[S.dw]⟩ d v
def akx{s:S}{Q:ap}(h:cz s.ao R=U (X,w))(d:cQ)(v:C):bH s l y ((s.dw R X Q).put d v) l y:=by
 refine bH.put (s':=s.dw R X Q) ⟨ot.refl _ _ _,λi N=>(p8 (cu.1 (kw.1 h)).1).2 (.inr N),by simp[S.dw],by simp[S.dw]⟩ d v
def bH.lk{s X:S}{R:ai}{Q:aq}(h:bH s l y X R Q)(n:Nat):bH s l y {X with lk:=n} R Q:=⟨h.ext,h.mono,h.len,h.ax⟩
section
variable{g:aq}{u:World}{D:cq}{P:Program}{f:bF}{V:aq}{O:ai}{s:S}{a:Act}{W:World}
def az.lk(R:az g u D f.ty V O s a W)(n:Nat):az g u D f.ty V O {s with lk:=n} a W:=⟨R.mem,R.gV,R.ei,R.eb,R.er,R.dp,R.size,R.tmps,R.gD⟩
def BS{s X:S}{d:cQ}{r:PR}(h:(tV s d R r).gives l X):∃v,r.gives l v/\X=s.dL d v R:=by
 cases r with
 |ok v=>exact⟨v,rfl,h⟩
 |bi b v=>
  simp only[tV] at h;split at h;exact⟨v,⟨h.1,rfl⟩,h.2⟩;exact h.elim
 |no w=>exact h.elim
def aky(n:Nat)(l:ap):(yb n l).length=n*Y l:=by
 induction n with
 |zero=>simp[yb]
 |succ n X=>simp[yb,X,nE];omega
def aa0(l:ap):∀(n k:Nat),k<n*Y l->(yb n l)[k]?=l[k%Y l]?
 |0,k,h=>by simp at h
 |n+1,k,h=>by
  have Q:0<Y l:=by
   rcases Bm (Y l) with X|X;rw[X] at h;simp at h;exact X
  rw[yb];by_cases R:k<Y l;rw[dN R,Nat.mod_eq_of_lt R];rw[iJ aa,aa0 l n (k-Y l) (by rw[nE] at h;omega)];congr 1;have:k=(k-Y l)+Y l:=aa
  conv=>rhs;rw[this,Nat.add_mod_right]
def Ph(R:az g u D f.ty V O s a W)(B:jq P f.ty)(F:fk f.gl O)(m:OM){s':S}(h:(gR f m s).gives O s'):
  ∃v W' V',sM P m.o a W v W'/\az g u D f.ty V' O s' (a.put m.o.dst v) W'/\bH s O V s' O V':=by
 unfold gR at h;split at h;exact h.elim;rename_i Q;have Q:∀x∈m.o.op.operands.toList,(s.ev f.gl x).eX=false:=by
  intro x hx;cases hh:(s.ev f.gl x).eX;rfl;exact aZ (kW.2 ⟨x,hx,hh⟩) Q
 split at h
 
 rename_i t X;split at h;rename_i ti r;split at h;rename_i N;simp only[aw] at N;cases h;obtain⟨z,al,an⟩:=KT (P:=P) (W:=W) (O:=O) (V:=V) (B _ _ r);have G:=R.alloc (ud N.2) t (eG ti) N.1;rw[uc (K0 N.2)] at G;have j:=nP (ud N.2);refine⟨.pointer (U ⟨W.heap.size,0,Z⟩),W.alloc (.cells (C.aG O V (eG ti)).toArray t),V.set m.ix W.heap.size,.inl ?_, ?_,aaZ (ud N.2) _ _ _ _⟩;rw[<-an];simp[execOp,X,Instr.alloc,al,newVar,newRow];have:=G.put m.o.dst (.loc m.ix 0);rw[C.ab,DM (by rw[R.gV];exact j.2)] at this;exact this;exact h.elim;exact h.elim
 
 rename_i t x X;rw[X] at Q;have he:=dA R F x (Q x cN);split at h;rename_i ti r;split at h;rename_i N;simp only[aw] at N;cases h;obtain⟨⟨⟨-,d⟩,h2⟩,H⟩:=N;have aA:=TP (O:=O) (V:=V) (wB R) h2;have G:=R.alloc (ud H) t (s.ev f.gl x).cells d;rw[uc (K0 H)] at G;have j:=nP (ud H);refine⟨.pointer (U ⟨W.heap.size,0,Z⟩),W.alloc (.cells (C.aG O V (s.ev f.gl x).cells).toArray t),V.set m.ix W.heap.size,.inl ?_, ?_,aaZ (ud H) _ _ _ _⟩;rw[<-aA];simp[execOp,X,Instr.box,newVar,newRow,he];have:=G.put m.o.dst (.loc m.ix 0);rw[C.ab,DM (by rw[R.gV];exact j.2)] at this;exact this;exact h.elim;exact h.elim
 
 rename_i t L parts X;rw[X] at Q;have a4:(parts.map λ(i,x)=>(i,a.eval x)).toList=(parts.toList.map λp=>(p.1,s.ev f.gl p.2)).map λp=>(p.1,p.2.ab O V):=by
  simp only[xT,oJ];apply jA;intro p hp;have:=dA R F p.2 (Q p.2 (by simp[iN];exact⟨p.1,by simpa using hp⟩));simp[this]
 split at h;rename_i e aj q r;split at h;rename_i M aC;split at h;rename_i l hf;split at h;rename_i N;simp only[aw,ce] at N;cases h;obtain⟨⟨d,h2⟩,H⟩:=N;have hd:P.underlying t=U (.slice e):=(B _ _ r).desc;obtain⟨z,al,an⟩:=KT (P:=P) (W:=W) (O:=O) (V:=V) (B _ _ aC);have a9:=O8 (V:=V) (wB R) _ _ _ _ hf;have af:(eG M).length=Y M.aj:=by simp[eG]
 have hzero:((ajr (L*Y M.aj)).map ((if L*Y M.aj=0 then #[] else z.cells)[· %(if L*Y M.aj=0 then #[] else z.cells).size]!))=(C.aG O V (yb L (eG M))).toArray:=by
  apply nF;apply kU;intro k;by_cases ag:k<L*Y M.aj;have bc:¬L*Y M.aj=0:=aa;have bd:0<Y M.aj:=by
   rcases Bm (Y M.aj) with A|A;rw[A] at ag;simp at ag;exact A
  have ba:k%Y M.aj<(C.aG O V (eG M)).length:=by rw[H9,af];exact Hy _ bd
  simp only[bc,gw,an,xT,avx,dS,zH ag,eh,t8,aa0 _ _ _ (by rw[af];exact ag),af];rw[<-t8,cP ba];simp only[Ho,H9,af];rw[getElem!_pos _ _ (by simpa using ba)];simp;rw[km dl,km (by simp[aky,af];omega)]
 have G:=R.alloc (ud H) e l d;rw[uc (K0 H)] at G;have j:=nP (ud H);refine⟨.slice (U ⟨W.heap.size,0,Z⟩) L L,W.alloc (.cells (C.aG O V l).toArray e),V.set m.ix W.heap.size,.inl ?_, ?_,aaZ (ud H) _ _ _ _⟩;have bb:¬L*Y M.aj>2^24:=aa;by_cases A:L*Y M.aj=0;simp only[aL A] at hzero;simp only[execOp,X,Instr.buildSlice,dC,fw.iL hd,du,(B _ _ aC).oq,bb,gw,fz,aL A,a4];rw[hzero,a9];simp[newRow];simp only[aT A] at hzero;simp only[execOp,X,Instr.buildSlice,dC,fw.iL hd,du,(B _ _ aC).oq,bb,gw,fz,aT A,a4,al];rw[hzero,a9];simp[newRow];have:=G.put m.o.dst (.jp m.ix 0 L L);rw[C.ab,DM (by rw[R.gV];exact j.2)] at this;exact this;exact h.elim;exact h.elim;exact h.elim;exact h.elim
 
 rename_i t x y X;rw[X] at Q;have a0:=dA R F x (Q x cN);have a1:=dA R F y (Q y cN);split at h;rename_i ti i bg r hx;split at h;rename_i bt cs n;split at h;rename_i N;simp only[aw,dK,ce] at N;cases h;obtain⟨⟨⟨⟨d,h2⟩,H⟩,h4⟩,-⟩:=N;have aA:=TP (O:=O) (V:=V) (wB R) h4;obtain⟨n,bf⟩:=zY n;obtain⟨W',hr,G⟩:=R.store (B _ _ r) n bf d h2 H aA;refine⟨undef,W',V,.inr ⟨?_,rfl⟩,G.put m.o.dst (.bO []),akx n _ _⟩;simp only[execOp,X,a0,a1,hx,C.ab,dC,hr,du,fz];exact h.elim;exact h.elim;exact h.elim
 
 rename_i c x y X;rw[X] at Q;have a3:=dA R F c (Q c cN);have a0:=dA R F x (Q x cN);have a1:=dA R F y (Q y cN);split at h;rename_i b n;simp only[OR.gives] at h;rw[n,C.ab] at a3;cases w:b.ab O;simp only[w,jB,gw] at h;subst h;refine⟨_,W,V,.inl ?_,R.put _ _,(bH.refl _ _ _).put _ _⟩;simp[execOp,X,a3,w,asBool,a1];simp only[w,cS] at h;subst h;refine⟨_,W,V,.inl ?_,R.put _ _,(bH.refl _ _ _).put _ _⟩;simp[execOp,X,a3,w,asBool,a0];exact h.elim
 
 rename_i t x X;obtain⟨v,w,rfl⟩:=BS h;exact⟨v.ab O V,W,V,.inl (aki R B F m.o Q (by rw[X];exact w)),(R.lk _).put _ _,((bH.refl _ _ _).lk _).put _ _⟩
 
 obtain⟨v,w,rfl⟩:=BS h;exact⟨v.ab O V,W,V,.inl (aki R B F m.o Q w),(R.lk _).put _ _,((bH.refl _ _ _).lk _).put _ _⟩
def az.room{g:aq}{u:World}{D:cq}{V:aq}{O:ai}{s:S}{a:Act}{W:World}(R:az g u D f.ty V O s a W)(n:Nat):
  az g u D f.ty (V++eF n 0) O (s.room n) a W/\bH s O V (s.room n) O (V++eF n 0):=by
 have X:∀k,ad (V++eF n 0) k=ad V k:=by
  intro k;simp only[ad,cw];by_cases h:k<Y V;rw[dN h];rw[iJ aa,km (l:=V) aa,Hh];split<;>rfl
 have G:∀i,cz (s.ao++eF n Z) i=cz s.ao i:=by
  intro i;simp only[cY];by_cases h:i<Y s.ao;rw[dN h];rw[iJ aa,km (l:=s.ao) aa,Hh];split;rename_i N;split at N<;>cases N;rfl
 have M:∀i,aP (s.ao++eF n Z) i=aP s.ao i:=λi=>by simp[aP,G]
 have B:=ji.refl O (Y O.i) (Y O.b) (Y O.r);have F:∀v,C.ab O (V++eF n 0) v=v.ab O V:=by
  intro v;have:ad (V++eF n 0)=ad V:=funext X;exact TF this v
 have q:∀l,C.aG O (V++eF n 0) l=C.aG O V l:=λl=>by simp only[pY];exact jA λv _=>F v
 refine⟨⟨⟨R.mem.base,λi Q=> ?_,λi j Q A=> ?_,λi t z h=> ?_,λk e L N H=> ?_⟩,by simp[S.room,R.gV],R.ei,R.eb,R.er,R.dp,R.size,λt y h=> ?_,λk e L b N H x=> ?_⟩,⟨⟨B,bY _,bY _,bY _,λk _=>X k⟩,λi Q=> ?_,by simp[S.room],bY _⟩⟩;rw[X];exact R.mem.own i (by rw[<-M];exact Q);rw[X,X];exact R.mem.inj i j (by rw[<-M];exact Q) (by rw[<-M];exact A);rw[X,ajT (funext X)];exact R.mem.box i t z (by rw[<-G];exact h);refine⟨(R.mem.ah k e L N H).1,λb w i Q=> ?_⟩;rw[X];exact(R.mem.ah k e L N H).2 b w i (by rw[<-M];exact Q);rw[F];exact R.tmps t y h;have t:=R.gD k e L b N H x;exact⟨t.own,t.mem,λi Q=>by rw[X];exact t.box i (by rw[<-M];exact Q),t.alone,t.inner⟩;simp only[S.room];rw[M];exact Q
end
section
variable{p:aq}{f:World}{D:cq}{P:Program}{cf:bF}{V:aq}{O:ai}{s:S}{a:Act}{W:World}
def Ad{d:cQ}{bi:BE}{x:LE}{dv:aq}{b:BI}(h:kH s d bi X z x y dv=U b):
  s.bd=J/\(∀z∈y,z∉dv)/\b=⟨bi,X,x,({s with rs:=kG dv 0 (jE y 0 s.rs)++[z]}:S).put d (.ah (.v (Y s.rs)))⟩:=by
 unfold kH at h;split at h;rename_i R;cases h;simp only[aw] at R;exact⟨R.1.1.1,λz Q=>by have:=fZ.1 R.1.1.2 z Q;simpa using this,rfl⟩;cases h
def Ii{X:S}(Q:az p f D n V (O.add (.r L)) X a N)(M:Y O.r=R)(d:cQ):az p f D n V (O.add (.r L)) (X.put d (.ah (.v R))) (a.put d L.val) N:=by
 have:=Q.put d (.ah (.v R));have e:C.ab (O.add (.r L)) V (.ah (.v R))=L.val:=by subst M;simp[C.ab,RE.ab,RE.rv,ai.rv,ai.add]
 rwa [e] at this
def FC{rv:RV}(X:bz)(d:cQ)(v:C):bH s O V (({s with rs:=X}:S).put d v) (O.add (.r rv)) V:=
 bH.put (s:=s) (s':={s with rs:=X}) ⟨sL _ _ _ _,λ_ h=>h,bY _,bY _⟩ d v
def TY{n:K}(h:(Ko n).ab O=J):n.ab O<=536870912:=by
 unfold Ko at h;rw[DH] at h;simp only[fA,K.ab,Km] at h;exact tP h
def K8(P:Program)(p:aq)(f:World)(D:cq)(R:Ty)(V:aq)(O:ai)(s:S)(a:Act)(W:World)(o:Oper)(b:BI):Prop:=
 ∃v Q X,sM P o a W v Q/\Ia R p f b.e b.x s.rs O X/\az p f D R V (O.add (.r X)) b.s (a.put o.dst v) Q/\bH s O V b.s (O.add (.r X)) V
def Pj(Q:az p f D cf.ty V O s a W)(h:s.rs[R]?=U (.own X)):∃A n N,O.rv R=.mk (.slice A n N) (O.rv R).ac/\bJ W cf.ty (.sl X) (.mk (.slice A n N) (O.rv R).ac)/\K7 W X (bE cf.ty (.sl X)).length A N:=by
 have M:=aaF Q h;have w:=u5 Q h;have G:=λb F=>Q.gD R X _ b h w F
 revert M G;generalize O.rv R=v;intro M G;cases M with
 |own X v M z=>
  cases M with
  |sl X A L N y u t r q F o=>
   refine⟨A,L,N,rfl,bJ.sl X A L N y u t r q F o,λm=>z L N (by rw[m];rfl), ?_⟩;rcases Bm N with x|x;exact .inl x;right;cases A with
   |none=>have:=z L N rfl;omega
   |some B=>
    have l:(RV.mk (.slice (U B) L N) y).lH=U B.block:=by rw[K6];cases N with
     |zero=>omega
     |succ c=>rfl
    obtain⟨d,c',di,H,j,g3,i,g⟩:=(G _ l).mem;simp only[RV.nM,Value.slice.injEq] at H;obtain⟨H,rfl,rfl⟩:=H;exact⟨B.block,di,H,j,i,g⟩
def awK(R:az p f D cf.ty V O s a W){G:LE}{v:BE}(h:yc s X t M=U (G,v,y))(q:v.ab O=J):
  ∃A n N,M.ab O V=.slice A n N/\bJ W cf.ty (.sl X) (.mk (.slice A n N) (G.ac O))/\K7 W X (bE cf.ty (.sl X)).length A N/\n<=536870912/\
   ((y=[]/\lJ A N=Z)\/∃k Q F,y=[k]/\s.rs[k]?=U (.own Q)/\O.r[k]?=U F/\lJ A N=F.lH)/\∀dv,DO cf.ty V O s X (G.ac O) dv:=by
 unfold yc at h;split at h;rename_i k;split at h;rename_i o;cases h;have L:=o.1;obtain⟨A,n,N,B,m,l⟩:=Pj R L;have z:=TY q;refine⟨A,n,N,by simp only[C.ab,RE.ab,RE.rv];rw[B];rfl,by simpa[LE.ac,RE.rv] using m,l, ?_,.inr ⟨k,X,O.rv k,rfl,L,u5 R L,by rw[B,K6]⟩,λdv b H=> ?_⟩;simp only[K.ab,RE.rv] at z;rw[B] at z;simp[lenOf] at z;omega;simp only[LE.ac,RE.rv] at H;have u:=K4 (O:=O) (e0:=.own X) rfl H;refine⟨⟨k,_,L,u⟩,(R.mem.ah k _ _ L (u5 R L)).2 b u,λd Q F j i g=>(Pf R j i g L rfl H).elim⟩;cases h;rename_i r c;split at h;rename_i w;cases h;unfold RE.isNil at w;split at w;refine⟨Z,0,0,rfl,DN _ _,⟨λ_=>rfl,.inl rfl⟩,aa,.inl ⟨rfl,rfl⟩,λdv b H=>(Pe (by simpa[LE.ac] using H)).elim⟩;cases w;cases h;cases h;refine⟨_,0,0,rfl,DN _ _,⟨av,.inl rfl⟩,aa,.inl ⟨rfl,rfl⟩,λdv b H=>(Pe (by simpa[LE.ac] using H)).elim⟩;cases h
def TZ{w:Nat}:∀{n:Nat}{l:ap}{i:Nat}{X:ap},(jQ w n l)[i]?=U X->X=(l.drop (i*w)).take w/\i<n
 |0,l,i,X,h=>by simp[jQ] at h
 |n+1,l,0,X,h=>by simp[jQ] at h;subst h;exact⟨av,aa⟩
 |n+1,l,i+1,X,h=>by
  simp only[jQ,tN] at h;obtain⟨R,Q⟩:=TZ h;refine⟨?_,aa⟩;rw[R,Ol];congr 2;rw[nE];omega
def T1(w:Nat):∀(n:Nat)(l:ap),(jQ w n l).length=n
 |0,l=>rfl
 |n+1,l=>by simp[jQ,T1 w n]
def T2:∀{l:ap}{r:RE}{k:Nat},C.ah r∈l->r.root=U k->k∈C.pS l
 |[],r,k,h,_=>by simp at h
 |x::R,r,k,h,X=>by
  simp only[C.pS,eW];rcases dV.1 h with rfl|h;left;simp[C.Z6,X];right;exact T2 h X
def akz(R:az p f D cf.ty V O s a W){l:xW}{dv:aq}(B:og cf.ty s (bE cf.ty (.sl X)) l=J)(A:∀N∈l,∀(r:RE)(k:Nat),C.ah r∈N->r.root=U k->k∈dv):
  DO cf.ty V O s X (l.map λN=>N.map (C.cj O)) dv:=by
 intro b ⟨i,j,N,c,z,k,Q,y,x,w⟩;rw[dS] at Q;cases M:l[i]? with
 |none=>rw[M] at Q;cases Q
 |some L=>
  rw[M] at Q;simp at Q;subst Q;obtain⟨r,v,H,G,F⟩:=aaW (FA B i L M) y x w;obtain⟨u,q⟩:=K5 R G H F;refine⟨u,q,λh t g o n m=> ?_⟩;have:=TW R o n m G H F;subst this;exact A L (jK M) _ _ (jK v) rfl
def aa1(R:az p f D cf.ty V O s a W){l:xW}(M:og cf.ty s (bE cf.ty (.sl X)) l=J):gc W cf.ty X (l.map λN=>N.map (C.cj O)):=by
 refine gc.of (λi N Q=> ?_);rw[dS] at Q;cases h:l[i]? with
 |none=>rw[h] at Q;cases Q
 |some L=>rw[h] at Q;simp at Q;subst Q;exact aaV R (FA M i L h)
def aa2(o:(bE cf.ty (.sl X)).length=R)(y:og cf.ty s (bE cf.ty (.sl X)) (jQ R Q w)=J)(x:(∀(N:Nat)(H:aF),((jQ R Q w).map λH=>H.map (C.cj O))[N]?=U H->Y H=R))
  (h:(eO ((jQ R Q w).map λH=>H.map (C.cj O)))[i]?=U c):(C.aG O V w)[i]?=U c:=by
 obtain⟨N,j,H,M,G,F,rfl,rfl⟩:=K3 x h;rw[dS] at G;cases B:(jQ R Q w)[N]? with
 |none=>rw[B] at G;cases G
 |some A=>
  rw[B] at G;simp at G;subst G;rw[dS] at F;cases L:A[j]? with
  |none=>rw[L] at F;cases F
  |some v=>
   rw[L] at F;simp at F;subst F;obtain⟨m,t⟩:=Ih (FA y N A B);have k:j<Y A:=(cu.1 L).1;obtain⟨z,r⟩:∃z,(bE cf.ty (.sl X))[j]?=U z:=⟨_,cP aa⟩;rw[t8];have p:=(TZ B).1;have:w[N*R+j]?=U v:=by
    rw[p,nD] at L;split at L
    rwa [uN] at L
    cases L
   rw[this];simp only[eh,cX];exact akv (t j z v r L)
def awL(R:az p f D cf.ty V O s a W)(al:cf.ty X=U v){G:LE}{n2:BE}(h:sG cf.ty s X v M=U (G,n2,y))(hn:n2.ab O=J):
  ∃A n N,M.ab O V=.slice A n N/\(G.ac O).length=n/\gc W cf.ty X (G.ac O)/\(∀(q:Nat)(u:Value),(eO (G.ac O))[q]?=U u->∃a0,A=U a0/\W.cell? (a0.add q)=U u)/\n<=536870912/\DO cf.ty V O s X (G.ac O) y:=by
 have l:bE cf.ty (.sl X)=v.aj:=by simp[bE,al]
 unfold sG at h;split at h;rename_i r;split at h;rename_i j;cases h;unfold RE.isNil at j;split at j;exact⟨Z,0,0,rfl,rfl,gc.nil,λq u L=>by simp[LE.ac,eO] at L,aa,λb Q=>(Pe (by simpa[LE.ac] using Q)).elim⟩;cases j;split at h;rename_i F;cases h;have z:=sK R av F;have x:=TY hn;simp only[K.ab] at x;have g:DO cf.ty V O s X (r.rv O).ac []:=by
  intro b Q;have hl:et cf.ty (.sl X) (r.rv O) b:=by rw[<-Ig (r.rv O)];exact TS Q
  obtain⟨q1,q2⟩:=K5 R av F hl;refine⟨q1,q2,λk' t d w k2 k3=> ?_⟩;have:=TW R w k2 k3 av F hl;subst this;simp only[RE.kind,cw,w,oI,RK.rd,RK.sl.injEq] at F;subst F;exact(Pf R w k2 k3 w rfl Q).elim
 simp only[C.ab,RE.ab,LE.ac];revert z x g;generalize r.rv O=d;intro z x g;have o:=gc.yr (v:=d.val) (rows:=d.ac) (by rw[Ig];exact z);cases z with
 |sl X A H N an m h2 c hi Q ho=>
  refine⟨A,H,N,rfl,m,o,λq u L=> ?_,by simp[lenOf] at x;omega,g⟩;obtain⟨b,af,g1,g2,g3⟩:=Pc (bJ.sl X A H N an m h2 c hi Q ho) q u L;exact⟨_,g1,by rw[yq];exact g3⟩
 cases h;rename_i i af H N;split at h;rename_i bt cs Q;split at h;rename_i hc;cases h;simp only[aw,ce] at hc;obtain⟨⟨m,h2⟩,c⟩:=hc;have hf:og cf.ty s (bE cf.ty (.sl X)) (jQ (Y v.aj) H (xZ cs af (H*Y v.aj)))=true:=by rw[l];exact m
 have o:=aa1 R hf;refine⟨U ⟨ad V i,af,Z⟩,H,N,rfl,by simp[LE.ac,T1],by simpa[LE.ac] using o,λq u L=> ?_,by simp[Km] at c;omega, ?_⟩;simp only[LE.ac] at L;have B:=aa2 (V:=V) (by rw[l]) hf (λi ag hr=>by rw[o.len i ag hr,l]) L;refine⟨_,rfl, ?_⟩;rw[t8,xZ,nD] at B;split at B;rw[uN,<-t8] at B;obtain⟨Q,aA⟩:=zY Q;have:=R.mem.box i bt cs Q;rw[uc aA] at this;rw[yq];simp[oK,this,B];simp at B;refine akz R hf (λag aC r k hr hk=> ?_);obtain⟨ii,a1⟩:=tO aC;have:=(TZ a1).1;subst this;exact T2 (Bl (E2 hr)) hk;cases h;cases h;cases h
end
section
variable{d:aq}{g:World}{D:cq}{P:Program}{f:bF}{V:aq}{O:ai}{s:S}{a:Act}{W:World}
def BT{x y:BE}(h:(wm x y).ab O=J):x.ab O=J/\y.ab O=true:=by
 rw[aaA] at h;simpa using h
def Ae{x y:K}(h:(qG .leq x y).ab O=J):x.ab O<=y.ab O:=by
 rw[DH] at h;simp only[fA] at h;exact tP h
def awM(R:az d g D f.ty V O s a W)(H:jq P f.ty)(hg:fk f.gl O){c:Call}(n:F.op=.call c)(m:c.callee=.builtin .append){dr:Bool}{b:BI}(h:fj f F t dr s=U b)(hn:b.bi.ab O=J):
  K8 P d g D f.ty V O s a W F b:=by
 unfold fj at h;simp only[n,m] at h;split at h;rename_i X l x y ag G;split at h;rename_i e aj q L bd q2 ht al;split at h;rename_i k B;split at h;cases h;rename_i j;have he:e=L:=by by_cases Q:e=L;exact Q;exact aZ (.inl Q) j
 have an:Y k.aj≠0:=λQ=>j (.inr Q)
 subst he;split at h;rename_i N n1 bf M n2 dv i h2;obtain⟨aA,aC,rfl⟩:=Ad h;obtain⟨a0,a1⟩:=BT hn;obtain⟨A1,m1,c1,e1,w,g2,g3,g4,g5⟩:=awK (cf:=f) R i a0;obtain⟨A2,m2,c2,L,k1,k2,k3,k4,k5⟩:=awL R B h2 a1;have v:(bE f.ty (.sl e)).length=Y k.aj:=by simp[bE,B]
 obtain⟨A,u,W',r1,r2,r3⟩:=awJ (P:=P) (tyR:=F.type) (t:=X) (t2:=l) (cap2:=c2) (H _ _ B) an v (H _ _ ht).desc (H _ _ al).desc w (by rw[<-v];exact g2) k1 k2 k3 g3 k4;have a3:(LE.kq N M).ac O=N.ac O++M.ac O:=rfl;have af:(N.ac O++M.ac O).length=m1+m2:=by rw[gP,(ue w).1,k1]
 have a4:DO f.ty V O s e (N.ac O++M.ac O) dv:=λb hb=>(awG hb).elim (g5 dv b) (k5 b)
 obtain⟨R',a9⟩:=R.bind aA (old:=lJ A1 c1) g4 aC r2 ((gc.yr w).kq k2) a4 (by rw[v];exact r3);refine⟨.slice A (m1+m2) u,W',.mk (.slice A (N.ac O++M.ac O).length u) (N.ac O++M.ac O),.inl ?_,⟨⟨A,_,u,by rw[a3],rfl⟩,a9,λ_ _ _ _ h=>by cases h⟩, ?_,FC _ _ _⟩;have ha:c.args.toList=[c.args.toList.getD 0 default,c.args.toList.getD 1 default]:=by
  have hl:Y c.args.toList=2:=by have:=ko Y G;simpa using this
  match c.args.toList,hl with
  |[p,q],_=>rfl
 have ba:∀z∈c.args.toList,a.eval z=(s.ev f.gl z).ab O V:=by
  intro z r;refine dA R hg z ?_;have:s.ev f.gl z∈[x,y]:=by rw[<-G];exact List.mem_map_of_mem r
  rcases dV.1 this with Q|Q;rw[Q];cases x<;>first|rfl|(simp[yc] at i)
  rw[Hm.1 Q];cases y<;>first|rfl|(simp[sG] at h2)
 have bb:c.args.map a.eval= #[x.ab O V,y.ab O V]:=by
  apply nF;rw[xT];have:c.args.toList.map a.eval=(c.args.toList.map (s.ev f.gl)).map (C.ab O V):=by
   rw[oJ];exact jA λz r=>ba z r
  rw[this,G];rfl
 have bc:c.argTypes= #[X,l]:=by apply nF;rw[ag]
 simp only[execOp,n,resolve,m,dC,fz,du,invoke,builtin,bb,bc,e1,L,r1];have:=Ii R' R.er F.dst;rw[RV.nM,af] at this;rw[af];exact this;cases h;cases h;cases h;cases h
def awN(X:CT):((Dl X).cj O).val=rJ X:=by cases X<;>rfl
def awO(R:az d g D f.ty V O s a W)(af:jq P f.ty)(hg:fk f.gl O){xm:Operand}(ho:F.op=.makeSlice X r xm){dr:Bool}{b:BI}(h:fj f F t dr s=U b)(hn:b.bi.ab O=J):
  K8 P d g D f.ty V O s a W F b:=by
 unfold fj at h;simp only[ho] at h;split at h;rename_i e aj q n m ht a1 a3;split at h;rename_i Q x;split at h;rename_i hc;simp only[aw,bne_iff_ne,ne_eq] at hc;obtain⟨⟨bc,bd⟩,bf⟩:=hc;obtain⟨bg,cl,rfl⟩:=Ad h;obtain⟨ag,al⟩:=BT hn;have ag:=Ae ag;have al:=TY al;simp only[K.ab] at ag;obtain⟨N,u⟩:∃N:Nat,n.ab O=(N:Int):=⟨(n.ab O).toNat,aa⟩;rw[u] at al;have bk:N<=536870912:=aa;have hw:(bE f.ty (.sl e)).length=Y Q.aj:=by simp[bE,x]
 have p:bE f.ty (.sl e)=Q.aj:=by simp[bE,x]
 have an:=dA R hg r (by rw[a1];rfl);have aA:=dA R hg xm (by rw[a3];rfl);have bl:m=n:=(K.bU _ _ bc).symm;rw[a1,C.ab,u] at an;rw[a3,C.ab,bl,u] at aA;obtain⟨i,hi,br,z,hz,a4⟩:=(af _ _ x).KO;have bs:=(af _ _ x).bytes i hi;have a9:z.cells.size=Y Q.aj:=by rw[<-E3,a4];simp
 have hf:og f.ty s (bE f.ty (.sl e)) [eG Q]=true:=by rw[p];exact bd
 have bt:TX W f.ty (bE f.ty (.sl e)) ((eG Q).map (C.cj O)):=aaV R (FA hf 0 _ rfl);have bx:(LE.tR n (eG Q)).ac O=eF N ((eG Q).map (C.cj O)):=by simp[LE.ac,u]
 have B:gc W f.ty e (eF N ((eG Q).map (C.cj O))):=gc.of (λi l H=>by
  rw[Hh] at H;split at H;cases H;exact bt;cases H)
 have b0:DO f.ty V O s e (eF N ((eG Q).map (C.cj O))) []:=by
  intro b ⟨i,j,l,c,z,k,G,L,M,hl⟩;rw[Hh] at G;split at G;cases G;exfalso;rw[dS,eG,dS] at L;rw[p] at M;rw[M] at L;simp only[eh,cX,Dl,C.cj,RE.rv] at L;subst L;cases hl with
  |deep e v b1 i j l c z k b g1=>simp at g1
  |own e' cn b hl=>
   have aC:=(Ih (FA hf 0 _ rfl)).2 j _ (.ah (.k z)) (by rw[p];exact M) (by simp[eG,M,Dl]);simp[tU,RE.fits] at aC
  |here e a0 b2 b3 b1=>
   have aC:=(Ih (FA hf 0 _ rfl)).2 j _ (.ah (.k (.slice (U a0) (b2+1) b3))) (by rw[p];exact M) (by simp[eG,M,Dl]);simp[tU,RE.fits,RE.kind,RE.isNil] at aC
  cases G
 have b4:(ajr (N*Y Q.aj)).map (z.cells[· %z.cells.size]!)=(eO (eF N ((eG Q).map (C.cj O)))).toArray:=by
  apply nF;apply kU;intro q;have co:(eO (eF N ((eG Q).map (C.cj O)))).length=N*Y Q.aj:=by rw[BR B.len,hw];simp
  by_cases hq:q<N*Y Q.aj;have b5:0<Y Q.aj:=aa;have b6:q/Y Q.aj<N:=avt (by rw[SZ];exact hq);have hj:q%Y Q.aj<Y Q.aj:=Hy _ b5;have ba:Q.aj[q%Y Q.aj]?=U Q.aj[q%Y Q.aj]:=cP hj;have G:(eF N ((eG Q).map (C.cj O)))[q/Y Q.aj]?=U ((eG Q).map (C.cj O)):=by rw[Hh,aL b6]
  have L:((eG Q).map (C.cj O))[q%Y Q.aj]?=U ((Dl Q.aj[q%Y Q.aj]).cj O):=by simp[eG,ba]
  have M:=Pb (w:=Y Q.aj) (λi l H=>by rw[B.len i l H,hw]) G L;have b7:q/Y Q.aj*Y Q.aj+q%Y Q.aj=q:=by rw[SZ];exact ajk q _
  rw[b7,awN] at M;simp only[xT,avx,dS,zH hq,eh,a9];rw[M];congr 1;have bb:q%Y Q.aj<z.cells.size:=by rw[a9];exact hj
  rw[getElem!_pos z.cells _ bb];have:z.cells.toList[q%Y Q.aj]?=U (rJ Q.aj[q%Y Q.aj]):=by rw[a4,dS,ba];rfl
  rw[ZD,avo bb] at this;simpa using this;rw[km dl,km (by rw[ZF];omega)]
 have b8:IntKind.i64.wrap (N:Int)=N:=IntWalk.i64_in _ aa;have cp:(i.bytes:Int)*N<=2^46:=by
  have:i.bytes*N<=131072*536870912:=Dg bs bk;have L:((i.bytes*N:Nat):Int)<=((131072*536870912:Nat):Int):=Int.ofNat_le.2 this;simp only[ajl] at L;omega
 obtain⟨R',ca⟩:=R.bind bg (old:=Z) (kill:=[]) (dv:=[]) (A:=U ⟨W.heap.size,0,Z⟩) (cap:=N) (W':=W.alloc (.cells (eO (eF N ((eG Q).map (C.cj O)))).toArray e)) (.inl ⟨rfl,rfl⟩) av (aJf W _ Z) B b0
  ⟨av,av,by
   rcases Bm N with y|y;exact .inl y;exact .inr ⟨W.heap.size,_,rfl,SO W _,by simp only[maxLen];omega,by
    rw[Ho,BR B.len,hw];simp,by
    rw[ZF,Hj];rw[BR B.len];exact bY _,.inl (bY _)⟩⟩
 refine⟨.slice (U ⟨W.heap.size,0,Z⟩) N N,W.alloc (.cells (eO (eF N ((eG Q).map (C.cj O)))).toArray e),.mk (.slice (U ⟨W.heap.size,0,Z⟩) (eF N ((eG Q).map (C.cj O))).length N) _,.inl ?_,⟨⟨_,_,_,by rw[bx],rfl⟩,ca,λ_ _ _ _ h=>by cases h⟩, ?_,FC _ _ _⟩;have hd:P.underlying X=U (.slice e):=(af _ _ ht).desc;rw[<-b4];have c1:¬((N:Int)<0):=aa;have c2:¬((i.bytes:Int)*N>2^48):=aa;by_cases y:N*Y Q.aj=0;have cc:N=0:=by rcases Nat.mul_eq_zero.1 y with hh|hh;exact hh;exact aZ hh bf
 subst cc;have ch:IntKind.i64.wrap 0=0:=IntWalk.i64_in 0 aa;simp[execOp,ho,an,aA,Instr.makeSlice,fw.iL hd,asInt,asIntOf,typeInfo,hi,ch,Go.sizeOf,newRow,askRoom];congr 2;apply nF;simp[ajr];simp[execOp,ho,an,aA,Instr.makeSlice,fw.iL hd,asInt,asIntOf,typeInfo,hi,b8,c1,Go.sizeOf,br,y,zeroValue,hz,newRow];intro hh;omega;have:=Ii R' R.er F.dst;rw[RV.nM] at this;simp only[List.length_replicate] at this⊢;exact this;cases h;cases h;cases h
def awP(Q:az d g D f.ty V O s a W)(y:jq P f.ty)(hg:fk f.gl O){parts:Array (Nat×Operand)}(m:F.op=.buildSlice X R parts){dr:Bool}{b:BI}(h:fj f F t dr s=U b):
  K8 P d g D f.ty V O s a W F b:=by
 unfold fj at h;simp only[m] at h;split at h;cases h;split at h;rename_i e aj q ht;split at h;rename_i N v;split at h;rename_i l hf;split at h;rename_i hc;simp only[aw,bne_iff_ne,ne_eq,dK,ce,iw] at hc;obtain⟨⟨⟨⟨⟨h1,h2⟩,h3⟩,h4⟩,h5⟩,h6⟩:=hc;obtain⟨a0,a1,rfl⟩:=Ad h;have H:bE f.ty (.sl e)=N.aj:=by simp[bE,v]
 have j:og f.ty s (bE f.ty (.sl e)) (jQ (Y N.aj) R l)=true:=by rw[H];exact h2
 have c:=aa1 Q j;have a3:(LE.lit (jQ (Y N.aj) R l)).ac O=(jQ (Y N.aj) R l).map λM=>M.map (C.cj O):=rfl
 have u:((jQ (Y N.aj) R l).map λM=>M.map (C.cj O)).length=R:=by simp[T1]
 have a4:=akz Q j (dv:=C.pS l) (λM a9 r k G hk=>by
  obtain⟨ii,ba⟩:=tO a9;have:=(TZ ba).1;subst this;exact T2 (Bl (E2 G)) hk)
 have n:(eO ((jQ (Y N.aj) R l).map λM=>M.map (C.cj O))).length=R*Y N.aj:=by rw[BR (w:=Y N.aj) (λi M G=>by rw[c.len i M G,H]),u]
 have bb:eO ((jQ (Y N.aj) R l).map λM=>M.map (C.cj O))=C.aG O V l:=by
  apply kU;intro k;by_cases hk:k<R*Y N.aj;have af:k<(eO ((jQ (Y N.aj) R l).map λM=>M.map (C.cj O))).length:=by rw[n];exact hk
  have:=aa2 (V:=V) (by rw[H]) j (λi M G=>by rw[c.len i M G,H]) (cP af);rw[this,cP af];rw[km (by rw[n];omega),km (by rw[H9,h1];omega)]
 have bl:R<=536870912:=by simp only[Km] at h4;omega
 obtain⟨R',bc⟩:=Q.bind a0 (old:=Z) (kill:=[]) (dv:=C.pS l) (A:=U ⟨W.heap.size,0,Z⟩) (cap:=R) (W':=W.alloc (.cells (eO ((jQ (Y N.aj) R l).map λM=>M.map (C.cj O))).toArray e)) (.inl ⟨rfl,rfl⟩) a1 (aJf W _ Z) c a4
  ⟨by rw[u];exact bY _,av,by
   rcases Bm R with L|L;exact .inl L;exact .inr ⟨W.heap.size,_,rfl,SO W _,by simp only[maxLen];omega,by
    rw[Ho,n,H],by
    rw[ZF,Hj];rw[n,u,H];exact bY _,.inl (bY _)⟩⟩
 refine⟨.slice (U ⟨W.heap.size,0,Z⟩) R R,W.alloc (.cells (eO ((jQ (Y N.aj) R l).map λM=>M.map (C.cj O))).toArray e),.mk (.slice (U ⟨W.heap.size,0,Z⟩) ((jQ (Y N.aj) R l).map λM=>M.map (C.cj O)).length R) _,.inl ?_,⟨⟨_,_,_,by rw[a3],rfl⟩,bc,λ_ _ _ _ h=>by cases h⟩, ?_,FC _ _ _⟩;have hd:P.underlying X=U (.slice e):=(y _ _ ht).desc;have ag:(parts.map λ(i,x)=>(i,a.eval x)).toList=(parts.toList.map λp=>(p.1,s.ev f.gl p.2)).map λp=>(p.1,p.2.ab O V):=by
  simp only[xT,oJ];apply jA;intro p hp;have:=dA Q hg p.2 (by
   cases hh:(s.ev f.gl p.2).eX;rfl;exact aZ (kW.2 ⟨p,hp,hh⟩) (by rw[h6];simp))
  simp[this]
 obtain⟨z,bd,bf⟩:=KT (P:=P) (W:=W) (O:=O) (V:=V) (y _ _ v);have al:=O8 (V:=V) (wB Q) _ _ _ _ hf;have B:(eG N).length=Y N.aj:=by simp[eG]
 have hzero:((ajr (R*Y N.aj)).map ((if R*Y N.aj=0 then #[] else z.cells)[· %(if R*Y N.aj=0 then #[] else z.cells).size]!))=(C.aG O V (yb R (eG N))).toArray:=by
  apply nF;apply kU;intro k;by_cases an:k<R*Y N.aj;have bg:¬R*Y N.aj=0:=aa;have bk:0<Y N.aj:=Nat.pos_of_ne_zero h3;have aA:k%Y N.aj<(C.aG O V (eG N)).length:=by rw[H9,B];exact Hy _ bk
  simp only[bg,gw,bf,xT,avx,dS,zH an,eh,t8,aa0 _ _ _ (by rw[B];exact an),B];rw[<-t8,cP aA];simp only[Ho,H9,B];rw[getElem!_pos _ _ (by simpa using aA)];simp;rw[km dl,km (by simp[aky,B];omega)]
 have aC:¬R*Y N.aj>2^24:=aa;rw[bb];by_cases L:R*Y N.aj=0;simp only[aL L] at hzero;simp only[execOp,m,Instr.buildSlice,dC,fw.iL hd,du,(y _ _ v).oq,aC,gw,fz,aL L,ag];rw[hzero,al];simp[newRow];simp only[aT L] at hzero;simp only[execOp,m,Instr.buildSlice,dC,fw.iL hd,du,(y _ _ v).oq,aC,gw,fz,aT L,ag,bd];rw[hzero,al];simp[newRow];have:=Ii R' Q.er F.dst;rw[RV.nM] at this;rw[u] at this⊢;exact this;cases h;cases h;cases h;cases h
end
section
variable{p:aq}{g:World}{D:cq}{P:Program}{d:bF}{V:aq}{O:ai}{s:S}{a:Act}{W:World}
def Pl{h:Nat}{N:aF}(X:((k.take h).drop R)[Q]?=U N):k[R+Q]?=U N/\R+Q<h:=by
 rw[uN,nD] at X;split at X;exact⟨X,qF⟩;cases X
def awQ{h:Nat}(M:ol n X ((k.take h).drop R) Q):ol n X k Q:=by
 obtain⟨i,j,L,c,z,N,H,G,F,B⟩:=M;exact⟨_,j,L,c,z,N,(Pl H).1,G,F,B⟩
def awR{A:oL}{h:Nat}(L:bJ W n (.sl X) (.mk (.slice A R Q) k))(h1:i<=h)(h2:h<=R):
  bJ W n (.sl X) (.mk (.slice (if Q=i then A else A.map (·.add (i*(bE n (.sl X)).length))) (h-i) (Q-i)) ((k.take h).drop i)):=by
 obtain⟨B,hc⟩:=ue L;have z:((k.take h).drop i).length=h-i:=by simp[B];omega
 have y:=gc.yr L;have H:gc W n X ((k.take h).drop i):=gc.of (λN M x=>y.get (Pl x).1);by_cases w:i=h;have:(k.take h).drop i=[]:=tM aa;rw[this,w,ZT];exact DN _ _;have af:i<h:=aa;have v:Q≠i:=aa;rw[aT v];obtain⟨M,t⟩:∃M,k[i]?=U M:=⟨_,cP aa⟩;cases L with
 |sl X A ag Q k g1 g2 G hi hb ho=>
  obtain⟨-,b,F,rfl,r,-⟩:=G i M t;rw[<-z];simp only[eh,yq];refine aaT H r (λq u p=> ?_) aa;obtain⟨N,j,o,c,m,g,rfl,rfl⟩:=K3 H.len p;obtain⟨-,b',al,f,-,d⟩:=G (i+N) o (Pl m).1;cases f;have:=d j c g;rw[show F+i*(bE n (.sl X)).length+(N*(bE n (.sl X)).length+j)=F+(i+N)*(bE n (.sl X)).length+j by rw[nE];omega];exact this
def aa3(N:az p g D d.ty V O s a W)(m:s.bd=J){r:RE}(F:r.kind d.ty s=.sl X){A:oL}(j:r.ab O=.slice A R Q){l h:Nat}(f:l<=h)(c:h<=R){B:oL}
  (H:B=if Q=l then A else A.map (·.add (l*(bE d.ty (.sl X)).length)))(hc:i=Q-l):
  az p g D d.ty V (O.add (.r (.mk (.slice B (h-l) i) (((r.rv O).ac.take h).drop l)))) {s with rs:=kG r.root.toList 0 (jE [] 0 s.rs)++[.sl X]} a W/\
   (((r.rv O).ac.take h).drop l).length=h-l/\∀b,et d.ty (.sl X) (.mk (.slice B (h-l) i) (((r.rv O).ac.take h).drop l)) b->g.heap.size<=b\/b∈p\/O.qM d.ty s.rs b:=by
 have z:=sK N av F;have v:r.rv O=.mk (.slice A R Q) (r.rv O).ac:=by rw[<-j];exact(Ig _).symm
 rw[v] at z;have af:=awR z f c;have y:∀b,et d.ty (.sl X) (.mk (.slice B (h-l) i) (((r.rv O).ac.take h).drop l)) b->et d.ty (.sl X) (r.rv O) b:=by
  intro b G;rw[v];rcases aks G with⟨a0,a3,c0,L,rfl⟩|L;simp only[Value.slice.injEq] at L;obtain⟨L,u,q⟩:=L;obtain⟨x,rfl⟩:∃x,R=x+1:=⟨R-1,aa⟩;rw[L] at H;have ag:Q≠l:=by have:=(ue z).2;omega
  rw[aT ag] at H;cases A with
  |none=>simp at H
  |some o=>
   simp only[eh,cX] at H;have:a0.block=o.block:=by rw[H];unfold Addr.add;split<;>rfl
   rw[this];exact et.here X o x Q _
  exact TS (awQ L)
 have al:jE [] 0 s.rs=s.rs:=by
  apply kU;intro M;rw[K1];cases s.rs[M]?<;>simp
 rw[al];have R1:=N.mX (Pa r.root.toList s.rs);refine⟨?_,by have:=(ue z).1;simp;omega,λb G=>.inr (.inr (K5 N av F (y b G)).1)⟩;refine R1.add (Pg m (BQ _ _ _)) (by rw[H,hc];exact af) (λb G=>(K5 N av F (y b G)).2) (λk t rv b L u q w=> ?_) (λt b ht=>by cases ht);obtain⟨an,aA⟩:=aaX L;rcases w with w|⟨⟨t',aC⟩,_⟩;have:=TW N an u q av F (y b w);subst this;exact aA (by simp[RE.root]);cases aC
def Pm{n:Int}(h:0<=n):∃N:Nat,n=(N:Int):=⟨n.toNat,aa⟩
def awS(R:az p g D d.ty V O s a W)(f:jq P d.ty)(hg:fk d.gl O){lo hi mx:Option Operand}(ho:F.op=.slice X r lo hi mx){dr:Bool}{b:BI}(h:fj d F t dr s=U b)(hn:b.bi.ab O=J):
  K8 P p g D d.ty V O s a W F b:=by
 unfold fj at h;simp only[ho] at h;split at h;cases h;have a0:∀{y:Option Operand}{v:C},y.map (s.ev d.gl)=U v->v≠ .any->y.map a.eval=U (v.ab O V):=by
  intro y v hy M;cases y with
  |none=>cases hy
  |some z=>
   simp only[eh,cX] at hy⊢;rw[<-hy];exact dA R hg z (by rw[hy];cases v<;>first|rfl|exact aZ rfl M)
 have a1:∀{y:Option Operand},y.map (s.ev d.gl)=Z->y.map a.eval=none:=by
  intro y hy;cases y with
  |none=>rfl
  |some z=>cases hy
 split at h
 
 rename_i e aj q Q k1 k2 ht B ag al an;split at h;rename_i te k;split at h;rename_i hc;obtain⟨aA,ba,rfl⟩:=Ad h;have w:=dA R hg r (by rw[B];rfl);rw[B,C.ab] at w;have hd:P.underlying X=U (.slice e):=(f _ _ ht).desc;obtain⟨A,n,N,M⟩:∃A n N,Q.ab O=.slice A n N:=by
  rcases hc with hc|hc;exact O7 R hc;unfold RE.isNil at hc;split at hc;exact⟨Z,0,0,rfl⟩;cases hc
 obtain⟨R',aC⟩:=R.bind aA (old:=Z) (kill:=[]) (dv:=[]) (rows:=[]) (e:=e) (A:=A) (cap:=0) (W':=W) (.inl ⟨rfl,rfl⟩) av ⟨rfl,rfl,rfl,bY _,λ_ _ _=>rfl⟩ gc.nil (λb hb=>(Pe hb).elim) ⟨av,λ_=>rfl,.inl rfl⟩;refine⟨.slice A 0 0,W,.mk (.slice A 0 0) [],.inl ?_,⟨⟨A,0,0,rfl,rfl⟩,aC,λ_ _ _ _ h=>by cases h⟩,Ii R' R.er F.dst,FC _ _ _⟩;have e1:=a0 ag av;have j:=a0 al av;have i:=a1 an;simp only[C.ab,K.ab] at e1 j;simp[execOp,ho,w,M,e1,j,i,Instr.sliceAt,fw.iL hd,Instr.slice,Instr.sliceBounds,Instr.sliceBound,asIntOf,(f _ _ k).oq];cases h;cases h
 
 rename_i e aj q Q ih il ht B ag al an;split at h;rename_i te k;split at h;rename_i u;obtain⟨aA,ba,rfl⟩:=Ad h;obtain⟨G,a9⟩:=BT hn;obtain⟨a9,m⟩:=BT a9;have G:=Ae G;have a9:=Ae a9;have m:=Ae m;have w:=dA R hg r (by rw[B];rfl);rw[B,C.ab] at w;have hd:P.underlying X=U (.slice e):=(f _ _ ht).desc;obtain⟨A,n,N,M⟩:=O7 R u;have a3:lenOf (Q.rv O).val=n:=by have:=M;unfold RE.ab at this;rw[this];rfl
 simp only[K.ab,a3] at G m;obtain⟨L,hL⟩:=Pm G;obtain⟨H,hH⟩:=Pm (show 0<=ih.ab O from aa);have bb:n<=N:=by
  have:=sK R av u;rw[<-Ig (Q.rv O),show(Q.rv O).val=.slice A n N from M] at this;exact(ue this).2
 obtain⟨R',a4,aC⟩:=aa3 R aA u M (l:=L) (h:=H) aa aa rfl rfl;have af:(LE.sub (.ah Q) il ih).ac O=((Q.rv O).ac.take H).drop L:=by simp[LE.ac,hL,hH]
 have hw:(bE d.ty (.sl e)).length=Y te.aj:=by simp[bE,k]
 refine⟨.slice (if N=L then A else A.map (·.add (L*(bE d.ty (.sl e)).length))) (H-L) (N-L),W,_,.inl ?_,⟨⟨_,_,_,by rw[af],by rw[af];exact a4⟩,aC,λ_ _ _ _ h=>by cases h⟩,Ii R' R.er F.dst,FC _ _ _⟩;have e1:=a1 ag;have j:=a0 al av;have i:=a0 an av;simp only[C.ab,hL,hH] at j i;have c1:(H:Int)<=(N:Int):=aa;have c2:(L:Int)<=(H:Int):=aa;simp[execOp,ho,w,M,e1,j,i,Instr.sliceAt,fw.iL hd,Instr.slice,Instr.sliceBounds,Instr.sliceBound,asIntOf,(f _ _ k).oq,hw];simp[show H<=N from aa,show L<=H from aa];cases h;cases h
 
 rename_i e aj q Q ih ht B ag al an;split at h;rename_i te k;split at h;rename_i u;obtain⟨aA,ba,rfl⟩:=Ad h;obtain⟨G,m⟩:=BT hn;have G:=Ae G;have m:=Ae m;have w:=dA R hg r (by rw[B];rfl);rw[B,C.ab] at w;have hd:P.underlying X=U (.slice e):=(f _ _ ht).desc;obtain⟨A,n,N,M⟩:=O7 R u;have a3:lenOf (Q.rv O).val=n:=by have:=M;unfold RE.ab at this;rw[this];rfl
 simp only[K.ab,a3] at G m;obtain⟨H,hH⟩:=Pm G;have bb:n<=N:=by
  have:=sK R av u;rw[<-Ig (Q.rv O),show(Q.rv O).val=.slice A n N from M] at this;exact(ue this).2
 obtain⟨R',a4,aC⟩:=aa3 R aA u M (l:=0) (h:=H) aa aa rfl rfl;have af:(LE.sub (.ah Q) (.c 0) ih).ac O=((Q.rv O).ac.take H).drop 0:=by simp[LE.ac,hH,K.ab]
 have hw:(bE d.ty (.sl e)).length=Y te.aj:=by simp[bE,k]
 refine⟨.slice (if N=0 then A else A.map (·.add (0*(bE d.ty (.sl e)).length))) (H-0) (N-0),W,_,.inl ?_,⟨⟨_,_,_,by rw[af],by rw[af];exact a4⟩,aC,λ_ _ _ _ h=>by cases h⟩,Ii R' R.er F.dst,FC _ _ _⟩;have e1:=a1 ag;have j:=a0 al av;have i:=a1 an;simp only[C.ab,hH] at j;simp[execOp,ho,w,M,e1,j,i,Instr.sliceAt,fw.iL hd,Instr.slice,Instr.sliceBounds,Instr.sliceBound,asIntOf,(f _ _ k).oq,hw];intro hh;omega;cases h;cases h
 
 rename_i e aj q Q il ht B ag al an;split at h;rename_i te k;split at h;rename_i u;obtain⟨aA,ba,rfl⟩:=Ad h;obtain⟨G,m⟩:=BT hn;have G:=Ae G;have m:=Ae m;have w:=dA R hg r (by rw[B];rfl);rw[B,C.ab] at w;have hd:P.underlying X=U (.slice e):=(f _ _ ht).desc;obtain⟨A,n,N,M⟩:=O7 R u;have a3:lenOf (Q.rv O).val=n:=by have:=M;unfold RE.ab at this;rw[this];rfl
 simp only[K.ab,a3] at G m;obtain⟨L,hL⟩:=Pm G;have bb:n<=N:=by
  have:=sK R av u;rw[<-Ig (Q.rv O),show(Q.rv O).val=.slice A n N from M] at this;exact(ue this).2
 obtain⟨R',a4,aC⟩:=aa3 R aA u M (l:=L) (h:=n) aa aa rfl rfl;have af:(LE.sub (.ah Q) il (.len Q)).ac O=((Q.rv O).ac.take n).drop L:=by simp[LE.ac,hL,K.ab,a3]
 have hw:(bE d.ty (.sl e)).length=Y te.aj:=by simp[bE,k]
 refine⟨.slice (if N=L then A else A.map (·.add (L*(bE d.ty (.sl e)).length))) (n-L) (N-L),W,_,.inl ?_,⟨⟨_,_,_,by rw[af],by rw[af];exact a4⟩,aC,λ_ _ _ _ h=>by cases h⟩,Ii R' R.er F.dst,FC _ _ _⟩;have e1:=a1 ag;have j:=a1 al;have i:=a0 an av;simp only[C.ab,hL] at i;simp[execOp,ho,w,M,e1,j,i,Instr.sliceAt,fw.iL hd,Instr.slice,Instr.sliceBounds,Instr.sliceBound,asIntOf,(f _ _ k).oq,hw];intro hh;omega;cases h;cases h;cases h
mutual
def aa4{k n:Nat}(h:(O.rv n).val=(O.rv k).val):∀(v:C),(v.iK k n).ab O V=v.ab O V
 |.int _ _|.bool _|.loc _ _|.jp _ _ _ _|.yl _|.any=>rfl
 |.ah (.v j)=>by
  simp only[C.iK];split;rename_i X;simp at X;subst X;simp only[C.ab,RE.ab,RE.rv,h];rfl
 |.ah (.cell _ _ _ _)=>rfl
 |.ah (.k _)=>rfl
 |.el (.v j) w i o=>by
  simp only[C.iK];split;rename_i X;simp at X;subst X;simp only[C.ab,RE.ab,RE.rv,h];rfl
 |.el (.cell _ _ _ _) _ _ _=>rfl
 |.el (.k _) _ _ _=>rfl
 |.agg l=>by simp only[C.iK,C.ab,K9 h l]
 |.bO l=>by simp only[C.iK,C.ab,K9 h l]
 |.fn f l=>by simp only[C.iK,C.ab,K9 h l]
 |.ik t x=>by simp only[C.iK,C.ab,aa4 h x]
 |.mp _=>rfl
 |.gz e Q R=>by simp only[C.iK,C.ab,K9 h R]
def K9{k n:Nat}(h:(O.rv n).val=(O.rv k).val):∀(l:ap),C.aG O V (C.pT k n l)=C.aG O V l
 |[]=>rfl
 |x::X=>by simp only[C.pT,C.aG,aa4 h x,K9 h X]
end
def awT(v:C):v.iK R Q=.any<->v=.any:=by
 cases v with
 |ah r=>cases r<;>simp[C.iK]<;>split<;>simp
 |el r w i o=>cases r<;>simp[C.iK]<;>split<;>simp
 |_=>simp[C.iK]
def akA{k n:Nat}:∀(l:ap)(i:Nat),(C.pT k n l)[i]?=(l[i]?).map (C.iK k n)
 |[],i=>by simp[C.pT]
 |x::X,0=>by simp[C.pT]
 |x::X,i+1=>by simp[C.pT,akA X i]
def akB{k n:Nat}:∀(l:ap),(C.pT k n l).length=Y l
 |[]=>rfl
 |x::X=>by simp[C.pT,akB X]
def Pn{k n:Nat}:∀(l:bG),(uS k n l).length=Y l
 |[]=>rfl
 |Z::X=>by simp[uS,Pn X]
 |U (t,R)::X=>by simp[uS,Pn X]
def aa5(k n:Nat)(x:TypeId×ap):TypeId×ap:=(x.1,if rz x.1 then x.2 else C.pT k n x.2)
def T3{k n:Nat}:∀(l:bG)(i:Nat),cz (uS k n l) i=(cz l i).map (aa5 k n)
 |[],i=>by simp[uS,cY]
 |Z::X,0=>by simp[uS,cY]
 |U (t,R)::X,0=>by simp[uS,cY,aa5]
 |Z::X,i+1=>by have:=T3 X i (k:=k) (n:=n);simpa[uS,cY] using this
 |U (t,R)::X,i+1=>by have:=T3 X i (k:=k) (n:=n);simpa[uS,cY] using this
def Ij{k n:Nat}(l:bG)(i:Nat):aP (uS k n l) i=aP l i:=by simp[aP,T3]
def az.iK{A:Ty}(R:az p g D A V O s a W){k n:Nat}(h:(O.rv n).val=(O.rv k).val):az p g D A V O (s.iK k n) a W:=by
 have y:(s.iK k n).ao=uS k n s.ao:=rfl;refine⟨⟨R.mem.base,λi N=>R.mem.own i (by rw[<-Ij (k:=k) (n:=n)];exact N),λi j N w=>R.mem.inj i j (by rw[<-Ij (k:=k) (n:=n)];exact N) (by rw[<-Ij (k:=k) (n:=n)];exact w),λi t r X=> ?_,λH e G Q F=> ?_⟩,
  by simp[S.iK,Pn,R.gV],R.ei,R.eb,R.er,R.dp,by simp[S.iK,akB,R.size],λt q L=> ?_,λH e G b Q F v=> ?_⟩
 rw[y,T3] at X;cases M:cz s.ao i with
 |none=>rw[M] at X;cases X
 |some x=>
  obtain⟨z,lj⟩:=x;rw[M] at X;simp only[eh,aa5,cX,Dh] at X;obtain⟨rfl,rfl⟩:=X;have B:=R.mem.box i z lj M;cases u:rz z;simp only[jB,gw];rw[uc u] at B⊢;rw[K9 h];exact B;simp only[cS];exact B
 exact⟨(R.mem.ah H e G Q F).1,λb X i N=>(R.mem.ah H e G Q F).2 b X i (by rw[<-Ij (k:=k) (n:=n)];exact N)⟩;simp only[S.iK,akA] at L;cases M:s.tmps[t]? with
 |none=>rw[M] at L;cases L
 |some x=>
  rw[M] at L;simp only[eh,cX] at L;subst L;rcases R.tmps t x M with Q|Q;exact .inl ((awT x).2 Q);right;rw[aa4 h];exact Q
 have t:=R.gD H e G b Q F v;exact⟨t.own,t.mem,λi N=>t.box i (by rw[<-Ij (k:=k) (n:=n)];exact N),t.alone,t.inner⟩

def akC:∀(Q X:aF)(R:Nat),(gT X R Q).length=Y X
 |[],X,R=>rfl
 |v::Q,X,R=>by rw[gT,akC];simp
def T4:∀(R Q:aF)(X j:Nat),X+Y R<=Y Q->(gT Q X R)[j]?=if X<=j/\j<X+Y R then R[j-X]? else Q[j]?
 |[],Q,X,j,_=>by simp[gT];intro M N;omega
 |v::R,Q,X,j,h=>by
  simp only[kV] at h;rw[gT,T4 R _ (X+1) j dl];by_cases M:j=X;subst M;rw[aT aa,aL av,Hk aa];simp;by_cases N:X+1<=j/\j<X+1+Y R;rw[aL N,aL dl,show j-X=(j-(X+1))+1 from aa];simp;rw[aT N,aT dl,ss aa]
def akD:∀(R l:gG)(X j:Nat),X+Y R<=Y l->(Ac l X R)[j]?=if X<=j/\j<X+Y R then R[j-X]? else l[j]?
 |[],l,X,j,_=>by simp[Ac];intro N Q;omega
 |v::R,l,X,j,h=>by
  simp only[kV] at h;rw[Ac,akD R _ (X+1) j dl];by_cases N:j=X;subst N;rw[aT aa,aL av,Hk aa];simp;by_cases Q:X+1<=j/\j<X+1+Y R;rw[aL Q,aL dl,show j-X=(j-(X+1))+1 from aa];simp;rw[aT Q,aT dl,ss aa]
def La{f:aF->aF}{N:aF}(h:(k.modify R f)[Q]?=U N):(Q=R/\∃X,k[R]?=U X/\N=f X)\/(Q≠R/\k[Q]?=U N):=by
 rw[ai9] at h;by_cases M:R=Q;subst M;simp only[cS] at h;cases L:k[R]? with
 |none=>rw[L] at h;cases h
 |some X=>rw[L] at h;simp at h;exact .inl ⟨rfl,X,rfl,h.symm⟩
 simp only[M,gw] at h;exact .inr ⟨λH=>M H.symm,by simpa using h⟩
def awU{w:Nat}{l:gG}(R:∀(i:Nat)(X:aF),k[i]?=U X->Y X=w)(N:Y l=Y k*w)(h:∀(i j:Nat)(X:aF)(c:RV),k[i]?=U X->X[j]?=U c->l[i*w+j]?=U c.val):l=eO k:=by
 apply kU;intro q;by_cases M:q<(eO k).length;have Q:=cP M;obtain⟨i,j,X,c,L,H,G,F⟩:=K3 R Q;rw[Q,F];subst G;exact h i j X c L H;rw[km (l:=eO k) aa,km];rw[N,<-BR R];omega
def awV(R:az p g D d.ty V O s a W)(cl:jq P d.ty)(hg:fk d.gl O){y:Operand}(ho:F.op=.store X r y){dr:Bool}{b:BI}(h:fj d F t dr s=U b)(hn:b.bi.ab O=J):
  K8 P p g D d.ty V O s a W F b:=by
 unfold fj at h;simp only[ho] at h;split at h;cases h;split at h;rename_i G k w i M cn hx;split at h;rename_i e hk;split at h;rename_i te co;split at h;rename_i hc;simp only[aw,dK,ce] at hc;obtain⟨⟨⟨⟨cp,a3⟩,cv⟩,al⟩,cx⟩:=hc;cases hb:kH s Z (wn i (.len (.v k))) e (.own e) (.set (.ah (.v k)) i M (s.ev d.gl y).cells) [k] (C.pS (s.ev d.gl y).cells) with
 |none=>rw[hb] at h;cases h
 |some b0=>
  rw[hb] at h;simp only[eh,cX] at h;obtain⟨cy,cA,rfl⟩:=Ad hb;subst h;have bt:bE d.ty (.sl e)=te.aj:=by simp[bE,co]
  have hw:(bE d.ty (.sl e)).length=w:=by rw[bt];exact cp
  obtain⟨A,n,f,g1,g2,g3⟩:=Pj R hk;have bb:=u5 R hk;simp only[wn] at hn;obtain⟨a4,an⟩:=BT hn;have a4:=Ae a4;rw[DH] at an;simp only[fA,K.ab,RE.rv] at a4 an;have an:=tP an;rw[g1] at an;simp only[RV.nM,lenOf] at an;obtain⟨Q,hI⟩:=Pm a4;have dc:Q<n:=aa;obtain⟨bx,b1⟩:=ue g2;have a1:=gc.yr g2;obtain⟨bk,di,hA,b2,cB,a9⟩:∃b di,A=U ⟨b,0,Z⟩/\W.heap[b]?=U (.cells di e (0,0))/\f<=maxLen/\di.size=f*(bE d.ty (.sl e)).length:=by
   rcases g3.mem with h0|h0;omega;exact h0
  subst hA;have cC:lJ (U ⟨bk,0,Z⟩) f=U bk:=by cases f with
   |zero=>omega
   |succ c=>rfl
  have cD:s.ev d.gl y≠ .any:=by
   intro hy;rw[hy] at al a3;simp only[C.cells,ZC] at a3;rw[<-a3] at al;cases hd:(te.aj.drop M).take 1 with
   |nil=>rw[hd] at al;simp[mV,C.cells] at al
   |cons c cs=>rw[hd] at al;simp[mV,C.cells,tU] at al
  have cI:=dA R hg y (by cases hh:s.ev d.gl y<;>first|rfl|exact aZ hh cD);have cO:=dA R hg r (by rw[hx];rfl);have cR:=TP (O:=O) (V:=V) (wB R) cx;obtain⟨f1,f2⟩:=Ih al;have ba:(s.ev d.gl y).cells.length=Y G.aj:=a3;have dd:((te.aj.drop M).take (Y G.aj)).length=Y G.aj:=dl;have b3:∀(j:Nat),j<Y G.aj->((te.aj.drop M).take (Y G.aj))[j]?=(bE d.ty (.sl e))[M+j]?:=by
   intro j hj;rw[nD,aL hj,uN,bt]
  have b4:C.aG O V (s.ev d.gl y).cells=((s.ev d.gl y).cells.map (C.cj O)).map RV.val:=by
   apply kU;intro j;rw[t8,dS,dS];cases hv:(s.ev d.gl y).cells[j]? with
   |none=>rfl
   |some v=>
    have hj:j<Y G.aj:=by rw[<-ba];exact(cu.1 hv).1
    obtain⟨ct,cW⟩:∃ct,((te.aj.drop M).take (Y G.aj))[j]?=U ct:=⟨_,cP aa⟩;simp only[eh];rw[akv (f2 j ct v cW hv)]
  have aA:=aaV R al;have b5:(LE.set (.ah (.v k)) i M (s.ev d.gl y).cells).ac O=(O.rv k).ac.modify Q λL=>gT L M ((s.ev d.gl y).cells.map (C.cj O)):=by simp[LE.ac,RE.rv,hI]
  have bc:((s.ev d.gl y).cells.map (C.cj O)).length=Y G.aj:=by simp[ba]
  generalize c0:(s.ev d.gl y).cells.map (C.cj O)=vv at*;have bd:∀H:aF,Y H=(bE d.ty (.sl e)).length->M+Y vv<=Y H:=λH h0=>by rw[h0,hw,bc];exact cv
  have bf:gc W d.ty e ((O.rv k).ac.modify Q λL=>gT L M vv):=by
   refine gc.of (λB L hr=> ?_);rcases La hr with⟨rfl,H,l,rfl⟩|⟨bg,l⟩
   ·have q:=a1.get l;have c1:=bd H q.len;refine⟨by rw[akC];exact q.len,λj c kk af ag=> ?_,λj c af ag=> ?_,λj c z kk af ag=> ?_⟩
    all_goals
     rw[T4 _ _ _ _ c1] at af;split at af;rename_i hj;have bl:j-M<Y G.aj:=aa;have aC:=b3 _ bl;rw[show M+(j-M)=j from aa,ag] at aC
     first
      |exact aA.int (j-M) c _ af aC
      |exact aA.bool (j-M) c af aC
      |exact aA.ae (j-M) c _ _ af aC
     first
      |exact q.int j c _ af ag
      |exact q.bool j c af ag
      |exact q.ae j c _ _ af ag
   exact a1.get l
  have c2:DO d.ty V O s e ((O.rv k).ac.modify Q λL=>gT L M vv) (C.pS (s.ev d.gl y).cells):=by
   intro b ⟨B,j,L,c,z,kk,h1,m,h3,hl⟩;have elder:∀H,(O.rv k).ac[B]?=U H->H[j]?=U c->O.qM d.ty s.rs b/\(∀i,aP s.ao i=J->ad V i≠b)/\∀(k':Nat)(X:TypeId)(rv:RV),s.rs[k']?=U (.own X)->O.r[k']?=U rv->rv.lH=U b->k'∈C.pS (s.ev d.gl y).cells:=by
    intro H q1 q2;have hi:ol d.ty e (O.rv k).ac b:=⟨B,j,H,c,z,kk,q1,q2,h3,hl⟩;have b6:=K4 (O:=O) (e0:=.own e) rfl hi;exact⟨⟨k,_,hk,b6⟩,(R.mem.ah k _ _ hk bb).2 b b6,λk' X rv q3 q4 q5=>(Pf R q3 q4 q5 hk rfl hi).elim⟩
   rcases La h1 with⟨rfl,H,l,rfl⟩|⟨bg,l⟩;rw[T4 _ _ _ _ (bd H (a1.len _ _ l))] at m;split at m;rename_i hj;have bl:j-M<Y G.aj:=aa;have aC:((te.aj.drop M).take (Y G.aj))[j-M]?=U (.ae z kk):=(b3 _ bl).trans (by rw[show M+(j-M)=j from aa];exact h3);rw[<-c0] at m;obtain⟨N,q1,q2,q3,q4⟩:=aaW al m aC hl;obtain⟨p1,p2⟩:=K5 R q3 q2 q4;refine⟨p1,p2,λk' X rv k1 k2 k3=> ?_⟩;have:=TW R k1 k2 k3 q3 q2 q4;subst this;exact T2 (jK q1) rfl;exact elder H l m;exact elder L l m
  have br:(C.aG O V (s.ev d.gl y).cells).length=Y G.aj:=by simp[ba]
  have c3:Q*w+M+Y G.aj<=f*w:=by
   have:(Q+1)*w<=f*w:=zG _ aa;rw[nE] at this;omega
  obtain⟨W',r1,r2,r3,r4,r5,r6,r7⟩:=aaQ (P:=P) bk (Q*w+M) e (C.aG O V (s.ev d.gl y).cells) 0 di W b2 (by rw[br,a9,hw];omega) (λu hu=>by
   rw[b4] at hu;obtain⟨c,c4,rfl⟩:=iD.1 hu;obtain⟨j,hj⟩:=tO c4;have df:j<Y G.aj:=by rw[<-bc];exact(cu.1 hj).1
   obtain⟨ct,ag⟩:∃ct,((te.aj.drop M).take (Y G.aj))[j]?=U ct:=⟨_,cP aa⟩;cases ct with
   |int kk=>obtain⟨n',bs⟩:=aA.int j c kk hj ag;rw[bs];rfl
   |bool=>obtain⟨n',bs⟩:=aA.bool j c hj ag;rw[bs];rfl
   |ae z kk=>exact KS (aA.ae j c z kk hj ag))
  have a0:((O.rv k).ac.modify Q λL=>gT L M vv).length=n:=by simp[bx]
  have b7:=aaY g2 b2;rw[bx,hw] at b7;obtain⟨R',c5⟩:=R.bind cy (old:=U bk) (kill:=[k]) (dv:=C.pS (s.ev d.gl y).cells) (A:=U ⟨bk,0,Z⟩) (cap:=f) (W':=W') (.inr ⟨k,e,_,rfl,hk,bb,by rw[g1,K6,cC]⟩) cA
   ⟨r5,r6,r7,aa,λq _ hq=>r3 q (λh=>hq (by rw[h]))⟩ bf c2
   ⟨by rw[a0];exact b1,av,.inr ⟨bk,_,rfl,r2,cB,by rw[hw,Ho,aaP,E3,a9,hw],by
    rw[a0,hw];refine awU (w:=w) (λB L hr=>by rw[bf.len B L hr,hw]) ?_ (λB j L c h1 m=> ?_);rw[a0,E4,ZF,aaP,E3,a9,hw];exact Hp (zG _ b1);have dk:B<n:=by rw[<-a0];exact(cu.1 h1).1
    have dn:j<w:=by rw[<-hw,<-bf.len B L h1];exact(cu.1 m).1
    have b8:B*w+j<n*w:=by
     have:(B+1)*w<=n*w:=zG _ aa;rw[nE] at this;omega
    rw[nD,aL b8,ZF,wh,akD _ _ _ _ (by rw[br,E3,a9,hw];exact c3),br];have ca:∀H:aF,(O.rv k).ac[B]?=U H->H[j]?=U c->di.toList[B*w+j]?=U c.val:=by
     intro H q1 q2;have:=Pb (w:=w) (λi L hr=>by rw[a1.len i L hr,hw]) q1 q2;rw[<-b7,nD,aL b8] at this;exact this
    rcases La h1 with⟨rfl,H,l,rfl⟩|⟨bg,l⟩;rw[T4 _ _ _ _ (bd H (a1.len _ _ l)),bc] at m;by_cases hj:M<=j/\j<M+Y G.aj;rw[aL hj] at m;rw[aL aa,b4,show B*w+j-(B*w+M)=j-M from aa,dS,m];rfl;rw[aT hj] at m;rw[aT aa];exact ca H l m;have c6:¬(Q*w+M<=B*w+j/\B*w+j<Q*w+M+Y G.aj):=by
     rintro⟨q1,q2⟩;rcases aJj bg with ds|dx;have:(B+1)*w<=Q*w:=zG _ aa;rw[nE] at this;omega;have:(Q+1)*w<=B*w:=zG _ aa;rw[nE] at this;omega
    rw[aT c6];exact ca L l m,.inr rfl⟩⟩
  have c7:k<Y O.r:=(cu.1 bb).1;have R2:=R'.iK (k:=k) (n:=Y s.rs) (by
   rw[<-R.er];have e1:(O.add (.r (.mk (.slice (U ⟨bk,0,Z⟩) ((O.rv k).ac.modify Q λL=>gT L M vv).length f) ((O.rv k).ac.modify Q λL=>gT L M vv)))).rv (Y O.r)=.mk (.slice (U ⟨bk,0,Z⟩) ((O.rv k).ac.modify Q λL=>gT L M vv).length f) ((O.rv k).ac.modify Q λL=>gT L M vv):=by simp[ai.rv,ai.add]
   have e2:(O.add (.r (.mk (.slice (U ⟨bk,0,Z⟩) ((O.rv k).ac.modify Q λL=>gT L M vv).length f) ((O.rv k).ac.modify Q λL=>gT L M vv)))).rv k=O.rv k:=by simp[ai.rv,ai.add,dN,c7]
   rw[e1,e2,RV.nM,a0];have:=ko RV.val g1;exact this.symm)
  refine⟨undef,W',_,.inr ⟨?_,rfl⟩,⟨⟨_,_,_,by rw[b5],by rw[b5]⟩,c5,λk' _ _ _ hx=>by
   cases hx;rw[RV.nM,a0];exact(ko RV.val g1).symm⟩,R2.put F.dst (.bO []), ?_⟩
  have c8:(O.rv k).val=.slice (U ⟨bk,0,Z⟩) n f:=by rw[g1];rfl
  have cc:((s.ev d.gl y).ab O V).cells.toList=C.aG O V (s.ev d.gl y).cells:=cR;have c9:((s.ev d.gl y).ab O V).cells.size=Y G.aj:=by rw[<-E3,cc];simp[ba]
  simp only[execOp,ho,cO,cI,hx,C.ab,RE.ab,RE.rv,c8,oO,hI,su,jf,Instr.storeAt,Instr.sureAddr,storeVar,dC,fz,du,(cl _ _ cn).oq,c9,cc,ne_eq,not_true_eq_false,gw,r1];have ch:bH s O V ({s with rs:=kG (C.pS (s.ev d.gl y).cells) 0 (jE [k] 0 s.rs)++[.own e]}:S) _ V:=FC (rv:=.mk (.slice (U ⟨bk,0,Z⟩) ((O.rv k).ac.modify Q λL=>gT L M vv).length f) ((O.rv k).ac.modify Q λL=>gT L M vv)) _ Z (.bO []);refine bH.put (s:=s) (s':=(({s with rs:=kG (C.pS (s.ev d.gl y).cells) 0 (jE [k] 0 s.rs)++[.own e]}:S).put Z (.ah (.v (Y s.rs)))).iK k (Y s.rs)) ⟨ch.ext,λq hq=> ?_,by simp[S.put,S.iK,Pn],ch.ax⟩ _ _;simp only[S.put,S.iK,Ij];exact hq
 cases h;cases h;cases h;cases h
def aa6(R:az p g D d.ty V O s a W)(N:jq P d.ty)(M:fk d.gl O){G:Bool}{b:BI}(h:fj d F t G s=U b)(L:b.bi.ab O=J):K8 P p g D d.ty V O s a W F b:=by
 cases Q:F.op with
 |call c=>
  cases H:c.callee with
  |builtin B=>cases B with
   |append=>exact awM R N M Q H h L
   |_=>simp[fj,Q,H] at h
  |_=>simp[fj,Q,H] at h
 |makeSlice X n m=>exact awO R N M Q h L
 |buildSlice X A parts=>exact awP R N M Q h
 |slice X x z w v=>exact awS R N M Q h L
 |store X x y=>exact awV R N M Q h L
 |_=>simp[fj,Q] at h
end
