/- Part 1. -/
import GoSem.Step
import Derived.Below
import Derived.Laws.AppendOwn
import Derived.Deep.Draws
import Derived.RangeFuncRecord
import Derived.CallsIn
import Derived.OrdersIn
import Derived.Sort.LoopGhostIn
import Derived.RangeFuncCalls
import Derived.Laws.Cells
import Derived.MapKept
import Derived.IntWalk
set_option linter.all false
set_option maxRecDepth 100000
set_option maxHeartbeats 100000000
open Bool renaming and_eq_true->aC,not_eq_true'->jP,false_eq_true->jX,or_eq_true->lg,eq_iff_iff->Jy,not_eq_false->Ml,rec->Mu,not_eq_true->ak1,or_eq_true_iff->avV,and_assoc->awi,true->J,false->E
open Nat renaming lor->b9,le_refl->cd,zero_add->jk,beq->jl,blt->kq,le_trans->mc,shiftLeft->nC,zero_le->rN,add_mul->sM,add_zero->yZ,mul_le_mul_right->GC,testBit_or->Jz,rec->JC,eq_zero_or_pos->Mj,min_eq_left->Mp,mul_le_mul->Mr,lt_of_lt_of_le->QR,add_assoc->QY,mod_lt->Q0,testBit_add_one->VA,mul_comm->VM,sub_self->acn,gcd->aco,beq_eq->alb,testBit_shiftLeft->avR,div_lt_of_lt_mul->avT,one_shiftLeft->av1,testBit_zero->av6,div_add_mod->awb,pow_succ->awm,eq_of_beq_eq_true->aIT,testBit_two_pow->aI0,lt_or_gt_of_ne->aI5
open List renaming range->di,getElem?_eq_some_iff->dq,getElem?_eq_getElem->dG,map_cons->dH,getD_eq_getElem?_getD->dM,getElem?_map->et,replicate->eu,mem_append->fg,mem_cons->fh,mem_map->fw,getElem?_append_left->f8,length_append->f9,all_eq_true->gz,getElem?_append_right->ji,mem_of_getElem?->jz,map_congr_left->kF,ext_getElem?->kU,any_eq_true->nA,length_cons->oV,length_map->oW,map_map->oX,length_eq_one_iff->pK,getElem?_take->qg,getElem?_of_mem->sK,eq_nil_of_length_eq_zero->ui,getElem?_eq_none->uk,getElem_mem->ul,getElem?_cons_succ->vC,getElem?_drop->yV,getElem?_set->yW,range'->zd,mem_cons_of_mem->AH,rec->AJ,drop_eq_getElem_cons->Cb,getElem?_set_ne->Cd,append_assoc->Ce,length_drop->Cf,getElem?_eq_none_iff->El,mem_of_mem_drop->En,getElem?_range->Ep,zip_cons_cons->Es,mem_of_mem_take->GD,take_of_length_le->Jt,size_toArray->Mn,length_take->Mo,drop_drop->QX,mem_of_find?_eq_some->Vu,getElem?_replicate->Vv,range_eq_range'->Vy,mem_singleton->VB,all_cons->VJ,length_singleton->ace,toList_toArray->ach,range'_succ->acj,getElem?_toArray->akU,drop_eq_nil_of_le->avO,flatMap_cons->av2,foldl_cons->av9,find?_cons->awa,mapM_cons->awj,length->Y
open Go.Result renaming andThen_ok->du
open Go.Sem renaming run_bind->dv,run_pure->fu
open Option renaming map_some->ga,isSome_iff_exists->jy,getD_some->yX,bind_some->ak0,getD_none->av7,some->U,none->Z
open Go.Op renaming operands->im,equalIn->Eu,equal->GJ
open Array renaming getElem?_eq_some_iff->lF,ext'->nD,toList_map->yY,length_toList->GF,getElem?_eq_getElem->Mh,getElem?_modify->QP,getElem?_toList->acd,range->ak8,toList_range->avZ,mapM_eq_mapM_toList->aIL,getElem?_eq_none->aIS,foldl_toList->aI4
open Go.Region renaming binds->awn
open Go.World renaming cell?->oD,putObj_heap_other->uj,putObj->Mt,alloc_heap_new->Vz,frozen?->VK,setCell->acm,grownBy_alloc->aI1
open Int renaming toNat_natCast->rM,natCast_mul->awc
open Go.Call renaming operands->Ch
open List.cons renaming injEq->GG
open Option.some renaming injEq->Jx
open Prod.mk renaming injEq->JA
open Go.IntKind renaming i64->I
namespace Go.Proofs.YtjnmghiggfgjlaaGreatDoor.Y
variable{R M h:Nat}
def ae{p:Prop}(h:p:=by omega):p:=h
def aw{p:Prop}(h:p:=by simp):p:=h
def md{p:Prop}(h:p:=by assumption):p:=h
def ew{p:Prop}(h:p:=by decide):p:=h
def bY{p:Prop}(h:p:=by simp;omega):p:=h
def cq{p:Prop}(h:p:=by simp[im]):p:=h
def uo{p:Prop}(h:p:=by dsimp only;decide):p:=h
def dD:= @decide_eq_true_eq
def gc:= @beq_iff_eq
def aH:= @if_pos
def aS:= @if_neg
def dO:= @if_true
def ku:= @if_false
def bF:= @absurd
def jY:= @congrArg
def GK:= @of_decide_eq_true
def dW:= @Jx
def nE:= @Option.some.inj
structure Sh where
 kt:TypeId
 vt:TypeId
 nk:Nat
 ka:Bool
 va:Bool
 deriving DecidableEq
abbrev ar:=List Nat
abbrev cG:=Option Nat
abbrev bA:=List Int
abbrev iW:=List TypeId
abbrev me:=Option (List TypeId)
abbrev dC:=Array Oper
abbrev qi:=List Oper
abbrev nZ:=List (Nat×Nat×Nat)
abbrev nF:=List ResultVar
abbrev AK:=List (Nat×Nat)
abbrev fy:=List Value
abbrev mO:=Array Value
abbrev mP:=List Bool
abbrev oY:=Option Addr
abbrev uq:=List (Value×Value)
inductive RK where
 |sl (e:TypeId)
 |str
 |bw
 |own (e:TypeId)
 |aR
 |mr (sh:Sh)
 deriving DecidableEq
abbrev bo:=List RK
def RK.rd:RK->RK
 |.own e=>.sl e|k=>k
inductive CT where
 |int (k:IntKind)
 |bool
 |bw (z:Value) (k:RK)
abbrev eL:=List CT
inductive TD where
 |one
 |gH
 |str
 |slice (e:TypeId)
 |arr (n:Nat) (e:TypeId)
 |struct (fs:List (Nat×TypeId))
 |map (k e:TypeId) (n:Nat) (ag:Bool)
structure TI where
 d:TD
 am:eL
 eq:Bool:=E
abbrev vD:=Option TI
mutual
inductive K where
 |c (n:Int)
 |v (k:Nat)
 |bin (op:BinOp) (k:IntKind) (a b:K)
 |conv(k:IntKind) (a:K)
 |len (r:RE)
 |mm (mx:Bool) (a b:K)
 |dt (b:BE) (x y:K)
 |cell (r:RE) (i:K) (j:Nat)
 |oZ (r:RE) (i:K)
 |look (r:RE) (n:Nat) (a b c:K) (j:Nat)
inductive BE where
 |c (b:Bool)
 |v (k:Nat)
 |cmp (op:BinOp) (a b:K)
 |not (a:BE)
 |and (a b:BE)
 |beq (a b:BE)
 |dt (b x y:BE)
 |cell (r:RE) (i:K) (j:Nat)
 |seq (a b:RE)
 |look (r:RE) (n:Nat) (a b c:K) (j:Nat)
 |has (r:RE) (n:Nat) (a b c:K)
inductive RE where
 |v (k:Nat)
 |cell (r:RE) (i:K) (j:Nat) (k:RK)
 |k (v:Value)
end
inductive C where
 |int (k:IntKind) (e:K)
 |bool (b:BE)
 |ak (r:RE)
 |loc (i off:Nat)
 |el (r:RE) (w:Nat) (i:K) (off:Nat)
 |iO (i off len cap:Nat)
 |agg (l:List C)
 |bH (l:List C)
 |fn (f:FuncId) (bD:List C)
 |gH (t:TypeId) (x:C)
 |yl (n:Nat)
 |any
 |mp (i:Nat)
 |gp (e:K) (ks:List Int) (vs:List C)
abbrev aq:=List C
abbrev ze:=List (List C)
abbrev Ew:=Option (List C)
inductive PX where
 |ret
 |exit (id:Nat)
 deriving DecidableEq
inductive JD where
 |ready
 |busy
 |done (e:PX)
 deriving DecidableEq
abbrev vE:=List JD
abbrev bm:=List (Option (TypeId×aq))
structure S where
 tmps:aq
 au:bm
 ni:Nat
 nb:Nat
 rs:bo
 ax:Nat
 lk:Nat
 pd:vE
noncomputable def bP(l:bm)(i:Nat):Option (TypeId×aq):=AJ (motive:=λ_=>Nat->Option (TypeId×aq)) (λ_=>Z) (λx _ X t=>JC (motive:=λ_=>Option (TypeId×aq)) x (λm _=>X m) t) l i
theorem bS:∀(l:bm)(i:Nat),bP l i=(match l[i]? with|U (U b)=>U b|_=>Z)
 |[],_=>rfl|Z::_,0=>rfl|U _::_,0=>rfl|_::l,i+1=>by rw[vC];exact bS l i
noncomputable section
def vF:TypeId:=1099511627776
def xq:TypeId:=1099511627777
def zf:TypeId:=1099511627778
def mQ(t:TypeId):Bool:=decide (vF<=t)
def mR(l:bm)(i:Nat):Option (TypeId×aq):=match bP l i with|U (t,X)=>if mQ t then Z else U (t,X)|none=>Z
inductive LK where
 |int (k:IntKind)
 |bool
 |ak (k:RK)
 deriving DecidableEq
abbrev aL:=List LK
inductive XE where
 |normal
 |ret
 |exit (id:Nat)
 |bp (v:C)
inductive LE where
 |ak (r:RE)
 |lit (l:List (List C))
 |iB (a b:LE)
 |xt (n:K) (row:List C)
 |set (a:LE) (i:K) (off:Nat) (cs:List C)
 |sub (a:LE) (lo hi:K)
 |ins (a:LE) (n:Nat) (cs:List C)
inductive bu where
 |lex (cs:List Nat) (desc:Bool)
 |ratio (n d:Nat)
 |dw (k:Nat) (o:bu) (as:List K)
abbrev zg:=List (FuncId×FuncId×TypeId×bu×Bool)
inductive T where
 |out (e:XE) (s:S)
 |ret (v:C) (bx:bm) (rs:List RK)
 |bp (v:C)
 |aI (b:BE) (t f:T)
 |aQ (b:BE) (t:T)
 |call (f:FuncId) (args:List C) (bx:bm) (rs:List RK) (ks:List LK) (fz:C) (t:T)
 |loop (ax:Nat) (ks:List LK) (x0:List C) (t:T)
 |back (ax:Nat) (x:List C)
 |new (e:TypeId) (x:LE) (rs rsn:List RK) (t:T)
 |ah (k:RK) (x:LE) (rs:List RK) (t:T)
 |gq (g h:BE) (t f:T)
 |pick (n:K) (g h:BE) (t f:T)
 |eE (f g:FuncId) (e:TypeId) (sp:bu) (st:Bool) (r:RE) (rs:List RK) (t:T)
 |stuck (msg:String)
def Q7:Value->C
 |.int k n=>.int k (.c n)|.bool b=>.bool (.c b)|v=>.ak (.k v)
def Q8:Value->C
 |.int k n=>.int k (.c n)|.bool b=>.bool (.c b)|.agg X=>.agg (X.toList.map Q7)|v=>.ak (.k v)
def nth(l:aq)(t:Nat):C:=AJ (motive:=λ_=>Nat->C) (λ_=>.any) (λx _ X t=>JC (motive:=λ_=>C) x (λm _=>X m) t) l t
def ald(l:aq)(d:Nat)(v:C):aq:=AJ (motive:=λ_=>Nat->aq) (λ_=>[]) (λx X W d=>JC (motive:=λ_=>aq) (v::X) (λm _=>x::W m) d) l d
@[simp] theorem zh:∀(l:aq)(t:Nat),nth l t=l.getD t .any
 |[],_=>rfl|_::_,0=>rfl|_::X,t+1=>zh X t
@[simp] theorem Ck:∀(l:aq)(d:Nat)(v:C),ald l d v=l.set d v
 |[],_,_=>rfl|_::_,0,_=>rfl|x::X,d+1,v=>jY (x::·) (Ck X d v)
def S.ev(X:nZ)(s:S):Operand->C
 |.tmp t=>nth s.tmps t|.const v=>Q8 v
 |.global g=>match X.find? (λx=>x.1==g) with|U (_,k,w)=>.el (.v k) w (.c 0) 0|none=>.any
 |.func f=>.fn f []
def S.put(s:S)(X:cG)(v:C):S:=
 match X with
 |U d=>{s with tmps:=ald s.tmps d v}
 |none=>s
def GM(r:RE)(i:K)(j:Nat):CT->C
 |.int k=>.int k (.cell r i j)|.bool=>.bool (.cell r i j)|.bw _ k=>.ak (.cell r i j k)
def Ex:CT->C
 |.int k=>.int k (.c 0)|.bool=>.bool (.c E)|.bw z _=>.ak (.k z)
def TD.isAgg:TD->Bool
 |.arr _ _|.struct _=>J|_=>E
def C.cells:C->aq
 |.agg l=>l|v=>[v]
def jm:Value->Bool
 |.agg _|.tuple _=>E|_=>J
def RE.JE:RE->Bool
 |.k w=>jm w|_=>J
def C.JF:C->Bool
 |.ak (.k w)=>jm w|_=>J
def C.single:C->Bool
 |.ak (.k w)=>jm w|.agg _|.bH _|.any=>E|_=>J
noncomputable def GN(l:aq):Bool:=AJ (motive:=λ_=>Bool) J (λx _ X=>Mu (motive:=λ_=>Bool) E X x.single) l
def VN:(GN []=J)/\(∀x X,GN (x::X)=(x.single&&GN X)):=⟨rfl,λx X=>by
 show Mu (motive:=λ_=>Bool) E (GN X) x.single=_;cases x.single<;>rfl⟩
def zi(l:aq)(X n:Nat):aq:=(l.drop X).take n
def zj(X:TI)(l:aq)(W:Nat):Option C:=
 if X.d.isAgg then(if W+Y X.am<=Y l then U (.agg (zi l W (Y X.am))) else Z) else l[W]?
def mg(l:aq)(X:Nat):aq->aq
 |[]=>l|v::r=>mg (l.set X v) (X+1) r
def AL(place:Nat->Option (Nat×Nat))(cells:aq):List (Nat×C)->Ew
 |[]=>U cells
 |(i,v)::V=>
  match place i with|none=>Z|U (X,W)=>if Y v.cells !=W||decide (Y cells<X+W)|| !v.JF then Z else AL place (mg cells X v.cells) V
def eo(X:TI):aq:=X.am.map Ex
def zk(n:Nat)(l:aq):aq:=match n with|0=>[]|n+1=>l++zk n l
def VO:BinOp->Bool
 |.eql|.neq|.lss|.leq|.gtr|.geq=>J|_=>E
def fj:BinOp->Int->Int->Bool
 |.eql,x,y=>x==y|.neq,x,y=>x !=y|.lss,x,y=>decide (x<y)|.leq,x,y=>decide (x<=y)|.gtr,x,y=>decide (x>y)|.geq,x,y=>decide (x>=y)|_,_,_=>E
def be:BinOp->IntKind->Int->Int->Int
 |.add,k,x,y=>k.wrap (x+y)|.sub,k,x,y=>k.wrap (x-y)|.mul,k,x,y=>k.wrap (x*y)|.quo,k,x,y=>k.wrap (x.tdiv y)|.rem,_,x,y=>x.tmod y|.shr,k,x,y=>x.fdiv (2^min y.toNat k.bits)|.and,k,x,y=>k.wrap (BitVec.ofInt k.bits x&&& BitVec.ofInt k.bits y).toNat|_,_,_,_=>0
def acq:BinOp->Bool
 |.add|.sub|.mul|.and=>J|_=>E
def acr:BinOp->Bool
 |.quo|.rem=>J|_=>E
def ale:BinOp->Bool
 |.shr=>J|_=>E
inductive PR where
 |ok (v:C)
 |aQ (b:BE) (v:C)
 |no (why:String)
def GO(X:BinOp)(k:IntKind):K->K->K
 |.c x,.c y=>.c (be X k x y)|a,b=>.bin X k a b
def qY(X:BinOp):K->K->BE
 |.c x,.c y=>.c (fj X x y)|a,b=>.cmp X a b
def GP:BE->BE
 |.c b=>.c (!b)|b=>.not b
def xu:BE->BE->BE
 |.c J,b=>b|.c E,_=>.c E|a,.c J=>a|a,b=>.and a b
def Q9:BE->BE->BE
 |.c a,.c b=>.c (a==b)|.c J,b=>b|.c E,b=>GP b|a,.c J=>a|a,.c E=>GP a|a,b=>.beq a b
def xw(i:K)(n:K):BE:=xu (qY .leq (.c 0) i) (qY .lss i n)
def VP(X:Bool):K->K->K
 |.c x,.c y=>.c (if X then max x y else min x y)|a,b=>.mm X a b
def JG(X:Bool)(k:IntKind):K->aq->Option K
 |e,[]=>U e|e,.int W x::r=>if k=W then JG X k (VP X e x) r else Z|_,_=>Z
abbrev Ty:=TypeId->vD
def bI(W:Ty):RK->eL
 |.sl e=>match W e with|U X=>X.am|none=>[]
 |.mr V=>(match W V.kt with
  |U X=>X.am
  |none=>[])++(match W V.vt with|U X=>X.am|none=>[])
 |_=>[]
def JH:Option CT->RK
 |U (.bw _ k)=>k|_=>.bw
def RE.isNil:RE->Bool
 |.k (.slice Z 0 0)=>J|_=>E
def RE.kind(X:Ty)(s:S):RE->RK
 |.v n=>(s.rs.getD n .bw).rd
 |.cell r _ j W=>match RE.kind X s r with|.sl e=>if JH (bI X (.sl e))[j]?=W then W else .bw|_=>.bw
 |.k (.string _)=>.str|.k _=>.bw
def Mv(X:Ty)(s:S):CT->C->C->Option BE
 |.int k,.int W a,.int V b=>if W=k/\V=k then U (qY .eql a b) else Z|.bool,.bool a,.bool b=>U (Q9 a b)|.bw _ .str,.ak a,.ak b=>if a.kind X s=.str/\b.kind X s=.str then U (.seq a b) else Z|_,_,_=>Z
def sN(X:Ty)(s:S):eL->aq->aq->Option BE
 |[],[],[]=>U (.c J)
 |c::W,x::V,y::R=>match Mv X s c x y,sN X s W V R with|U a,U b=>U (xu a b)|_,_=>Z
 |_,_,_=>Z
def Mw(X:Ty)(s:S)(W:vD)(a b:aq):Option BE:=match W with|U ⟨_,am,J⟩=>sN X s am a b|_=>Z
def acs(X:Ty)(W:List (Nat×TypeId))(i:Nat):Option (Nat×Nat):=match W[i]? with|U (o,V)=>(X V).map λf=>(o,Y f.am)|none=>Z
def RE.nil:RE->Bool
 |.k (.slice Z 0 0)=>J|_=>E
def RE.pL(X:Ty)(s:S)(W:Sh)(r:RE):Bool:=decide (r.kind X s=.mr W)||r.nil
def JI(n:Nat)(X:Bool):C->Option (K×K×K)
 |.int I a=>if n==1&& !X then U (a,.c 0,.c 0) else Z|.agg [.int I a]=>if n==1&&X then U (a,.c 0,.c 0) else Z|.agg [.int I a,.int I b]=>if n==2&&X then U (a,b,.c 0) else Z|.agg [.int I a,.int I b,.int I c]=>if n==3&&X then U (a,b,c) else Z|_=>Z
def n7:CT->Bool
 |.bw _ _=>E|_=>J
def rO(r:RE)(n:Nat)(a b c:K):Nat->eL->aq
 |_,[]=>[]|j,.int k::X=>.int k (.look r n a b c j)::rO r n a b c (j+1) X|j,.bool::X=>.bool (.look r n a b c j)::rO r n a b c (j+1) X|j,.bw z _::X=>.ak (.k z)::rO r n a b c (j+1) X
def ur(X:Bool)(l:aq):C:=if X then .agg l else l.getD 0 .any
def rP:aq->Option bA
 |[]=>U []|.int I (.c k)::_::r=>(rP r).map (k::·)|_=>Z
def n8:aq->aq
 |_::v::r=>v::n8 r|_=>[]
def Cl(e:K):bA->aq->Option K
 |k::X,.int _ x::W=>(Cl e X W).map λy=>.dt (.cmp .eql e (.c k)) x y|[],[]=>U (.c 0)|_,_=>Z
def Ey(e:K):bA->aq->Option BE
 |k::X,.bool x::W=>(Ey e X W).map λy=>.dt (.cmp .eql e (.c k)) x y|[],[]=>U (.c E)|_,_=>Z
def Mx:C->Bool
 |.fn f _=>kq f 2000000|.ak (.k .nilFunc)=>J|_=>E
def Ra:vD->Bool
 |U ⟨.one,[.bw .nilFunc _],_⟩=>J|_=>E
def Ez(e:K):bA->aq->BE
 |k::X,.fn _ _::W=>.dt (.cmp .eql e (.c k)) (.c E) (Ez e X W)|k::X,_::W=>.dt (.cmp .eql e (.c k)) (.c J) (Ez e X W)|_,_=>.c J
def acu(e:K)(W:bA)(X:aq):CT->Option C
 |.int k=>if X.all λv=>match v with|.int V _=>decide (k=V)|_=>E then(Cl e W X).map (.int k) else Z
 |.bool=>(Ey e W X).map .bool|.bw .nilFunc _=>if X.all Mx&&Y W==Y X then U (.gp e W X) else Z|_=>Z
def EA(e:K)(X:bA)(W:ze):Nat->eL->Ew
 |_,[]=>U []
 |j,c::V=>match acu e X (W.map λr=>r.getD j .any) c,EA e X W (j+1) V with|U v,U r=>U (v::r)|_,_=>Z
def JJ(e:K):bA->BE
 |[]=>.c E|k::X=>.dt (.cmp .eql e (.c k)) (.c J) (JJ e X)
def eU{X:Type}(x:Int):bA->List X->Option X
 |k::W,v::V=>if x=k then U v else eU x W V|_,_=>Z
def Cm(X:TI)(v:C):Bool:=Y v.cells==Y X.am&&v.JF&&(match v with|.agg _=>X.d.isAgg|_=> !X.d.isAgg)
def alf(X:TI)(e:K)(W:aq):Option (C×BE):=match rP W with
 |U V=>match e with
  |.c x=>match eU x V (n8 W) with|U v=>U (v,.c J)|none=>U (ur X.d.isAgg (eo X),.c E)
  |e=>if(n8 W).all (Cm X) then(EA e V ((n8 W).map C.cells) 0 X.am).map λl=>(ur X.d.isAgg l,JJ e V) else Z
 |none=>Z
def acv:CT->Bool
 |.int I=>J|_=>E
def ut(X:Ty)(k:TypeId)(n:Nat)(W:Bool):Bool:=match X k with|U tk=>Y tk.am==n&&tk.am.all acv&&tk.d.isAgg==W|none=>E
def VQ(X:Bool)(v:C)(b:BE):PR:=.ok (if X then .bH [v,.bool b] else v)
def VR(V:Ty)(s:S)(k e:TypeId)(n:Nat)(W R:Bool)(i:Nat)(O:C):PR:=match V e,JI n W O,bP s.au i with
 |U X,U (a,b,c),U (Q,P)=>if !ut V k n W then .no "" else
  if Q==xq then(match P with
   |[.ak r,.int I (.c N),.bool (.c M),.bool (.c L)]=>if r.pL V s ⟨k,e,n,W,X.d.isAgg⟩&&N==(n:Int)&&M==W&&L==X.d.isAgg&&X.am.all n7&&Y X.am !=0 then VQ R (ur X.d.isAgg (rO r n a b c n X.am)) (.has r n a b c) else .no ""
   |_=>.no "")
  else if Q==vF then(if n==1&& !W then(match alf X a P with|U (v,x)=>VQ R v x|none=>.no "") else .no "")
  else .no ""
 |_,_,_=>.no ""
def EB(n:Nat):bA:=(di n).map λ(i:Nat)=>(i:Int)
def VS(X:TI)(e:K)(V:bA)(W:aq):Option C:=if W.all (Cm X) then(EA e V (W.map C.cells) 0 X.am).map (ur X.d.isAgg) else Z
def AM(X:aq):cG:=match X with
 |.loc i _::_=>if X.all λv=>match v with|.loc j _=>i==j|_=>E then U i else Z
 |_=>Z
def GQ{X:Type}:List (Option X)->Option (List X)
 |[]=>U []|U x::r=>(GQ r).map (x::·)|Z::_=>Z
def acw(X:TI)(W:aq):C->Option C
 |.loc _ V=>zj X W V|_=>Z
def JK:Value->Value->Bool
 |.string a,.string b=>a.data.toList==b.data.toList|.slice Z a b,.slice Z c d=>a==c&&b==d|.pointer Z,.pointer Z=>J|.nilFunc,.nilFunc=>J|.nilIface,.nilIface=>J|.map Z,.map Z=>J|_,_=>E
def Co(a b:BinOp):Bool:=decide (a=b)
noncomputable def K.aP(e:K):K->Bool:=K.rec (motive_1:=λ_=>K->Bool) (motive_2:=λ_=>BE->Bool) (motive_3:=λ_=>RE->Bool) (λn e=>match e with|K.c N=>n==N|_=>E) (λk e=>match e with|K.v O=>k==O|_=>E) (λo k _ _ X W e=>match e with|K.bin D O V R=>Co o D&&decide (k=O)&&X V&&W R|_=>E) (λk _ X e=>match e with|K.conv O V=>decide (k=O)&&X V|_=>E) (λ_ Q e=>match e with|K.len P=>Q P|_=>E) (λm _ _ X W e=>match e with|K.mm x V R=>m==x&&X V&&W R|_=>E) (λ_ _ _ W B A e=>match e with|K.dt R z y=>W R&&B z&&A y|_=>E) (λ_ _ j Q L e=>match e with|K.cell P H M=>Q P&&L H&&j==M|_=>E) (λ_ _ Q L e=>match e with|K.oZ P H=>Q P&&L H|_=>E) (λ_ n _ _ _ j Q X W G e=>match e with|K.look P N V R F M=>Q P&&n==N&&X V&&W R&&G F&&j==M|_=>E) (λn e=>match e with|BE.c N=>n==N|_=>E) (λk e=>match e with|BE.v O=>k==O|_=>E) (λo _ _ X W e=>match e with|BE.cmp D V R=>Co o D&&X V&&W R|_=>E) (λ_ X e=>match e with|BE.not V=>X V|_=>E) (λ_ _ X W e=>match e with|BE.and V R=>X V&&W R|_=>E) (λ_ _ X W e=>match e with|BE.beq V R=>X V&&W R|_=>E) (λ_ _ _ W B A e=>match e with|BE.dt R z y=>W R&&B z&&A y|_=>E) (λ_ _ j Q L e=>match e with|BE.cell P H M=>Q P&&L H&&j==M|_=>E) (λ_ _ X W e=>match e with|BE.seq V R=>X V&&W R|_=>E) (λ_ n _ _ _ j Q X W G e=>match e with|BE.look P N V R F M=>Q P&&n==N&&X V&&W R&&G F&&j==M|_=>E) (λ_ n _ _ _ Q X W G e=>match e with|BE.has P N V R F=>Q P&&n==N&&X V&&W R&&G F|_=>E) (λk e=>match e with|RE.v O=>k==O|_=>E) (λ_ _ j k Q L e=>match e with|RE.cell P H M O=>Q P&&L H&&j==M&&decide (k=O)|_=>E) (λv e=>match e with|RE.k w=>JK v w|_=>E) e
noncomputable def BE.aP(e:BE):BE->Bool:=BE.rec (motive_1:=λ_=>K->Bool) (motive_2:=λ_=>BE->Bool) (motive_3:=λ_=>RE->Bool) (λn e=>match e with|K.c N=>n==N|_=>E) (λk e=>match e with|K.v O=>k==O|_=>E) (λo k _ _ X W e=>match e with|K.bin D O V R=>Co o D&&decide (k=O)&&X V&&W R|_=>E) (λk _ X e=>match e with|K.conv O V=>decide (k=O)&&X V|_=>E) (λ_ Q e=>match e with|K.len P=>Q P|_=>E) (λm _ _ X W e=>match e with|K.mm x V R=>m==x&&X V&&W R|_=>E) (λ_ _ _ W B A e=>match e with|K.dt R z y=>W R&&B z&&A y|_=>E) (λ_ _ j Q L e=>match e with|K.cell P H M=>Q P&&L H&&j==M|_=>E) (λ_ _ Q L e=>match e with|K.oZ P H=>Q P&&L H|_=>E) (λ_ n _ _ _ j Q X W G e=>match e with|K.look P N V R F M=>Q P&&n==N&&X V&&W R&&G F&&j==M|_=>E) (λn e=>match e with|BE.c N=>n==N|_=>E) (λk e=>match e with|BE.v O=>k==O|_=>E) (λo _ _ X W e=>match e with|BE.cmp D V R=>Co o D&&X V&&W R|_=>E) (λ_ X e=>match e with|BE.not V=>X V|_=>E) (λ_ _ X W e=>match e with|BE.and V R=>X V&&W R|_=>E) (λ_ _ X W e=>match e with|BE.beq V R=>X V&&W R|_=>E) (λ_ _ _ W B A e=>match e with|BE.dt R z y=>W R&&B z&&A y|_=>E) (λ_ _ j Q L e=>match e with|BE.cell P H M=>Q P&&L H&&j==M|_=>E) (λ_ _ X W e=>match e with|BE.seq V R=>X V&&W R|_=>E) (λ_ n _ _ _ j Q X W G e=>match e with|BE.look P N V R F M=>Q P&&n==N&&X V&&W R&&G F&&j==M|_=>E) (λ_ n _ _ _ Q X W G e=>match e with|BE.has P N V R F=>Q P&&n==N&&X V&&W R&&G F|_=>E) (λk e=>match e with|RE.v O=>k==O|_=>E) (λ_ _ j k Q L e=>match e with|RE.cell P H M O=>Q P&&L H&&j==M&&decide (k=O)|_=>E) (λv e=>match e with|RE.k w=>JK v w|_=>E) e
noncomputable def RE.aP(e:RE):RE->Bool:=RE.rec (motive_1:=λ_=>K->Bool) (motive_2:=λ_=>BE->Bool) (motive_3:=λ_=>RE->Bool) (λn e=>match e with|K.c N=>n==N|_=>E) (λk e=>match e with|K.v O=>k==O|_=>E) (λo k _ _ X W e=>match e with|K.bin D O V R=>Co o D&&decide (k=O)&&X V&&W R|_=>E) (λk _ X e=>match e with|K.conv O V=>decide (k=O)&&X V|_=>E) (λ_ Q e=>match e with|K.len P=>Q P|_=>E) (λm _ _ X W e=>match e with|K.mm x V R=>m==x&&X V&&W R|_=>E) (λ_ _ _ W B A e=>match e with|K.dt R z y=>W R&&B z&&A y|_=>E) (λ_ _ j Q L e=>match e with|K.cell P H M=>Q P&&L H&&j==M|_=>E) (λ_ _ Q L e=>match e with|K.oZ P H=>Q P&&L H|_=>E) (λ_ n _ _ _ j Q X W G e=>match e with|K.look P N V R F M=>Q P&&n==N&&X V&&W R&&G F&&j==M|_=>E) (λn e=>match e with|BE.c N=>n==N|_=>E) (λk e=>match e with|BE.v O=>k==O|_=>E) (λo _ _ X W e=>match e with|BE.cmp D V R=>Co o D&&X V&&W R|_=>E) (λ_ X e=>match e with|BE.not V=>X V|_=>E) (λ_ _ X W e=>match e with|BE.and V R=>X V&&W R|_=>E) (λ_ _ X W e=>match e with|BE.beq V R=>X V&&W R|_=>E) (λ_ _ _ W B A e=>match e with|BE.dt R z y=>W R&&B z&&A y|_=>E) (λ_ _ j Q L e=>match e with|BE.cell P H M=>Q P&&L H&&j==M|_=>E) (λ_ _ X W e=>match e with|BE.seq V R=>X V&&W R|_=>E) (λ_ n _ _ _ j Q X W G e=>match e with|BE.look P N V R F M=>Q P&&n==N&&X V&&W R&&G F&&j==M|_=>E) (λ_ n _ _ _ Q X W G e=>match e with|BE.has P N V R F=>Q P&&n==N&&X V&&W R&&G F|_=>E) (λk e=>match e with|RE.v O=>k==O|_=>E) (λ_ _ j k Q L e=>match e with|RE.cell P H M O=>Q P&&L H&&j==M&&decide (k=O)|_=>E) (λv e=>match e with|RE.k w=>JK v w|_=>E) e
def K.io:(∀n e,K.aP (.c n) e=match e with|K.c Q=>n==Q|_=>E)/\(∀k e,K.aP (.v k) e=match e with|K.v R=>k==R|_=>E)/\(∀o k a b e,K.aP (.bin o k a b) e=match e with|K.bin N R X W=>Co o N&&decide (k=R)&&K.aP a X&&K.aP b W|_=>E)/\(∀k a e,K.aP (.conv k a) e=match e with|K.conv R X=>decide (k=R)&&K.aP a X|_=>E)/\(∀r e,K.aP (.len r) e=match e with|K.len V=>RE.aP r V|_=>E)/\(∀m a b e,K.aP (.mm m a b) e=match e with|K.mm M X W=>m==M&&K.aP a X&&K.aP b W|_=>E)/\(∀b x y e,K.aP (.dt b x y) e=match e with|K.dt W L H=>BE.aP b W&&K.aP x L&&K.aP y H|_=>E)/\(∀r i j e,K.aP (.cell r i j) e=match e with|K.cell V P O=>RE.aP r V&&K.aP i P&&j==O|_=>E)/\(∀r i e,K.aP (.oZ r i) e=match e with|K.oZ V P=>RE.aP r V&&K.aP i P|_=>E)/\(∀r n a b c j e,K.aP (.look r n a b c j) e=match e with|K.look V Q X W G O=>RE.aP r V&&n==Q&&K.aP a X&&K.aP b W&&K.aP c G&&j==O|_=>E):=⟨λ_ _=>rfl,λ_ _=>rfl,λ_ _ _ _ _=>rfl,λ_ _ _=>rfl,λ_ _=>rfl,λ_ _ _ _=>rfl,λ_ _ _ _=>rfl,λ_ _ _ _=>rfl,λ_ _ _=>rfl,λ_ _ _ _ _ _ _=>rfl⟩
def BE.io:(∀n e,BE.aP (.c n) e=match e with|BE.c V=>n==V|_=>E)/\(∀k e,BE.aP (.v k) e=match e with|BE.v O=>k==O|_=>E)/\(∀o a b e,BE.aP (.cmp o a b) e=match e with|BE.cmp N X W=>Co o N&&K.aP a X&&K.aP b W|_=>E)/\(∀a e,BE.aP (.not a) e=match e with|BE.not X=>BE.aP a X|_=>E)/\(∀a b e,BE.aP (.and a b) e=match e with|BE.and X W=>BE.aP a X&&BE.aP b W|_=>E)/\(∀a b e,BE.aP (.beq a b) e=match e with|BE.beq X W=>BE.aP a X&&BE.aP b W|_=>E)/\(∀b x y e,BE.aP (.dt b x y) e=match e with|BE.dt W M L=>BE.aP b W&&BE.aP x M&&BE.aP y L|_=>E)/\(∀r i j e,BE.aP (.cell r i j) e=match e with|BE.cell R H Q=>RE.aP r R&&K.aP i H&&j==Q|_=>E)/\(∀a b e,BE.aP (.seq a b) e=match e with|BE.seq X W=>RE.aP a X&&RE.aP b W|_=>E)/\(∀r n a b c j e,BE.aP (.look r n a b c j) e=match e with|BE.look R V X W P Q=>RE.aP r R&&n==V&&K.aP a X&&K.aP b W&&K.aP c P&&j==Q|_=>E)/\(∀r n a b c e,BE.aP (.has r n a b c) e=match e with|BE.has R V X W P=>RE.aP r R&&n==V&&K.aP a X&&K.aP b W&&K.aP c P|_=>E):=⟨λ_ _=>rfl,λ_ _=>rfl,λ_ _ _ _=>rfl,λ_ _=>rfl,λ_ _ _=>rfl,λ_ _ _=>rfl,λ_ _ _ _=>rfl,λ_ _ _ _=>rfl,λ_ _ _=>rfl,λ_ _ _ _ _ _ _=>rfl,λ_ _ _ _ _ _=>rfl⟩
def RE.io:(∀k e,RE.aP (.v k) e=match e with|RE.v X=>k==X|_=>E)/\(∀r i j k e,RE.aP (.cell r i j k) e=match e with|RE.cell W V R X=>RE.aP r W&&K.aP i V&&j==R&&decide (k=X)|_=>E)/\(∀v e,RE.aP (.k v) e=match e with|RE.k Q=>JK v Q|_=>E):=⟨λ_ _=>rfl,λ_ _ _ _ _=>rfl,λ_ _=>rfl⟩
noncomputable def C.aP(v:C):C->Bool:=C.rec (motive_1:=λ_=>C->Bool) (motive_2:=λ_=>aq->Bool) (λk e v=>match v with|C.int O V=>decide (k=O)&&e.aP V|_=>E) (λb v=>match v with|C.bool R=>b.aP R|_=>E) (λr v=>match v with|C.ak Q=>r.aP Q|_=>E) (λi o v=>match v with|C.loc X P=>i==X&&o==P|_=>E) (λr w i o v=>match v with|C.el Q N X P=>r.aP Q&&w==N&&i.aP X&&o==P|_=>E) (λa b c d v=>match v with|C.iO M R L H=>a==M&&b==R&&c==L&&d==H|_=>E) (λ_ h v=>match v with|C.agg W=>h W|_=>E) (λ_ h v=>match v with|C.bH W=>h W|_=>E) (λf _ h v=>match v with|C.fn G W=>f==G&&h W|_=>E) (λt _ h v=>match v with|C.gH F D=>t==F&&h D|_=>E) (λn v=>match v with|C.yl B=>n==B|_=>E) (λv=>match v with|C.any=>J|_=>E) (λi v=>match v with|C.mp X=>i==X|_=>E) (λe A _ h v=>match v with|C.gp V z x=>e.aP V&&A==z&&h x|_=>E) (λl=>match l with|[]=>J|_=>E) (λ_ _ h u l=>match l with|y::s=>h y&&u s|_=>E) v
noncomputable def C.n9(l:aq):aq->Bool:=C.rec_1 (motive_1:=λ_=>C->Bool) (motive_2:=λ_=>aq->Bool) (λk e v=>match v with|C.int O V=>decide (k=O)&&e.aP V|_=>E) (λb v=>match v with|C.bool R=>b.aP R|_=>E) (λr v=>match v with|C.ak Q=>r.aP Q|_=>E) (λi o v=>match v with|C.loc X P=>i==X&&o==P|_=>E) (λr w i o v=>match v with|C.el Q N X P=>r.aP Q&&w==N&&i.aP X&&o==P|_=>E) (λa b c d v=>match v with|C.iO M R L H=>a==M&&b==R&&c==L&&d==H|_=>E) (λ_ h v=>match v with|C.agg W=>h W|_=>E) (λ_ h v=>match v with|C.bH W=>h W|_=>E) (λf _ h v=>match v with|C.fn G W=>f==G&&h W|_=>E) (λt _ h v=>match v with|C.gH F D=>t==F&&h D|_=>E) (λn v=>match v with|C.yl B=>n==B|_=>E) (λv=>match v with|C.any=>J|_=>E) (λi v=>match v with|C.mp X=>i==X|_=>E) (λe A _ h v=>match v with|C.gp V z x=>e.aP V&&A==z&&h x|_=>E) (λl=>match l with|[]=>J|_=>E) (λ_ _ h u l=>match l with|y::s=>h y&&u s|_=>E) l
def C.io:(∀k e v,C.aP (.int k e) v=match v with|C.int M V=>decide (k=M)&&e.aP V|_=>E)/\(∀b v,C.aP (.bool b) v=match v with|C.bool R=>b.aP R|_=>E)/\(∀r v,C.aP (.ak r) v=match v with|C.ak Q=>r.aP Q|_=>E)/\(∀i o v,C.aP (.loc i o) v=match v with|C.loc X P=>i==X&&o==P|_=>E)/\(∀r w i o v,C.aP (.el r w i o) v=match v with|C.el Q L X P=>r.aP Q&&w==L&&i.aP X&&o==P|_=>E)/\(∀a b c d v,C.aP (.iO a b c d) v=match v with|C.iO H R G F=>a==H&&b==R&&c==G&&d==F|_=>E)/\(∀l v,C.aP (.agg l) v=match v with|C.agg W=>C.n9 l W|_=>E)/\(∀l v,C.aP (.bH l) v=match v with|C.bH W=>C.n9 l W|_=>E)/\(∀f l v,C.aP (.fn f l) v=match v with|C.fn D W=>f==D&&C.n9 l W|_=>E)/\(∀t x v,C.aP (.gH t x) v=match v with|C.gH B A=>t==B&&C.aP x A|_=>E)/\(∀n v,C.aP (.yl n) v=match v with|C.yl z=>n==z|_=>E)/\(∀v,C.aP (.any) v=match v with|C.any=>J|_=>E)/\(∀i v,C.aP (.mp i) v=match v with|C.mp X=>i==X|_=>E)/\(∀e O N v,C.aP (.gp e O N) v=match v with|C.gp V y u=>e.aP V&&O==y&&C.n9 N u|_=>E):=⟨λ_ _ _=>rfl,λ_ _=>rfl,λ_ _=>rfl,λ_ _ _=>rfl,λ_ _ _ _ _=>rfl,λ_ _ _ _ _=>rfl,λ_ _=>rfl,λ_ _=>rfl,λ_ _ _=>rfl,λ_ _ _=>rfl,λ_ _=>rfl,λ_=>rfl,λ_ _=>rfl,λ_ _ _ _=>rfl⟩
def C.alg:(∀l,C.n9 [] l=match l with|[]=>J|_=>E)/\(∀x X l,C.n9 (x::X) l=match l with|y::W=>C.aP x y&&C.n9 X W|_=>E):=⟨λ_=>rfl,λ_ _ _=>rfl⟩
def cw(X:Ty)(W:nZ)(s:S):Op->PR
 |.move x|.assign x=>.ok (s.ev W x)
 |.pick c a b=>match s.ev W c with|.bool (.c J)=>.ok (s.ev W a)|.bool (.c E)=>.ok (s.ev W b)|_=>.no ""
 |.load t a=>match X t,s.ev W a with
  |U P,.loc i V=>match mR s.au i with
   |U (_,H)=>match zj P H V with|U v=>.ok v|none=>.no ""
   |none=>.no ""
  |U P,.el r w i V=>match r.kind X s with
   |.sl e=>
    if(bI X (.sl e)).length !=w then .no "" else
    match zj P ((di w).map λj=>GM r i j ((bI X (.sl e)).getD j .bool)) V with|U v=>.aQ (xw i (.len r)) v|none=>.no ""
   |_=>.no ""
  |U P,.gp e M N=>match(AM N).bind λi=>mR s.au i with
   |U (_,H)=>match(GQ (N.map (acw P H))).bind (VS P e M) with
    |U v=>if Y M==Y N then .aQ (JJ e M) v else .no ""
    |none=>.no ""
   |none=>.no ""
  |_,_=>.no ""
 |.fieldAddr G x f=>match X G,s.ev W x with
  |U ⟨.struct O,_,_⟩,.loc i V=>match O[f]? with
   |U (o,t)=>match X t with
    |U P=>if Y P.am==0 then .no "" else .ok (.loc i (V+o))
    |none=>.no ""
   |none=>.no ""
  |U ⟨.struct O,_,_⟩,.el r w i V=>match O[f]? with
   |U (o,t)=>match X t with
    |U P=>if Y P.am==0 then .no "" else .ok (.el r w i (V+o))
    |none=>.no ""
   |none=>.no ""
  |_,_=>.no ""
 |.field G x f=>match X G,s.ev W x with
  |U ⟨.struct O,_,_⟩,.agg l=>match O[f]? with
   |U (o,t)=>match X t with
    |U P=>match zj P l o with|U v=>.ok v|none=>.no ""
    |none=>.no ""
   |none=>.no ""
  |_,_=>.no ""
 |.indexAddr t x L=>match X t,s.ev W x,s.ev W L with
  |U ⟨.arr n e,_,_⟩,.loc i V,.int _ (.c m)=>match X e with
   |U R=>if decide (0<=m)&&decide (m<(n:Int)) then .ok (.loc i (V+m.toNat*Y R.am)) else .no ""
   |none=>.no ""
  |U ⟨.arr n e,_,_⟩,.el r w (.c i) V,.int _ m=>match X e with
   |U R=>if Y R.am==w&&i==0&&V==0&&Y R.am !=0 then .aQ (xw m (.c n)) (.el r w m 0) else
    match m with
    |.c m=>if decide (0<=m)&&decide (m<(n:Int)) then .ok (.el r w (.c i) (V+m.toNat*Y R.am)) else .no ""
    |_=>.no ""
   |none=>.no ""
  |U ⟨.arr n e,_,_⟩,.el r w i V,.int _ (.c m)=>match X e with
   |U R=>if decide (0<=m)&&decide (m<(n:Int)) then .ok (.el r w i (V+m.toNat*Y R.am)) else .no ""
   |none=>.no ""
  |U ⟨.slice e,_,_⟩,.ak r,.int _ m=>match X e,r.kind X s with|U R,.sl _=>.aQ (xw m (.len r)) (.el r (Y R.am) m 0)|_,_=>.no ""
  |U ⟨.slice e,_,_⟩,.iO i V B _,.int _ (.c m)=>match X e with
   |U R=>if decide (0<=m)&&decide (m<(B:Int)) then .ok (.loc i (V+m.toNat*Y R.am)) else .no ""
   |none=>.no ""
  |U ⟨.arr n e,_,_⟩,.loc i V,.int _ m=>match X e with|U R=>.aQ (xw m (.c n)) (.gp m (EB n) ((di n).map λj=>.loc i (V+j*Y R.am)))|none=>.no ""
  |_,_,_=>.no ""
 |.index t x L=>match X t,s.ev W x,s.ev W L with
  |U ⟨.arr n e,_,_⟩,.agg l,.int _ (.c m)=>match X e with
   |U R=>if decide (0<=m)&&decide (m<(n:Int)) then(match zj R l (m.toNat*Y R.am) with|U v=>.ok v|none=>.no "") else .no ""
   |none=>.no ""
  |U ⟨.arr n e,_,_⟩,.agg l,.int _ m=>match X e with
   |U R=>match(GQ ((di n).map λj=>zj R l (j*Y R.am))).bind (VS R m (EB n)) with|U v=>.aQ (xw m (.c n)) v|none=>.no ""
   |none=>.no ""
  |U ⟨.str,_,_⟩,.ak r,.int _ m=>match r.kind X s with|.str=>.aQ (xw m (.len r)) (.int .u8 (.oZ r m))|_=>.no ""
  |_,_,_=>.no ""
 |.binOp Q t x y _=>match s.ev W x,s.ev W y with
  |.int k a,.int A b=>
   if ale Q then(match b with
    |.c n=>if decide (0<=n) then .ok (.int k (GO Q k a (.c n))) else .no ""
    |b=>.aQ (.cmp .leq (.c 0) b) (.int k (GO Q k a b))) else
   if k≠A then .no "" else
   if VO Q then .ok (.bool (qY Q a b)) else
   if acq Q then .ok (.int k (GO Q k a b)) else
   if acr Q then(match b with
    |.c n=>if n==0 then .no "" else .ok (.int k (GO Q k a b))
    |_=>.aQ (qY .neq b (.c 0)) (.int k (GO Q k a b))) else .no ""
  |.bool a,.bool b=>match X t,Q with|U ⟨.one,[.bool],_⟩,.eql=>.ok (.bool (Q9 a b))|U ⟨.one,[.bool],_⟩,.neq=>.ok (.bool (GP (Q9 a b)))|_,_=>.no ""
  |.ak (.k .nilFunc),.ak (.k .nilFunc)=>if !Ra (X t) then .no "" else match Q with|.eql=>.ok (.bool (.c J))|.neq=>.ok (.bool (.c E))|_=>.no ""
  |.ak a,.ak b=>match a.kind X s,b.kind X s,Q with|.str,.str,.eql=>.ok (.bool (.seq a b))|.str,.str,.neq=>.ok (.bool (.not (.seq a b)))|_,_,_=>.no ""
  |.fn f _,.ak (.k .nilFunc)=>if !Ra (X t)|| !kq f 2000000 then .no "" else match Q with|.eql=>.ok (.bool (.c E))|.neq=>.ok (.bool (.c J))|_=>.no ""
  |.gp e M N,.ak (.k .nilFunc)=>if N.all Mx&&Y M==Y N&&Ra (X t) then(match Q with|.eql=>.ok (.bool (Ez e M N))|.neq=>.ok (.bool (GP (Ez e M N)))|_=>.no "") else .no ""
  |.agg a,.agg b=>match Q,Mw X s (X t) a b with|.eql,U e=>.ok (.bool e)|.neq,U e=>.ok (.bool (GP e))|_,_=>.no ""
  |_,_=>.no ""
 |.unOp Q _ x=>match Q,s.ev W x with|.not,.bool b=>.ok (.bool (GP b))|.neg,.int k e=>.ok (.int k (GO .sub k (.c 0) e))|_,_=>.no ""
 |.convert z u x=>match X z,X u,s.ev W x with|U ⟨.one,[.int _],_⟩,U ⟨.one,[.int k],_⟩,.int _ (.c n)=>.ok (.int k (.c (k.wrap n)))|U ⟨.one,[.int _],_⟩,U ⟨.one,[.int k],_⟩,.int _ e=>.ok (.int k (.conv k e))|_,_,_=>.no ""
 |.makeInterface t x=>match X t with
  |U ⟨.gH,_,_⟩=>.no ""
  |U _=>.ok (.gH t (s.ev W x))|none=>.no ""
 |.makeFunc g first bD=>match g,first.toList with
  |.func f,[]=>cond (kq f 1000000) (.ok (.fn f (bD.toList.map (s.ev W)))) (.no "")
  |.func f,[x]=>cond (kq f 1000000) (.ok (.fn (f+1000000) (s.ev W x::bD.toList.map (s.ev W)))) (.no "")
  |_,_=>.no ""
 |.extract x i=>match s.ev W x with
  |.bH l=>match l[i]? with|U v=>.ok v|none=>.no ""
  |_=>.no ""
 |.nilCheck x=>match s.ev W x with
  |.loc i V=>.ok (.loc i V)|.el r w i V=>.ok (.el r w i V)|.fn f bD=>cond (kq f 2000000) (.ok (.fn f bD)) (.no "")
  |_=>.no ""
 |.slice t x F D d=>match X t,s.ev W x,d with
  |U ⟨.arr n e,_,_⟩,.loc i V,Z=>match X e,F.map (s.ev W),D.map (s.ev W) with
   |U _,Z,Z=>.ok (.iO i V n n)|U R,U (.int _ (.c l)),Z=>if decide (0<=l)&&decide (l<(n:Int)) then .ok (.iO i (V+l.toNat*Y R.am) (n-l.toNat) (n-l.toNat)) else .no ""
   |_,_,_=>.no ""
  |U ⟨.slice e,_,_⟩,.ak r,U m=>match F,D.map (s.ev W),s.ev W m with
   |Z,U (.int I h),.int I q=>if r.isNil=J then(if h.aP (.c 0)&&q.aP (.c 0)&&(X e).isSome then .ok (.ak r) else .no "") else if r.kind X s=.sl e then(if h.aP (.len r)&&q.aP (.len r)&&(X e).isSome then .ok (.fn 3000000 [.ak r]) else .no "") else .no ""
   |_,_,_=>.no ""
  |_,_,_=>.no ""
 |.build t parts=>match X t with
  |U ⟨.struct O,am,q⟩=>if !(O.all λf=>(X f.2).isSome) then .no "" else match AL (acs X O) (eo ⟨.struct O,am,q⟩) (parts.toList.map λp=>(p.1,s.ev W p.2)) with|U l=>.ok (.agg l)|none=>.no ""
  |U ⟨.arr n e,am,q⟩=>match X e with
   |U R=>match AL (λi=>U (i*Y R.am,Y R.am)) (eo ⟨.arr n e,am,q⟩) (parts.toList.map λp=>(p.1,s.ev W p.2)) with|U l=>.ok (.agg l)|none=>.no ""
   |none=>.no ""
  |_=>.no ""
 |.call c=>match c.callee with
  |.builtin .len=>match c.argTypes.toList,c.args.toList.map (s.ev W) with
   |[t],[.ak (.k (.slice Z 0 0))]=>match X t with|U ⟨.slice _,_,_⟩=>.ok (.int I (.c 0))|_=>.no ""
   |[t],[.ak r]=>match X t,r.kind X s with|U ⟨.slice _,_,_⟩,.sl _=>.ok (.int I (.len r))|U ⟨.str,_,_⟩,.str=>.ok (.int I (.len r))|_,_=>.no ""
   |[t],[.iO _ _ n _]=>match X t with|U ⟨.slice _,_,_⟩=>.ok (.int I (.c n))|_=>.no ""
   |_,_=>.no ""
  |.builtin .min=>match c.args.toList.map (s.ev W) with
   |.int k x::r=>match JG E k x r with|U e=>.ok (.int k e)|none=>.no ""
   |_=>.no ""
  |.builtin .max=>match c.args.toList.map (s.ev W) with
   |.int k x::r=>match JG J k x r with|U e=>.ok (.int k e)|none=>.no ""
   |_=>.no ""
  |_=>.no ""
 |.lookup t x L ok=>match X t,s.ev W x with|U ⟨.map k e n ag,_,_⟩,.mp i=>VR X s k e n ag ok i (s.ev W L)|_,_=>.no ""
 |_=>.no ""
def Cp(X:nZ)(s:S):Op->cG
 |.load _ x=>match s.ev X x with|.loc i _=>U i|.gp _ _ W=>AM W|_=>Z
 |.lookup _ x _ _=>match s.ev X x with|.mp i=>U i|_=>Z
 |_=>Z
def alh:∀n:Nat,∃q,8^n=7*q+1
 |0=>⟨0,rfl⟩
 |n+1=>by
  obtain⟨q,h⟩:=alh n;exact⟨8*q+1,by rw[awm,h];omega⟩
def A3(n:Nat):Nat:=Nat.div (Nat.sub (Nat.pow 8 n) 1) 7
def ali(n:Nat):8^n=7*A3 n+1:=by
 obtain⟨q,h⟩:=alh n;have:A3 n=q:=by
  show(8^n-1)/7=q;rw[h];omega
 rw[this];exact h
def VT(n:Nat):A3 (n+1)=8*A3 n+1:=by
 have X:=ali n;have W:=ali (n+1);rw[awm,X] at W;omega
def alj:∀(n j:Nat),(A3 n).testBit j=(decide (j%3=0)&&decide (j/3<n))
 |0,j=>by simp[show A3 0=0 from rfl]|n+1,0=>by rw[VT,av6];simp;omega|n+1,1=>by rw[VT,VA,show(8*A3 n+1)/2=4*A3 n from ae,av6];simp;omega|n+1,2=>by rw[VT,VA,VA,show(8*A3 n+1)/2/2=2*A3 n from ae,av6];simp
 |n+1,j+3=>by
  rw[VT,VA,VA,VA,show(8*A3 n+1)/2/2/2=A3 n from ae,alj n j,Nat.add_mod_right,Nat.add_div_right _ ae];simp
def nG(X W V:Nat):Nat:=b9 (A3 X) (b9 (nC (A3 W) 1) (nC (A3 V) 2))
def acx(X W V j:Nat):(nG X W V).testBit j=if j%3=0 then decide (j/3<X) else if j%3=1 then decide (j/3<W) else decide (j/3<V):=by
 change(A3 X|||(A3 W<<<1|||A3 V<<<2)).testBit j=_;simp only[Jz,avR,alj];rw[Jy];simp only[lg,aC,dD];split;simp only[dD];omega;split;simp only[dD];omega;simp only[dD];omega
def Rc:jl (b9 R M) M=J<->∀j,R.testBit j=J->M.testBit j=true:=by
 rw[alb];constructor;intro h j X;have:(R|||M).testBit j=M.testBit j:=jY (λx=>Nat.testBit x j) h;rw[<-this,Jz,X,Bool.true_or];intro h;refine Nat.eq_of_testBit_eq λj=> ?_
 change(R|||M).testBit j=_;rw[Jz];cases W:R.testBit j with|true=>rw[h j W];rfl|false=>simp
def mh(a b A:Nat):jl (b9 (b9 a b) A) A=(jl (b9 a A) A&&jl (b9 b A) A):=by
 rw[Jy,aC,Rc,Rc,Rc];change(∀j,(a|||b).testBit j=J->_)<->_;simp only[Jz,lg];exact⟨λh=>⟨λj k=>h j (.inl k),λj k=>h j (.inr k)⟩,λh j k=>k.elim (h.1 j) (h.2 j)⟩
def acy(k A:Nat):jl (b9 (nC 1 k) A) A=A.testBit k:=by
 rw[Jy,Rc];change(∀j,(1<<<k).testBit j=J->_)<->_;simp only[av1,aI0,dD];exact⟨λh=>h k rfl,λh j e=>e▸h⟩
def JL(A:Nat):jl (b9 0 A) A=true:=Rc.2 λj h=>by simp at h
noncomputable def K.nH(e:K):Nat:=K.rec (motive_1:=λ_=>Nat) (motive_2:=λ_=>Nat) (motive_3:=λ_=>Nat) (λ_=>0) (λk=>nC 1 (3*k)) (λ_ _ _ _ a b=>b9 a b) (λ_ _ a=>a) (λ_ r=>r) (λ_ _ _ a b=>b9 a b) (λ_ _ _ b x y=>b9 (b9 b x) y) (λ_ _ _ r i=>b9 r i) (λ_ _ r i=>b9 r i) (λ_ _ _ _ _ _ r a b c=>b9 (b9 (b9 r a) b) c) (λ_=>0) (λk=>nC 1 (3*k+1)) (λ_ _ _ a b=>b9 a b) (λ_ a=>a) (λ_ _ a b=>b9 a b) (λ_ _ a b=>b9 a b) (λ_ _ _ b x y=>b9 (b9 b x) y) (λ_ _ _ r i=>b9 r i) (λ_ _ a b=>b9 a b) (λ_ _ _ _ _ _ r a b c=>b9 (b9 (b9 r a) b) c) (λ_ _ _ _ _ r a b c=>b9 (b9 (b9 r a) b) c) (λk=>nC 1 (3*k+2)) (λ_ _ _ _ r i=>b9 r i) (λ_=>0) e
noncomputable def BE.nH(e:BE):Nat:=BE.rec (motive_1:=λ_=>Nat) (motive_2:=λ_=>Nat) (motive_3:=λ_=>Nat) (λ_=>0) (λk=>nC 1 (3*k)) (λ_ _ _ _ a b=>b9 a b) (λ_ _ a=>a) (λ_ r=>r) (λ_ _ _ a b=>b9 a b) (λ_ _ _ b x y=>b9 (b9 b x) y) (λ_ _ _ r i=>b9 r i) (λ_ _ r i=>b9 r i) (λ_ _ _ _ _ _ r a b c=>b9 (b9 (b9 r a) b) c) (λ_=>0) (λk=>nC 1 (3*k+1)) (λ_ _ _ a b=>b9 a b) (λ_ a=>a) (λ_ _ a b=>b9 a b) (λ_ _ a b=>b9 a b) (λ_ _ _ b x y=>b9 (b9 b x) y) (λ_ _ _ r i=>b9 r i) (λ_ _ a b=>b9 a b) (λ_ _ _ _ _ _ r a b c=>b9 (b9 (b9 r a) b) c) (λ_ _ _ _ _ r a b c=>b9 (b9 (b9 r a) b) c) (λk=>nC 1 (3*k+2)) (λ_ _ _ _ r i=>b9 r i) (λ_=>0) e
noncomputable def RE.nH(e:RE):Nat:=RE.rec (motive_1:=λ_=>Nat) (motive_2:=λ_=>Nat) (motive_3:=λ_=>Nat) (λ_=>0) (λk=>nC 1 (3*k)) (λ_ _ _ _ a b=>b9 a b) (λ_ _ a=>a) (λ_ r=>r) (λ_ _ _ a b=>b9 a b) (λ_ _ _ b x y=>b9 (b9 b x) y) (λ_ _ _ r i=>b9 r i) (λ_ _ r i=>b9 r i) (λ_ _ _ _ _ _ r a b c=>b9 (b9 (b9 r a) b) c) (λ_=>0) (λk=>nC 1 (3*k+1)) (λ_ _ _ a b=>b9 a b) (λ_ a=>a) (λ_ _ a b=>b9 a b) (λ_ _ a b=>b9 a b) (λ_ _ _ b x y=>b9 (b9 b x) y) (λ_ _ _ r i=>b9 r i) (λ_ _ a b=>b9 a b) (λ_ _ _ _ _ _ r a b c=>b9 (b9 (b9 r a) b) c) (λ_ _ _ _ _ r a b c=>b9 (b9 (b9 r a) b) c) (λk=>nC 1 (3*k+2)) (λ_ _ _ _ r i=>b9 r i) (λ_=>0) e
noncomputable def K.bd(X W V:Nat)(e:K):Bool:=jl (b9 e.nH (nG X W V)) (nG X W V)
noncomputable def BE.bd(X W V:Nat)(e:BE):Bool:=jl (b9 e.nH (nG X W V)) (nG X W V)
noncomputable def RE.bd(X W V:Nat)(e:RE):Bool:=jl (b9 e.nH (nG X W V)) (nG X W V)
def awu(X W V k:Nat):(nG X W V).testBit (3*k)=decide (k<X):=by
 rw[acx,aH ae,show 3*k/3=k from ae]
def awv(W X V k:Nat):(nG W X V).testBit (3*k+1)=decide (k<X):=by
 rw[acx,aS ae,aH ae,show(3*k+1)/3=k from ae]
def aww(W V X k:Nat):(nG W V X).testBit (3*k+2)=decide (k<X):=by
 rw[acx,aS ae,aS ae,show(3*k+2)/3=k from ae]
theorem K.bj:(∀n,K.bd R M h (.c n)=J)/\(∀k,K.bd R M h (.v k)=decide (k<R))/\(∀o k a b,K.bd R M h (.bin o k a b)=(K.bd R M h a&&K.bd R M h b))/\(∀k a,K.bd R M h (.conv k a)=(K.bd R M h a))/\(∀r,K.bd R M h (.len r)=(RE.bd R M h r))/\(∀m a b,K.bd R M h (.mm m a b)=(K.bd R M h a&&K.bd R M h b))/\(∀b x y,K.bd R M h (.dt b x y)=(BE.bd R M h b&&K.bd R M h x&&K.bd R M h y))/\(∀r i j,K.bd R M h (.cell r i j)=(RE.bd R M h r&&K.bd R M h i))/\(∀r i,K.bd R M h (.oZ r i)=(RE.bd R M h r&&K.bd R M h i))/\(∀r n a b c j,K.bd R M h (.look r n a b c j)=(RE.bd R M h r&&K.bd R M h a&&K.bd R M h b&&K.bd R M h c)):=⟨λ_=>JL _,λ_=>(acy _ _).trans (awu _ _ _ _),λ_ _ _ _=>mh _ _ _,λ_ _=>rfl,λ_=>rfl,λ_ _ _=>mh _ _ _,λ_ _ _=>(mh _ _ _).trans (jY (· &&_) (mh _ _ _)),λ_ _ _=>mh _ _ _,λ_ _=>mh _ _ _,λ_ _ _ _ _ _=>(mh _ _ _).trans (jY (· &&_) ((mh _ _ _).trans (jY (· &&_) (mh _ _ _))))⟩
theorem BE.bj:(∀n,BE.bd R M h (.c n)=J)/\(∀k,BE.bd R M h (.v k)=decide (k<M))/\(∀o a b,BE.bd R M h (.cmp o a b)=(K.bd R M h a&&K.bd R M h b))/\(∀a,BE.bd R M h (.not a)=(BE.bd R M h a))/\(∀a b,BE.bd R M h (.and a b)=(BE.bd R M h a&&BE.bd R M h b))/\(∀a b,BE.bd R M h (.beq a b)=(BE.bd R M h a&&BE.bd R M h b))/\(∀b x y,BE.bd R M h (.dt b x y)=(BE.bd R M h b&&BE.bd R M h x&&BE.bd R M h y))/\(∀r i j,BE.bd R M h (.cell r i j)=(RE.bd R M h r&&K.bd R M h i))/\(∀a b,BE.bd R M h (.seq a b)=(RE.bd R M h a&&RE.bd R M h b))/\(∀r n a b c j,BE.bd R M h (.look r n a b c j)=(RE.bd R M h r&&K.bd R M h a&&K.bd R M h b&&K.bd R M h c))/\(∀r n a b c,BE.bd R M h (.has r n a b c)=(RE.bd R M h r&&K.bd R M h a&&K.bd R M h b&&K.bd R M h c)):=⟨λ_=>JL _,λ_=>(acy _ _).trans (awv _ _ _ _),λ_ _ _=>mh _ _ _,λ_=>rfl,λ_ _=>mh _ _ _,λ_ _=>mh _ _ _,λ_ _ _=>(mh _ _ _).trans (jY (· &&_) (mh _ _ _)),λ_ _ _=>mh _ _ _,λ_ _=>mh _ _ _,λ_ _ _ _ _ _=>(mh _ _ _).trans (jY (· &&_) ((mh _ _ _).trans (jY (· &&_) (mh _ _ _)))),λ_ _ _ _ _=>(mh _ _ _).trans (jY (· &&_) ((mh _ _ _).trans (jY (· &&_) (mh _ _ _))))⟩
theorem RE.bj:(∀k,RE.bd R M h (.v k)=decide (k<h))/\(∀r i j k,RE.bd R M h (.cell r i j k)=(RE.bd R M h r&&K.bd R M h i))/\(∀v,RE.bd R M h (.k v)=J):=⟨λ_=>(acy _ _).trans (aww _ _ _ _),λ_ _ _ _=>mh _ _ _,λ_=>JL _⟩
noncomputable def C.nH(v:C):Nat:=C.rec (motive_1:=λ_=>Nat) (motive_2:=λ_=>Nat) (λ_ e=>e.nH) (λb=>b.nH) (λr=>r.nH) (λ_ _=>0) (λr _ i _=>b9 r.nH i.nH) (λ_ _ _ _=>0) (λ_ l=>l) (λ_ l=>l) (λ_ _ l=>l) (λ_ _ x=>x) (λ_=>0) 0 (λ_=>0) (λe _ _ l=>b9 e.nH l) 0 (λ_ _ a b=>b9 a b) v
noncomputable def C.My(l:aq):Nat:=C.rec_1 (motive_1:=λ_=>Nat) (motive_2:=λ_=>Nat) (λ_ e=>e.nH) (λb=>b.nH) (λr=>r.nH) (λ_ _=>0) (λr _ i _=>b9 r.nH i.nH) (λ_ _ _ _=>0) (λ_ l=>l) (λ_ l=>l) (λ_ _ l=>l) (λ_ _ x=>x) (λ_=>0) 0 (λ_=>0) (λe _ _ l=>b9 e.nH l) 0 (λ_ _ a b=>b9 a b) l
noncomputable def C.Cq(v:C):Nat:=C.rec (motive_1:=λ_=>Nat) (motive_2:=λ_=>Nat) (λ_ _=>0) (λ_=>0) (λ_=>0) (λi _=>nC 1 i) (λ_ _ _ _=>0) (λi _ _ _=>nC 1 i) (λ_ l=>l) (λ_ l=>l) (λ_ _ l=>l) (λ_ _ x=>x) (λ_=>0) 0 (λi=>nC 1 i) (λ_ _ _ l=>l) 0 (λ_ _ a b=>b9 a b) v
noncomputable def C.JM(l:aq):Nat:=C.rec_1 (motive_1:=λ_=>Nat) (motive_2:=λ_=>Nat) (λ_ _=>0) (λ_=>0) (λ_=>0) (λi _=>nC 1 i) (λ_ _ _ _=>0) (λi _ _ _=>nC 1 i) (λ_ l=>l) (λ_ l=>l) (λ_ _ l=>l) (λ_ _ x=>x) (λ_=>0) 0 (λi=>nC 1 i) (λ_ _ _ l=>l) 0 (λ_ _ a b=>b9 a b) l
noncomputable def C.Mz(X:Nat->Bool)(v:C):Bool:=C.rec (motive_1:=λ_=>Bool) (motive_2:=λ_=>Bool) (λ_ _=>J) (λ_=>J) (λ_=>J) (λi _=>X i) (λ_ _ _ _=>J) (λi _ _ _=>X i) (λ_ l=>l) (λ_ l=>l) (λ_ _ l=>l) (λ_ _ x=>x) (λ_=>J) J (λi=>X i) (λ_ _ _ l=>l) J (λ_ _ a b=>a&&b) v
noncomputable def C.MA(X:Nat->Bool)(l:aq):Bool:=C.rec_1 (motive_1:=λ_=>Bool) (motive_2:=λ_=>Bool) (λ_ _=>J) (λ_=>J) (λ_=>J) (λi _=>X i) (λ_ _ _ _=>J) (λi _ _ _=>X i) (λ_ l=>l) (λ_ l=>l) (λ_ _ l=>l) (λ_ _ x=>x) (λ_=>J) J (λi=>X i) (λ_ _ _ l=>l) J (λ_ _ a b=>a&&b) l
noncomputable def C.bd(X W V:Nat)(R:Nat->Bool)(v:C):Bool:=Mu (motive:=λ_=>Bool) E (Mu (motive:=λ_=>Bool) (v.Mz R) J (jl v.Cq 0)) (jl (b9 v.nH (nG X W V)) (nG X W V))
def C.alk(X W V:Nat)(R:Nat->Bool)(v:C):C.bd X W V R v=(jl (b9 v.nH (nG X W V)) (nG X W V)&&(jl v.Cq 0||v.Mz R)):=by
 unfold C.bd;cases jl (b9 v.nH (nG X W V)) (nG X W V)<;>cases jl v.Cq 0<;>rfl
noncomputable def C.dP(X W V:Nat)(R:Nat->Bool)(l:aq):Bool:=AJ (motive:=λ_=>Bool) J (λx _ Q=>Mu (motive:=λ_=>Bool) E Q (C.bd X W V R x)) l
def C.iX{X:Nat->Bool}:(C.dP R M h X []=J)/\(∀x W,C.dP R M h X (x::W)=(C.bd R M h X x&&C.dP R M h X W)):=⟨rfl,λx W=>by
 show Mu (motive:=λ_=>Bool) E (C.dP R M h X W) (C.bd R M h X x)=_;cases C.bd R M h X x<;>rfl⟩
def alm:jl (b9 R M) 0=(jl R 0&&jl M 0):=by
 rw[Jy,aC,alb,alb,alb];exact Nat.or_eq_zero_iff
def VU(i:Nat):jl (nC 1 i) 0=false:=by
 have:nC 1 i≠0:=by
  change 1<<<i≠0;rw[av1];exact Nat.ne_of_gt (Nat.two_pow_pos i)
 cases h:jl (nC 1 i) 0 with|false=>rfl|true=>exact bF (aIT h) this
mutual
def acz(X:Nat->Bool):∀v:C,jl v.Cq 0=J->v.Mz X=J
 |.int _ _,_=>rfl|.bool _,_=>rfl|.ak _,_=>rfl|.loc i _,h=>by rw[show(C.loc i _).Cq=nC 1 i from rfl,VU] at h;cases h|.el _ _ _ _,_=>rfl|.iO i _ _ _,h=>by rw[show(C.iO i _ _ _).Cq=nC 1 i from rfl,VU] at h;cases h|.agg l,h=>MB X l h|.bH l,h=>MB X l h|.fn _ l,h=>MB X l h|.gH _ x,h=>acz X x h|.yl _,_=>rfl|.any,_=>rfl|.mp i,h=>by rw[show(C.mp i).Cq=nC 1 i from rfl,VU] at h;cases h|.gp _ _ l,h=>MB X l h
def MB(X:Nat->Bool):∀l:aq,jl (C.JM l) 0=J->C.MA X l=J
 |[],_=>rfl
 |x::W,h=>by
  rw[show C.JM (x::W)=b9 x.Cq (C.JM W) from rfl,alm,aC] at h;show(x.Mz X&&C.MA X W)=J;rw[acz X x h.1,MB X W h.2];rfl
end
def Re(V R Q:Nat)(W:Nat->Bool):∀l:aq,(jl (b9 (C.My l) (nG V R Q)) (nG V R Q)&&(jl (C.JM l) 0||C.MA W l))=C.dP V R Q W l
 |[]=>by rw[show C.My []=0 from rfl,JL];rfl
 |x::X=>by
  rw[C.iX.2,<-Re V R Q W X,C.alk,show C.My (x::X)=b9 x.nH (C.My X) from rfl,show C.JM (x::X)=b9 x.Cq (C.JM X) from rfl,mh,alm,show C.MA W (x::X)=(x.Mz W&&C.MA W X) from rfl];have P:=acz W x;have O:=MB W X;cases N:jl x.Cq 0<;>cases M:jl (C.JM X) 0<;>cases L:x.Mz W<;>cases H:C.MA W X<;>cases jl (b9 x.nH (nG V R Q)) (nG V R Q)<;>cases jl (b9 (C.My X) (nG V R Q)) (nG V R Q)<;>simp_all
theorem C.bj{X:Nat->Bool}:(∀k e,C.bd R M h X (.int k e)=e.bd R M h)/\(∀b,C.bd R M h X (.bool b)=b.bd R M h)/\(∀r,C.bd R M h X (.ak r)=r.bd R M h)/\(∀i o,C.bd R M h X (.loc i o)=X i)/\(∀i a b c,C.bd R M h X (.iO i a b c)=X i)/\(∀r w i o,C.bd R M h X (.el r w i o)=(r.bd R M h&&i.bd R M h))/\(∀l,C.bd R M h X (.agg l)=C.dP R M h X l)/\(∀l,C.bd R M h X (.bH l)=C.dP R M h X l)/\(∀f l,C.bd R M h X (.fn f l)=C.dP R M h X l)/\(∀t x,C.bd R M h X (.gH t x)=C.bd R M h X x)/\(∀n,C.bd R M h X (.yl n)=J)/\(C.bd R M h X .any=J)/\(∀i,C.bd R M h X (.mp i)=X i)/\(∀e P Q,C.bd R M h X (.gp e P Q)=(e.bd R M h&&C.dP R M h X Q)):=by
 have W:∀b:Bool,(b&&(jl 0 0||J))=b:=λb=>by cases b<;>rfl
 have V:∀i,(jl (b9 0 (nG R M h)) (nG R M h)&&(jl (nC 1 i) 0||X i))=X i:=λi=>by rw[JL,VU];rfl
 simp only[C.alk];refine⟨λ_ _=>W _,λ_=>W _,λ_=>W _,λ_ _=>V _,λ_ _ _ _=>V _,λr _ i _=> ?_,λl=>Re _ _ _ _ l,λl=>Re _ _ _ _ l,λ_ l=>Re _ _ _ _ l,λ_ _=>rfl,λ_=>(W _).trans (JL _),(W _).trans (JL _),λ_=>V _,λe _ l=> ?_⟩;exact(W _).trans (mh _ _ _);rw[<-Re];show(jl (b9 (b9 e.nH (C.My l)) _) _&&_)=_;rw[mh,awi];rfl
def C.rQ(X W V:Nat)(R:Nat->Bool):bm->Bool
 |[]=>J|U x::Q=>C.dP X W V R x.2&&C.rQ X W V R Q|Z::Q=>C.rQ X W V R Q
def aJ(l:bm)(i:Nat):Bool:=(bP l i).isSome
def S.bd(s:S):Bool:=C.dP s.ni s.nb (Y s.rs) (aJ s.au) s.tmps&&C.rQ s.ni s.nb (Y s.rs) (aJ s.au) s.au
def S.eV(s:S)(l:aq):Bool:=s.bd&&C.dP s.ni s.nb (Y s.rs) (aJ s.au) l
structure fF where
 tm:List (Nat×LK)
 cl:List (Nat×Nat×LK)
inductive awx where
 |awy
 |inv (a:fF)
inductive FK where
 |box
 |slot (t:Nat) (vs:List Int)
 |cell (b j:Nat) (vs:bA)
inductive LB where
 |no
 |ro (t:TypeId)
 |rw(t:TypeId)
 |st (t:TypeId) (cs:aq)
structure sO where
 v:FuncId
 n:Nat
 ps:iW
 bD:aq
 bx:List LB
structure bv where
 ty:Ty
 gl:nZ
 inl:FuncId->Option (Code×Nat×nF)
 sig:FuncId->me
 loop:FuncId->Nat->awx
 aln:TypeId:=3
 zl:FuncId->FuncId->Option (TypeId×bu×Bool):=λ_ _=>Z
 jA:Bool:=E
 JN:FuncId->Nat->Bool:=λ_ _=>E
 frk:FuncId->Nat->Option FK:=λ_ _=>Z
 lay:FuncId->Option sO:=λ_=>Z
def S.fresh(s:S):LK->C×S
 |.int k=>(.int k (.v s.ni),{s with ni:=s.ni+1})
 |.bool=>(.bool (.v s.nb),{s with nb:=s.nb+1})
 |.ak e=>(.ak (.v (Y s.rs)),{s with rs:=s.rs++[e]})
def vG:CT->LK
 |.int k=>.int k|.bool=>.bool|.bw _ k=>.ak k
def S.bU(s:S):aL->aq×S
 |[]=>([],s)|k::X=>let r:=s.fresh k;let q:=r.2.bU X;(r.1::q.1,q.2)
def zm(W:Ty):iW->aq->Ew
 |[],_=>U []
 |t::V,l=>match W t with
  |U X=>match zm W V (l.drop (Y X.am)) with|U r=>U ((if X.d.isAgg then .agg (l.take (Y X.am)) else l.getD 0 .any)::r)|none=>Z
  |none=>Z
def fH(X:Ty):iW->Option aL
 |[]=>U []
 |t::W=>match X t,fH X W with|U V,U r=>U (V.am.map vG++r)|_,_=>Z
def one(l:aq):C:=match l with|[v]=>v|l=>.bH l
def Code.pM:Code->ar
 |.region _ X _=>X.toList.filterMap (·.dst)|.seq a b=>Code.pM a++Code.pM b|.cond _ a b=>Code.pM a++Code.pM b|.block _ c=>Code.pM c|.loop c=>Code.pM c|.scope c=>Code.pM c|.rangeFunc _ W a b=>W.toList++Code.pM a++Code.pM b|_=>[]
def Code.first:Code->cG
 |.region id _ _=>U id
 |.seq a b=>match Code.first a with|U i=>U i|none=>Code.first b
 |.cond _ a b=>match Code.first a with|U i=>U i|none=>Code.first b
 |.block _ c=>Code.first c|.loop c=>Code.first c|.scope c=>Code.first c|_=>Z
mutual
def C.JO:C->ar
 |.loc i _=>[i]|.iO i _ _ _=>[i]|.agg l=>C.qj l|.bH l=>C.qj l|.fn _ l=>C.qj l|.gH _ x=>C.JO x|.mp i=>[i]|.gp _ _ X=>C.qj X|_=>[]
def C.qj:aq->ar
 |[]=>[]|x::X=>C.JO x++C.qj X
end
def sP(X:ar):Nat->bm->bm
 |_,[]=>[]|n,x::W=>(if X.contains n then x else Z)::sP X (n+1) W
def uu:bm->bm
 |[]=>[]
 |x::X=>match x,uu X with|Z,[]=>[]|x,r=>x::r
def C.eY:C->Bool
 |.any=>J|_=>E
inductive Cr where
 |fn (g:FuncId)
 |yl (n:Nat)
abbrev ql:=Cr->aq->S->(C->S->T)->(C->S->T)->T
abbrev YH:=Nat->aq->S->(C->S->T)->(C->S->T)->T
def iC:YH:=λ_ _ _ _ _=>.stuck ""
structure OM where
 o:Oper
 ix:Nat
 bM:Bool
 j:Nat
 dr:Bool
 so:Bool
abbrev cQ:=List OM
inductive OR where
 |ok (s:S)
 |aQ (b:BE) (s:S)
 |split(b:BE) (s1 s2:S)
 |no (why:String)
def RE.fits(X:Ty)(s:S)(k:RK)(r:RE):Bool:=match k with|.sl e=>decide (r.kind X s=.sl e)||r.isNil|.str=>decide (r.kind X s=.str)|_=>E
def uv(X:Ty)(s:S):CT->C->Bool
 |.int k,.int W _=>decide (k=W)|.bool,.bool _=>J|.bw _ k,.ak r=>r.fits X s k|_,_=>E
def nJ(X:Ty)(s:S):eL->aq->Bool
 |[],[]=>J|c::W,v::V=>uv X s c v&&nJ X s W V|_,_=>E
def oE(X:Ty)(s:S)(am:eL):ze->Bool
 |[]=>J|r::W=>nJ X s am r&&oE X s am W
def jZ(w:Nat):Nat->aq->ze
 |0,_=>[]|n+1,l=>l.take w::jZ w n (l.drop w)
def LE.bd(X W V:Nat):LE->Bool
 |.ak r=>r.bd X W V|.lit l=>l.all (C.dP X W V λ_=>E)|.iB a b=>LE.bd X W V a&&LE.bd X W V b|.xt n Q=>n.bd X W V&&C.dP X W V (λ_=>E) Q|.set a i _ R=>LE.bd X W V a&&i.bd X W V&&C.dP X W V (λ_=>E) R|.sub a P O=>LE.bd X W V a&&P.bd X W V&&O.bd X W V|.ins a _ R=>LE.bd X W V a&&C.dP X W V (λ_=>E) R
def RE.root:RE->cG
 |.v n=>U n|.cell r _ _ _=>r.root|.k _=>Z
mutual
def C.acA:C->ar
 |.ak r=>r.root.toList|.el r _ _ _=>r.root.toList|.agg l=>C.qm l|.bH l=>C.qm l|.fn _ l=>C.qm l|.gH _ x=>C.acA x|.gp _ _ X=>C.qm X|_=>[]
def C.qm:aq->ar
 |[]=>[]|x::X=>C.acA x++C.qm X
end
def AN(b:Bool):RK->RK
 |.own e=>if b then .sl e else .own e|x=>x
def Rf(b:Bool):RK->RK
 |.own e=>if b then .sl e else .aR|x=>x
def kV(X:ar):Nat->bo->bo
 |_,[]=>[]|n,x::W=>AN (X.contains n) x::kV X (n+1) W
def jB(X:ar):Nat->bo->bo
 |_,[]=>[]|n,x::W=>(if X.contains n then .aR else x)::jB X (n+1) W
def EC(X:ar):Nat->bo->bo
 |_,[]=>[]|n,x::W=>Rf (X.contains n) x::EC X (n+1) W
mutual
def C.iD(k n:Nat):C->C
 |.ak (.v j)=>if j==k then .ak (.v n) else .ak (.v j)|.el (.v j) w i o=>if j==k then .el (.v n) w i o else .el (.v j) w i o|.agg l=>.agg (C.qn k n l)|.bH l=>.bH (C.qn k n l)|.fn f l=>.fn f (C.qn k n l)|.gH t x=>.gH t (C.iD k n x)|.gp e X W=>.gp e X (C.qn k n W)|v=>v
def C.qn(k n:Nat):aq->aq
 |[]=>[]|x::X=>C.iD k n x::C.qn k n X
end
def vH(k n:Nat):bm->bm
 |[]=>[]|Z::X=>Z::vH k n X|U (t,W)::X=>U (t,if mQ t then W else C.qn k n W)::vH k n X
def S.iD(s:S)(k n:Nat):S:={s with tmps:=C.qn k n s.tmps,au:=vH k n s.au}
structure BI where
 aQ:BE
 e:TypeId
 x:LE
 s:S
def MC:Int:=536870912
def JP(n:K):BE:=qY .leq n (.c MC)
def sQ(Q:Ty)(s:S)(e:TypeId)(X:TI):C->Option (LE×BE×ar)
 |.ak r=>if r.isNil then U (.lit [],.c J,[]) else if r.kind Q s=.sl e then U (.ak r,JP (.len r),[]) else Z
 |.iO i V W _=>match mR s.au i with|U (_,R)=>if oE Q s X.am (jZ (Y X.am) W (zi R V (W*Y X.am)))&&decide (V+W*Y X.am<=Y R)&&decide ((W:Int)<=MC) then U (.lit (jZ (Y X.am) W (zi R V (W*Y X.am))),.c J,C.qm (zi R V (W*Y X.am))) else Z|none=>Z
 |_=>Z
def xx(X:Ty)(s:S)(e:TypeId)(bM:Bool):C->Option (LE×BE×ar)
 |.ak (.v k)=>if s.rs[k]?=U (.own e)/\ !(bM&&s.lk.testBit (2*k+1)) then U (.ak (.v k),JP (.len (.v k)),[k]) else Z|.ak r=>if r.isNil then U (.lit [],.c J,[]) else Z|.iO _ _ 0 0=>U (.lit [],.c J,[])|.fn 3000000 [.ak r]=>if r.kind X s=.sl e then U (.ak r,JP (.len r),[]) else Z|_=>Z
def acB:C->LE->Bool
 |.fn _ _,.lit (_::_)=>J|.fn _ _,_=>E|_,_=>J
def kW(s:S)(d:cG)(aQ:BE)(e:TypeId)(k:RK)(x:LE)(X dj:ar):Option BI:=
 if s.bd&&X.all (λk=> !dj.contains k)&&LE.bd s.ni s.nb (Y s.rs) x&&aQ.bd s.ni s.nb (Y s.rs) then U ⟨aQ,e,x,{s with rs:=kV dj 0 (jB X 0 s.rs)++[k]}.put d (.ak (.v (Y s.rs)))⟩ else Z
def eW(X:bv)(o:Oper)(bM R:Bool)(s:S):Option BI:=match o.op with
 |.call c=>match c.callee with
  |.builtin .append=>match c.argTypes.toList,c.args.toList.map (s.ev X.gl) with
   |[t,O],[x,y]=>match X.ty t,X.ty O with
    |U ⟨.slice e,_,_⟩,U ⟨.slice N,_,_⟩=>match X.ty e with
     |U W=>if e≠N\/Y W.am=0 then Z else match xx X.ty s e bM x,sQ X.ty s e W y with|U (a,M,L),U (b,H,dj)=>if !acB x b then Z else kW s o.dst (xu M H) e (.own e) (.iB a b) L dj|_,_=>Z
     |none=>Z
    |_,_=>Z
   |_,_=>Z
  |_=>Z
 |.makeSlice t n m=>match X.ty t,s.ev X.gl n,s.ev X.gl m with
  |U ⟨.slice e,_,_⟩,.int I n,.int I m=>match X.ty e with|U W=>if n.aP m&&oE X.ty s W.am [eo W]&&Y W.am !=0 then kW s o.dst (xu (qY .leq (.c 0) n) (JP n)) e (.own e) (.xt n (eo W)) [] [] else Z|none=>Z
  |_,_,_=>Z
 |.buildSlice t V parts=>if R|| !X.jA then Z else match X.ty t with
  |U ⟨.slice e,_,_⟩=>match X.ty e with
   |U W=>match AL (λi=>U (i*Y W.am,Y W.am)) (zk V (eo W)) (parts.toList.map λp=>(p.1,s.ev X.gl p.2)) with|U l=>if(Y l==V*Y W.am&&oE X.ty s W.am (jZ (Y W.am) V l)&&Y W.am !=0&&decide ((V:Int)<=MC)&&decide (V*Y W.am<=16777216)&& !(parts.toList.any λp=>(s.ev X.gl p.2).eY)) then kW s o.dst (.c J) e (.own e) (.lit (jZ (Y W.am) V l)) [] (C.qm l) else Z|none=>Z
   |none=>Z
  |_=>Z
 |.slice t x G F D=>if R then Z else match X.ty t,s.ev X.gl x,D.map (s.ev X.gl),F.map (s.ev X.gl),G.map (s.ev X.gl) with
  |U ⟨.slice e,_,_⟩,.ak r,U (.int _ (.c 0)),U (.int _ (.c 0)),Z=>match X.ty e with|U _=>if r.kind X.ty s=.sl e\/r.isNil then kW s o.dst (.c J) e (.own e) (.lit []) [] [] else Z|none=>Z
  |U ⟨.slice e,_,_⟩,.ak r,Z,U (.int I h),U (.int I l)=>match X.ty e with|U _=>if r.kind X.ty s=.sl e then kW s o.dst (xu (qY .leq (.c 0) l) (xu (qY .leq l h) (qY .leq h (.len r)))) e (.sl e) (.sub (.ak r) l h) [] r.root.toList else Z|none=>Z
  |U ⟨.slice e,_,_⟩,.ak r,Z,U (.int I h),Z=>match X.ty e with|U _=>if r.kind X.ty s=.sl e then kW s o.dst (xu (qY .leq (.c 0) h) (qY .leq h (.len r))) e (.sl e) (.sub (.ak r) (.c 0) h) [] r.root.toList else Z|none=>Z
  |U ⟨.slice e,_,_⟩,.ak r,Z,Z,U (.int I l)=>match X.ty e with|U _=>if r.kind X.ty s=.sl e then kW s o.dst (xu (qY .leq (.c 0) l) (qY .leq l (.len r))) e (.sl e) (.sub (.ak r) l (.len r)) [] r.root.toList else Z|none=>Z
  |_,_,_,_,_=>Z
 |.store t a x=>if R then Z else match X.ty t,s.ev X.gl a with
  |U Q,.el (.v k) w i P=>match s.rs[k]? with
   |U (.own e)=>match X.ty e with
    |U W=>if(Y W.am==w&&(s.ev X.gl x).cells.length==Y Q.am&&decide (P+Y Q.am<=w)&&nJ X.ty s ((W.am.drop P).take (Y Q.am)) (s.ev X.gl x).cells&&(s.ev X.gl x).JF) then
      (kW s Z (xw i (.len (.v k))) e (.own e) (.set (.ak (.v k)) i P (s.ev X.gl x).cells) [k] (C.qm (s.ev X.gl x).cells)).map λb=>{b with s:=(b.s.iD k (Y s.rs)).put o.dst (.bH [])} else Z
    |none=>Z
   |_=>Z
  |_,_=>Z
 |_=>Z
def S.cX(s:S)(n:Nat)(t:TypeId)(X:aq):S:={s with au:=s.au.set n (U (t,X))}
def Rg(bM:Bool):C->Nat
 |.loc i _=>if bM then 1<<<(2*i) else 0
 |.el r _ _ _=>if bM then(match r.root with|U k=>1<<<(2*k+1)|none=>0) else 0
 |.gp _ _ X=>if bM then(match AM X with|U i=>1<<<(2*i)|none=>0) else 0
 |_=>0
def S.dE(s:S)(d:cG)(v:C)(l:Nat):S:={s with lk:=s.lk|||l}.put d v
def xz(s:S)(d:cG)(l:Nat):PR->OR
 |.ok v=>.ok (s.dE d v l)|.aQ b v=>if b.bd s.ni s.nb (Y s.rs) then .aQ b (s.dE d v l) else .no ""
 |.no w=>.no w
def gr(l:bm)(n:Nat):Bool:=match l[n]? with|U Z=>J|_=>E
def qZ(l:bm)(n:Nat)(t:TypeId):Bool:=gr l n&& !mQ t
def gI(X:bv)(m:OM)(s:S):OR:=
 if m.o.op.operands.toList.any λx=>(s.ev X.gl x).eY then .no (""++toString m.j++ ""++toString m.o.dst) else
 match m.o.op with
 |.alloc t=>match X.ty t with
  |U W=>if s.eV (eo W)&&qZ s.au m.ix t then .ok ((s.cX m.ix t (eo W)).put m.o.dst (.loc m.ix 0)) else .no ""
  |none=>.no ""
 |.box t x=>match X.ty t with
  |U W=>if(s.ev X.gl x).cells.length==Y W.am&&s.eV (s.ev X.gl x).cells&&(s.ev X.gl x).JF&&qZ s.au m.ix t then .ok ((s.cX m.ix t (s.ev X.gl x).cells).put m.o.dst (.loc m.ix 0)) else .no ""
  |none=>.no ""
 |.buildSlice t V parts=>match X.ty t with
  |U ⟨.slice e,_,_⟩=>match X.ty e with
   |U R=>match AL (λi=>U (i*Y R.am,Y R.am)) (zk V (eo R)) (parts.toList.map λp=>(p.1,s.ev X.gl p.2)) with
    |U l=>if s.eV l&&decide (V*Y R.am<=16777216)&&qZ s.au m.ix e then .ok ((s.cX m.ix e l).put m.o.dst (.iO m.ix 0 V V)) else .no ""
    |none=>.no ""
   |none=>.no ""
  |_=>.no ""
 |.store t a x=>match X.ty t,s.ev X.gl a with
  |U W,.loc i Q=>match mR s.au i with
   |U (O,P)=>if(s.ev X.gl x).cells.length==Y W.am&&decide (Q+(s.ev X.gl x).cells.length<=Y P)&&GN (s.ev X.gl x).cells&&(s.ev X.gl x).JF&& !(m.bM&&s.lk.testBit (2*i)) then .ok ((s.cX i O (mg P Q (s.ev X.gl x).cells)).put m.o.dst (.bH [])) else .no ""
   |none=>.no ""
  |_,_=>.no ""
 |.pick c x y=>match s.ev X.gl c with|.bool b=>.split b (s.put m.o.dst (s.ev X.gl x)) (s.put m.o.dst (s.ev X.gl y))|_=>.no ""
 |.load t a=>xz s m.o.dst (Rg m.bM (s.ev X.gl a)) (cw X.ty X.gl s (.load t a))|op=>xz s m.o.dst 0 (cw X.ty X.gl s op)
inductive MR where
 |ok (s:S)
 |ah (k:RK) (x:LE) (s:S)
def JQ(X:TI)(n:Nat)(W:Bool):TypeId×aq:=if X.am.all n7&&Y X.am !=0 then(xq,[.ak (.k (.slice Z 0 0)),.int I (.c n),.bool (.c W),.bool (.c X.d.isAgg)]) else(vF,[])
def S.AO(s:S)(b:TypeId×aq):S:={s with au:=s.au++[U b]}
def Cs(V:bv)(s:S)(k e:TypeId)(n:Nat)(W:Bool)(X:TI):aq->Option RE
 |[.ak r,.int I (.c R),.bool (.c Q),.bool (.c P)]=>if r.pL V.ty s ⟨k,e,n,W,X.d.isAgg⟩&&R==(n:Int)&&Q==W&&P==X.d.isAgg&&X.am.all n7 then U r else Z|_=>Z
def GR(V:bv)(d:cG)(s:S)(t:TypeId)(O R v:C):Option MR:=match V.ty t,O with
 |U ⟨.map k e n X,_,_⟩,.mp i=>match V.ty e,JI n X R,bP s.au i with
  |U W,U (N,_,_),U (P,Q)=>if !ut V.ty k n X|| !s.eV [R,v]|| !Cm W v then Z else
   if P==xq then(match Cs V s k e n X W Q with
    |U r=>if nJ V.ty s W.am v.cells then
      U (.ah (RK.mr ⟨k,e,n,X,W.d.isAgg⟩) (.ins (.ak r) n (R.cells++v.cells)) (S.put {s with rs:=s.rs++[RK.mr ⟨k,e,n,X,W.d.isAgg⟩],au:=s.au.set i (U (xq,[.ak (.v (Y s.rs)),.int I (.c n),.bool (.c X),.bool (.c W.d.isAgg)]))} d (.bH []))) else Z
    |none=>Z)
   else if P==vF&&n==1&& !X then(match N,rP Q with|.c x,U M=>if M.contains x then Z else U (.ok ((s.cX i vF (Q++[.int I (.c x),v])).put d (.bH [])))|_,_=>Z)
   else Z
  |_,_,_=>Z
 |_,_=>Z
def VV(X:bv)(d:cG)(s:S)(t:TypeId):Option S:=match X.ty t with
 |U ⟨.map k e n W,_,_⟩=>match X.ty e with|U V=>if s.bd&&ut X.ty k n W then U ((s.AO (JQ V n W)).put d (.mp (Y s.au))) else Z|none=>Z
 |_=>Z
def zn(X:bv):Sh:=⟨X.aln,zf,1,E,E⟩
def JR(X:bv):Bool:=ut X.ty X.aln 1 E&&(X.ty zf).isNone
def acC(R:bv)(s:S)(k e:TypeId)(n:Nat)(X:Bool)(Q:TI)(i:Nat):Option K:=match bP s.au i with
 |U (W,V)=>if W==xq then(Cs R s k e n X Q V).map .len
  else if W==vF&&n==1&& !X then(rP V).map λP=>.c (Y P) else Z
 |none=>Z
def VW(X:bv)(d:cG)(s:S)(t:TypeId)(W:C):Option S:=match X.ty t,W with
 |U ⟨.map k e n V,_,_⟩,.mp i=>match X.ty e with
  |U R=>match acC X s k e n V R i with|U c=>if s.bd&&c.bd s.ni s.nb (Y s.rs)&&aJ s.au i then U ((s.AO (zf,[.mp i,.int I (.c t),.int I c,.ak (.k (.slice Z 0 0))])).put d (.loc (Y s.au) 0)) else Z|none=>Z
  |none=>Z
 |_,_=>Z
def vJ(r:RE)(i:K):Nat->eL->aq
 |_,[]=>[]|j,c::X=>GM r i j c::vJ r i (j+1) X
def MD(r:RE)(i:K)(n:Nat)(X:Bool):C:=ur X ((di n).map λj=>.int I (.cell r i j))
def acD(X:bv)(d:cG)(s:S)(q W:Nat)(i t:Nat)(c:K)(V v:C):S:=
 S.put {s with ni:=W,rs:=s.rs++[RK.mr (zn X)],au:=s.au.set q (U (zf,[.mp i,.int I (.c t),.int I c,.ak (.v (Y s.rs))]))} d (.bH [.bool (.c J),V,v])
def VX(X:RE)(j:K):BE:=.not (.has X 1 j (.c 0) (.c 0))
def VY(X:TI)(e:K)(W:bA)(V:aq):Option (C×C):=if V.all (Cm X) then(match Cl e (EB (Y W)) (W.map λk=>.int I (.c k)),EA e (EB (Y W)) (V.map C.cells) 0 X.am with|U a,U l=>U (.int I a,ur X.d.isAgg l)|_,_=>Z) else Z
def VZ(W:bv)(s:S)(c:K)(X:RE)(t V:T):T:=
 .pick c (VX X (.v s.ni)) (.cmp .leq c (.len X)) (.ah (.mr (zn W)) (.ins (.ak X) 1 [.int I (.v s.ni)]) s.rs t) V
def acG(X:bv)(d:cG)(s:S)(L:C)(P O:S->T):Option T:=match L with
 |.loc q 0=>match bP s.au q with
  |U (H,[.mp i,.int I (.c t),.int I c,.ak R])=>if !(H==zf&&JR X&&R.pL X.ty s (zn X)&&s.bd&&({s with ni:=s.ni+1}:S).bd&&decide (0<=t)) then Z else match X.ty t.toNat,bP s.au i with
   |U ⟨.map k e n V,_,_⟩,U (N,Q)=>match X.ty e with
    |U W=>if !ut X.ty k n V then Z else
     if N==xq then(match Cs X s k e n V W Q with|U r=>if c.aP (.len r)&&Y W.am !=0 then U (VZ X s c R (P (acD X d s q (s.ni+1) i t.toNat c (MD r (.v s.ni) n V) (ur W.d.isAgg (vJ r (.v s.ni) n W.am)))) (O (s.put d (.bH [.bool (.c E)])))) else Z|none=>Z)
     else if N==vF&&n==1&& !V then(match rP Q with
      |U M=>if c.aP (.c (Y M)) then(match VY W (.v s.ni) M (n8 Q) with|U (G,v)=>U (VZ X s c R (P (acD X d s q (s.ni+1) i t.toNat c G v)) (O (s.put d (.bH [.bool (.c E)]))))|none=>Z) else Z
      |none=>Z)
     else Z
    |none=>Z
   |_,_=>Z
  |_=>Z
 |_=>Z
def xA(X:RE):K:=.cell X (.bin .sub I (.len X) (.c 1)) 0
def acH(c:K)(X:RE):BE:=xu (xu (qY .leq (.c 1) (.len X)) (JP (.len X))) (xw (xA X) c)
def acJ(X:bv)(d:cG)(s:S)(M:C)(P:S->T):Option T:=match M with
 |.loc q 0=>match bP s.au q with
  |U (L,[.mp i,.int I (.c t),.int I c,.ak W])=>if !(L==zf&&JR X&&W.pL X.ty s (zn X)&&s.bd&&decide (0<=t)) then Z else match X.ty t.toNat,bP s.au i with
   |U ⟨.map k e n V,_,_⟩,U (O,Q)=>match X.ty e with
    |U R=>if !ut X.ty k n V then Z else
     if O==xq then(match Cs X s k e n V R Q with|U r=>if c.aP (.len r) then U (.aQ (acH c W) (P (s.put d (.bH [MD r (xA W) n V,ur R.d.isAgg (vJ r (xA W) n R.am)])))) else Z|none=>Z)
     else if O==vF&&n==1&& !V then(match rP Q with
      |U N=>if c.aP (.c (Y N)) then(match VY R (xA W) N (n8 Q) with|U (H,v)=>U (.aQ (acH c W) (P (s.put d (.bH [H,v]))))|none=>Z) else Z
      |none=>Z)
     else Z
    |none=>Z
   |_,_=>Z
  |_=>Z
 |_=>Z
def V4(X:bv)(d:cG)(s:S)(t:TypeId)(W:Bool)(x y:C)(V:S->T):Option T:=match X.ty t,x,y with|U ⟨.slice e,_,_⟩,.ak r,.ak (.k (.slice Z 0 0))=>if r.kind X.ty s=.sl e then U (.gq (.c J) (.cmp .leq (.len r) (.c 0)) (V (s.put d (.bool (.c W)))) (V (s.put d (.bool (.c (!W)))))) else Z|_,_,_=>Z
abbrev Fx:=List (BE×Bool)
def Rh(X:Fx):BE->Option Bool
 |.c v=>U v|b=>(X.find? λx=>x.1.aP b).map (·.2)
def ED(s:S)(X:Fx)(b:BE)(t f:Fx->T):T:=match Rh X b with|U J=>t X|U E=>f X|none=>if b.bd s.ni s.nb (Y s.rs) then .aI b (t ((b,J)::X)) (f ((b,E)::X)) else .stuck ""
inductive CK where
 |call (g:Cr) (args:List C)
 |bp (v:C)
 |op
 |no
def AP(g:FuncId)(X:aq):aq->CK
 |[]=>.call (.fn g) X|v::r=>cond (kq g 1000000) (.call (.fn g) (X++v::r)) (cond (kq g 2000000) (.call (.fn (g-1000000)) (v::(X++r))) .no)
def ep(X:bv)(s:S)(o:Oper):CK:=
 match o.op with
 |.panic x=>match s.ev X.gl x with|.gH t y=>.bp (.gH t y)|_=>.no
 |.call c=>match c.callee with
  |.value f=>match s.ev X.gl f with|.fn g bD=>if c.args.toList.any λx=>(s.ev X.gl x).eY then .no else AP g (c.args.toList.map (s.ev X.gl)) bD|.yl n=>if c.args.toList.any λx=>(s.ev X.gl x).eY then .no else .call (.yl n) (c.args.toList.map (s.ev X.gl))|_=>.no
  |.invoke _ _=>.no
  |.builtin .panic=>match c.args.toList with
   |[x]=>match s.ev X.gl x with|.gH t y=>.bp (.gH t y)|_=>.no
   |_=>.no
  |.builtin _=>.op
 |_=>.op
def qo(s:S)(X:Fx):Fx:=X.filter λx=>x.1.bd s.ni s.nb (Y s.rs)
def acK(b:BE):C->C->Option C
 |.int k x,.int X y=>if k=X then U (.int k (.dt b x y)) else Z|.bool x,.bool y=>U (.bool (.dt b x y))|_,_=>Z
def Ri(b:BE):aq->Nat->aq->Ew
 |[],_,X=>U X
 |x::V,W,X=>match X[W]? with
  |U R=>match acK b x R with|U c=>Ri b V (W+1) (X.set W c)|none=>Z
  |none=>Z
def JS(e:K)(W:aq):bA->aq->aq->Ew
 |[],[],X=>U X
 |k::V,.loc _ R::Q,X=>match Ri (.cmp .eql e (.c k)) W R X with|U P=>JS e W V Q P|none=>Z
 |_,_,_=>Z
def V5:bA->Bool
 |[]=>J|x::X=> !X.contains x&&V5 X
def Rj:C->Bool
 |.int _ _|.bool _=>J|_=>E
def ME:aq->Bool
 |[]=>E|[x]=>Rj x|x::X=>Rj x&&ME X
def acM(d:cG)(s:S)(R:TI)(e:K)(X:bA)(W:aq)(V:C)(k:S->T):Option T:=match AM W with
 |U i=>match mR s.au i with
  |U (Q,P)=>match JS e V.cells X W P with|U O=>if Y R.am==Y V.cells&&Y X==Y W&&V5 X&&ME V.cells then U (.aQ (JJ e X) (k ((s.cX i Q O).put d (.bH [])))) else Z|none=>Z
  |none=>Z
 |none=>Z
def Ct(X:bv)(m:OM)(s:S)(V:S->Fx->T)(R:Fx):Option T:=if m.dr||m.o.op.operands.toList.any λx=>(s.ev X.gl x).eY then Z else match m.o.op with
 |.makeMap t Z=>(VV X m.o.dst s t).map λW=>V W R
 |.mapUpdate t x y z=>match GR X m.o.dst s t (s.ev X.gl x) (s.ev X.gl y) (s.ev X.gl z) with|U (.ok W)=>U (V W R)|U (.ah k x W)=>U (.ah k x s.rs (V W (qo s R)))|none=>Z
 |.insert t x y z=>match GR X m.o.dst s t (s.ev X.gl x) (s.ev X.gl y) (s.ev X.gl z) with|U (.ok W)=>U (V W R)|U (.ah k x W)=>U (.ah k x s.rs (V W (qo s R)))|none=>Z
 |.range t x=>(VW X m.o.dst s t (s.ev X.gl x)).map λW=>V W R|.next Q E=>acG X m.o.dst s (s.ev X.gl Q) (λW=>V W (qo s R)) (λW=>V W R)|.entry Q=>acJ X m.o.dst s (s.ev X.gl Q) λW=>V W R
 |.store t a x=>match X.ty t,s.ev X.gl a with|U P,.gp e O N=>acM m.o.dst s P e O N (s.ev X.gl x) λW=>V W R|_,_=>Z
 |.binOp M t x y _=>match M with|.eql=>V4 X m.o.dst s t E (s.ev X.gl x) (s.ev X.gl y) λW=>V W R|.neq=>V4 X m.o.dst s t J (s.ev X.gl x) (s.ev X.gl y) λW=>V W R|_=>Z
 |_=>Z
def Cu(X:bv)(m:OM)(s:S):Option (K×bA×aq×aq):=if m.dr then Z else match m.o.op with
 |.call c=>match c.callee with
  |.value f=>match s.ev X.gl f with|.gp e W V=>if(c.args.toList.any λx=>(s.ev X.gl x).eY)|| !e.bd s.ni s.nb (Y s.rs) then Z else U (e,W,V,c.args.toList.map (s.ev X.gl))|_=>Z
  |_=>Z
 |_=>Z
def GS(e:K)(X:FuncId->aq->T):bA->aq->T
 |k::W,.fn g bD::V=>.aI (.cmp .eql e (.c k)) (cond (kq g 1000000) (X g bD) (.stuck "")) (GS e X W V)
 |k::W,.ak (.k .nilFunc)::V=>.aI (.cmp .eql e (.c k)) (.stuck "") (GS e X W V)
 |_,_=>.stuck ""
structure Cv where
 f:FuncId
 g:FuncId
 e:TypeId
 sp:bu
 st:Bool
 r:RE
 s:S
def Rk:aq->Option (List K×FuncId)
 |[.fn g []]=>U ([],g)
 |.int I e::r=>match Rk r with|U x=>U (e::x.1,x.2)|none=>Z
 |_=>Z
def bu.fill:bu->List K->Option bu
 |.dw k o _,X=>U (.dw k o X)|W,[]=>U W|_,_::_=>Z
def acO(V:bv)(f:FuncId)(R:aq)(s:S)(d:cG):Option Cv:=match R with
 |.ak r::Q=>match Rk Q with
  |U (P,g)=>match(if f==g then Z else V.zl f g) with
   |U (e,O,X)=>match O.fill P with
    |U W=>match r with
     |.v k=>if s.rs[k]?=U (.own e) then U ⟨f,g,e,W,X,.v k,(({s with rs:=kV [] 0 (jB [k] 0 s.rs)++[.own e]}:S).iD k (Y s.rs)).put d (.bH [])⟩ else Z
     |.k (.slice Z 0 0)=>U ⟨f,g,e,W,X,.k (.slice Z 0 0),({s with rs:=kV [] 0 (jB [] 0 s.rs)++[.own e]}:S).put d (.bH [])⟩
     |_=>Z
    |none=>Z
   |none=>Z
  |none=>Z
 |_=>Z
def JT(V:bv)(f:FuncId)(R:aq)(s:S)(d:cG):Option Cv:=match R with
 |[.int I i,.loc X 0,.loc W 0]=>match V.zl f f with
  |U (e,.dw 0 o _,J)=>match bP s.au X,bP s.au W with
   |U (Q,[.ak (.v k)]),U (P,[.fn O [.loc N 0,.loc M 0]])=>if i.bd s.ni s.nb (Y s.rs)&&O==f&&kq f 1000000&&N==X&&M==W&& !mQ Q&& !mQ P&&decide (s.rs[k]?=U (.own e)) then U ⟨f,f,e,.dw 0 o [i],J,.v k,(({s with rs:=kV [] 0 (jB [k] 0 s.rs)++[.own e]}:S).iD k (Y s.rs)).put d (.int I (.cell (.v (Y s.rs)) i 0))⟩ else Z
   |_,_=>Z
  |_=>Z
 |_=>Z
def EE(X:bv)(m:OM)(s:S):Option Cv:=if m.dr|| !s.bd then Z else match ep X s m.o with
 |.call (.fn f) W=>match acO X f W s m.o.dst with|U u=>U u|none=>JT X f W s m.o.dst
 |_=>Z
def JU(X:bv)(o:Oper)(s:S):Option Cv:=if !s.bd then Z else match ep X s o with|.call (.fn f) W=>JT X f W s o.dst|_=>Z
def Cw(R:bv)(O:ql)(m:OM)(s:S)(X:S->Fx->T)(P:C->S->T)(W:Fx):T:=
 match Cu R m s with
 |U (e,N,M,Q)=>GS e (λg bD=>O (.fn g) (Q++bD) s (λv V=>X (V.put m.o.dst v) (qo s W)) P) N M
 |none=>
 match EE R m s with
 |U u=>.eE u.f u.g u.e u.sp u.st u.r s.rs (X u.s (qo s W))
 |none=>
 match ep R s m.o with
 |.call (.fn g) Q=>O (.fn g) Q s (λv V=>X (V.put m.o.dst v) (qo s W)) P|.call (.yl n) Q=>if m.so then O (.yl n) Q s (λv V=>X (V.put m.o.dst v) (qo s W)) P else .stuck ""
 |.bp v=>P v s|.no=>.stuck ""
 |.op=>match Ct R m s X W with
  |U t=>t
  |none=>match eW R m.o m.bM m.dr s with
  |U b=>.aQ b.aQ (.new b.e b.x s.rs b.s.rs (X b.s (qo s W)))
  |none=>match gI R m s with|.ok V=>X V W|.aQ b V=>.aQ b (X V W)|.split b L H=>ED s W b (X L) (X H)|.no G=>.stuck G
def V6(R:dC)(m:OM)(s:S)(X:Fx)(W V:Fx->T):T:=
 match m.o.guard with
 |none=>W X
 |U (j,Q)=>match(R[j]?).bind (·.dst) with
  |U d=>match s.tmps[d]? with|U (.bool b)=>if Q then ED s X b W V else ED s X b V W|U (.bH [])=>V X|_=>.stuck ""
  |none=>.stuck ""
def lH(X:bv)(W:ql)(V:dC)(k:S->T)(R:C->S->T):cQ->S->Fx->T
 |[],s,_=>k s|m::Q,s,P=>V6 V m s P (Cw X W m s (lH X W V k R Q) R) (lH X W V k R Q (s.put m.o.dst (.bH [])))
def gQ:Op->Bool
 |.alloc _|.box _ _|.buildSlice _ _ _=>J|_=>E
def mS(l:qi):Nat:=(l.filter λo=>gQ o.op).length
def fT(bM:Nat->Bool)(X W:Bool):Nat->Nat->qi->cQ
 |_,_,[]=>[]|j,n,o::r=>⟨o,n,bM j,j,W,X⟩::fT bM X W (j+1) (if gQ o.op then n+1 else n) r
def S.room(s:S)(n:Nat):S:={s with au:=s.au++eu n Z,lk:=0}
def uw(X:bv)(s:S):nF->Ew
 |[]=>U []
 |.tmp t::W=>match uw X s W with|U l=>if(s.tmps.getD t .any).eY then Z else U (s.tmps.getD t .any::l)|none=>Z
 |.cell a t::W=>match uw X s W,s.tmps.getD a .any,X.ty t with
  |U l,.loc i V,U R=>match mR s.au i with
   |U (_,Q)=>match zj R Q V with|U v=>U (v::l)|none=>Z
   |none=>Z
  |_,_,_=>Z
def xB(n:Nat):List (Nat×LK)->aq->Option C
 |(t,_)::r,v::X=>if t==n then U v else xB n r X|_,_=>Z
def Cx(b n:Nat):List (Nat×Nat×LK)->aq->Option C
 |(X,W,_)::r,v::V=>if X==b&&W==n then U v else Cx b n r V|_,_=>Z
def alp(l:bm)(x:Nat×Nat×LK):C:=match bP l x.1 with|U (_,X)=>X.getD x.2.1 .any|none=>.any
def fF.ks(a:fF):aL:=a.tm.map (·.2)++a.cl.map (·.2.2)
def lj(a:fF)(s:S):aq:=a.tm.map (λx=>s.tmps.getD x.1 .any)++a.cl.map (alp s.au)
def V7:LK->C->ar
 |.ak (.own _),.ak (.v k)=>[k]|_,_=>[]
def EF:aL->aq->ar
 |k::X,v::W=>V7 k v++EF X W|_,_=>[]
def JV(a:fF)(s:S):ar:=EF a.ks (lj a s)
def jC(a:fF)(s:S):bo:=jB (JV a s) 0 s.rs
def AQ:bo->bo->Bool
 |[],_=>J|x::X,y::W=>(decide (x=.aR)||decide (x=y))&&AQ X W|_::_,[]=>E
def oa:ar->Bool
 |[]=>J|x::X=> !X.contains x&&oa X
def JW(X:bo)(l:ar):Bool:=oa l&&l.all λk=>decide (Y X<=k)||decide (X[k]?=U .aR)
def Cy(a:fF)(X:ar)(W:aq):Nat->aq->aq
 |_,[]=>[]|n,x::V=>(xB n a.tm W).getD (if X.contains n then .any else x)::Cy a X W (n+1) V
def JX(a:fF)(X:aq)(b:Nat):Nat->aq->aq
 |_,[]=>[]|n,x::W=>(Cx b n a.cl X).getD x::JX a X b (n+1) W
def vK(a:fF)(X:aq):Nat->bm->bm
 |_,[]=>[]|n,Z::W=>Z::vK a X (n+1) W|n,U (t,V)::W=>U (t,JX a X n 0 V)::vK a X (n+1) W
def rT(a:fF)(X:ar)(s:S):S:=
 let r:aq×S:=S.bU {s with ax:=s.ax+1,rs:=jC a s} a.ks
 {r.2 with tmps:=Cy a X r.1 0 s.tmps,au:=vK a (r.1.drop (Y a.tm)) 0 s.au}
def AR(a:fF)(X:ar):Nat->aq->aq->Bool
 |_,[],[]=>J|n,x::W,y::V=>(a.tm.any (·.1==n)||X.contains n||C.aP x y)&&AR a X (n+1) W V|_,_,_=>E
def JY(a:fF)(b:Nat):Nat->aq->aq->Bool
 |_,[],[]=>J|n,x::X,y::W=>(a.cl.any (λc=>c.1==b&&c.2.1==n)||C.aP x y)&&JY a b (n+1) X W|_,_,_=>E
def ux(a:fF):Nat->bm->bm->Bool
 |_,[],_=>J|n,Z::X,_::W=>ux a (n+1) X W|n,U x::X,U y::W=>x.1==y.1&&JY a n 0 x.2 y.2&&ux a (n+1) X W|_,_,_=>E
def EG(s:S):LK->C->Bool
 |.int k,.int X _=>decide (k=X)|.bool,.bool _=>J|.ak e,.ak (.v k)=>s.rs[k]?==U e|.ak (.sl _),.ak (.k (.slice Z 0 0))=>J|.ak (.own _),.ak (.k (.slice Z 0 0))=>J|.ak (.mr _),.ak (.k (.slice Z 0 0))=>J|_,_=>E
def uy(s:S):aL->aq->Bool
 |[],[]=>J|k::X,v::W=>EG s k v&&uy s X W|_,_=>E
def JZ:LK->Bool
 |.ak (.own _)=>E|_=>J
def mT:aL->Bool
 |[]=>J|k::X=>JZ k&&mT X
def MF:aL->Bool
 |[]=>E|.ak _::_=>J|_::X=>MF X
def Rl(X:aq)(n:Nat):ar:=if(C.qj X).isEmpty then C.qm X else di n
def J0(W:aq)(X:bo):bo:=EC (Rl W (Y X)) 0 X
def EH(W:aq)(V:aL)(X:bo):bo:=if MF V then kV (Rl W (Y X)) 0 X else X
def S.cut(s:S)(X:aq)(W:aL):S:={s with rs:=EH X W s.rs}
structure VI where
 g:FuncId
 n:Nat
 bD:aq
 rw:List (Nat×TypeId)
 l:aq
def V9:aq->List (Nat×TypeId)
 |.iO i t 0 0::r=>(i,t)::V9 r|_=>[]
def VI.sv(X:VI):C:=.fn (4000000+X.g) [.bH X.bD,.bH [.int I (.c X.n)],.bH (X.rw.map λx=>.iO x.1 x.2 0 0),.bH X.l]
def zo:C->Option VI
 |.fn f [.bH bD,.bH [.int I (.c n)],.bH rw,.bH l]=>cond (kq 3999999 f) (U ⟨f-4000000,n.toNat,bD,V9 rw,l⟩) Z|_=>Z
def MG(fz:C):C:=match zo fz with|U X=>one X.l|none=>fz
def VI.out(X:VI):List (Nat×TypeId×aq):=(X.rw.zip X.l).map λx=>(x.1.1,x.1.2,x.2.cells)
def xC(W:Ty)(t:TypeId)(X:aq):Option C:=match W t with
 |U V=>if V.d.isAgg then U (.agg X) else match X with|[.agg _]=>Z|[c]=>U c|_=>Z
 |none=>Z
def kG(W:Ty):List LB->bm->Ew
 |[],_=>U []|.no::l,X=>kG W l X.tail
 |.ro t::l,U (V,R)::X=>if t==V&& !mQ t then(match xC W t R,kG W l X with|U v,U r=>U (v::r)|_,_=>Z) else Z
 |.rw t::l,U (V,R)::X=>if t==V&& !mQ t then(match xC W t R,kG W l X with|U v,U r=>U (v::r)|_,_=>Z) else Z
 |.st t R::l,U (V,Q)::X=>if t==V&& !mQ t&&C.n9 R Q then kG W l X else Z|_::_,_=>Z
def eA:Nat->List LB->List (Nat×TypeId)
 |_,[]=>[]|i,.rw t::l=>(i,t)::eA (i+1) l|i,_::l=>eA (i+1) l
def S.o7(s:S):List (Nat×TypeId×aq)->S
 |[]=>s|x::l=>(s.cX x.1 x.2.1 x.2.2).o7 l
def Wa(R:bv)(g:FuncId)(L:sO)(X:aq)(s:S)(k:C->S->T):T:=
 match kG R.ty L.bx s.au,fH R.ty ((eA 0 L.bx).map (·.2)) with
 |U V,U W=>match zm R.ty ((eA 0 L.bx).map (·.2)) ((s.cut (X.take L.n++V) W).bU W).1 with
  |U l=>if s.eV (X.take L.n++V)&&mT W&&C.n9 (X.drop L.n) L.bD&&decide (R.sig g=U [])&&decide (L.n<=Y X) then
     .call L.v (X.take L.n++V) (uu (s.au.take (Y L.bx))) (J0 (X.take L.n++V) s.rs) W (VI.sv ⟨g,L.n,L.bD,eA 0 L.bx,l⟩) (k (.bH []) (((s.cut (X.take L.n++V) W).bU W).2.o7 (VI.out ⟨g,L.n,L.bD,eA 0 L.bx,l⟩))) else .stuck ""
  |none=>.stuck ""
 |_,_=>.stuck ""
def AS(V:bv)(f:FuncId)(X:aq)(s:S)(k:C->S->T):T:=
 match V.sig f with
 |U R=>match fH V.ty R with
  |U W=>match zm V.ty R ((s.cut X W).bU W).1 with
   |U l=>if s.eV X&&mT W&&(zo (one l)).isNone then .call f X (uu (sP (C.qj X) 0 s.au)) (J0 X s.rs) W (one l) (k (one l) ((s.cut X W).bU W).2) else .stuck ""
   |none=>.stuck ""
  |none=>.stuck ""
 |none=>.stuck (""++toString f)
def jo(o:Oper):ar:=(o.after.toList.filter λe=>awn .any e).map (·.on)
def qp(X:qi):ar:=X.foldl (λacc o=>acc++[(jo o).foldl (λl e=>l|||(1<<<e)|||acc.getD e 0) 0]) []
def Cz:Op->Bool
 |.load _ _=>J|_=>E
def AT:Op->Bool
 |.store _ _ _=>J|_=>E
def o8:Op->Bool
 |.call c=>match c.callee with|.builtin .len|.builtin .min|.builtin .max=>J|_=>E
 |.move _|.assign _|.pick _ _ _|.load _ _|.fieldAddr _ _ _|.field _ _ _|.indexAddr _ _ _|.index _ _ _|.binOp _ _ _ _ _|.unOp _ _ _|.convert _ _ _|.makeInterface _ _|.makeFunc _ _ _|.extract _ _|.nilCheck _|.slice _ _ _ _ _|.build _ _|.lookup _ _ _ _=>J|_=>E
def kX(X:dC)(o:Oper):ar:=o.op.operands.toList.filterMap (λx=>match x with
  |.tmp t=>U t
  |_=>Z)++(match o.guard with|U (j,_)=>((X[j]?).bind (·.dst)).toList|none=>[])
def MH:Op->Bool
 |.panic _=>J
 |.call c=>match c.callee with|.builtin .panic=>J|_=>E
 |_=>E
def EI:Op->Bool
 |.call c=>match c.callee with|.builtin .append=>J|_=>E
 |_=>E
def vL:Op->Bool
 |.call c=>match c.callee with|.builtin .append=>J|_=>E
 |.makeSlice _ _ _=>J|_=>E
def looks:Op->Bool
 |.call _|.load _ _|.indexAddr _ _ _|.index _ _ _|.lookup _ _ _ _|.slice _ _ _ _ (U _)=>J|.binOp X _ _ _ _=>VO X|_=>E
def Wb(X:dC)(x y:OM):Bool:=
 x.dr&&y.dr&&o8 x.o.op&& !MH y.o.op&&(match x.o.dst with
  |U d=> !(kX X y.o).contains d&&y.o.dst !=U d&& !(kX X x.o).contains d
  |none=>E)&&(match y.o.dst with|U d=> !(kX X x.o).contains d|none=>J)&&(!(AT y.o.op)|| !(Cz x.o.op)||(x.bM&&y.bM))&&(!(EI y.o.op)|| !(looks x.o.op)||(Cz x.o.op&&x.bM&&y.bM))
def zp:Operand->Bool
 |.global _=>E|_=>J
def AU:Op->Bool
 |.call c=>match c.callee with|.value _=>J|_=>E
 |_=>E
def J1:Op->Bool
 |.alloc _=>J|_=>E
def Wc(X:dC)(x y:OM):Bool:=(match x.o.dst with
  |U d=> !(kX X y.o).contains d&&y.o.dst !=U d
  |none=>J)&&(match y.o.dst with|U d=> !(kX X x.o).contains d|none=>J)
def MI:Op->Bool
 |.call c=>match c.callee with|.value (.func _)=>c.args.toList.isEmpty|_=>E
 |_=>E
def We(X:dC):Bool:=(di X.size).all λi=>(di X.size).all λj=>match X[i]?,X[j]? with|U x,U y=> !(AU x.op)|| !(gQ y.op||vL y.op)||((qp X.toList).getD i 0).testBit j||((qp X.toList).getD j 0).testBit i||(MI x.op&&J1 y.op)|_,_=>J
def MJ(X:dC)(x y:OM):Bool:=
 x.dr&&y.dr&&J1 y.o.op&&y.o.guard.isNone&&(gQ x.o.op||vL x.o.op||AU x.o.op)&&(!gQ x.o.op||x.ix !=y.ix)&&x.o.op.operands.toList.all zp&&Wc X x y&&(!AU x.o.op|| !We X||MI x.o.op)
def GU:Op->Bool
 |.move _|.assign _|.fieldAddr _ _ _=>J|_=>E
def Rm(X:dC)(x y:OM):Bool:=
 x.dr&&y.dr&&gQ x.o.op&& !J1 x.o.op&&x.o.guard.isNone&&x.o.op.operands.toList.all zp&&y.o.op.operands.toList.all zp&&(gQ y.o.op||vL y.o.op||AU y.o.op||GU y.o.op||AT y.o.op)&&(!gQ y.o.op||x.ix !=y.ix)&&Wc X x y&&(!AU y.o.op|| !We X)
def vM(X:dC)(x y:OM):Bool:= !x.so&& !y.so&&(Wb X x y||MJ X x y||Rm X x y)
def Ro(X:qi):Nat->ar->ar
 |0,acc=>acc
 |n+1,acc=>
  let W:=(di (Y X)).filter λi=> !acc.contains i&&(match X[i]? with|U o=>(jo o).all acc.contains|none=>E)
  match W.find? λi=>match X[i]? with
   |U o=>o8 o.op
   |none=>E with
  |U i=>Ro X n (acc++[i])
  |none=>match(W.find? λi=>match X[i]? with
   |U o=>gQ o.op&& !J1 o.op
   |none=>E).or (W.find? λi=>match X[i]? with
   |U o=> !J1 o.op
   |none=>E) with
   |U i=>Ro X n (acc++[i])
   |none=>match W with|i::_=>Ro X n (acc++[i])|[]=>acc
def GV(X:dC)(W:ar):cQ->Bool
 |[]=>J|x::r=>(r.all λy=>(W.getD y.j 0).testBit x.j||vM X x y)&&GV X W r
def GX(X:dC):ar->cQ->Bool
 |_,[]=>J
 |done,x::r=>(match X[x.j]? with|U o=>(jo o).all done.contains|none=>E)&&GX X (x.j::done) r
def Wf(X:qi)(W:ar):Bool:=(di (Y X)).all λj=>match X[j]? with|U o=>(jo o).all (λe=>decide (e<j))&&(di (Y X)).all λi=> !(W.getD j 0).testBit i||(jo o).contains i||(jo o).any λe=>(W.getD e 0).testBit i|none=>E
def Rp(X:qi)(W:ar)(j:Nat):Bool:=match X[j]? with
 |U o=>(Cz o.op&&(di (Y X)).any λi=>(match X[i]? with|U q=>AT q.op||EI q.op|none=>E)&& !(W.getD i 0).testBit j&& !(W.getD j 0).testBit i)||
  ((AT o.op||EI o.op)&&(di (Y X)).any λi=>(match X[i]? with|U q=>Cz q.op|none=>E)&& !(W.getD i 0).testBit j&& !(W.getD j 0).testBit i)
 |none=>E
def CA(X:ar):cQ->Bool
 |[]=>J|x::r=>(r.all λy=>(X.getD y.j 0).testBit x.j)&&CA X r
def awz:Op->Bool
 |.call c=>match c.callee with|.value (.tmp _)=>J|_=>E
 |_=>E
def vN(X:ar):cQ->cQ->cQ
 |_,[]=>[]|W,m::r=>{m with so:=awz m.o.op&&CA X (m::r)&&W.all (λx=>(X.getD m.j 0).testBit x.j)}::vN X (W++[m]) r
def uz(X:ar):Nat->aq->aq
 |_,[]=>[]|n,x::W=>(if X.contains n then .any else x)::uz X (n+1) W
def S.plus(s:S)(X:bm):S:={s with au:=s.au++X}
abbrev vO:=FuncId->aq->S->Option (C×bm)
def uA(W:bv)(V:vO)(R:YH):ql
 |.fn f,X,s,k,_=>match V f X s with
  |U (v,Q)=>if s.bd then k v (s.plus Q) else .stuck ""
  |none=>AS W f X s k
 |.yl n,X,s,k,P=>R n X s k P
def MK(l:cQ)(X:ar):cQ:=X.filterMap λi=>l[i]?
def GY(l:qi):ar:=l.filterMap (·.dst)
def EJ(X:dC)(n:Nat):Option cQ:=
 let V:=qp X.toList;let W:=vN V [] (MK (fT (Rp X.toList V) E J 0 n X.toList) (Ro X.toList X.size []))
 if Wf X.toList V&&GX X [] W&&GV X V W&&oa (W.filterMap (·.o.dst))&&oa (W.map (·.j))&&oa ((W.filter λm=>gQ m.o.op).map (·.ix))&&Y W==X.size&&(di X.size).all (λi=>W.any λm=>m.j==i) then U W else Z
def alq(X:dC):Bool:=decide (0<X.size)&&((di X.size).all λi=>match X[i]? with
  |U o=>((jo o).all λe=>decide (e<i))&&(match o.guard with|U (j,_)=>decide (j+1<X.size)|none=>J)
  |none=>J)&&(di (X.size-1)).all λj=>(di X.size).any λi=>decide (j<i)&&(match X[i]? with|U o=>(jo o).contains j|none=>E)
def Rq(b:Bool)(X:dC):Option Oper:=if b&&alq X then X[X.size-1]? else Z
def J2(X:bv)(t:TypeId):Bool:=(X.ty t).isSome&& !mQ t
def CB(X:bv):qi->Bool
 |[]=>J
 |o::r=>(match o.op with|.alloc t=>J2 X t|_=>J)&&CB X r
def alr(s:S)(X:ar):ar:=X.filter λd=>match s.tmps[d]? with|U w=> !(w.bd s.ni s.nb (Y s.rs) (aJ s.au))|none=>J
def S.vP(s:S)(X:dC)(W:cQ):S:={s.room (mS X.toList) with tmps:=uz (alr s (GY (W.dropLast.map (·.o)))) 0 s.tmps}
def Ru(X:S->T)(k:XE->S->T):XE->S->T
 |.normal,s=>X s|e,s=>k e s
def acP(id:Nat)(k:XE->S->T):XE->S->T
 |.exit j,s=>if j==id then k .normal s else k (.exit j) s|e,s=>k e s
def ML(W:bv)(s:S)(V:nF)(k R:C->S->T):XE->S->T
 |.normal,X=>match uw W X V with
  |U l=>k (one l) {X with tmps:=s.tmps}
  |none=>.stuck ""
 |.ret,X=>match uw W X V with
  |U l=>k (one l) {X with tmps:=s.tmps}
  |none=>.stuck ""
 |.bp v,X=>R v {X with tmps:=s.tmps}
 |.exit _,_=>.stuck ""
def kw(W:bv)(R:FuncId->Code->S->(XE->S->T)->T)(Q:YH):ql
 |.fn f,X,s,k,V=>match W.inl f with
  |U (c,P,O)=>if s.eV X then R f c {s with tmps:=X++eu (P-Y X) (.bH [])} (ML W s O k V) else .stuck ""
  |none=>match W.lay f with|U L=>Wa W f L X s k|none=>AS W f X s k
 |.yl n,X,s,k,V=>Q n X s k V
def acQ(b:Bool)(R:bv)(V:ql):ql
 |.fn f,X,s,k,W=>if b then AS R f X s k else V (.fn f) X s k W|.yl n,X,s,k,W=>V (.yl n) X s k W
def awA:T:=.gq (.c E) (.c E) (.stuck "") (.stuck "")
def acR:T->Bool
 |.gq (.c E) (.c E) _ _=>J|_=>E
mutual
def C.CD:C->Bool
 |.agg l=>C.zq l|.bH l=>C.zq l|.fn _ l=>C.zq l|.gH _ x=>C.CD x|.yl _=>E|.gp _ _ X=>C.zq X|_=>J
def C.zq:aq->Bool
 |[]=>J|x::X=>C.CD x&&C.zq X
end
def G2:bm->Bool
 |[]=>J|Z::X=>G2 X|U x::X=>C.zq x.2&&G2 X
def oc:bm->bm->Bool
 |[],[]=>J|Z::X,Z::W=>oc X W|U x::X,U y::W=>x.1==y.1&&C.n9 x.2 y.2&&oc X W|_,_=>E
def o9(W:aq)(X:bm):bm:=if W.isEmpty then X.map (λ_=>Z) else X
def vQ(X:aq)(s:S):S:=⟨[],o9 X s.au,s.ni,s.nb,s.rs.map RK.rd,0,0,[]⟩
def als(W V X:S):Bool:=oc X.au V.au&&X.ni==W.ni&&X.nb==W.nb&&decide (X.rs=W.rs)
def MM(V:bv)(R:FuncId->Code->S->(XE->S->T)->T)(g:FuncId)(W:aq)(s:S):Option (C×bm):=
 match kw V R iC (.fn g) W (vQ W s) (λv X=>.out .normal {X with tmps:=[v]}) (λ_ _=>.stuck "") with
 |.out .normal X=>match X.tmps with
  |[v]=>if C.zq W&&G2 (o9 W s.au)&&v.CD&&G2 X.au&&oc (X.au.take (Y s.au)) (o9 W s.au)&&v.bd s.ni s.nb (Y s.rs) (aJ X.au)&&C.rQ s.ni s.nb (Y s.rs) (aJ X.au) X.au&&acR (kw V R iC (.fn g) W (vQ W s) (λQ P=>if Q.aP v&&als (vQ W s) X P then awA else .stuck "") (λ_ _=>.stuck "")) then U (v,X.au.drop (Y s.au)) else Z
  |_=>Z
 |_=>Z
def CE(X:bv)(W:dC)(V:FuncId->Code->S->(XE->S->T)->T):vO:=λg R s=>if We W&&(X.inl g).isSome then MM X V g R s else Z
def acS:Op->Bool
 |.pick _ _ _=>J|_=>E
def alu:Op->Bool
 |.buildSlice _ _ _=>J|_=>E
def Wg:Op->Bool
 |.buildSlice _ _ _|.alloc _|.box _ _|.store _ _ _=>J|_=>E
def EK(X:bv)(s:S)(o:Oper):Option (BE×C):=
 if(o.op.operands.toList.any λx=>(s.ev X.gl x).eY)||acS o.op then Z else match cw X.ty X.gl s o.op with|.ok v=>U (.c J,v)|.aQ b v=>if b.bd s.ni s.nb (Y s.rs) then U (b,v) else Z|.no _=>Z
def BE.isT:BE->Bool
 |.c b=>b|_=>E
def G3(X:bv):cQ->S->Option (S×List BE)
 |[],s=>U (s,[])
 |q::r,s=>match EK X s q.o with|U (b,v)=>(G3 X r (s.put q.o.dst v)).map λx=>(x.1,if b.isT then x.2 else b::x.2)|none=>Z
def acY(X:bv)(nK:List BE)(s:S)(W:cQ):Bool:=W.all λq=>match q.o.dst,EK X s q.o with
 |U d,U (b,v)=>(match s.tmps[d]? with|U w=>v.aP w&&(b.isT||nK.any λx=>x.aP b)|none=>E)
 |_,_=>E
def Wh:List BE->T->T
 |[],t=>t|b::r,t=>.aQ b (Wh r t)
def S.bE(s:S)(X:ar):S:={s with tmps:=uz X 0 s.tmps}
def MN{X:Type}:List X->List (X×List X)
 |[]=>[]|x::r=>(x,r)::(MN r).map λy=>(y.1,x::y.2)
def acZ(X:ar)(x:OM×cQ):Bool:=x.2.all λy=> !(X.getD x.1.j 0).testBit y.j
def MO:ze->ze->Bool
 |[],[]=>J|x::X,y::W=>C.n9 x y&&MO X W|_,_=>E
def LE.aP:LE->LE->Bool
 |.ak r,.ak Q=>r.aP Q|.lit l,.lit P=>MO l P|.iB a b,.iB X O=>LE.aP a X&&LE.aP b O|.xt n N,.xt W M=>n.aP W&&C.n9 N M|.set a i L V,.set X H G R=>LE.aP a X&&i.aP H&&L==G&&C.n9 V R|.sub a F D,.sub X B A=>LE.aP a X&&F.aP B&&D.aP A|.ins a n V,.ins X W R=>LE.aP a X&&n==W&&C.n9 V R|_,_=>E
def S.aP(s X:S):Bool:=C.n9 s.tmps X.tmps&&oc s.au X.au&&s.ni==X.ni&&s.nb==X.nb&&decide (s.rs=X.rs)&&s.ax==X.ax&&s.lk==X.lk&&decide (s.pd=X.pd)
def T.aP:T->T->Bool
 |.ret v P W,.ret O N V=>v.aP O&&oc P N&&decide (W=V)|.bp v,.bp O=>v.aP O|.aI b t f,.aI M X R=>b.aP M&&T.aP t X&&T.aP f R|.aQ b t,.aQ M X=>b.aP M&&T.aP t X|.call f B P W L fz t,.call R A N V H z X=>f==R&&C.n9 B A&&oc P N&&decide (W=V)&&decide (L=H)&&fz.aP z&&T.aP t X|.loop ax L y t,.loop G H w X=>ax==G&&decide (L=H)&&C.n9 y w&&T.aP t X|.back ax x,.back G Q=>ax==G&&C.n9 x Q|.new e x W u t,.new r Q V q X=>e==r&&LE.aP x Q&&decide (W=V)&&decide (u=q)&&T.aP t X|.ah k x W t,.ah p Q V X=>decide (k=p)&&LE.aP x Q&&decide (W=V)&&T.aP t X|.gq g h t f,.gq F D X R=>g.aP F&&h.aP D&&T.aP t X&&T.aP f R|.pick n g h t f,.pick o F D X R=>n.aP o&&g.aP F&&h.aP D&&T.aP t X&&T.aP f R|.out .normal s,.out .normal m=>S.aP s m|_,_=>E
def J3:List T->List T
 |[]=>[]|t::X=>if X.any (T.aP t) then J3 X else t::J3 X
def EL:List T->T
 |[]=>.stuck ""
 |[t]=>t|t::X=>.gq (.c J) (.c J) t (EL X)
def MP:Op->Bool
 |.call c=>match c.callee with|.builtin .append=>J|_=>E
 |.makeSlice _ _ _|.buildSlice _ _ _|.slice _ _ _ _ _|.store _ _ _=>J|_=>E
def awB:Op->Bool
 |.mapUpdate _ _ _ _=>J|_=>E
def EM(X:bv)(o:Oper)(s:S):Option MR:=match o.op with|.mapUpdate t x y z=>if o.op.operands.toList.any λx=>(s.ev X.gl x).eY then Z else GR X o.dst s t (s.ev X.gl x) (s.ev X.gl y) (s.ev X.gl z)|_=>Z
def G4(V:bv)(P:ql)(R:ar)(O:C->S->T)(m:OM)(W:S->T)(s:S):T:=match JU V m.o s with
 |U u=>.eE u.f u.g u.e u.sp u.st u.r s.rs (W u.s)
 |none=>match ep V s m.o with
  |.call (.fn g) Q=>P (.fn g) Q s (λv X=>W (X.put m.o.dst v)) (λv X=>O v (X.bE R))|.call (.yl n) Q=>P (.yl n) Q (s.bE R) (λv X=>W (X.put m.o.dst v)) (λv X=>O v (X.bE R))
  |.op=>match(if MP m.o.op then eW V m.o m.bM E s else Z) with
   |U b=>.aQ b.aQ (.new b.e b.x s.rs b.s.rs (W b.s))
   |none=>match EM V m.o s with
    |U (.ok X)=>W X|U (.ah k x X)=>.ah k x s.rs (W X)
    |none=>if o8 m.o.op then(match EK V s m.o with
     |U (b,v)=>.aQ b (W (s.put m.o.dst v))
     |none=>.stuck "") else
    if Wg m.o.op then(match gI V m s with|.ok X=>W X|_=>.stuck "") else .stuck ""
  |_=>.stuck ""
def MQ(X:ar)(m:OM)(W:cQ):cQ:=W.filter λq=> !(X.getD m.j 0).testBit q.j
def qr(X:bv)(R:ql)(W:ar)(nK:List BE)(V:cQ)(Q:ar)(k:S->T)(P:C->S->T):Nat->cQ->S->T
 |_,[],s=>if acY X nK s V then k s else .stuck ""
 |0,_::_,_=>.stuck ""
 |n+1,m::r,s=>if !acY X nK s V then .stuck "" else EL (J3 (((MN (m::r)).filter (acZ W)).map λx=>G4 X R Q P x.1 (λO=>qr X R W nK (MQ W x.1 V) Q k P n x.2 O) s))
def T.oe(k:S->T)(X:C->S->T):T->T
 |.out .normal s=>k s|.out (.bp v) s=>X v s|.aI b t f=>.aI b (t.oe k X) (f.oe k X)|.aQ b t=>.aQ b (t.oe k X)|.call f a V W R fz t=>.call f a V W R fz (t.oe k X)|.new e x W Q t=>.new e x W Q (t.oe k X)|.ah e x W t=>.ah e x W (t.oe k X)|.eE f g e P O r W t=>.eE f g e P O r W (t.oe k X)|.gq g h t f=>.gq g h (t.oe k X) (f.oe k X)|t=>t
def Rv(X:bv):ql
 |.fn g,W,s,k,_=>if(X.inl g).isNone&&(X.lay g).isNone then AS X g W s k else .stuck ""
 |_,_,_,_,_=>.stuck ""
def awC:Op->Bool
 |.slice _ _ _ _ _=>J|_=>E
def awD:Op->Bool
 |.indexAddr .. =>J|_=>E
def awE:Op->Bool
 |.store _ _ _=>J|_=>E
def Wi(W:Bool)(X:dC):ar:=(di X.size).foldl (λacc i=>match X[i]? with
 |U o=>if o8 o.op&&(W|| !awC o.op)&& !(awD o.op&&(di i).any λj=>match X[j]? with
   |U x=>awE x.op
   |none=>E)&&((di X.size).all λj=>match(X[j]?).bind (·.dst) with|U d=> !(kX X o).contains d||acc.contains j|none=>J) then acc++[i] else acc
 |none=>acc) []
structure Rw where
 qs:cQ
 ch:cQ
 s:S
 nK:List BE
def ac0(X:bv)(s:S)(W:qi):Bool:=W.any λo=>match o.op with
 |.call c=>(match c.callee with
  |.value (.func g)=>(X.inl g).isSome
  |.value (.tmp t)=>(GY W).contains t||(match s.tmps[t]? with|U (.fn g _)=>(X.inl g).isSome|_=>E)
  |_=>E)
 |_=>E
def ac1(X:dC)(Q:ar)(W V R:cQ):Bool:=
 Wf X.toList Q&&W.all (λm=>m.o.guard.isNone&& !m.bM)&&oa (W.filterMap (·.o.dst))&&
 W.all (λm=>W.all λx=>match x.o.dst with|U d=> !(kX X m.o).contains d||(Q.getD m.j 0).testBit x.j|none=>J)&&V.all (λq=>o8 q.o.op&&q.o.dst.isSome)&&(di X.size).all (λi=>(V++R).any λm=>m.j==i)&&(V++R).length==X.size&&oa ((V++R).map (·.j))&&
 R.all (λm=>o8 m.o.op||Wg m.o.op||MP m.o.op||awB m.o.op||(match m.o.op with|.call _=>J|_=>E))
def EN(W:Bool)(X:dC)(n:Nat):cQ:=(fT (λ_=>E) E J 0 n X.toList).filter λm=>(Wi W X).contains m.j
def EO(W:Bool)(X:dC)(n:Nat):cQ:=(fT (λ_=>E) E J 0 n X.toList).filter λm=> !(Wi W X).contains m.j
def MS(W:Bool)(X:dC)(n:Nat):Bool:=ac1 X (qp X.toList) (fT (λ_=>E) E J 0 n X.toList) (EN W X n) (EO W X n)
def awF:CK->Bool
 |.call (.yl _) _=>J|_=>E
def chI(W:bv)(V X:cQ)(x:S×List BE):Option Rw:=if X.any λm=>awF (ep W x.1 m.o) then Z else U ⟨V,X,x.1,x.2⟩
def MT(V:bv)(W:Bool)(X:dC)(s:S):Option Rw:=
 if(!W||(ac0 V s X.toList||(V.jA&&X.toList.any λo=>alu o.op))&&CA (qp X.toList) (EO W X (Y s.au)))&&MS W X (Y s.au) then(G3 V (EN W X (Y s.au)) (s.room (mS X.toList))).bind (chI V (EN W X (Y s.au)) (EO W X (Y s.au))) else Z
def alv(X:fF)(s W:S):String:= ""
def Wj(W:fF)(V:ar)(s:S)(k:XE->S->T):XE->S->T
 |.normal,X=>if AR W V 0 s.tmps X.tmps&&ux W 0 s.au X.au&&uy X W.ks (lj W X)&&AQ (jC W s) X.rs&&JW (jC W s) (JV W X)&&decide (X.pd=s.pd) then .back s.ax (lj W X) else .stuck (alv W s X)|e,X=>k e X
mutual
def C.zr(n:Nat):C->Bool
 |.agg l=>C.qu n l|.bH l=>C.qu n l|.fn _ l=>C.qu n l|.gH _ x=>C.zr n x|.yl m=>decide (n<=m)|.gp _ _ X=>C.qu n X|_=>E
def C.qu(n:Nat):aq->Bool
 |[]=>E|x::X=>C.zr n x||C.qu n X
end
def zt(n:Nat):bm->Bool
 |[]=>E|Z::X=>zt n X|U x::X=>C.qu n x.2||zt n X
def S.zr(s:S)(n:Nat):Bool:=C.qu n s.tmps||zt n s.au
def J4:ar->aq->aq->aq
 |p::X,v::W,l=>J4 X W (l.set p v)|_,_,l=>l
def oF(n:Nat):Nat->bm->bm
 |_,[]=>[]|k+1,x::X=>x::oF n k X|0,Z::X=>Z::oF n 0 X|0,U x::X=>(if C.qu n x.2 then Z else U x)::oF n 0 X
def S.vT(s X:S):S:={X with tmps:=s.tmps,au:=oF (Y s.pd) (Y s.au) X.au,pd:=X.pd.take (Y s.pd)}
def J5(s:S)(k:XE->S->T):XE->S->T
 |.bp v,X=>if v.zr (Y s.pd)||zt (Y s.pd) (s.vT X).au then .stuck "" else k (.bp v) (s.vT X)
 |.exit _,_=>.stuck ""
 |_,X=>if zt (Y s.pd) (s.vT X).au then .stuck "" else match X.pd[Y s.pd]? with|U .ready=>k .normal (s.vT X)|U (.done .ret)=>k .ret (s.vT X)|U (.done (.exit id))=>k (.exit id) (s.vT X)|_=>.stuck ""
def kH:Code->Bool
 |.seq a b=>kH a||kH b|.cond _ a b=>kH a||kH b|.block _ c=>kH c|.loop c=>kH c|.scope c=>kH c|.rangeFunc _ _ _ _=>J|_=>E
def Wk(n:Nat)(W:S)(k V:C->S->T):XE->S->T
 |.normal,X=>k (.bool (.c J)) {X with tmps:=W.tmps,pd:=X.pd.set n .ready}
 |.ret,X=>k (.bool (.c E)) {X with tmps:=W.tmps,pd:=X.pd.set n (.done .ret)}
 |.exit id,X=>k (.bool (.c E)) {X with tmps:=W.tmps,pd:=X.pd.set n (.done (.exit id))}
 |.bp v,X=>V v {X with tmps:=W.tmps}
def Rx(n:Nat)(k:S->T):XE->S->T
 |.normal,X=>if decide (X.pd[n]?=U .ready) then k X else .stuck ""
 |_,_=>.stuck ""
def MU(s:S)(X:Nat)(bD:aq):S:={s with tmps:=(.yl (Y s.pd)::bD)++eu (X-(C.yl (Y s.pd)::bD).length) (.bH []),pd:=s.pd++[.ready]}
def Ry(n V:Nat)(R:aq->S->(C->S->T)->(C->S->T)->T):YH:=λm X W Q P=>
 if m==n&&decide (W.pd[n]?=U .ready)&&Y X==V&&W.eV X then R X W Q P else .stuck ""
def EP(X s:S)(W:ar)(V:aq):S:={X with tmps:=J4 W V s.tmps}
def S.EQ(s:S)(n:Nat)(x:JD):S:={s with pd:=s.pd.set n x}
def alw(X:fF)(W:ar)(s:S):String:= ""
def fF.at(a:fF)(s:S):fF:=⟨a.tm,a.cl.filterMap λx=>match bP s.au (x.1%1000) with
 |U (t,X)=>(match X[x.2.1]? with
  |U v=>if EG s x.2.2 v&&(!mQ t||(match x.2.2 with|.ak _=>J|_=>E))&&(x.1/1000==0||decide (Y s.au<=x.1/1000)) then U (x.1%1000,x.2) else Z
  |none=>Z)
 |none=>Z⟩
def alx:aq->Option (K×bA)
 |[]=>Z|.gp e X _::_=>U (e,X)|_::r=>alx r
def Wl:bm->Option (K×bA)
 |[]=>Z
 |U x::r=>match alx x.2 with|U y=>U y|none=>Wl r
 |Z::r=>Wl r
def J6(k:Int):bA->aq->Option C
 |X::W,.fn f l::V=>if k=X then U (.fn f l) else J6 k W V|X::W,.ak (.k .nilFunc)::V=>if k=X then U (.ak (.k .nilFunc)) else J6 k W V|_,_=>Z
def Rz(e:K)(k:Int):Nat->BE->BE
 |0,b=>b|n+1,.dt (.cmp .eql X (.c W)) x y=>if K.aP e X then(if k=W then Rz e k n x else Rz e k n y) else .dt (.cmp .eql X (.c W)) x y|_,b=>b
def RA(e:K)(k:Int):Nat->K->K
 |0,b=>b|n+1,.dt (.cmp .eql X (.c W)) x y=>if K.aP e X then(if k=W then RA e k n x else RA e k n y) else .dt (.cmp .eql X (.c W)) x y|_,b=>b
def ac3(e:K)(k:Int):C->C
 |.bool b=>.bool (Rz e k 20 b)|.int t b=>.int t (RA e k 20 b)
 |.gp X W V=>if K.aP e X then(match J6 k W V with|U v=>v|none=>.gp X W V) else .gp X W V
 |v=>v
def Wm(e:K)(V:bA):C->C
 |.gp X W R=>if K.aP e X&&W.all V.contains then .ak (.k .nilFunc) else .gp X W R|v=>v
def J7(f:C->C)(l:bm):bm:=l.map λx=>match x with|U y=>U (y.1,y.2.map f)|none=>Z
def S.fix(f:C->C)(s:S):S:={s with au:=J7 f s.au}
def MV(e:K)(gq:Int->S)(bw:T)(g:S->T):bA->T
 |[]=>bw|k::X=>.aI (.cmp .eql e (.c k)) (g (gq k)) (MV e gq bw g X)
def ac4(e:K)(v:Int):C->C
 |.int k x=>if K.aP e x then .int k (.c v) else .int k x|y=>y
def Wn(V:bv)(R id:Nat)(s:S):Option (K×bA×(Int->S)×Option S):=match V.frk R id with
 |U .box=>match Wl s.au with
  |U (e,X)=>U (e,X,λk=>s.fix (ac3 e k),match Wl (J7 (Wm e X) s.au) with|none=>U (s.fix (Wm e X))|U _=>Z)
  |none=>Z
 |U (.slot t W)=>match nth s.tmps t with
  |.int _ (.c _)=>Z|.int k e=>U (e,W,λv=>{s with tmps:=s.tmps.set t (.int k (.c v))},Z)
  |_=>Z
 |U (.cell b j W)=>match bP s.au b with
  |U (_,Q)=>match Q.getD j .any with|.int _ (.c _)=>Z|.int _ e=>U (e,W,λv=>s.fix (ac4 e v),Z)|_=>Z
  |none=>Z
 |none=>Z
def ac5(g:S->T):Option S->T
 |U s=>g s|none=>.stuck ""
def RC(W:bv)(V:ql)(X:dC)(k:XE->S->T)(c:Rw):T:=Wh c.nK (if CA (qp X.toList) c.ch||ac0 W c.s X.toList then qr W V (qp X.toList) c.nK c.qs (GY X.toList) (k .normal) (λv=>k (.bp v)) (Y c.ch) c.ch c.s
 else(qr W (Rv W) (qp X.toList) c.nK c.qs (GY X.toList) (.out .normal) (λv=>.out (.bp v)) (Y c.ch) c.ch c.s).oe (k .normal) λv=>k (.bp v))
def ac6(X:fF)(s:S):ar:=(X.tm.filterMap λx=>match x.2,s.tmps[x.1]? with
 |.ak (.sl e),U (.ak (.v k))=>if s.rs[k]?=U (.own e) then U k else Z
 |_,_=>Z)++X.cl.filterMap λx=>match x.2.2,bP s.au (x.1%1000) with
 |.ak (.sl e),U (_,W)=>(match W[x.2.1]? with|U (.ak (.v k))=>if s.rs[k]?=U (.own e) then U k else Z|_=>Z)
 |_,_=>Z
def S.dj(X:fF)(s:S):S:={s with rs:=kV (ac6 X s) 0 s.rs}
def fP(X:bv):Nat->FuncId->Code->S->YH->(XE->S->T)->T
 |0,_,_,_,_,_=>.stuck ""
 |n+1,R,c,s,W,k=>
  match c with
  |.skip=>k .normal s|.label _=>k .normal s|.ret=>k .ret s|.exit id=>k (.exit id) s|.seq a b=>fP X n R a s W (Ru (λP=>fP X n R b P W k) k)|.block id a=>fP X n R a s W (acP id k)|.scope a=>fP X n R a s W k
  |.cond c a b=>match s.ev X.gl c with
   |.bool (.c J)=>fP X n R a s W k|.bool (.c E)=>fP X n R b s W k
   |.bool x=>match c with
    |.tmp t=>.aI x (fP X n R a {s with tmps:=s.tmps.set t (.bool (.c J))} W k) (fP X n R b {s with tmps:=s.tmps.set t (.bool (.c E))} W k)
    |_=>.stuck ""
   |_=>.stuck ""
  |.region id V N=>match Wn X R id s with
   |U (e,H,gq,bw)=>MV e gq (ac5 (λP=>fP X n R (.region id V N) P W k) bw) (λP=>fP X n R (.region id V N) P W k) H
   |none=>if N then
    match Rq (X.JN R (id+2000000)) V with
    |U o=>(match EJ V.pop (Y s.au) with
     |U O=>if !CB X V.pop.toList then .stuck "" else lH X (uA X (CE X V.pop λf c s k=>fP X n f c s iC k) W) V.pop (λP=>lH X (kw X (λf c s k=>fP X n f c s W k) W) V (k .normal) (λv=>k (.bp v)) (fT (λ_=>E) J E (V.size-1) (Y P.au) [o]) P []) (λv=>k (.bp v)) O (s.vP V.pop O) []
     |none=>.stuck "")
    |none=>
    match MT X (!X.JN R id) V s with
    |U c=>RC X (kw X (λf c s k=>fP X n f c s W k) W) V k c
    |none=>match EJ V (Y s.au) with
    |U O=>if !CB X V.toList then .stuck "" else lH X (uA X (CE X V λf c s k=>fP X n f c s iC k) W) V (k .normal) (λv=>k (.bp v)) O (s.vP V O) []
    |none=>match MT X E V s with|U c=>RC X (kw X (λf c s k=>fP X n f c s W k) W) V k c|none=>.stuck ""
   else
   lH X (acQ (X.JN R (id+1000000)) X (kw X (λf c s k=>fP X n f c s W k) W)) V (k .normal) (λv=>k (.bp v)) (fT (λ_=>E) J E 0 (Y s.au) V.toList) (s.room (mS V.toList)) []
  |.loop a=>match(Code.first a).map (X.loop R) with
   |U (.inv Q)=>
    if !(ac6 Q s).isEmpty then fP X n R (.loop a) (s.dj Q) W k else
    if !s.bd|| !uy s (Q.at s).ks (lj (Q.at s) s)|| !AR (Q.at s) (Code.pM a) 0 s.tmps s.tmps|| !ux (Q.at s) 0 s.au s.au|| !AQ (jC (Q.at s) s) s.rs|| !JW (jC (Q.at s) s) (JV (Q.at s) s) then .stuck (alw (Q.at s) (Code.pM a) s) else
    .loop s.ax (Q.at s).ks (lj (Q.at s) s) (fP X n R a (rT (Q.at s) (Code.pM a) s) W (Wj (Q.at s) (Code.pM a) s k))
   |_=>fP X n R a s W (Ru (λP=>fP X n R (.loop a) P W k) k)
  |.rangeFunc f M assign body=>match s.ev X.gl f with
   |.fn g bD=>match X.inl g with
    |U (c,G,[])=>
     if !s.eV bD||s.zr (Y s.pd)||C.qu (Y s.pd) bD||kH assign||kH body|| !kq g 1000000 then .stuck "" else
     fP X n g c (MU s G bD)
      (Ry (Y s.pd) M.size λF L D B=>
       fP X n R assign (EP L s M.toList F) iC (Rx (Y s.pd) λA=>
        fP X n R body (A.EQ (Y s.pd) .busy) W (Wk (Y s.pd) L D B))) (J5 s k)
    |_=>.stuck ""
   |_=>.stuck ""
  |_=>.stuck ""
def MW{X:Type}(f:C->bo->(C->bo->X)->X):aq->bo->(aq->bo->X)->X
 |[],W,k=>k [] W|x::V,W,k=>f x W λR Q=>MW f V Q λP O=>k (R::P) O
def S.dU(X:bo):S:=⟨[],[],0,0,X,0,0,[]⟩
def MX(R:bv)(P:bm):Nat->C->bo->(C->bo->T)->T
 |0,_,_,_=>.stuck ""
 |n+1,.iO i N Q M,X,k=>match mR P i with
  |U (e,L)=>match R.ty e with
   |U V=>MW (MX R P n) L X λO W=>if oE R.ty (.dU W) V.am (jZ (Y V.am) Q O)&&Y O==Q*Y V.am&&N==0&&decide (Q<=M)&&Y V.am !=0 then .new e (.lit (jZ (Y V.am) Q O)) W (W++[.sl e]) (k (.ak (.v (Y W))) (W++[.sl e])) else .stuck ""
   |none=>.stuck ""
  |none=>.stuck ""
 |n+1,.agg l,X,k=>MW (MX R P n) l X λH W=>k (.agg H) W|_+1,.int q e,X,k=>k (.int q e) X|_+1,.bool e,X,k=>k (.bool e) X|_+1,.ak r,X,k=>k (.ak r) X|_+1,_,_,_=>.stuck ""
mutual
def C.awG:C->Bool
 |.iO _ _ _ _=>J|.agg l=>C.ac7 l|_=>E
def C.ac7:aq->Bool
 |[]=>E|x::X=>C.awG x||C.ac7 X
end
def RD(V:bv)(W:Nat)(l:aq)(X:S):T:=if W==0&&C.ac7 l&&X.bd&&C.dP X.ni X.nb (Y X.rs) (aJ X.au) l then MW (MX V X.au 9) l (X.rs.map RK.rd) λR Q=>.ret (one R) [] Q else .ret (one l) (uu (X.au.take W)) (X.rs.map RK.rd)
def Wo(W:bv)(V:Nat)(R:nF):XE->S->T
 |.normal,X=>match uw W X R with|U l=>RD W V l X|none=>.stuck ""
 |.ret,X=>match uw W X R with|U l=>RD W V l X|none=>.stuck ""
 |.bp v,_=>.bp v|.exit _,_=>.stuck ""
def RF(X:bv)(n:Nat)(V:FuncId)(c:Code)(R:Nat)(Q:nF)(W:aq)(s:S):T:=
 fP X n V c {s with tmps:=W++eu (R-Y W) (.bH [])} iC (Wo X (Y s.au) Q)
structure DI where
 uB:dC
 rest:Code
 g:FuncId
 te:Nat
 tf:Nat
def aly(uB:dC)(Q:Code):qi->Option DI
 |[X,W]=>match X.op,X.dst,X.guard,W.op,W.guard,W.dst with
  |.makeFunc (.func g) first bD,U V,Z,.defer R,Z,Z=>match first.toList,bD.toList,R.callee,R.args.toList with|[],[.tmp P],.value (.tmp O),[]=>if V==O then U ⟨uB,Q,g,P,V⟩ else Z|_,_,_,_=>Z
  |_,_,_,_,_,_=>Z
 |_=>Z
def rU:Code->Option DI
 |.seq (.region _ uB E) (.seq (.region _ X E) W)=>aly uB W X.toList|_=>Z
def sT(W:bv)(V:Nat)(R:nF)(X:S):T:=match uw W X R with|U l=>.ret (one l) (uu (X.au.take V)) (X.rs.map RK.rd)|none=>.stuck ""
def ac8(W:bv)(V:Nat)(R:TypeId)(P:Nat)(Q:nF):XE->S->T
 |.normal,X=>sT W V Q X|.ret,X=>sT W V Q X
 |.bp v,X=>match v with
  |.gH t (.int I x)=>match bP X.au P with
   |U (O,[.int I _])=>if t==R&&O==R then sT W V Q {X with au:=X.au.set P (U (R,[.int I x]))} else .stuck ""
   |_=>.stuck ""
  |_=>.stuck ""
 |.exit _,_=>.stuck ""
def ac9(W:bv)(n:Nat)(R:FuncId)(d:DI)(V:TypeId)(Q:Nat)(P:nF)(X:S):T:=match X.tmps[d.te]? with
 |U (.loc i 0)=>if !mQ V&&aJ X.au i&&decide (d.tf<Y X.tmps)&&kq d.g 1000000 then fP W n R d.rest (X.put (U d.tf) (.fn d.g [.loc i 0])) iC (ac8 W Q V i P) else .stuck ""
 |_=>.stuck ""
def RG(X:bv)(n:Nat)(V:FuncId)(c:Code)(R:Nat)(Q:nF)(P:TypeId)(W:aq)(s:S):T:=match rU c with
 |U d=>lH X (kw X (λf c s k=>fP X n f c s iC k) iC) d.uB (ac9 X n V d P (Y s.au) Q) (λ_ _=>.stuck "") (fT (λ_=>E) J E 0 (Y s.au) d.uB.toList) (({s with tmps:=W++eu (R-Y W) (C.bH [])}:S).room (mS d.uB.toList)) []
 |none=>.stuck ""
end
end Go.Proofs.YtjnmghiggfgjlaaGreatDoor.Y
namespace Go.Proofs.YtjnmghiggfgjlaaGreatDoor
open Go.RowKit
variable{c:List Nat}{Q:World}
structure fk(S:List Nat)(w w':World):Prop where
 os:w'.os=w.os
 tape:w'.tape=w.tape
 output:w'.output=w.output
 size:w.heap.size<=w'.heap.size
 block:∀k,k<w.heap.size->k∉S->w'.heap[k]?=w.heap[k]?
def fk.refl(S:List Nat)(w:World):fk S w w:=⟨rfl,rfl,rfl,cd _,λ_ _ _=>rfl⟩
def fk.trans{S:List Nat}{a b c:World}(h:fk S a b)(k:fk S b c):fk S a c:=
 ⟨k.os.trans h.os,k.tape.trans h.tape,k.output.trans h.output,mc h.size k.size,λi X W=>(k.block i (QR X h.size) W).trans (h.block i X W)⟩
def fk.mono{X:List Nat}{b:World}(h:fk c Q b)(W:∀x,x∈c->x∈X):fk X Q b:=
 ⟨h.os,h.tape,h.output,h.size,λi V R=>h.block i V (λm=>R (W i m))⟩
def fk.alloc{w:World}(h:fk c Q w)(o:Obj):fk c Q (w.alloc o):=
 h.trans ⟨rfl,rfl,rfl,by simp,λk X _=>Below.heap_alloc _ _ _ X⟩
def fk.drew{w:World}(h:fk c Q w):fk c Q w.drew:=⟨h.os,h.tape,h.output,h.size,h.block⟩
def fk.setCell{S:List Nat}{a w:World}(h:fk S a w){p:Addr}(X:p.block∈S)(u:Value):fk S a (w.setCell p u):=
 h.trans ⟨rfl,rfl,rfl,by simp[acm],λk _ W=>Below.heap_setCell _ _ _ _ (λe=>W (e▸X))⟩
theorem fk.putObj{S:List Nat}{a w:World}(h:fk S a w){r:Nat}(X:r∈S)(o:Obj):fk S a (w.putObj r o):=
 h.trans ⟨rfl,rfl,rfl,by simp[Mt],λk _ W=>uj (λe=>W (e▸X))⟩
def fk.awH{X:World}(h:Below Q.heap.size Q X):fk c Q X:=⟨h.os,h.tape,h.output,h.size,λk W _=>h.block k W⟩
def fk.call{w X:World}(h:fk c Q w)(k:Below w.heap.size w X):fk c Q X:=h.trans (fk.awH k)
def fk.grown{w W:World}{V:Option Nat}(h:fk c Q w)(X:w.grownBy W V)(N:∀k,V=U k->k∈c\/Q.heap.size<=k):fk c Q W:=
 ⟨X.os.trans h.os,X.tape.trans h.tape,X.output.trans h.output,mc h.size X.size,λk R P=>(X.block k (QR R h.size) (λe=>by rcases N k e.symm with O|O;exact P O;omega)).trans (h.block k R P)⟩
def fk.heap{S:List Nat}{w V:World}(h:fk S w V){b:Nat}{o:Obj}(X:w.heap[b]?=U o)(R:b∉S):V.heap[b]?=U o:=by
 have W:b<w.heap.size:=by
  by_cases W:b<w.heap.size;exact W;rw[aIS (by omega)] at X;cases X
 exact(h.block b W R).trans X
end Go.Proofs.YtjnmghiggfgjlaaGreatDoor
namespace Go.Proofs.YtjnmghiggfgjlaaGreatDoor.Y
open Go.RowKit
noncomputable section
variable{b:FuncId}{R M h:Nat}{r:Bool}{X:TypeId}{Q:World}{F:Oper}{n:Operand}
variable{v:aq}{N:C}
inductive RV where
 |mk (val:Value) (rows:List (List RV))
abbrev av:=List (List RV)
abbrev aE:=List RV
abbrev ER:=Option (List (List RV))
abbrev CF:=List Deferred
def RV.val:RV->Value
 |.mk v _=>v
def RV.ah:RV->av
 |.mk _ r=>r
@[simp] theorem RV.pe (v:Value) (r:av):(RV.mk v r).val=v:=rfl
@[simp] def RV.mU (v:Value) (r:av):(RV.mk v r).ah=r:=rfl
instance:Inhabited RV:=⟨.mk (.pointer Z) []⟩
structure aj where
 i:bA
 b:mP
 r:aE
 y:ar
def aj.at(O:aj)(y:ar):aj:={O with y:=y}
def aj.rv(O:aj)(k:Nat):RV:=O.r.getD k default
def bn:Value->Int
 |.int _ n=>n|_=>0
def jp:Value->Bool
 |.bool b=>b|_=>E
def lenOf:Value->Int
 |.slice _ n _=>n|.string s=>s.size|_=>0
def G5(v:Value)(i:Int):Int:=match v with
 |.string s=>match s[i.toNat]? with|U b=>b.toNat|none=>0
 |_=>0
def xD:Value->Value->Bool
 |.string a,.string b=>a.toList==b.toList|_,_=>E
def mi(n:Nat)(X:bA)(W:aE):Bool:=decide ((W.take n).map (λc=>bn c.val)=X.take n)
def mj(n:Nat)(X:bA)(W:av):Option aE:=W.find? (mi n X)
def iE(n:Nat)(X:aE):av->av
 |[]=>[X]|r::W=>if mi n ((X.take n).map λc=>bn c.val) r then X::W else r::iE n X W
def ln(x:Int):bA->fy->Value
 |k::X,v::W=>if x=k then(if jm v then v else .nilFunc) else ln x X W|_,_=>.nilFunc
def aN(X:av)(i:Int)(j:Nat):RV:=(X.getD i.toNat []).getD j default
def cH:RK->RV->RV
 |.sl _,v|.own _,v=>match v.val with|.slice _ _ _=>v|_=>.mk (.slice Z 0 0) []
 |.str,v=>match v.val with|.string s=>.mk (.string s) []|_=>.mk (.string ⟨#[]⟩) []
 |.bw,v=>if jm v.val then .mk v.val [] else .mk (.pointer Z) []|.aR,v=>if jm v.val then v else .mk (.pointer Z) []
 |.mr _,v=>match v.val with|.slice _ _ _=>v|_=>.mk (.slice Z 0 0) []
mutual
def K.ai(O:aj):K->Int
 |.c n=>n|.v k=>O.i.getD k 0|.bin X k a b=>be X k (a.ai O) (b.ai O)|.conv k a=>k.wrap (a.ai O)|.len r=>lenOf (r.rv O).val|.mm W a b=>if W then max (a.ai O) (b.ai O) else min (a.ai O) (b.ai O)|.dt b x y=>if b.ai O then x.ai O else y.ai O|.cell r i j=>bn (aN (r.rv O).ah (i.ai O) j).val|.oZ r i=>G5 (r.rv O).val (i.ai O)
 |.look r n a b c j=>match mj n [a.ai O,b.ai O,c.ai O] (r.rv O).ah with|U V=>bn (V.getD j default).val|none=>0
def BE.ai(O:aj):BE->Bool
 |.c b=>b|.v k=>O.b.getD k E|.cmp X a b=>fj X (a.ai O) (b.ai O)|.not a=> !(a.ai O)|.and a b=>a.ai O&&b.ai O|.beq a b=>a.ai O==b.ai O|.dt b x y=>if b.ai O then x.ai O else y.ai O|.cell r i j=>jp (aN (r.rv O).ah (i.ai O) j).val|.seq a b=>xD (a.rv O).val (b.rv O).val
 |.look r n a b c j=>match mj n [a.ai O,b.ai O,c.ai O] (r.rv O).ah with|U W=>jp (W.getD j default).val|none=>E
 |.has r n a b c=>(mj n [a.ai O,b.ai O,c.ai O] (r.rv O).ah).isSome
def RE.rv(O:aj):RE->RV
 |.v k=>O.rv k|.cell r i j k=>cH k (aN (r.rv O).ah (i.ai O) j)|.k v=>.mk v []
end
def RE.ai(O:aj)(r:RE):Value:=(r.rv O).val
def C.cj(O:aj):C->RV
 |.int k e=>.mk (.int k (e.ai O)) []|.bool b=>.mk (.bool (b.ai O)) []|.ak r=>r.rv O|_=>default
def ge(X:aE)(W:Nat):aE->aE
 |[]=>X|v::r=>ge (X.set W v) (W+1) r
def LE.ah(O:aj):LE->av
 |.ak r=>(r.rv O).ah|.lit l=>l.map λX=>X.map (C.cj O)|.iB a b=>a.ah O++b.ah O|.xt n X=>eu (n.ai O).toNat (X.map (C.cj O))|.set a i V W=>(a.ah O).modify (i.ai O).toNat λX=>ge X V (W.map (C.cj O))|.sub a R Q=>((a.ah O).take (Q.ai O).toNat).drop (R.ai O).toNat|.ins a n W=>iE n (W.map (C.cj O)) (a.ah O)
def gt(x:LE)(O:aj):RV:=.mk (.slice Z (x.ah O).length (x.ah O).length) (x.ah O)
def aW(c:Nat)(X:aE):Int:=bn (X.getD c default).val
def jD(X:Bool):ar->aE->aE->Bool
 |[],_,_=>E|c::W,x,y=>if aW c x=aW c y then jD X W x y else if X then decide (aW c y<aW c x) else decide (aW c x<aW c y)
def bu.lt:bu->aE->aE->Bool
 |.lex X d,x,y=>jD d X x y|.ratio n d,x,y=>decide (aW n x*aW d y<aW n y*aW d x)|.dw _ _ _,_,_=>E
def mo(n d:Int):Bool:=decide (1<=d)&&decide (d<=1073741824)&&decide (-1073741824<=n)&&decide (n<=1073741824)&&aco n.natAbs d.toNat==1
def bu.ok:bu->aE->Bool
 |.lex _ _,_=>J|.ratio n d,x=>mo (aW n x) (aW d x)|.dw _ _ _,_=>E
def fl(lt:aE->aE->Bool)(x:aE):av->av
 |[]=>[x]|y::r=>if lt x y then x::y::r else y::fl lt x r
def bN(lt:aE->aE->Bool)(l:av):av:=l.foldl (λacc x=>fl lt x acc) []
def vU(lt:aE->aE->Bool):av->Bool
 |[]=>J|x::r=>r.all (λy=>lt x y||lt y x)&&vU lt r
def ip:bu->Bool->av->ER
 |.dw _ _ _,_,_=>Z|W,V,X=>if decide (Y X<=1099511627776)&&(X.all W.ok&&(V||vU W.lt X)) then U (bN W.lt X) else Z
def mq(X:av):Bool:=(di (Y X)).all λk=>decide (0<=aW 0 (X.getD k []))&&decide (aW 0 (X.getD k [])<=k)
def sU:Nat->Int->av->av
 |0,_,X=>X|n+1,i,X=>if aW 0 (X.getD i.toNat [])=i then X else(sU n (aW 0 (X.getD i.toNat [])) X).set i.toNat ((sU n (aW 0 (X.getD i.toNat [])) X).getD (aW 0 (X.getD i.toNat [])).toNat [])
def xE(i:Int)(X:av):ER:=if decide (Y X<=1099511627776)&&decide (0<=i)&&decide (i<Y X)&&mq X then U (sU (Y X) i X) else Z
def bi(X:av)(a b:Nat):av:=(X.drop a).take (b-a)
def zu(lt:aE->aE->Bool):av->Bool
 |[]=>J|x::r=>r.all (λy=> !lt y x)&&zu lt r
def og(k:Nat)(o:bu)(W:bA)(X:av):ER:=match k,W with|0,[a,b,n]=>if decide (0<=a)&&decide (0<=n)&&decide (a+n<=b)&&decide (b+n<=Y X) then U (X.take a.toNat++(bi X b.toNat (b+n).toNat++(bi X (a+n).toNat b.toNat++(bi X a.toNat (a+n).toNat++X.drop (b+n).toNat)))) else Z|1,[a,m,b]=>if decide (0<=a)&&decide (a<m)&&decide (m<b)&&decide (b<=Y X) then U (X.take a.toNat++(bi X m.toNat b.toNat++(bi X a.toNat m.toNat++X.drop b.toNat))) else Z|2,[a,b]=>if decide (0<=a)&&decide (a<=b)&&decide (b<=Y X)&&X.all o.ok then U (X.take a.toNat++(bN o.lt (bi X a.toNat b.toNat)++X.drop b.toNat)) else Z|n+3,[a,m,b]=>if decide (0<=a)&&decide (a<m)&&decide (m<b)&&decide (b<=Y X)&&decide (b-a<n)&&X.all o.ok&&zu o.lt (bi X a.toNat m.toNat)&&zu o.lt (bi X m.toNat b.toNat) then U (X.take a.toNat++(bN o.lt (bi X a.toNat b.toNat)++X.drop b.toNat)) else Z|_,_=>Z
def ad(V:ar)(i:Nat):Nat:=V.getD i 0
def pf(v:Value)(n:Nat):Addr:=match v with|.slice (U a) _ _=>⟨a.block,a.off+n,Z⟩|_=>⟨0,n,Z⟩
def ada:Value->Value
 |.slice a n _=>.slice a n n|_=>.nilFunc
def vV(f:FuncId):fy->Value
 |[]=>.func (.func f) #[] #[]|v::r=>cond (kq f 1000000) (.func (.func f) #[] (v::r).toArray) (cond (kq f 2000000) (.func (.func (f-1000000)) #[v] r.toArray) (ada v))
@[simp] def aJh:vV b []=.func (.func b) #[] #[]:=rfl
@[simp] def Wp (f:FuncId) (l:fy):jm (vV f l)=true:=by
 cases l with
 |nil=>rfl
 |cons v r=>
  unfold vV;cases kq f 1000000;cases kq f 2000000;cases v<;>rfl;rfl;rfl
theorem adb{l:fy}(h:kq b 1000000=J):vV b l=.func (.func b) #[] l.toArray:=by
 cases l<;>simp[vV,h]
def adc(l:fy)(h:kq b 2000000=J):∃a X c,vV b l=.func (.func a) X c:=by
 cases l;simp;unfold vV;rw[h];cases kq b 1000000<;>exact⟨_,_,_,rfl⟩
mutual
def C.ai(O:aj)(V:ar):C->Value
 |.int k e=>.int k (e.ai O)|.bool b=>.bool (b.ai O)|.ak r=>r.ai O|.loc i X=>.pointer (U ⟨ad V i,X,Z⟩)|.el r w i X=>.pointer (U (pf (r.ai O) ((i.ai O).toNat*w+X)))|.iO i X W R=>.slice (U ⟨ad V i,X,Z⟩) W R|.agg l=>.agg (C.az O V l).toArray|.bH l=>.tuple (C.az O V l).toArray|.fn f l=>vV f (C.az O V l)|.gH t x=>.iface t (C.ai O V x)|.yl n=>.func (.yield (O.y.getD n 0)) #[] #[]|.any=>undef|.mp i=>.map (U (ad V i))|.gp e Q P=>ln (e.ai O) Q (C.az O V P)
def C.az(O:aj)(V:ar):aq->fy
 |[]=>[]|x::X=>C.ai O V x::C.az O V X
end
theorem oG(O:aj)(V:ar):∀l,C.az O V l=l.map (C.ai O V)
 |[]=>rfl|x::X=>by rw[C.az,oG O V X];rfl
@[simp] def MY (O:aj) (V:ar) (l:aq):(C.az O V l).length=Y l:=by rw[oG];simp
theorem uC(O:aj)(V:ar)(l:aq)(i:Nat):(C.az O V l)[i]?=(l[i]?).map (C.ai O V):=by rw[oG];simp
theorem G6(O:aj)(V:ar)(l m:aq):C.az O V (l++m)=C.az O V l++C.az O V m:=by simp[oG]
def ade(g:FuncId)(X bD:aq):AP g X bD=.no\/∃W a,AP g X bD=.call (.fn W) a:=by
 unfold AP
 grind
def awI{bD X:aq}(h:AP b v bD=.call (.yl R) X):False:=by
 rcases ade b v bD with q|⟨_,_,q⟩<;>rw[q] at h<;>cases h
def alz{bD:aq}(h:AP b v bD=.op):False:=by
 rcases ade b v bD with q|⟨_,_,q⟩<;>rw[q] at h<;>cases h
def alA{bD:aq}(h:AP b v bD=.bp N):False:=by
 rcases ade b v bD with q|⟨_,_,q⟩<;>rw[q] at h<;>cases h
def alB(O:aj)(V:ar){g:FuncId}{bD W:aq}(h:AP b v bD=.call (.fn g) W):∃p q:mO,(C.fn b bD).ai O V=.func (.func g) p q/\p++(C.az O V v).toArray++q=(C.az O V W).toArray:=by
 unfold AP at h;rw[C.ai];split at h;simp at h;obtain⟨rfl,rfl⟩:=h;exact⟨#[], #[],rfl,aw⟩;rename_i X r;simp only[C.az,vV];cases R:kq b 1000000;cases Q:kq b 2000000
 grind
 simp only[R,Q,cond_false,cond_true,CK.call.injEq,Cr.fn.injEq] at h;obtain⟨N,P⟩:=h;refine⟨#[X.ai O V],(C.az O V r).toArray, ?_, ?_⟩
 grind
 rw[<-P];simp[C.az,G6];simp only[R,cond_true,CK.call.injEq,Cr.fn.injEq] at h;obtain⟨rfl,rfl⟩:=h
 grind [G6,C.az]
inductive bG(W:World)(ty:Ty):RK->RV->Prop where
 |sl (e:TypeId) (A:Option Addr) (len cap:Nat) (rows:List (List RV)) (h1:Y rows=len) (h2:len<=cap)
   (h3:∀(i:Nat)(row:List RV),rows[i]?=U row->Y row=(bI ty (.sl e)).length/\∃b off,A=U ⟨b,off,Z⟩/\(∃cs t fr,W.heap[b]?=U (.cells cs t fr))/\
    ∀(j:Nat)(c:RV),row[j]?=U c->W.cell? ⟨b,off+i*(bI ty (.sl e)).length+j,Z⟩=U c.val)
   (hi:∀(i j:Nat)(row:List RV)(c:RV)(k:IntKind),rows[i]?=U row->row[j]?=U c->(bI ty (.sl e))[j]?=U (.int k)->∃n,c.val=.int k n)
   (hb:∀(i j:Nat)(row:List RV)(c:RV),rows[i]?=U row->row[j]?=U c->(bI ty (.sl e))[j]?=U .bool->∃x,c.val=.bool x)
   (ho:∀(i j:Nat)(row:List RV)(c:RV)(z:Value)(k:RK),rows[i]?=U row->row[j]?=U c->(bI ty (.sl e))[j]?=U (.bw z k)->bG W ty k c):
   bG W ty (.sl e) (.mk (.slice A len cap) rows)
 |str (s:ByteArray):bG W ty .str (.mk (.string s) [])
 |bw (v:Value) (h:jm v=J):bG W ty .bw (.mk v [])
 |own (e:TypeId) (rv:RV) (h:bG W ty (.sl e) rv) (hn:∀l c,rv.val=.slice Z l c->c=0):bG W ty (.own e) rv
 |aR (rv:RV) (h:jm rv.val=J):bG W ty .aR rv
 |mr (sh:Sh) (rows:List (List RV)) (h1:∀(i:Nat)(row:List RV),rows[i]?=U row->Y row=(bI ty (.mr sh)).length)
   (hi:∀(i j:Nat)(row:List RV)(c:RV)(k:IntKind),rows[i]?=U row->row[j]?=U c->(bI ty (.mr sh))[j]?=U (.int k)->∃n,c=.mk (.int k n) [])
   (hb:∀(i j:Nat)(row:List RV)(c:RV),rows[i]?=U row->row[j]?=U c->(bI ty (.mr sh))[j]?=U .bool->∃x,c=.mk (.bool x) [])
   (ho:∀(i j:Nat)(row:List RV)(c:RV)(z:Value)(k:RK),rows[i]?=U row->row[j]?=U c->(bI ty (.mr sh))[j]?≠U (.bw z k)):
   bG W ty (.mr sh) (.mk (.slice Z (Y rows) (Y rows)) rows)
inductive dV(ty:Ty):RK->RV->Nat->Prop where
 |here (e:TypeId) (a:Addr) (len cap:Nat) (rows:List (List RV)):dV ty (.sl e) (.mk (.slice (U a) (len+1) cap) rows) a.block
 |deep (e:TypeId) (v:Value) (rows:List (List RV)) (i j:Nat) (row:List RV) (c:RV) (z:Value) (k:RK) (b:Nat):rows[i]?=U row->row[j]?=U c->(bI ty (.sl e))[j]?=U (.bw z k)->dV ty k c b->dV ty (.sl e) (.mk v rows) b
 |own (e:TypeId) (rv:RV) (b:Nat):dV ty (.sl e) rv b->dV ty (.own e) rv b
def RV.lq(X:RV):cG:=match X.val with|.slice (U a) _ (_+1)=>U a.block|_=>Z
def AV(W:Ty)(e:RK)(X:RV)(b:Nat):Prop:=dV W e X b\/(∃t,e=.own t)/\X.lq=U b
def oH(X:Ty)(e:TypeId)(V:av)(b:Nat):Prop:=∃(i j:Nat)(W:aE)(c:RV)(z:Value)(k:RK),V[i]?=U W/\W[j]?=U c/\(bI X (.sl e))[j]?=U (.bw z k)/\dV X k c b
def rf(n:Nat)(X:ar):ar:=X.takeWhile (· !=n)
def alC{n b:Nat}:∀{X:ar},b∈rf n X->b∈X
 |[],h=>by simp[rf] at h
 |x::l,h=>by
  unfold rf at h;rw[List.takeWhile_cons] at h;split at h;rcases fh.1 h with rfl|h;simp;exact AH _ (alC h);simp at h
structure AW(S0:ar)(w0:World)(V:ar)(O:aj)(bx:bm)(ty:Ty)(rs:bo)(W:World)(k:Nat)(e:TypeId)(rv:RV)(b:Nat):Prop where
 own:w0.heap.size<=b\/b∈rf w0.heap.size S0
 mem:∃len cap db,rv.val=.slice (U ⟨b,0,Z⟩) len cap/\W.heap[b]?=U (.cells db e (0,0))/\len<=cap/\cap<=maxLen/\db.size=cap*(bI ty (.sl e)).length
 box:∀i,aJ bx i=J->ad V i≠b
 alone:∀(k':Nat)(e':RK)(rv':RV),k'≠k->rs[k']?=U e'->O.r[k']?=U rv'->¬AV ty e' rv' b
 inner:¬oH ty e rv.ah b
def C.gf(O:aj)(V:ar)(v:C):RV:=match v with|.ak r=>r.rv O|v=>.mk (v.ai O V) []
def C.bL(O:aj)(V:ar)(l:aq):aE:=l.map (C.gf O V)
def gA:Nat->uq->List MapEntry
 |_,[]=>[]|n,x::r=>⟨x.1,x.2,n⟩::gA (n+1) r
def rg(l:uq):Obj:=.map (gA 0 l).toArray (Y l)
def ES:fy->uq
 |k::v::r=>(k,v)::ES r|_=>[]
def rV(a:Bool)(l:aE):Value:=if a then .agg (l.map RV.val).toArray else(l.headD default).val
def xF(n:Nat)(W V:Bool)(X:aE):Value×Value:=(rV W (X.take n),rV V (X.drop n))
def alD:Value->cG
 |.map a=>a|_=>Z
def qw(X:aE):Nat:=(bn (X.headD default).val).toNat
def j5(t:TypeId)(l:aE):Obj:=
 if t=vF then rg (ES (l.map RV.val)) else
 if t=xq then(match l with
  |[X,.mk (.int _ n) _,.mk (.bool W) _,.mk (.bool V) _]=>rg (X.ah.map (xF n.toNat W V))
  |_=>rg []) else
 if t=zf then(match l with
  |[R,_,.mk (.int _ n) _,Q]=>.mapIter (alD R.val) n.toNat (Q.ah.map qw).toArray n.toNat
  |_=>rg []) else
 .cells (l.map RV.val).toArray t (0,0)
structure jE(S0:ar)(w0:World)(V:ar)(O:aj)(bx:bm)(ty:Ty)(rs:bo)(W:World):Prop where
 base:fk S0 w0 W
 own:∀i,aJ bx i=J->w0.heap.size<=ad V i\/ad V i∈S0
 inj:∀i j,aJ bx i=J->aJ bx j=J->ad V i=ad V j->i=j
 box:∀(i:Nat)(t:TypeId)(cs:aq),bP bx i=U (t,cs)->W.heap[ad V i]?=U (j5 t (C.bL O V cs))
 ak:∀(k:Nat)(e:RK)(rv:RV),rs[k]?=U e->O.r[k]?=U rv->bG W ty e rv/\∀b,dV ty e rv b->∀i,aJ bx i=J->ad V i≠b
structure bT where
 out:ar
 dI:List (Nat×Loop)
 rd:Bool
 base:CF
def bT.none:bT:=⟨[],[],E,[]⟩
def mV(r:Nat):Deferred:={target:=.collected r,args:= #[]}
def PX.code:PX->Code
 |.ret=>.ret|.exit id=>.exit id
def sW(r:Loop):JD->Loop
 |.ready=>{r with state:=.ready,pending:=Z}
 |.busy=>{r with state:=.busy,pending:=Z}
 |.done e=>{r with state:=.done,pending:=U e.code}
structure ee(w0:World)(D:bT)(pd:vE)(y:ar)(dfr:CF)(W:World):Prop where
 len:Y D.dI=Y pd
 rW:Y y=Y pd
 dI:∀(n l:Nat)(r:Loop)(st:JD),D.dI[n]?=U (l,r)->pd[n]?=U st->y[n]?=U l/\W.heap[l]?=U (.loop (sW r st))/\w0.heap.size<=l
 inj:∀(n n' l:Nat)(r r':Loop),D.dI[n]?=U (l,r)->D.dI[n']?=U (l,r')->n=n'
 mu:∃ms:ar,dfr=ms.map mV++D.base/\(D.rd=J->ms=[])/\(ms++D.out).Nodup/\∀d∈ms++D.out,W.heap[d]?=U (.deferred (U []))/\w0.heap.size<=d
structure aA(S0:ar)(w0:World)(D:bT)(ty:Ty)(V:ar)(O:aj)(s:S)(a:Act)(W:World):Prop where
 mem:jE S0 w0 V O s.au ty s.rs W
 gC:Y V=Y s.au
 ei:Y O.i=s.ni
 eb:Y O.b=s.nb
 er:Y O.r=Y s.rs
 dl:ee w0 D s.pd O.y a.defers W
 size:a.tmps.size=Y s.tmps
 tmps:∀(t:Nat)(sv:C),s.tmps[t]?=U sv->sv=.any\/a.tmps[t]?=U (sv.ai O V)
 eN:∀(k:Nat)(e:TypeId)(rv:RV)(b:Nat),s.rs[k]?=U (.own e)->O.r[k]?=U rv->rv.lq=U b->AW S0 w0 V O s.au ty s.rs W k e rv b
def aj.ph(X:Ty)(O:aj)(W:bo)(b:Nat):Prop:=∃(k:Nat)(e:RK),W[k]?=U e/\dV X e (O.rv k) b
inductive XV where
 |i (n:Int)
 |b (x:Bool)
 |r (v:RV)
abbrev aZ:=List XV
def aj.add(O:aj):XV->aj
 |.i n=>{O with i:=O.i++[n]}
 |.b x=>{O with b:=O.b++[x]}
 |.r v=>{O with r:=O.r++[v]}
def aj.ext(O:aj):aZ->aj
 |[]=>O|x::X=>(O.add x).ext X
def C.xv(O:aj):C->XV
 |.int _ e=>.i (e.ai O)|.bool b=>.b (b.ai O)|.ak r=>.r (r.rv O)|_=>.i 0
def qy:LK->XV->Prop
 |.int _,.i _=>True|.bool,.b _=>True|.ak _,.r _=>True|_,_=>False
def dJ:aL->aZ->Prop
 |[],[]=>True|k::X,x::W=>qy k x/\dJ X W|_,_=>False
def awJ(X:Ty)(W:World)(B:Nat)(R:Nat->Prop):LK->XV->Prop
 |.ak e,.r V=>bG W X e V/\∀b,dV X e V b->B<=b\/R b|_,_=>True
def CG(X:Ty)(W:World)(B:Nat)(V:Nat->Prop):aL->aZ->Prop
 |k::R,x::Q=>awJ X W B V k x/\CG X W B V R Q|_,_=>True
structure J8(ty:Ty)(S0:ar)(w0:World)(e:TypeId)(x:LE)(rs:bo)(O:aj)(rv:RV):Prop where
 val:∃A n c,rv=.mk (.slice A n c) (x.ah O)/\(x.ah O).length=n
 ph:∀b,dV ty (.sl e) rv b->w0.heap.size<=b\/b∈rf w0.heap.size S0\/O.ph ty rs b
 adf:∀(k:Nat)(i:K)(off:Nat)(cs:aq),x=.set (.ak (.v k)) i off cs->rv.val=(O.rv k).val
structure LC where
 ax:Nat
 I:aZ->Prop
 μ:aZ->Nat
 m:Nat
abbrev dp:=List LC
def pi(ax:Nat):dp->Option LC
 |[]=>Z|x::X=>if x.ax=ax then U x else pi ax X
def XE.to(O:aj)(V:ar):XE->Exit
 |.normal=>.normal|.ret=>.ret|.exit id=>.exit id|.bp v=>.panic [{v:=v.ai O V,recovered:=E}]
structure Sp where
 P:Program
 ty:Ty
 S0:ar
 w0:World
 D:bT
 R:Ending->World->Prop
 Q:Exit->Act->World->Prop
def qz(k:Nat)(o:bu)(W:bA)(X:av):ER:=if Y X<=1099511627776 then og k o W X else Z
def lu(O:aj):bu->Bool->av->ER
 |.dw k o W,E,X=>qz k o (W.map (K.ai O)) X|.dw _ _ [i],J,X=>xE (i.ai O) X|.dw _ _ _,J,_=>Z|V,R,X=>ip V R X
def oI(O:aj):bu->Bool->av->ER
 |.dw _ _ _,E,_=>Z|.dw _ _ [i],J,X=>xE (i.ai O) X|.dw _ _ _,J,_=>Z|W,V,X=>ip W V X
def alE{O:aj}{W:bu}{V X:av}(h:oI O W r V=U X):lu O W r V=U X:=by
 cases W with
 |lex Q d=>exact h|ratio n d=>exact h
 |dw k o R=>
  cases r with
  |false=>simp[oI] at h
  |true=>
   cases R with
   |nil=>simp[oI] at h
   |cons i l=>
    cases l with|nil=>exact h|cons j l=>simp[oI] at h
def alF(p:Sp)(R:VI)(H:aq)(G:bm)(M:bo)(L:aL)(O:aj)(X:aj->Prop):Prop:=
 ∀y V W,jE p.S0 p.w0 V (O.at y) G p.ty M W->Calls p.P R.g (C.az (O.at y) V (H.take R.n)++C.az (O.at y) V R.bD).toArray W λ
  |.returned v,N=>∃Q,dJ L Q/\v=.tuple #[]/\fk (R.out.map λx=>ad V x.1) W N/\(∀x∈R.out,N.heap[ad V x.1]?=U (j5 x.2.1 (C.bL ((O.ext Q).at y) V x.2.2)))/\CG p.ty N W.heap.size (O.ph p.ty M) L Q/\X (O.ext Q)|_,_=>False
def T.aM(p:Sp):T->aj->dp->Prop
 |.out e s,O,_=>∀y V a W,aA p.S0 p.w0 p.D p.ty V (O.at y) s a W->p.Q (e.to (O.at y) V) a W|.ret v F M,O,_=>∀y V W,jE p.S0 p.w0 V (O.at y) F p.ty M W->p.R (.returned (v.ai (O.at y) V)) W|.bp v,O,_=>∀y V W,fk p.S0 p.w0 W->p.R (.panicked [{v:=v.ai (O.at y) V,recovered:=E}]) W|.aI b t f,O,L=>(b.ai O=J->t.aM p O L)/\(b.ai O=E->f.aM p O L)|.aQ b t,O,L=>b.ai O=J/\t.aM p O L
 |.call f B F M H fz t,O,L=>match zo fz with
  |U u=>alF p u B F M H O λq=>t.aM p q L
  |none=>∀y V W,jE p.S0 p.w0 V (O.at y) F p.ty M W->Calls p.P f (C.az (O.at y) V B).toArray W λ
   |.returned v,G=>∃N,dJ H N/\v=fz.ai ((O.ext N).at y) V/\Below W.heap.size W G/\CG p.ty G W.heap.size (O.ph p.ty M) H N/\t.aM p (O.ext N) L|.panicked o,G=>Below W.heap.size W G/\p.R (.panicked o) G|.outgrown,_=>False
 |.loop ax H l t,O,L=>∃X A,X (l.map (C.xv O))/\∀N,dJ H N->X N->t.aM p (O.ext N) (⟨ax,X,A,A N⟩::L)
 |.back ax x,O,L=>match pi ax L with|U c=>c.I (x.map (C.xv O))/\c.μ (x.map (C.xv O))<c.m|none=>False
 |.new e x M _ t,O,L=>∀z,J8 p.ty p.S0 p.w0 e x M O z->t.aM p (O.add (.r z)) L|.ah _ x _ t,O,L=>t.aM p (O.add (.r (gt x O))) L|.gq g h t f,O,L=>(g.ai O=J->t.aM p O L)/\(h.ai O=J->f.aM p O L)|.pick n g h t f,O,L=>(∀j:Int,0<=j->j<n.ai O->g.ai (O.add (.i j))=J->t.aM p (O.add (.i j)) L)/\(h.ai O=J->f.aM p O L)|.eE _ _ _ k d r _ t,O,L=>∃w,lu O k d (r.rv O).ah=U w/\t.aM p (O.add (.r (.mk (r.rv O).val w))) L|.stuck _,_,_=>False
variable{w:bm}{k:aj}{x:ar}
def alG:∀(a b:Value),JK a b=J->a=b:=by
 intro a b h;unfold JK at h;split at h;rename_i a b;have X:a.data.toList=b.data.toList:=by simpa using h
 have W:a.data=b.data:=by simpa using X
 cases a;cases b;simp_all
 grind
 all_goals first|rfl|cases h
mutual
theorem K.bW:∀(a b:K),K.aP a b=J->a=b
 |.c a,b,h=>by cases b<;>simp[K.io] at h;rw[h]
 |.v a,b,h=>by cases b<;>simp[K.io] at h;rw[h]
 |.bin o k a b,x,h=>by
  cases x<;>simp[K.io,Co] at h;obtain⟨⟨⟨rfl,rfl⟩,X⟩,W⟩:=h;rw[K.bW _ _ X,K.bW _ _ W]
 |.conv k a,x,h=>by
  cases x<;>simp[K.io] at h;obtain⟨rfl,X⟩:=h;rw[K.bW _ _ X]
 |.len r,x,h=>by
  cases x<;>simp[K.io] at h;rw[RE.bW _ _ h]
 |.mm m a b,x,h=>by
  cases x<;>simp[K.io] at h;obtain⟨⟨rfl,X⟩,W⟩:=h;rw[K.bW _ _ X,K.bW _ _ W]
 |.dt b a c,x,h=>by
  cases x<;>simp[K.io] at h;obtain⟨⟨V,X⟩,W⟩:=h;rw[BE.bW _ _ V,K.bW _ _ X,K.bW _ _ W]
 |.cell r i j,x,h=>by
  cases x<;>simp[K.io] at h;obtain⟨⟨V,X⟩,rfl⟩:=h;rw[RE.bW _ _ V,K.bW _ _ X]
 |.oZ r i,x,h=>by
  cases x<;>simp[K.io] at h;obtain⟨V,X⟩:=h;rw[RE.bW _ _ V,K.bW _ _ X]
 |.look r n a b c j,x,h=>by
  cases x<;>simp[K.io] at h;obtain⟨⟨⟨⟨⟨V,rfl⟩,X⟩,W⟩,R⟩,rfl⟩:=h;rw[RE.bW _ _ V,K.bW _ _ X,K.bW _ _ W,K.bW _ _ R]
theorem BE.bW:∀(a b:BE),BE.aP a b=J->a=b
 |.c a,b,h=>by cases b<;>simp[BE.io] at h;rw[h]
 |.v a,b,h=>by cases b<;>simp[BE.io] at h;rw[h]
 |.cmp o a b,x,h=>by
  cases x<;>simp[BE.io,Co] at h;obtain⟨⟨rfl,X⟩,W⟩:=h;rw[K.bW _ _ X,K.bW _ _ W]
 |.not a,x,h=>by
  cases x<;>simp[BE.io] at h;rw[BE.bW _ _ h]
 |.and a b,x,h=>by
  cases x<;>simp[BE.io] at h;rw[BE.bW _ _ h.1,BE.bW _ _ h.2]
 |.beq a b,x,h=>by
  cases x<;>simp[BE.io] at h;rw[BE.bW _ _ h.1,BE.bW _ _ h.2]
 |.dt b a c,x,h=>by
  cases x<;>simp[BE.io] at h;obtain⟨⟨V,X⟩,W⟩:=h;rw[BE.bW _ _ V,BE.bW _ _ X,BE.bW _ _ W]
 |.cell r i j,x,h=>by
  cases x<;>simp[BE.io] at h;obtain⟨⟨V,X⟩,rfl⟩:=h;rw[RE.bW _ _ V,K.bW _ _ X]
 |.seq a b,x,h=>by
  cases x<;>simp[BE.io] at h;rw[RE.bW _ _ h.1,RE.bW _ _ h.2]
 |.look r n a b c j,x,h=>by
  cases x<;>simp[BE.io] at h;obtain⟨⟨⟨⟨⟨V,rfl⟩,X⟩,W⟩,R⟩,rfl⟩:=h;rw[RE.bW _ _ V,K.bW _ _ X,K.bW _ _ W,K.bW _ _ R]
 |.has r n a b c,x,h=>by
  cases x<;>simp[BE.io] at h;obtain⟨⟨⟨⟨V,rfl⟩,X⟩,W⟩,R⟩:=h;rw[RE.bW _ _ V,K.bW _ _ X,K.bW _ _ W,K.bW _ _ R]
theorem RE.bW:∀(a b:RE),RE.aP a b=J->a=b
 |.v a,b,h=>by cases b<;>simp[RE.io] at h;rw[h]
 |.cell r i j k,x,h=>by
  cases x<;>simp[RE.io] at h;obtain⟨⟨⟨X,W⟩,rfl⟩,rfl⟩:=h;rw[RE.bW _ _ X,K.bW _ _ W]
 |.k a,b,h=>by cases b<;>simp[RE.io] at h;rw[alG _ _ h]
end
mutual
theorem C.bW:∀(a b:C),C.aP a b=J->a=b
 |.int k e,x,h=>by cases x<;>simp[C.io] at h;rw[h.1,K.bW _ _ h.2]
 |.bool b,x,h=>by cases x<;>simp[C.io] at h;rw[BE.bW _ _ h]
 |.ak r,x,h=>by cases x<;>simp[C.io] at h;rw[RE.bW _ _ h]
 |.loc i o,x,h=>by cases x<;>simp[C.io] at h;rw[h.1,h.2]
 |.el r w i o,x,h=>by
  cases x<;>simp[C.io] at h
  grind [RE.bW,K.bW]
 |.iO a b c d,x,h=>by
  cases x<;>simp[C.io] at h
  grind
 |.agg l,x,h=>by cases x<;>simp[C.io] at h;rw[C.pj _ _ h]
 |.bH l,x,h=>by cases x<;>simp[C.io] at h;rw[C.pj _ _ h]
 |.fn f l,x,h=>by cases x<;>simp[C.io] at h;rw[h.1,C.pj _ _ h.2]
 |.gH t y,x,h=>by cases x<;>simp[C.io] at h;rw[h.1,C.bW _ _ h.2]
 |.yl n,x,h=>by cases x<;>simp[C.io] at h;rw[h]
 |.any,x,h=>by cases x<;>simp[C.io] at h;rfl
 |.mp i,x,h=>by cases x<;>simp[C.io] at h;rw[h]
 |.gp e X W,x,h=>by cases x<;>simp[C.io] at h;rw[K.bW _ _ h.1.1,h.1.2,C.pj _ _ h.2]
theorem C.pj:∀(a b:aq),C.n9 a b=J->a=b
 |[],b,h=>by cases b<;>simp[C.alg] at h;rfl
 |x::X,b,h=>by cases b<;>simp[C.alg] at h;rw[C.bW _ _ h.1,C.pj _ _ h.2]
end
structure ja(O O':aj)(ni nb nr:Nat):Prop where
 i:∀k,k<ni->O'.i.getD k 0=O.i.getD k 0
 b:∀k,k<nb->O'.b.getD k E=O.b.getD k E
 r:∀k,k<nr->O'.rv k=O.rv k
 y:O'.y=O.y
mutual
def K.ef{O W:aj}{V R Q:Nat}(X:ja O W V R Q):∀(e:K),e.bd V R Q=J->e.ai W=e.ai O
 |.c n,_=>by simp[K.ai]|.v k,h=>by simp[K.bj] at h;simp only[K.ai];exact X.i k h|.bin o k a b,h=>by simp[K.bj] at h;simp only[K.ai,K.ef X a h.1,K.ef X b h.2]|.conv k a,h=>by simp[K.bj] at h;simp only[K.ai,K.ef X a h]|.len r,h=>by simp[K.bj] at h;simp only[K.ai,RE.sZ X r h]|.mm m a b,h=>by simp[K.bj] at h;simp only[K.ai,K.ef X a h.1,K.ef X b h.2]|.dt b x y,h=>by simp[K.bj] at h;simp only[K.ai,BE.ef X b h.1.1,K.ef X x h.1.2,K.ef X y h.2]|.cell r i j,h=>by simp[K.bj] at h;simp only[K.ai,K.ef X i h.2,RE.sZ X r h.1]|.oZ r i,h=>by simp[K.bj] at h;simp only[K.ai,RE.sZ X r h.1,K.ef X i h.2]|.look r n a b c j,h=>by simp[K.bj] at h;simp only[K.ai,RE.sZ X r h.1.1.1,K.ef X a h.1.1.2,K.ef X b h.1.2,K.ef X c h.2]
def BE.ef{O W:aj}{V R Q:Nat}(X:ja O W V R Q):∀(e:BE),e.bd V R Q=J->e.ai W=e.ai O
 |.c n,_=>by simp[BE.ai]|.v k,h=>by simp[BE.bj] at h;simp only[BE.ai];exact X.b k h|.cmp o a b,h=>by simp[BE.bj] at h;simp only[BE.ai,K.ef X a h.1,K.ef X b h.2]|.not a,h=>by simp[BE.bj] at h;simp only[BE.ai,BE.ef X a h]|.and a b,h=>by simp[BE.bj] at h;simp only[BE.ai,BE.ef X a h.1,BE.ef X b h.2]|.beq a b,h=>by simp[BE.bj] at h;simp only[BE.ai,BE.ef X a h.1,BE.ef X b h.2]|.dt b x y,h=>by simp[BE.bj] at h;simp only[BE.ai,BE.ef X b h.1.1,BE.ef X x h.1.2,BE.ef X y h.2]|.cell r i j,h=>by simp[BE.bj] at h;simp only[BE.ai,K.ef X i h.2,RE.sZ X r h.1]|.seq a b,h=>by simp[BE.bj] at h;simp only[BE.ai,RE.sZ X a h.1,RE.sZ X b h.2]|.look r n a b c j,h=>by simp[BE.bj] at h;simp only[BE.ai,RE.sZ X r h.1.1.1,K.ef X a h.1.1.2,K.ef X b h.1.2,K.ef X c h.2]|.has r n a b c,h=>by simp[BE.bj] at h;simp only[BE.ai,RE.sZ X r h.1.1.1,K.ef X a h.1.1.2,K.ef X b h.1.2,K.ef X c h.2]
def RE.sZ{O W:aj}{V R Q:Nat}(X:ja O W V R Q):∀(e:RE),e.bd V R Q=J->e.rv W=e.rv O
 |.v k,h=>by simp[RE.bj] at h;simp only[RE.rv,X.r k h]|.cell r i j k,h=>by simp[RE.bj] at h;simp only[RE.rv,K.ef X i h.2,RE.sZ X r h.1]|.k v,_=>by simp[RE.rv]
end
def RE.ef{O X:aj}{W V R:Nat}(Q:ja O X W V R)(e:RE)(h:e.bd W V R=J):e.ai X=e.ai O:=by simp only[RE.ai,RE.sZ Q e h]
mutual
def C.ef{O R:aj}{V Q:ar}{P N M:Nat}{L:Nat->Bool}(X:ja O R P N M)(W:∀k,L k=J->ad Q k=ad V k):∀(v:C),v.bd P N M L=J->v.ai R Q=v.ai O V
 |.int k e,h=>by simp[C.bj] at h;simp only[C.ai,K.ef X e h]|.bool e,h=>by simp[C.bj] at h;simp only[C.ai,BE.ef X e h]|.ak e,h=>by simp[C.bj] at h;simp only[C.ai,RE.ef X e h]|.loc i o,h=>by simp[C.bj] at h;simp only[C.ai,W i h]|.el r w i o,h=>by simp[C.bj] at h;simp only[C.ai,RE.ef X r h.1,K.ef X i h.2]|.iO i o l c,h=>by simp[C.bj] at h;simp only[C.ai,W i h]|.agg l,h=>by simp[C.bj] at h;simp only[C.ai,C.MZ X W l h]|.bH l,h=>by simp[C.bj] at h;simp only[C.ai,C.MZ X W l h]|.fn f l,h=>by simp[C.bj] at h;simp only[C.ai,C.MZ X W l h]|.gH t x,h=>by simp[C.bj] at h;simp only[C.ai,C.ef X W x h]|.yl n,_=>by simp only[C.ai,X.y]|.any,_=>by simp[C.ai]|.mp i,h=>by simp[C.bj] at h;simp only[C.ai,W i h]|.gp e G H,h=>by simp[C.bj] at h;simp only[C.ai,K.ef X e h.1,C.MZ X W H h.2]
def C.MZ{O X:aj}{V W:ar}{R Q P:Nat}{N:Nat->Bool}(M:ja O X R Q P)(L:∀k,N k=J->ad W k=ad V k):∀(l:aq),C.dP R Q P N l=J->C.az X W l=C.az O V l
 |[],_=>rfl|x::H,h=>by simp[C.iX] at h;simp only[C.az,C.ef M L x h.1,C.MZ M L H h.2]
end
def xG{W V R:Nat}{Q:Nat->Bool}:∀{l:aq}{i:Nat}{v:C},C.dP W V R Q l=J->l[i]?=U v->v.bd W V R Q=J
 |[],i,v,_,h=>by simp at h|x::P,0,v,X,h=>by simp[C.iX] at X;simp at h;exact h▸X.1|x::P,i+1,v,X,h=>by simp[C.iX] at X;simp at h;exact xG X.2 h
theorem ky{b:TypeId×aq}:bP w R=U b<->w[R]?=U (U b):=by
 simp only[bS];cases h:w[R]? with|none=>simp|some x=>cases x<;>simp
def ta{V R Q:Nat}{P:Nat->Bool}:∀{l:bm}{i:Nat}{v:TypeId×aq},C.rQ V R Q P l=J->bP l i=U v->C.dP V R Q P v.2=J
 |[],i,v,_,h=>by simp[bS] at h|U x::W,0,v,X,h=>by simp[C.rQ] at X;simp[bS] at h;exact h▸X.1|Z::W,0,v,X,h=>by simp[bS] at h|U x::W,i+1,v,X,h=>by simp[C.rQ] at X;exact ta X.2 (by simpa[bS] using h)|Z::W,i+1,v,X,h=>by simp[C.rQ] at X;exact ta X (by simpa[bS] using h)
def ja.refl(O:aj)(X W V:Nat):ja O O X W V:=⟨λ_ _=>rfl,λ_ _=>rfl,λ_ _=>rfl,rfl⟩
def ja.trans{a b c:aj}{W V R:Nat}(h:ja a b W V R)(k:ja b c W V R):ja a c W V R:=
 ⟨λj X=>(k.i j X).trans (h.i j X),λj X=>(k.b j X).trans (h.b j X),λj X=>(k.r j X).trans (h.r j X),k.y.trans h.y⟩
def ja.mono{a b:aj}{X W V R Q P:Nat}(h:ja a b X W V)(N:R<=X)(M:Q<=W)(L:P<=V):ja a b R Q P:=
 ⟨λj O=>h.i j ae,λj O=>h.b j ae,λj O=>h.r j ae,h.y⟩
def Wq(O:aj)(x:XV):ja O (O.add x) (Y O.i) (Y O.b) (Y O.r):=by
 cases x<;>refine⟨λk X=> ?_,λk X=> ?_,λk X=> ?_,rfl⟩<;>simp[aj.add,aj.rv,f8,X]
def ET:∀(X:aZ)(O:aj),ja O (O.ext X) (Y O.i) (Y O.b) (Y O.r)
 |[],O=>ja.refl _ _ _ _
 |x::X,O=>by
  have W:=Wq O x;have V:=ET X (O.add x);exact W.trans (V.mono (by cases x<;>simp[aj.add]) (by cases x<;>simp[aj.add]) (by cases x<;>simp[aj.add]))
mutual
def Wr{O:aj}{V X:ar}(h:ad X=ad V):∀(v:C),v.ai O X=v.ai O V
 |.int k e=>by simp only[C.ai]|.bool e=>by simp only[C.ai]|.ak e=>by simp only[C.ai]|.loc i o=>by simp only[C.ai,h]|.el r w i o=>by simp only[C.ai]|.iO i o l c=>by simp only[C.ai,h]|.agg l=>by simp only[C.ai,RI h l]|.bH l=>by simp only[C.ai,RI h l]|.fn f l=>by simp only[C.ai,RI h l]|.gH t x=>by simp only[C.ai,Wr h x]|.yl n=>by simp only[C.ai]|.any=>by simp only[C.ai]|.mp i=>by simp only[C.ai,h]|.gp e R W=>by simp only[C.ai,RI h W]
def RI{O:aj}{V X:ar}(h:ad X=ad V):∀(l:aq),C.az O X l=C.az O V l
 |[]=>rfl|x::W=>by simp only[C.az,Wr h x,RI h W]
end
def awK(O:aj)(V:ar)(v:C):(v.gf O V).val=v.ai O V:=by
 cases v<;>simp[C.gf,C.ai,RE.ai]
def alH(O:aj)(V:ar)(l:aq):(C.bL O V l).map RV.val=C.az O V l:=by
 rw[oG,C.bL,oX];exact kF λv _=>awK O V v
theorem qA(h:mQ X=E)(O:aj)(V:ar)(l:aq):j5 X (C.bL O V l)=.cells (C.az O V l).toArray X (0,0):=by
 have W:=of_decide_eq_false h;unfold j5;rw[aS (λe=>W (by rw[e];exact cd _)),aS (λe=>W (by rw[e];decide)),aS (λe=>W (by rw[e];decide)),alH]
def AX(h:mR w R=U (X,v)):bP w R=U (X,v)/\mQ X=false:=by
 grind [mR]
def RJ{X:bm}{j:Nat}(h:bP X j=bP w R):mR X j=mR w R:=by simp[mR,h]
theorem adg{O X:aj}{V W:ar}{R Q P:Nat}{N:Nat->Bool}(M:ja O X R Q P)(L:∀k,N k=J->ad W k=ad V k)(v:C)(h:v.bd R Q P N=J):v.gf X W=v.gf O V:=by
 have H:=C.ef M L v h;cases v<;>simp only[C.gf]<;>try rw[H]
 simp only[C.bj] at h;exact RE.sZ M _ h
def RN{O X:aj}{V W:ar}{R Q P:Nat}{N:Nat->Bool}(M:ja O X R Q P)(L:∀k,N k=J->ad W k=ad V k):∀(l:aq),C.dP R Q P N l=J->C.bL X W l=C.bL O V l
 |[],_=>rfl
 |x::H,h=>by
  simp only[C.iX,aC] at h;have:=RN M L H h.2
  grind [C.bL,adg]
def alI{X:ar}(h:ad X=ad x)(l:aq):C.bL k X l=C.bL k x l:=by
 refine kF λv _=> ?_
 have W:=Wr (O:=k) h v;cases v<;>simp only[C.gf]<;>rw[W]
def adh(x:Int):∀(X:bA)(W:fy),jm (ln x X W)=J
 |[],_=>by simp[ln,jm]|_::_,[]=>by simp[ln,jm]
 |k::X,v::W=>by
  simp only[ln];split;split;omega;rfl;exact adh x X W
def alJ{v:Value}(h:jm v=J):v.cells.toList=[v]:=by
 cases v<;>simp[jm] at h<;>rfl
variable{t:TI}
def rX(c:CT):Value:=match c with|.int k=>.int k 0|.bool=>.bool E|.bw z _=>z
def TD.Ok(P:Program)(t:TypeId)(am:eL):TD->Prop
 |.struct X=>∃F:Array Field,P.underlying t=U (.struct F)/\F.toList.map (λf=>(f.offset,f.type))=X|.arr n e=>P.underlying t=U (.array n e)|.slice e=>P.underlying t=U (.slice e)|.str=>P.underlying t=U .string|.one=>∃d,P.underlying t=U d/\((match d with|.struct _|.array _ _|.slice _|.string|.interface _=>False|_=>True)/\∀k,am=[.bw .nilFunc k]->∃a b c,d=.func a b c)/\(∀k,am=[.int k]->d=.int k)/\(am=[.bool]->d=.bool)
 |.gH=>∃m,P.underlying t=U (.interface m)|.map k e _ _=>P.underlying t=U (.map k e)
def EU:Value->Value->Option Bool
 |.int k a,.int X b=>if k=X then U (a==b) else Z|.bool a,.bool b=>U (a==b)|.string a,.string b=>U (a.toList==b.toList)|_,_=>Z
def EV:CT->Value->Prop
 |.int k,.int X _=>k=X|.bool,.bool _=>True|.bw _ .str,.string _=>True|_,_=>False
def lI:eL->fy->Prop
 |[],[]=>True|c::X,v::R=>EV c v/\lI X R|_,_=>False
def kJ:fy->fy->Option Bool
 |[],[]=>U J
 |x::X,y::R=>match EU x y,kJ X R with|U a,U b=>U (a&&b)|_,_=>Z
 |_,_=>Z
def gR(X:Bool)(l:bA):Value:=if X then .agg (l.map (Value.int I)).toArray else .int I (l.headD 0)
def zv:Value->bA
 |.int _ x=>[x]|.agg X=>X.toList.map bn|_=>[]
def pm(l:bA):List MapEntry->Nat->Option (Nat×Value)
 |[],_=>Z|e::X,i=>if zv e.key=l then U (i,e.val) else pm l X (i+1)
def vW(P:Program)(k:TypeId)(n:Nat)(X:Bool):Prop:=(X=E->n=1)/\∀(l:bA)(R:List MapEntry)(W:World),Y l=n->(∀e∈R,∃Q:bA,Y Q=n/\e.key=gR X Q)->
 (∀b,(Instr.checkKey b 10000 k (gR X l)).run P W=.ok () W)/\(Instr.findKey k (gR X l) R).run P W=.ok (pm l R 0) W
def Ws:Value->Bool
 |.agg _=>J|_=>E
structure eX(P:Program)(t:TypeId)(ti:TI):Prop where
 M1:∃i,P.info? t=U i/\i.size=Y ti.am/\∃z,i.zero=U z/\z.cells.toList=ti.am.map rX
 desc:ti.d.Ok P t ti.am
 bytes:∀i,P.info? t=U i->i.bytes<=131072
 eq:ti.eq=J->∀(xs ys:fy)(r:Bool)(x y:Operand)(w:World),lI ti.am xs->lI ti.am ys->kJ xs ys=U r->
  (do eqGuard .eql t x y (.agg xs.toArray) (.agg ys.toArray);binOp .eql t (.agg xs.toArray) (.agg ys.toArray)).run P w=.ok (.bool r) w/\
  (do eqGuard .neq t x y (.agg xs.toArray) (.agg ys.toArray);binOp .neq t (.agg xs.toArray) (.agg ys.toArray)).run P w=.ok (.bool !r) w
 key:∀k e n ag,ti.d=.map k e n ag->vW P k n ag
 alK:∀i z,P.info? t=U i->i.zero=U z->Ws z=ti.d.isAgg
def jq(P:Program)(o:Ty):Prop:=∀t X,o t=U X->eX P t X
def eB(gl:nZ)(O:aj):Prop:=∀x∈gl,x.2.1<Y O.r/\∃X R,(O.rv x.2.1).val=.slice (U ⟨x.1,0,Z⟩) X R
section
variable{P:Program}{o:Ty}{gl:nZ}{W:World}
def eX.gX{d:TypeDesc}(h:P.underlying X=U d):(underlying X).run P W=.ok d W:=by simp[underlying,h]
theorem eX.nL(h:eX P X t):(Go.sizeOf X).run P W=.ok (Y t.am) W:=by
 obtain⟨i,R,Q,_⟩:=h.M1;simp[Go.sizeOf,typeInfo,R,Q]
def eX.alL(h:eX P X t):(isAgg X).run P W=.ok t.d.isAgg W:=by
 have Q:=h.desc;revert Q;cases t.d<;>simp only[TD.Ok,TD.isAgg];rintro⟨d,R,⟨N,-⟩,-,-⟩;cases d<;>simp[isAgg,underlying,R]<;>simp at N;rintro⟨m,R⟩;simp[isAgg,underlying,R];intro R;simp[isAgg,underlying,R];intro R;simp[isAgg,underlying,R];intro R;simp[isAgg,underlying,R];rintro⟨F,R,-⟩;simp[isAgg,underlying,R];intro R;simp[isAgg,underlying,R]
theorem xH(b X n:Nat):(⟨b,X,Z⟩:Addr).add n=⟨b,X+n,Z⟩:=by
 unfold Addr.add;split
 grind
 rfl
def adi(h:eX P X t)(Q:zj t v R=U N):
  (part X (C.az k x v).toArray R).run P W=.ok (N.ai k x) W:=by
 unfold zj at Q;simp only[part,dv,h.alL,du]
 grind [C.ai,zi,dv,h.nL,du,fu,oG,List.map_take,List.map_drop,Array.toList_extract,List.extract_eq_take_drop,jX,uC]
def Wt(h:eX P X t){O:aj}{V:ar}{b base:Nat}(Q:zj t v R=U N)
  (H:∀j x,v[j]?=U x->W.cell? ⟨b,base+j,Z⟩=U (x.ai O V)):
  (Instr.loadAt X (.pointer (U ⟨b,base+R,Z⟩))).run P W=.ok (N.ai O V) W:=by
 unfold zj at Q;simp only[Instr.loadAt,Instr.sureAddr,loadVar,dv,fu,du,h.alL];by_cases G:t.d.isAgg=J;simp only[G,dO] at Q⊢;split at Q;rename_i A;cases Q;simp only[dv,h.nL,du,C.ai];have F:(C.az O V (zi v R (Y t.am))).length=Y t.am:=by simp[zi];omega
 have:=run_loadCells_list (P:=P) W ⟨b,base+R,Z⟩ (C.az O V (zi v R (Y t.am))) (λj N M=>by
  rw[uC] at M;cases L:(zi v R (Y t.am))[j]? with
  |none=>rw[L] at M;cases M
  |some x=>
   rw[L] at M;simp at M;simp only[zi,qg,yV] at L;split at L;rw[xH,<-M,QY];exact H _ _ L;cases L)
 rw[F] at this;rw[this];simp;cases Q;have B:t.d.isAgg=false:=by simpa using G
 simp only[B,jX,ku] at Q⊢;have:=H R N Q;simp[this]
end
section
variable{p:ar}{q:World}{D:bT}{P:Program}{o:Ty}{gl:nZ}{V:ar}{O:aj}{s:S}{a:Act}{W:World}
theorem awL(v:Value):(Q7 v).ai O V=v:=by unfold Q7;split<;>simp[C.ai,K.ai,BE.ai,RE.ai,RE.rv]
def awM(v:Value):(Q8 v).ai O V=v:=by
 unfold Q8;split;simp[C.ai,K.ai];simp[C.ai,BE.ai];rename_i X;simp only[C.ai,oG,oX];congr 1
 grind [awL]
 simp[C.ai,RE.ai,RE.rv]
def de(R:aA p q D o V O s a W)(N:eB gl O)(x:Operand)(h:(s.ev gl x).eY=E):a.eval x=(s.ev gl x).ai O V:=by
 cases x with
 |tmp t=>
  simp only[S.ev,zh,dM] at h⊢;cases X:s.tmps[t]? with
  |none=>rw[X] at h;simp[C.eY] at h
  |some M=>
   rw[X] at h;simp at h⊢;rcases R.tmps t M X with rfl|Q;simp[C.eY] at h;simp[Act.eval,Q]
 |const v=>simp only[S.ev,Act.eval,awM]
 |global g=>
  simp only[S.ev] at h⊢;split at h;rename_i k w L;obtain⟨Q,H,G,F⟩:=N _ (Vu L)
  grind [C.ai,RE.ai,RE.rv,Act.eval,pf,K.ai]
  simp[C.eY] at h
 |func f=>simp[S.ev,Act.eval,C.ai,C.az]
def M3(X:BinOp)(k:IntKind)(x y:K):(GO X k x y).ai O=be X k (x.ai O) (y.ai O):=by unfold GO;split<;>simp[K.ai]
theorem EW(X:BinOp)(x y:K):(qY X x y).ai O=fj X (x.ai O) (y.ai O):=by unfold qY;split<;>simp[K.ai,BE.ai]
def RO(x:BE):(GP x).ai O= !(x.ai O):=by unfold GP;split<;>simp[BE.ai]
def adj(x y:BE):(xu x y).ai O=(x.ai O&&y.ai O):=by unfold xu;split<;>simp[BE.ai]
def adk(x y:BE):(Q9 x y).ai O=(x.ai O==y.ai O):=by unfold Q9;split<;>simp[BE.ai,RO]<;>cases BE.ai O _<;>simp
theorem awN(m:Bool)(x y:K):(VP m x y).ai O=if m then max (x.ai O) (y.ai O) else min (x.ai O) (y.ai O):=by unfold VP;split<;>simp[K.ai]
def M4(i n:K):(xw i n).ai O=J<->0<=i.ai O/\i.ai O<n.ai O:=by
 rw[xw,adj,EW,EW,aC];exact and_congr decide_eq_true_iff decide_eq_true_iff
def adl(X:Bool)(k:IntKind):∀(l:aq)(e r:K),JG X k e l=U r->
  ((C.az O V l).foldlM (if X then Builtin.max2 else Builtin.min2) (.int k (e.ai O)):Sem Value).run P W=.ok (.int k (r.ai O)) W
 |[],e,r,h=>by simp[JG] at h;subst h;simp[C.az]
 |.int R x::l,e,r,h=>by
  simp only[JG] at h;split at h;have Q:=adl X k l (VP X e x) r h
  grind [awN,C.az,C.ai,dv,jX,Builtin.min2,fu,du,Builtin.max2]
  cases h
 |.bool _::_,_,_,h|.ak _::_,_,_,h|.loc _ _::_,_,_,h|.el _ _ _ _::_,_,_,h|.iO _ _ _ _::_,_,_,h|.agg _::_,_,_,h|.bH _::_,_,_,h|.fn _ _::_,_,_,h|.gH _ _::_,_,_,h|.any::_,_,_,h=>by simp[JG] at h
end
section
variable{V:ar}{O:aj}
theorem Wu{R Q:Type}{x:Int}{f:R->Q}:∀{W:bA}{X:List R},eU x W (X.map f)=(eU x W X).map f
 |[],X=>by simp[eU]|_::_,[]=>by simp[eU]
 |k::W,v::X=>by
  simp only[dH,eU];split;rfl;exact Wu
def M5{W:Type}{x:Int}:∀{R:bA}{X:List W}{v:W},eU x R X=U v->v∈X
 |[],X,v,h=>by simp[eU] at h|_::_,[],v,h=>by simp[eU] at h
 |k::R,u::X,v,h=>by
  simp only[eU] at h;split at h
  grind
  exact AH _ (M5 h)
def adm{e:K}:∀{X:bA}{W:aq}{y:K},Cl e X W=U y->∃w,y.ai O=w/\(∀v,eU (e.ai O) X W=U v->∃k z,v=.int k z/\w=z.ai O)/\(eU (e.ai O) X W=Z->w=0)
 |[],[],y,h=>by simp[Cl] at h;subst h;exact⟨0,rfl,λv h=>by simp[eU] at h,λ_=>rfl⟩
 |k::X,v::W,y,h=>by
  cases v<;>simp only[Cl] at h<;>try cases h
  cases R:Cl e X W with
  |none=>rw[R] at h;cases h
  |some Q=>
   rw[R] at h;simp at h;subst h;obtain⟨w,P,N,M⟩:=adm R;simp only[K.ai,BE.ai,fj,eU]
   grind
 |[],_::_,y,h=>by simp[Cl] at h|_::_,[],y,h=>by simp[Cl] at h
def alM{e:K}:∀{X:bA}{W:aq}{y:BE},Ey e X W=U y->∃w,y.ai O=w/\(∀v,eU (e.ai O) X W=U v->∃z,v=.bool z/\w=z.ai O)/\(eU (e.ai O) X W=Z->w=E)
 |[],[],y,h=>by simp[Ey] at h;subst h;exact⟨E,rfl,λv h=>by simp[eU] at h,λ_=>rfl⟩
 |k::X,v::W,y,h=>by
  cases v<;>simp only[Ey] at h<;>try cases h
  cases R:Ey e X W with
  |none=>rw[R] at h;cases h
  |some Q=>
   rw[R] at h;simp at h;subst h;obtain⟨w,P,N,M⟩:=alM R;simp only[BE.ai,K.ai,fj,eU]
   grind
 |[],_::_,y,h=>by simp[Ey] at h|_::_,[],y,h=>by simp[Ey] at h
def alN{x:Int}:∀{ks:bA}{X:aq},X.all Mx=J->(∀v,eU x ks X=U v->ln x ks (C.az O V X)=v.ai O V)/\(eU x ks X=Z->ln x ks (C.az O V X)=.nilFunc)
 |[],X,_=>⟨λv h=>by simp[eU] at h,λ_=>by simp[ln]⟩|_::_,[],_=>⟨λv h=>by simp[eU] at h,λ_=>by simp[ln,C.az]⟩
 |k::ks,u::X,W=>by
  simp only[VJ,aC] at W;obtain⟨P,N⟩:=alN (ks:=ks) W.2;simp only[eU,C.az,ln];by_cases R:x=k;simp only[R];refine⟨λv Q=> ?_,λQ=>by cases Q⟩;have M:jm (u.ai O V)=true:=by
   have:=W.1;unfold Mx at this;split at this;exact Wp _ _;rfl
   grind
  grind
  simp only[R];exact⟨P,N⟩
def awO{e:K}{R:bA}{H:CT}(h:acu e R v H=U N):(∀X,eU (e.ai O) R v=U X->N.ai O V=X.ai O V)/\(eU (e.ai O) R v=Z->N.ai O V=rX H):=by
 unfold acu at h;split at h;rename_i k;split at h;rename_i Q;cases W:Cl e R v with
 |none=>rw[W] at h;cases h
 |some y=>
  rw[W] at h;simp at h;subst h;obtain⟨x,M,L,G⟩:=adm (O:=O) W;refine⟨λX P=> ?_,λP=>by simp only[C.ai,M,G P,rX]⟩;obtain⟨F,z,rfl,rfl⟩:=L X P;have:=gz.1 Q _ (M5 P)
  grind [C.ai]
 cases h;cases W:Ey e R v with
 |none=>rw[W] at h;cases h
 |some y=>
  rw[W] at h;simp at h;subst h;obtain⟨x,M,L,G⟩:=alM (O:=O) W
  grind [C.ai,rX]
 split at h;rename_i Q;simp only[aC] at Q;cases h;obtain⟨M,L⟩:=alN (O:=O) (V:=V) (x:=e.ai O) (ks:=R) Q.1
 grind [C.ai,rX]
 cases h;cases h
def Wv{e:K}{W:bA}{R:ze}:∀{am:eL}{j:Nat}{l:aq},EA e W R j am=U l->
  Y l=Y am/\(∀X,eU (e.ai O) W R=U X->Y X=j+Y am->C.az O V l=C.az O V (X.drop j))/\(eU (e.ai O) W R=Z->C.az O V l=am.map rX)
 |[],j,l,h=>by
  simp[EA] at h;subst h;exact⟨rfl,λX _ Q=>by rw[avO (by simp at Q;omega)],λ_=>rfl⟩
 |c::am,j,l,h=>by
  simp only[EA] at h;split at h;rename_i v r P N;cases h;obtain⟨M,L,H⟩:=Wv N;obtain⟨G,F⟩:=awO (O:=O) (V:=V) P
  grind [Wu,Cb,C.az]
  cases h
def Ww{e:K}:∀{X:bA}{W:Type}{R:List W},Y X=Y R->(JJ e X).ai O=(eU (e.ai O) X R).isSome
 |[],W,R,h=>by simp[JJ,BE.ai,eU]|k::X,W,[],h=>by simp at h
 |k::X,W,v::R,h=>by
  simp only[JJ,BE.ai,K.ai,fj,eU];by_cases Q:e.ai O=k;simp[Q];simp only[Q,gc];exact Ww (by simpa using h)
def Wy(W:∀r:RE,r.JE=J->jm (r.ai O)=J)(h:Cm t N=J):N.ai O V=if t.d.isAgg then .agg (C.az O V N.cells).toArray else(C.az O V N.cells).headD undef:=by
 simp only[Cm,aC] at h;obtain⟨⟨-,R⟩,X⟩:=h;cases N<;>simp at X<;>rw[X]<;>rfl
def EX(h:r=E->Y v=1):(ur r v).ai O V=if r then .agg (C.az O V v).toArray else(C.az O V v).headD undef:=by
 cases r;obtain⟨x,rfl⟩:=pK.1 (h rfl);rfl;rfl
def Wz{x:Int}:∀{W:bA}{X:aq}{v:C},eU x W X=U v->jm (v.ai O V)=J->ln x W (C.az O V X)=v.ai O V
 |[],X,v,h,_=>by simp[eU] at h|_::_,[],v,h,_=>by simp[eU] at h
 |k::W,u::X,v,h,R=>by
  simp only[eU] at h;simp only[C.az,ln];split at h
  grind
  rename_i Q;rw[aS Q];exact Wz h R
def awP(h:Cm t N=J):(t.d.isAgg=E->Y t.am=1)/\Y N.cells=Y t.am:=by
 simp only[Cm,aC,gc] at h
 grind [C.cells]
def alO(M:∀r:RE,r.JE=J->jm (r.ai O)=J){e:K}{X:bA}{p:C}(h:VS t e X v=U N)(R:eU (e.ai O) X v=U p):N.ai O V=p.ai O V:=by
 unfold VS at h;split at h;rename_i L;cases W:EA e X (v.map C.cells) 0 t.am with
 |none=>rw[W] at h;cases h
 |some l=>
  rw[W] at h;cases h;obtain⟨H,G,-⟩:=Wv (O:=O) (V:=V) W;have F:=M5 R;have Q:=gz.1 L p F;obtain⟨D,B⟩:=awP Q;have P:=G p.cells (by rw[Wu,R];rfl) (by rw[B,jk]);rw[List.drop_zero] at P;rw[EX (λA=>by rw[H];exact D A),Wy M Q,P]
 cases h
def alP{X:Type}{x:Int}{f:Nat->X}(P:0<=x)(N:x<(R:Int)):eU x (EB R) ((di R).map f)=U (f x.toNat):=by
 unfold EB;have M:∀(m k:Nat),(k:Int)<=x->x<((k+m:Nat):Int)->eU x ((zd k m).map λi:Nat=>(i:Int)) ((zd k m).map f)=U (f x.toNat):=by
  intro m;induction m with
  |zero=>intro k W Q;omega
  |succ m L=>
   intro k W Q;simp only[acj,dH,eU];split;simp_all
   grind
 rw[Vy]
 grind
def adn{R N:Type}{f:R->Option N}{x:Int}:∀{Q:bA}{vs:List R}{W:List N}{v:R},GQ (vs.map f)=U W->eU x Q vs=U v->∃p,f v=U p/\eU x Q W=U p
 |[],vs,W,v,_,h=>by simp[eU] at h|_::_,[],W,v,_,h=>by simp[eU] at h
 |k::Q,u::vs,W,v,X,h=>by
  simp at X;cases M:f u with
  |none=>rw[M] at X;cases X
  |some p=>
   rw[M] at X;simp only[GQ] at X;cases P:GQ (vs.map f) with
   |none=>rw[P] at X;cases X
   |some H=>
    rw[P] at X;simp at X;subst X;simp only[eU] at h⊢;split at h
    grind
    rename_i L;rw[aS L];exact adn P h
def alQ(h:AM v=U R)(W:N∈v):∃X,N=.loc R X:=by
 unfold AM at h
 grind
end
variable{l:Ty}{y:RK}{L:RV}
def PR.gives(O:aj)(v:C):PR->Prop
 |.ok x=>v=x|.aQ b x=>b.ai O=J/\v=x|_=>False
theorem alR(h:bG Q l y L):cH y L=L:=by
 cases h with|sl e A M H X=>rfl|str s=>rfl|bw L R=>simp[cH,R]|own e N h G=>cases h;rfl|aR N h=>simp[cH,h]|mr F X=>rfl
def alS(k:RK):bG Q l k (cH k default):=by
 cases k with
 |sl e=>
  refine bG.sl e Z 0 0 [] rfl (cd _) ?_ ?_ ?_ ?_<;>(intro i;intros;rename_i h;simp at*)
 |str=>exact bG.str _|bw=>exact bG.bw _ rfl
 |own e=>
  refine bG.own e _ (bG.sl e Z 0 0 [] rfl (cd _) ?_ ?_ ?_ ?_) (λX c h=>by cases h;rfl)<;>(intro i;intros;rename_i h;simp at*)
 |aR=>exact bG.aR _ rfl
 |mr R=>
  refine bG.mr R [] ?_ ?_ ?_ ?_<;>(intro i;intros;rename_i h;simp at*)
def awQ(k:RK)(v:RV):jm (cH k v).val=true:=by
 cases k;simp only[cH];split;rename_i h;rw[h];rfl;rfl;simp only[cH];split<;>rfl;simp only[cH];split;simp_all;rfl;simp only[cH];split;rename_i h;rw[h];rfl;rfl;simp only[cH];split;omega;rfl;simp only[cH];split;rename_i h;rw[h];rfl;rfl
def M6(h:bG Q l y L):jm L.val=true:=by
 cases h with|sl e A M H X=>rfl|str s=>rfl|bw L R=>exact R|own e N h G=>cases h;rfl|aR N h=>exact h|mr F X=>rfl
def alT(h:bG Q l y L):bG Q l y.rd L:=by
 cases h with|own e u h t=>exact h|sl e A G F X R N M H B z=>exact bG.sl e A G F X R N M H B z|str s=>exact bG.str s|bw L x=>exact bG.bw L x|aR _ h=>exact bG.aR _ h|mr w X R N M H=>exact bG.mr w X R N M H
def awR(h:bG Q l (.sl X) L)(i:Int)(j:Nat)(k:RK)(R:JH (bI l (.sl X))[j]?=k):bG Q l k (cH k (aN L.ah i j)):=by
 cases h with
 |sl X A t r y q p o x w m=>
  simp only[RV.mU,aN];cases N:y[i.toNat]? with
  |none=>simp only[dM,N,av7,List.getElem?_nil];exact alS k
  |some H=>
   simp only[dM,N,yX];cases F:H[j]? with
   |none=>simp;exact alS k
   |some c=>
    simp;have g:j<(bI l (.sl X)).length:=by
     grind
    cases M:(bI l (.sl X))[j]? with
    |none=>rw[El] at M;omega
    |some u=>
     rw[M] at R;cases u with
     |int B=>
      simp only[JH] at R;subst R;obtain⟨n,G⟩:=x _ _ H c B N F M;simp only[cH,G,jm,dO];exact bG.bw _ rfl
     |bool=>
      simp only[JH] at R;subst R;obtain⟨n,G⟩:=w _ _ H c N F M;simp only[cH,G,jm,dO];exact bG.bw _ rfl
     |bw z B=>
      grind [JH,alR]
section
variable{g:ar}{m:World}{D:bT}{P:Program}{ty:Ty}{B:nZ}{V:ar}{O:aj}{s:S}{a:Act}{W:World}
def ado(X:aA g m D ty V O s a W)(h:s.rs[R]?=U y):bG W ty y (O.rv R):=by
 have Q:R<Y O.r:=by rw[X.er];exact(dq.1 h).1
 have:=(X.mem.ak R y O.r[R] h (dG Q)).1
 grind [aj.rv]
def rh(R:aA g m D ty V O s a W):∀{r:RE}{e:RK},e≠ .bw->r.kind ty s=e->bG W ty e (r.rv O)
 |.v k,e,X,h=>by
  simp only[RE.kind,dM] at h;cases Q:s.rs[k]? with|none=>rw[Q] at h;exact bF (show e=.bw from h.symm) X|some q=>rw[Q] at h;simp at h;subst h;exact alT (ado R Q)
 |.cell r i j L,e,X,h=>by
  simp only[RE.kind] at h;split at h;rename_i H N;split at h;rename_i M;subst h;exact awR (rh R aw N) (i.ai O) j _ M
  grind
  grind
 |.k v,e,X,h=>by
  cases v<;>simp only[RE.kind] at h
  case string s=>subst h;exact bG.str s
  all_goals exact bF h.symm X
def RP(R:aA g m D ty V O s a W){r:RE}(h:r.kind ty s=.sl X):∃x l c,r.ai O=.slice x l c:=by
 have:=rh R aw h;unfold RE.ai;revert this;generalize r.rv O=v;intro Q;cases Q with|sl X A N M L=>exact⟨A,N,M,rfl⟩
def G7(R:aA g m D ty V O s a W){r:RE}(h:r.kind ty s=.str):∃x,r.ai O=.string x:=by
 have:=rh R aw h;unfold RE.ai;revert this;generalize r.rv O=v;intro X;cases X with|str s=>exact⟨s,rfl⟩
def awS(R:aA g m D ty V O s a W){c:CT}{y:C}{e:BE}(h:Mv ty s c N y=U e):EV c (N.ai O V)/\EV c (y.ai O V)/\EU (N.ai O V) (y.ai O V)=U (e.ai O):=by
 unfold Mv at h;split at h;split at h;rename_i X;obtain⟨rfl,rfl⟩:=X;cases h;exact⟨rfl,rfl,by simp[C.ai,EU,EW,fj]⟩;cases h;cases h;exact⟨trivial,trivial,by simp[C.ai,EU,adk]⟩;split at h;rename_i X;cases h;obtain⟨p,Q⟩:=G7 R X.1;obtain⟨q,M⟩:=G7 R X.2;simp only[C.ai,Q,M];unfold RE.ai at Q M;exact⟨trivial,trivial,by simp[EU,BE.ai,Q,M,xD]⟩;cases h;cases h
def alU(R:aA g m D ty V O s a W):∀{X:eL}{x y:aq}{e:BE},sN ty s X x y=U e->lI X (C.az O V x)/\lI X (C.az O V y)/\kJ (C.az O V x) (C.az O V y)=U (e.ai O)
 |[],[],[],e,h=>by simp[sN] at h;subst h;exact⟨trivial,trivial,by simp[C.az,kJ,BE.ai]⟩
 |c::X,x::B,y::A,e,h=>by
  simp only[sN] at h;split at h;rename_i a b Q N;cases h;obtain⟨M,a2,L⟩:=awS R Q;obtain⟨H,G,F⟩:=alU R N;exact⟨⟨M,H⟩,⟨a2,G⟩,by simp only[C.az,kJ,L,F,adj]⟩;cases h
 |[],[],_::_,e,h=>by simp[sN] at h|[],_::_,_,e,h=>by simp[sN] at h|_::_,[],_,e,h=>by simp[sN] at h|_::_,_::_,[],e,h=>by simp[sN] at h
def alV(R:aA g m D ty V O s a W){X:vD}{y:aq}{e:BE}(h:Mw ty s X v y=U e):∃am d,X=U ⟨d,am,J⟩/\lI am (C.az O V v)/\lI am (C.az O V y)/\kJ (C.az O V v) (C.az O V y)=U (e.ai O):=by
 unfold Mw at h;split at h;exact⟨_,_,rfl,alU R h⟩;cases h
def alW(B:bG W ty (.sl X) L)(i:Int)(h:0<=i)(y:i<lenOf L.val):
  ∃Q b N,L.ah[i.toNat]?=U Q/\Y Q=(bI ty (.sl X)).length/\(∃l c,L.val=.slice (U ⟨b,N,Z⟩) l c)/\(∀(j:Nat)(c:RV),Q[j]?=U c->W.cell? ⟨b,N+i.toNat*(bI ty (.sl X)).length+j,Z⟩=U c.val)/\
   (∀(j:Nat)(c:RV)(M:CT),Q[j]?=U c->(bI ty (.sl X))[j]?=U M->match M with
    |.int k=>∃n,c.val=.int k n|.bool=>∃x,c.val=.bool x
    |.bw _ k=>bG W ty k c):=by
 cases B with
 |sl X A w v H g f u t r q=>
  simp only[RV.pe,lenOf] at y;have p:i.toNat<Y H:=ae;have R:H[i.toNat]?=U H[i.toNat]:=dG p;obtain⟨o,b,N,rfl,d,m⟩:=u i.toNat _ R;refine⟨H[i.toNat],b,N,R,o,⟨w,v,rfl⟩,m,λj c M G F=> ?_⟩;cases M with|int k=>exact t _ j _ c k R G F|bool=>exact r _ j _ c R G F|bw z k=>exact q _ j _ c z k R G F
def awT{r:RE}{i:K}{M:aE}{j:Nat}{X:CT}(H:(r.rv O).ah[(i.ai O).toNat]?=U M)(G:M[j]?=U L)(R:match X with|.int k=>∃n,L.val=.int k n|.bool=>∃y,L.val=.bool y|.bw _ k=>bG W ty k L):
  (GM r i j X).ai O V=L.val:=by
 have Q:aN (r.rv O).ah (i.ai O) j=L:=by simp[aN,H,G]
 cases X with
 |int F=>obtain⟨n,N⟩:=R;simp[GM,C.ai,K.ai,Q,bn,N]
 |bool=>obtain⟨n,N⟩:=R;simp[GM,C.ai,BE.ai,Q,jp,N]
 |bw z e=>simp only[GM,C.ai,RE.ai,RE.rv,Q];rw[alR R]
def xI(R:aA g m D ty V O s a W):∀(r:RE),r.JE=J->jm (r.ai O)=J
 |.v k,_=>by
  simp only[RE.ai,RE.rv];by_cases X:k<Y s.rs;exact M6 (ado R (dG X));have:O.rv k=default:=by
   have:=R.er
   grind [aj.rv]
  rw[this];rfl
 |.cell r i j k,_=>awQ k _|.k w,h=>h
def awU(R:aA g m D ty V O s a W)(d:jq P ty)(hg:eB B O)(G:F.op=.load X n)(hk:(s.ev B n).eY=E)
  (h:(cw ty B s (.load X n)).gives O N):(execOp a.eval F).run P W=.ok (.value (N.ai O V)) W:=by
 have he:=de R hg n hk;simp only[execOp,G,dv,he];simp only[cw] at h;split at h;rename_i ti i A p k;rw[k];split at h;rename_i tt f Q;split at h;rename_i w M;cases h;have:=Wt (P:=P) (W:=W) (d _ _ p) (O:=O) (V:=V) (b:=ad V i) (base:=0) M (λj y hy=>by
  obtain⟨Q,G⟩:=AX Q;have:=R.mem.box i tt f Q;rw[qA G] at this;simp[oD,this,uC,hy])
 simp only[jk] at this;simp only[C.ai,this,du,fu];exact h.elim;exact h.elim;rename_i ti r w i A p k;rw[k];split at h;rename_i e a3;split at h;exact h.elim;rename_i hw;split at h;rename_i y M;obtain⟨Q,rfl⟩:=h;rw[M4] at Q;simp only[K.ai] at Q;have hh:=rh R aw a3;have a4:w=(bI ty (.sl e)).length:=by simpa using Eq.symm (by simpa using hw:(bI ty (.sl e)).length=w)
 obtain⟨aa,b,ag,h1,bf,⟨l,c,h3⟩,h4,h5⟩:=alW hh (i.ai O) Q.1 Q.2;have:=Wt (P:=P) (W:=W) (d _ _ p) (O:=O) (V:=V) (b:=b) (base:=ag+(i.ai O).toNat*w) M (λj z H=>by
  simp only[et] at H;cases hj:(di w)[j]? with
  |none=>rw[hj] at H;cases H
  |some L=>
   have a9:j<w/\L=j:=by
    have:=dq.1 hj;obtain⟨q1,q2⟩:=this;simp at q1 q2;exact⟨q1,q2.symm⟩
   obtain⟨bg,rfl⟩:=a9;rw[hj] at H;simp only[ga,dW] at H;have ba:(bI ty (.sl e))[L]?=U ((bI ty (.sl e)).getD L .bool):=by
    rw[dM,dG ae];rfl
   have bb:L<Y aa:=ae;have ab:aa[L]?=U aa[L]:=dG bb;rw[<-H,awT (W:=W) (ty:=ty) h1 ab (h5 L _ _ ab ba)];rw[a4];exact h4 L _ ab)
 have hA:pf (RE.ai O r) ((i.ai O).toNat*w+A)=⟨b,ag+(i.ai O).toNat*w+A,Z⟩:=by
  simp only[RE.ai,h3,pf,QY]
 simp only[C.ai,hA,this,du,fu];exact h.elim;exact h.elim;rename_i ti e ks vs p k;rw[k];split at h;rename_i tt f Q;split at h;rename_i w M;split at h;rename_i al;obtain⟨an,rfl⟩:=h;simp only[gc] at al;cases ac:AM vs with
 |none=>rw[ac] at Q;cases Q
 |some i=>
  rw[ac] at Q;simp only[ak0] at Q;rw[Ww al] at an;obtain⟨u,hu⟩:=jy.1 an;obtain⟨A,rfl⟩:=alQ ac (M5 hu);cases af:GQ (vs.map (acw ti f)) with
  |none=>rw[af] at M;cases M
  |some ps=>
   rw[af] at M;simp only[ak0] at M;obtain⟨q,a0,bc⟩:=adn af hu;simp only[acw] at a0;have a1:=Wt (P:=P) (W:=W) (d _ _ p) (O:=O) (V:=V) (b:=ad V i) (base:=0) a0 (λj y hy=>by
    obtain⟨Q,G⟩:=AX Q;have:=R.mem.box i tt f Q;rw[qA G] at this;simp[oD,this,uC,hy])
   simp only[jk] at a1;have bd:(C.gp e ks vs).ai O V=.pointer (U ⟨ad V i,A,Z⟩):=by
    simp only[C.ai];rw[Wz hu rfl];rfl
   rw[bd,alO (xI R) M bc];simp only[a1,du,fu]
 exact h.elim;exact h.elim;exact h.elim;exact h.elim
def awV(Q:aA g m D ty V O s a W)(aa:jq P ty)(hg:eB B O)(ho:F.op=.fieldAddr X n R)(hk:(s.ev B n).eY=E)
  (h:(cw ty B s (.fieldAddr X n R)).gives O N):(execOp a.eval F).run P W=.ok (.value (N.ai O V)) W:=by
 have he:=de Q hg n hk;have ab:∀(G:List (Nat×TypeId))(am:eL)(q:Bool)(y:Nat)(p:TypeId)(H:TI)(A:Addr),ty X=U ⟨.struct G,am,q⟩->G[R]?=U (y,p)->ty p=U H->(Y H.am==0)=E->A.spot=Z->
   (Instr.fieldAt X (.pointer (U A)) R).run P W=.ok (.pointer (U ⟨A.block,A.off+y,Z⟩)) W:=by
  intro G am q y p H A h1 u h3 h4 h5;obtain⟨M,hF,ac⟩:=(aa _ _ h1).desc;rw[<-ac,et] at u;cases z:M.toList[R]? with
  |none=>rw[z] at u;cases u
  |some fd=>
   rw[z] at u;simp at u;obtain⟨rfl,rfl⟩:=u;have af:M[R]?=U fd:=by simpa using z
   have ag:¬Y H.am=0:=by simpa using h4
   obtain⟨b,of,sp⟩:=A;simp only at h5;subst h5;simp only[Instr.fieldAt,Instr.sureAddr,fieldPlace,dv,eX.gX hF,du,af,fu,(aa _ _ h3).nL,aS ag,xH]
 simp only[execOp,ho,dv,he];simp only[cw] at h;split at h;rename_i G am q i y l k;rw[k];split at h;rename_i j e z;split at h;rename_i H d;split at h;exact h.elim;rename_i c;cases h;simp only[C.ai,ab G am q j e H ⟨ad V i,y,Z⟩ l z d (by simpa using c) rfl,du,fu];exact h.elim;exact h.elim;rename_i G am q r w i y l k;rw[k];split at h;rename_i j e z;split at h;rename_i H d;split at h;exact h.elim;rename_i c;cases h;have al:∀N L,(pf N L).spot=none:=by intro N L;unfold pf;split<;>rfl
 simp only[C.ai,ab G am q j e H _ l z d (by simpa using c) (al _ _),du,fu];congr 4;unfold pf;split
 grind
 grind
 exact h.elim;exact h.elim;exact h.elim
end
section
variable{G:ar}{H:World}{D:bT}{P:Program}{u:Ty}{B:nZ}{V:ar}{O:aj}{s:S}{a:Act}{W:World}
def awW(Q:aA G H D u V O s a W)(z:jq P u)(w:eB B O)(r:F.op=.field X n R)(p:(s.ev B n).eY=E)
  (h:(cw u B s (.field X n R)).gives O N):(execOp a.eval F).run P W=.ok (.value (N.ai O V)) W:=by
 have m:=de Q w n p;simp only[execOp,r,dv,m];simp only[cw] at h;split at h;rename_i fs am q l k j;rw[j];split at h;rename_i o' t' L;split at h;rename_i ti i;split at h;rename_i y g;cases h;obtain⟨M,e,d⟩:=(z _ _ k).desc;rw[<-d,et] at L;cases A:M.toList[R]? with
 |none=>rw[A] at L;cases L
 |some c=>
  rw[A] at L;simp at L;obtain⟨rfl,rfl⟩:=L;have b:M[R]?=U c:=by simpa using A
  simp only[C.ai,Instr.field,dv,eX.gX e,du,b,asAgg,fu,adi (z _ _ i) g]
 exact h.elim;exact h.elim;exact h.elim;exact h.elim
def awX(R:aA G H D u V O s a W)(ab:jq P u)(hg:eB B O){y:Operand}(ho:F.op=.indexAddr X n y)(hk:(s.ev B n).eY=E)(al:(s.ev B y).eY=E)
  (h:(cw u B s (.indexAddr X n y)).gives O N):(execOp a.eval F).run P W=.ok (.value (N.ai O V)) W:=by
 have he:=de R hg n hk;have an:=de R hg y al;have ac:∀(Q:Nat)(e:TypeId)(am:eL)(q:Bool)(L:TI)(A:Addr)(k:IntKind)(m:Int),u X=U ⟨.arr Q e,am,q⟩->u e=U L->0<=m->m<Q->A.spot=Z->
   (Instr.indexAt X (.pointer (U A)) (.int k m)).run P W=.ok (.pointer (U ⟨A.block,A.off+m.toNat*Y L.am,Z⟩)) W:=by
  intro Q e am q L A k m h1 h2 h3 h4 h5;have hd:P.underlying X=U (.array Q e):=(ab _ _ h1).desc;obtain⟨b,of,sp⟩:=A;simp only at h5;subst h5;simp only[Instr.indexAt,asIntOf,dv,fu,du,eX.gX hd,Instr.sureAddr,h3,h4,and_self,dO,(ab _ _ h2).nL,xH]
 simp only[execOp,ho,dv,he,an];simp only[cw] at h;split at h;rename_i Q e am q i aa k m g d hy;rw[d,hy];split at h;rename_i L f;split at h;rename_i z;cases h;simp only[aC,dD] at z;simp only[C.ai,K.ai,ac Q e am q L ⟨ad V i,aa,Z⟩ k m g f z.1 z.2 rfl,du,fu];exact h.elim;exact h.elim;rename_i Q e am q r w i aa k m g d hy;rw[d,hy];have af:∀N Q,(pf N Q).spot=none:=by intro N Q;unfold pf;split<;>rfl
 have ag:∀(N:Value)(p q:Nat),(⟨(pf N p).block,(pf N p).off+q,Z⟩:Addr)=pf N (p+q):=by intro N p q;unfold pf;split<;>simp[QY]
 split at h;rename_i L f;split at h;rename_i hc;obtain⟨M,rfl⟩:=h;rw[M4] at M;simp only[aC,gc] at hc;obtain⟨⟨⟨h1,h2⟩,h3⟩,-⟩:=hc;subst h1 h2 h3;simp only[K.ai] at M;simp only[C.ai,ac Q e am q L _ k (m.ai O) g f M.1 M.2 (af _ _),du,fu,ag];simp[K.ai];split at h;rename_i m;split at h;rename_i z;cases h;simp only[aC,dD] at z;simp only[C.ai,K.ai,ac Q e am q L _ k m g f z.1 z.2 (af _ _),du,fu,ag,QY];exact h.elim;exact h.elim;exact h.elim;rename_i Q e am q r w i aa k m a3 g d hy;rw[d,hy];have af:∀N Q,(pf N Q).spot=none:=by intro N Q;unfold pf;split<;>rfl
 have ag:∀(N:Value)(p q:Nat),(⟨(pf N p).block,(pf N p).off+q,Z⟩:Addr)=pf N (p+q):=by intro N p q;unfold pf;split<;>simp[QY]
 split at h;rename_i L f;split at h;rename_i z;cases h;simp only[aC,dD] at z;simp only[C.ai,K.ai,ac Q e am q L _ k m g f z.1 z.2 (af _ _),du,fu,ag,QY];exact h.elim;exact h.elim;rename_i e am q r k m g d hy;rw[d,hy];split at h;rename_i L e' f a0;obtain⟨M,rfl⟩:=h;rw[M4] at M;simp only[K.ai] at M;have hh:=alW (rh R aw a0) (m.ai O) M.1 M.2;obtain⟨a4,b,aa,-,-,⟨l,c,hv⟩,-⟩:=hh;have hd:P.underlying X=U (.slice e):=(ab _ _ g).desc;rw[hv] at M;simp only[lenOf] at M;simp only[C.ai,RE.ai,hv,Instr.indexAt,asIntOf,dv,fu,du,eX.gX hd,M.1,M.2,and_self,dO,(ab _ _ f).nL,xH,pf,yZ];exact h.elim;rename_i e am q i aa a9 ba k m g d hy;rw[d,hy];split at h;rename_i L f;split at h;rename_i z;cases h;simp only[aC,dD] at z;have hd:P.underlying X=U (.slice e):=(ab _ _ g).desc;simp only[C.ai,K.ai,Instr.indexAt,asIntOf,dv,fu,du,eX.gX hd,z.1,z.2,and_self,dO,(ab _ _ f).nL,xH];exact h.elim;exact h.elim;rename_i Q e am q i aa k m bb g d hy;rw[d,hy];split at h;rename_i L f;obtain⟨M,rfl⟩:=h;rw[M4] at M;simp only[K.ai] at M;have a1:(C.gp m (EB Q) ((di Q).map λj=>C.loc i (aa+j*Y L.am))).ai O V=.pointer (U ⟨ad V i,aa+(m.ai O).toNat*Y L.am,Z⟩):=by
  simp only[C.ai];rw[Wz (alP M.1 M.2) rfl];rfl
 rw[a1];simp only[C.ai,ac Q e am q L ⟨ad V i,aa,Z⟩ k (m.ai O) g f M.1 M.2 rfl,du,fu];exact h.elim;exact h.elim
def awY(R:aA G H D u V O s a W)(L:jq P u)(hg:eB B O){y:Operand}(ho:F.op=.index X n y)(hk:(s.ev B n).eY=E)(af:(s.ev B y).eY=E)
  (h:(cw u B s (.index X n y)).gives O N):(execOp a.eval F).run P W=.ok (.value (N.ai O V)) W:=by
 have he:=de R hg n hk;have ag:=de R hg y af;simp only[execOp,ho,dv,he,ag];simp only[cw] at h;split at h;rename_i Q e am q l k m A w i;rw[w,i];split at h;rename_i b g;split at h;rename_i hm;split at h;rename_i z hp;cases h;simp at hm;have d:P.underlying X=U (.array Q e):=(L _ _ A).desc;simp only[C.ai,K.ai,Instr.index,asIntOf,dv,fu,du,eX.gX d,hm.1,hm.2,and_self,dO,(L _ _ g).nL,adi (L _ _ g) hp];exact h.elim;exact h.elim;exact h.elim;rename_i Q e am q l k m a1 A w i;rw[w,i];split at h;rename_i b g;split at h;rename_i z c;obtain⟨M,rfl⟩:=h;rw[M4] at M;simp only[K.ai] at M;cases aa:GQ ((di Q).map λj=>zj b l (j*Y b.am)) with
 |none=>rw[aa] at c;cases c
 |some ps=>
  rw[aa] at c;simp at c;obtain⟨p,al,an⟩:=adn (vs:=di Q) aa (by have:=alP (f:=λj=>j) M.1 M.2;simpa using this);have d:P.underlying X=U (.array Q e):=(L _ _ A).desc;rw[alO (xI R) c an];simp only[C.ai,Instr.index,asIntOf,dv,fu,du,eX.gX d,M.1,M.2,and_self,dO,(L _ _ g).nL,adi (L _ _ g) al]
 exact h.elim;exact h.elim;rename_i am q r k m A w i;rw[w,i];split at h;rename_i a0;obtain⟨M,rfl⟩:=h;rw[M4] at M;obtain⟨ab,ac⟩:=G7 R a0;unfold RE.ai at ac;have d:P.underlying X=U .string:=(L _ _ A).desc;simp only[K.ai,ac,lenOf] at M;have a3:(m.ai O).toNat<ab.size:=ae;simp only[C.ai,RE.ai,ac,K.ai,Instr.index,asIntOf,dv,fu,du,eX.gX d,M.1,dO,G5];have:ab[(m.ai O).toNat]?=U ab[(m.ai O).toNat]:=aw;rw[this];rfl;exact h.elim;exact h.elim
def awZ(X:BinOp)(R:VO X=J)(t:TypeId)(k:IntKind)(m n:Int):(binOp X t (.int k m) (.int k n)).run P W=.ok (.bool (fj X m n)) W:=by
 cases X<;>simp[VO] at R<;>simp[binOp,Op.intCmp,fj]
def aw0(X:BinOp)(R:acq X=J)(t:TypeId)(k:IntKind)(m n:Int):(binOp X t (.int k m) (.int k n)).run P W=.ok (.int k (be X k m n)) W:=by
 cases X<;>simp[acq] at R<;>simp[binOp,Op.intArith,Op.intBits,be]
def alX(X:BinOp)(R:acr X=J)(t:TypeId)(k:IntKind)(m n:Int)(Q:n≠0):(binOp X t (.int k m) (.int k n)).run P W=.ok (.int k (be X k m n)) W:=by
 cases X<;>simp[acr] at R<;>simp[binOp,Op.intDiv,be,Q]
def adp(X:BinOp)(t:TypeId)(x y:Operand)(k:IntKind)(n:Int)(w:Value):(eqGuard X t x y (.int k n) w).run P W=.ok () W:=by cases X<;>rfl
def aw1(X:BinOp)(t:TypeId)(x y:Operand)(n:Bool)(w:Value):(eqGuard X t x y (.bool n) w).run P W=.ok () W:=by cases X<;>rfl
def alY(X:BinOp)(t:TypeId)(x y:Operand)(n:ByteArray)(w:Value):(eqGuard X t x y (.string n) w).run P W=.ok () W:=by cases X<;>rfl
def alZ(R:P.underlying X=U .bool)(m n:Bool):(GJ X (.bool m) (.bool n)).run P W=.ok (m==n) W:=by
 have:GJ X (.bool m) (.bool n)=Eu (9999+1) X (.bool m) (.bool n):=rfl;rw[this,Eu,dv,eX.gX R];rfl
def aw2(R:P.underlying X=U .bool)(m n:Bool):(binOp .eql X (.bool m) (.bool n)).run P W=.ok (.bool (m==n)) W:=by
 show((GJ X (.bool m) (.bool n))>>=λb=>(pure (.bool b):Sem Value)).run P W=_;rw[dv,alZ R];rfl
def aw3(R:P.underlying X=U .bool)(m n:Bool):(binOp .neq X (.bool m) (.bool n)).run P W=.ok (.bool !(m==n)) W:=by
 show((GJ X (.bool m) (.bool n))>>=λb=>(pure (.bool !b):Sem Value)).run P W=_;rw[dv,alZ R];rfl
def adq(R:jq P u)(h:Ra (u X)=J):∃a b c,P.underlying X=U (.func a b c):=by
 unfold Ra at h;split at h;rename_i k q Q;obtain⟨d,N,⟨-,M⟩,-,-⟩:=(R _ _ Q).desc
 grind
 cases h
def adr{x y:Operand}{Q:_}{N:_}{M:_}(L:P.underlying X=U (.func Q N M))(v:Value)(n:Bool)(R:(v=.nilFunc/\n=J)\/(∃f a b,v=.func f a b)/\n=E):
  (do eqGuard .eql X x y v .nilFunc;binOp .eql X v .nilFunc).run P W=.ok (.bool n) W/\(do eqGuard .neq X x y v .nilFunc;binOp .neq X v .nilFunc).run P W=.ok (.bool !n) W:=by
 have H:(GJ X v .nilFunc).run P W=.ok n W:=by
  have G:GJ X v .nilFunc=Eu (9999+1) X v .nilFunc:=rfl;rw[G,Eu,dv,eX.gX L,du];rcases R with⟨rfl,rfl⟩|⟨⟨f,a,b,rfl⟩,rfl⟩<;>rfl
 rcases R with⟨rfl,rfl⟩|⟨⟨f,a,b,rfl⟩,rfl⟩<;>constructor<;>simp[eqGuard,binOp,H]
def al0{e:K}:∀{ks:bA}{vs:aq},vs.all Mx=J->Y ks=Y vs->
  (ln (e.ai O) ks (C.az O V vs)=.nilFunc/\(Ez e ks vs).ai O=J)\/((∃f a b,ln (e.ai O) ks (C.az O V vs)=.func f a b)/\(Ez e ks vs).ai O=E)
 |[],[],_,_=>.inl ⟨rfl,rfl⟩|[],_::_,_,h=>by simp at h|_::_,[],_,h=>by simp at h
 |k::ks,v::vs,R,N=>by
  simp only[VJ,aC] at R;have L:=al0 (e:=e) (ks:=ks) (vs:=vs) R.2 (by simpa using N);have X:=R.1;unfold Mx at X;split at X;rename_i g bD;simp only[C.az,C.ai,ln,Ez,BE.ai,fj,K.ai];by_cases Q:e.ai O=k;right;obtain⟨H,a2,G,M⟩:=adc (C.az O V bD) X;simp[Q,jm,M]
  grind
  simp only[C.az,C.ai,ln,Ez,BE.ai,fj,K.ai];by_cases Q:e.ai O=k;left;simp[Q,RE.ai,RE.rv,jm]
  grind
  cases X
def aw4(R:aA G H D u V O s a W)(l:jq P u)(hg:eB B O){r:BinOp}{t2:TypeId}{y:Operand}(ho:F.op=.binOp r X n y t2)(hk:(s.ev B n).eY=E)(aa:(s.ev B y).eY=E)
  (h:(cw u B s (.binOp r X n y t2)).gives O N):(execOp a.eval F).run P W=.ok (.value (N.ai O V)) W:=by
 have he:=de R hg n hk;have ab:=de R hg y aa;simp only[execOp,ho];rw[dv,he,ab];simp only[cw] at h;split at h;rename_i k m k' Q M L;rw[M,L];split at h;rename_i ac;have af:r=.shr:=by cases r<;>simp[ale] at ac;rfl
 subst af;split at h;rename_i Q;split at h;rename_i z;have j:¬Q<0:=by simp at z;omega
 cases h;simp only[C.ai,M3,K.ai];rw[dv,adp,du];simp[binOp,Op.shift,be,j];exact h.elim;obtain⟨z,rfl⟩:=h;have a0:0<=Q.ai O:=by
  grind [BE.ai,K.ai,fj]
 have j:¬Q.ai O<0:=ae;simp only[C.ai,M3];rw[dv,adp,du];simp[binOp,Op.shift,be,j];split at h;exact h.elim;rename_i ag;have al:k=k':=by simpa using ag
 subst al;simp only[C.ai];rw[dv,adp,du];split at h;rename_i hc;cases h;simp only[awZ r hc,du,fu,C.ai,EW];split at h;rename_i hc;cases h;simp only[aw0 r hc,du,fu,C.ai,M3];split at h;rename_i hc;split at h;rename_i Q;split at h;exact h.elim;rename_i z;cases h;have j:Q≠0:=by simpa using z
 simp only[C.ai,M3,K.ai];rw[alX r hc _ _ _ _ j];rfl;obtain⟨hb,rfl⟩:=h;rw[EW] at hb;have j:Q.ai O≠0:=by simpa[fj,K.ai] using hb
 simp only[C.ai,M3];rw[alX r hc _ _ _ _ j];rfl;exact h.elim;rename_i m Q M L;rw[M,L];simp only[C.ai];rw[dv,aw1,du];split at h;rename_i q i;cases h;obtain⟨d,A,-,-,hb⟩:=(l _ _ i).desc;rw[hb rfl] at A;rw[aw2 A];simp[C.ai,adk];rename_i q i;cases h;obtain⟨d,A,-,-,hb⟩:=(l _ _ i).desc;rw[hb rfl] at A;rw[aw3 A];simp[C.ai,adk,RO];exact h.elim;rename_i M L;rw[M,L];split at h;exact h.elim;rename_i w;obtain⟨d1,d2,d3,A⟩:=adq l (by simpa using w);obtain⟨q1,q2⟩:=adr (x:=n) (y:=y) (W:=W) A .nilFunc J (.inl ⟨rfl,rfl⟩);have z:C.ai O V (.ak (.k .nilFunc))=.nilFunc:=rfl;rw[z];split at h;cases h;rw[q1];rfl;cases h;rw[q2];rfl;exact h.elim;rename_i m Q a3 M L;rw[M,L];split at h;rename_i g c;cases h;obtain⟨p,b⟩:=G7 R g;obtain⟨q,hq⟩:=G7 R c;simp only[C.ai,b,hq];rw[dv,alY,du];unfold RE.ai at b hq;simp[binOp,Op.stringOp,BE.ai,b,hq,xD];rename_i g c;cases h;obtain⟨p,b⟩:=G7 R g;obtain⟨q,hq⟩:=G7 R c;simp only[C.ai,b,hq];rw[dv,alY,du];unfold RE.ai at b hq;simp[binOp,Op.stringOp,BE.ai,b,hq,xD];exact h.elim;rename_i f bD M L;rw[M,L];split at h;exact h.elim;rename_i w;simp only[lg,not_or,jP,Ml] at w;obtain⟨d1,d2,d3,A⟩:=adq l w.1;obtain⟨q1,q2⟩:=adr (x:=n) (y:=y) (W:=W) A ((C.fn f bD).ai O V) E (.inr ⟨let⟨a1,b1,c1,e1⟩:=adc _ (by simpa using w.2);⟨.func a1,b1,c1,e1⟩,rfl⟩);have z:C.ai O V (.ak (.k .nilFunc))=.nilFunc:=rfl;rw[z];split at h;cases h;rw[q1];rfl;cases h;rw[q2];rfl;exact h.elim;rename_i e ks vs M L;rw[M,L];split at h;rename_i w;simp only[aC,gc] at w;obtain⟨d1,d2,d3,A⟩:=adq l w.2;have an:=al0 (O:=O) (V:=V) (e:=e) w.1.1 w.1.2;obtain⟨q1,q2⟩:=adr (x:=n) (y:=y) (W:=W) A (ln (e.ai O) ks (C.az O V vs)) ((Ez e ks vs).ai O) an;have z:C.ai O V (.ak (.k .nilFunc))=.nilFunc:=rfl;rw[z,C.ai];split at h;cases h;rw[q1];rfl;cases h;rw[q2];simp[C.ai,RO];exact h.elim;exact h.elim;rename_i m Q M L;rw[M,L];simp only[C.ai];split at h;rename_i e he;cases h;obtain⟨am,d,i,g,c,h3⟩:=alV R he;have:=((l _ _ i).eq rfl _ _ _ n y W g c h3).1;rw[this];rfl;rename_i e he;cases h;obtain⟨am,d,i,g,c,h3⟩:=alV R he;have:=((l _ _ i).eq rfl _ _ _ n y W g c h3).2;rw[this];simp[C.ai,RO];exact h.elim;exact h.elim
end
section
variable{g:ar}{u:World}{D:bT}{P:Program}{d:Ty}{B:nZ}{V:ar}{O:aj}{s:S}{a:Act}{W:World}
def WA(X:∀r:RE,r.JE=J->jm (r.ai O)=J)(h:N.JF=J):(N.ai O V).cells.toList=C.az O V N.cells:=by
 cases N with
 |agg l=>simp[C.ai,C.cells,Value.cells]
 |ak r=>
  have:jm (r.ai O)=true:=X r (by cases r<;>simp_all[C.JF,RE.JE]);simp only[C.ai,C.cells,C.az];revert this;cases r.ai O<;>simp[jm,Value.cells]
 |gp e R Q=>
  simp only[C.ai,C.cells,C.az];exact alJ (adh _ _ _)
 |fn f l=>
  simp only[C.ai,C.cells,C.az];exact alJ (Wp _ _)
 |_=>simp[C.ai,C.cells,Value.cells,C.az,undef]
def al1:∀(M l:aq)(R:Nat),C.az O V (mg l R M)=(C.az O V M).zipIdx.foldl (λQ x=>Q.set (R+x.2) x.1) (C.az O V l)
 |[],l,R=>by simp[mg,C.az]
 |v::M,l,R=>by
  rw[mg,al1 M (l.set R v) (R+1)];simp only[C.az,List.zipIdx_cons,av9,yZ,jk];rw[show C.az O V (l.set R v)=(C.az O V l).set R (v.ai O V) by simp[oG]];generalize(C.az O V l).set R (v.ai O V)=X;have:∀(N:fy)(n:Nat)(X:fy),(N.zipIdx n).foldl (λQ x=>Q.set (R+1+x.2) x.1) X=(N.zipIdx (n+1)).foldl (λQ x=>Q.set (R+x.2) x.1) X:=by
   intro N;induction N with|nil=>intro n X;rfl|cons w N L=>intro n X;simp;rw[L,show R+1+n=R+(n+1) from ae]
  grind
def al2:∀(l:List (Value×Nat))(R:Nat)(X:mO),(l.foldl (λQ (x:Value×Nat)=>Q.setIfInBounds (R+x.2) x.1) X).toList=l.foldl (λQ x=>Q.set (R+x.2) x.1) X.toList
 |[],_,_=>rfl|x::l,R,X=>by simp;rw[al2 l R];simp
def RQ(R:∀r:RE,r.JE=J->jm (r.ai O)=J)(place:Nat->Option (Nat×Nat)):∀(parts:List (Nat×C))(cells l:aq),AL place cells parts=U l->
  Instr.fill place (C.az O V cells).toArray (parts.map λp=>(p.1,p.2.ai O V))=U (C.az O V l).toArray
 |[],cells,l,h=>by simp[AL] at h;simp[Instr.fill,h]
 |(i,v)::L,cells,l,h=>by
  simp only[AL] at h;cases X:place i with
  |none=>rw[X] at h;cases h
  |some q=>
   obtain⟨Q,H⟩:=q;rw[X] at h;simp only at h;split at h;cases h;rename_i N;simp at N;obtain⟨⟨G,y⟩,F⟩:=N;have M:=WA (V:=V) R F;have B:(v.ai O V).cells.size=H:=by rw[<-GF,M];simp[G]
   simp only[dH,Instr.fill,X,B];rw[aS bY];have A:=RQ R place L _ l h;rw[<-A];congr 1;apply nD;have e:((v.ai O V).cells.zipIdx.foldl (λz (x:Value×Nat)=>z.setIfInBounds (Q+x.2) x.1) (C.az O V cells).toArray).toList=C.az O V (mg cells Q v.cells):=by
    rw[<-aI4,al2,al1,Array.toList_zipIdx,M]
   omega
def aw5(c:CT):(Ex c).ai O V=rX c:=by cases c<;>simp[Ex,C.ai,rX,K.ai,BE.ai,RE.ai,RE.rv]
def al3(X:TI):C.az O V (eo X)=X.am.map rX:=by
 simp only[eo,oG,oX];congr 1;funext c;exact aw5 c
def M7(h:eX P X t):∃z,(zeroValue X).run P W=.ok z W/\z.cells=(C.az O V (eo t)).toArray:=by
 obtain⟨i,R,-,z,Q,N⟩:=h.M1;exact⟨z,by simp[zeroValue,typeInfo,R,Q],by rw[al3,<-N]⟩
def aw6(R:aA g u D d V O s a W)(H:jq P d)(hg:eB B O){parts:Array (Nat×Operand)}(ho:F.op=.build X parts)(hk:∀p∈parts.toList,(s.ev B p.2).eY=E)
  (h:(cw d B s (.build X parts)).gives O N):(execOp a.eval F).run P W=.ok (.value (N.ai O V)) W:=by
 have b:(parts.map λ(i,x)=>(i,a.eval x)).toList=(parts.toList.map λp=>(p.1,s.ev B p.2)).map λp=>(p.1,p.2.ai O V):=by
  simp only[yY,oX];apply kF;intro p hp;simp[de R hg p.2 (hk p hp)]
 simp only[execOp,ho,dv];simp only[cw] at h;split at h;rename_i y am q G;split at h;exact h.elim;rename_i r;have r:∀f∈y,(d f.2).isSome=true:=by
  have:(y.all λf=>(d f.2).isSome)=true:=by simpa only[jP,Ml] using r
  exact gz.1 this
 split at h;rename_i l M;cases h;obtain⟨Q,hF,aa⟩:=(H _ _ G).desc;obtain⟨z,k,j⟩:=M7 (P:=P) (W:=W) (O:=O) (V:=V) (H _ _ G);have ac:∀(L:List Field),(∀f∈L,∃A,d f.type=U A)->(L.mapM (m:=Sem) λf=>do pure (f.offset,<-Go.sizeOf f.type)).run P W=.ok (L.map λf=>(f.offset,((d f.type).map (·.am.length)).getD 0)) W:=by
  intro L hL;induction L with
  |nil=>rfl
  |cons f L ih=>
   obtain⟨A,w⟩:=hL f aw;have:=ih (λf M=>hL f (by simp[M]));simp only[awj,dv,(H _ _ w).nL,du,fu,this,dH,w,ga,yX]
 have ab:∀f∈Q.toList,∃A,d f.type=U A:=by
  intro f M;have:(f.offset,f.type)∈y:=by rw[<-aa];exact fw.2 ⟨f,M,rfl⟩
  have:=r _ this;exact jy.1 this
 have hm:=ac Q.toList ab;have c:=RQ (V:=V) (xI R) _ _ _ _ M;simp only[Instr.build,dv,k,du,eX.gX hF,aIL,Sem.run_map,hm,b,j];have af:(λi=>(Q.toList.map λf=>(f.offset,((d f.type).map (·.am.length)).getD 0)).toArray[i]?)=acs d y:=by
  funext i;rw[<-aa,acs];simp only[akU,et];cases hi:Q.toList[i]? with
  |none=>simp
  |some f=>
   obtain⟨A,w⟩:=ab f (jz hi);simp[w]
 rw[af,c];simp[C.ai];exact h.elim;rename_i n e am q G;split at h;rename_i te ag;split at h;rename_i l M;cases h;obtain⟨z,k,j⟩:=M7 (P:=P) (W:=W) (O:=O) (V:=V) (H _ _ G);have hd:P.underlying X=U (.array n e):=(H _ _ G).desc;have c:=RQ (V:=V) (xI R) _ _ _ _ M;simp only[Instr.build,dv,k,du,eX.gX hd,(H _ _ ag).nL,b,j,c];simp[C.ai];exact h.elim;exact h.elim;exact h.elim
def aw7(R:aA g u D d V O s a W)(z:jq P d)(hg:eB B O){j f mx:Option Operand}(ho:F.op=.slice X n j f mx)(hk:(s.ev B n).eY=E)(af:∀y,j=U y->(s.ev B y).eY=E)
  (h:(cw d B s (.slice X n j f mx)).gives O N):(execOp a.eval F).run P W=.ok (.value (N.ai O V)) W:=by
 have he:=de R hg n hk;simp only[execOp,ho,dv,he];simp only[cw] at h;split at h;rename_i Q e am q i ag ht hx;rw[hx];have c:P.underlying X=U (.array Q e):=(z _ _ ht).desc;split at h;rename_i te G M w;cases h;have al:j=none:=by simpa using M
 have ab:f=none:=by simpa using w
 subst al ab;simp[C.ai,Instr.sliceAt,eX.gX c,Instr.sureAddr,Instr.sliceBounds,(z _ _ G).nL,xH];rename_i te k l G M w;split at h;rename_i H;cases h;simp only[aC,dD] at H;have ab:f=none:=by simpa using w
 subst ab;cases j with
 |none=>cases M
 |some y=>
  simp only[ga,dW] at M;have L:=de R hg y (af y rfl);rw[M] at L;have an:l<=Q:=ae;have a0:¬Q=l.toNat:=ae;simp[C.ai,K.ai,Instr.sliceAt,eX.gX c,Instr.sureAddr,Instr.sliceBounds,Instr.sliceBound,asIntOf,L,H.1,an,(z _ _ G).nL,xH,a0]
 exact h.elim;exact h.elim;rename_i e am q r m ht hx;rw[hx];have c:P.underlying X=U (.slice e):=(z _ _ ht).desc;split at h;rename_i hh qq M w;cases f with
 |none=>cases M
 |some y=>
  simp only[ga,dW] at M;have L:=de R hg y (by rw[M];rfl);have p:=de R hg m (by rw[w];rfl);rw[M] at L;rw[w] at p;split at h;rename_i hn;split at h;rename_i H;cases h;simp only[aC] at H;obtain⟨⟨c1,c2⟩,c3⟩:=H;obtain⟨te,G⟩:=jy.1 c3;rw[K.bW _ _ c1] at L;rw[K.bW _ _ c2] at p;unfold RE.isNil at hn;split at hn;simp[C.ai,RE.ai,RE.rv,K.ai,Instr.sliceAt,eX.gX c,Instr.slice,Instr.sliceBounds,Instr.sliceBound,asIntOf,L,p,(z _ _ G).nL];cases hn;exact h.elim;split at h;rename_i a1;split at h;rename_i H;cases h;simp only[aC] at H;obtain⟨⟨c1,c2⟩,c3⟩:=H;obtain⟨te,G⟩:=jy.1 c3;rw[K.bW _ _ c1] at L;rw[K.bW _ _ c2] at p;have hl:=rh R aw a1;obtain⟨rv,aa⟩:∃rv,r.rv O=rv:=⟨_,rfl⟩;rw[aa] at hl;cases hl with
  |sl _ A Q a3 a4 g1 g2 g3 _ _ _=>
   have hv:r.ai O=.slice A Q a3:=by unfold RE.ai;rw[aa];rfl
   have a9:(K.len r).ai O=(Q:Int):=by simp only[K.ai];rw[aa];rfl
   simp only[C.ai,a9] at L p;have hA:(if Q=0 then A else A.map (·.add (0*Y te.am)))=A:=by
    split;rfl;obtain⟨ac,ba⟩:∃ac,a4[0]?=U ac:=⟨_,dG ae⟩;obtain⟨-,b,ag,rfl,-⟩:=g3 0 ac ba;simp[xH]
   have bb:(C.fn 3000000 [.ak r]).ai O V=.slice A Q Q:=by
    show ada (r.rv O).val=_;rw[aa];rfl
   rw[bb];simp[C.ai,hv,Instr.sliceAt,eX.gX c,Instr.slice,Instr.sliceBounds,Instr.sliceBound,asIntOf,L,p,(z _ _ G).nL,g2];simpa using hA
  exact h.elim;exact h.elim
 exact h.elim;exact h.elim
def aw8(R:aA g u D d V O s a W)(y:jq P d)(m:eB B O){c:Call}(k:F.op=.call c)(p:c.callee=.builtin .len)(j:∀x∈c.args.toList,(s.ev B x).eY=E)
  (h:(cw d B s (.call c)).gives O N):(execOp a.eval F).run P W=.ok (.value (N.ai O V)) W:=by
 have f:c.args.map a.eval=((c.args.toList.map (s.ev B)).map (C.ai O V)).toArray:=by
  apply nD;simp only[yY,oX];exact kF λx b=>de R m x (j x b)
 simp only[execOp,k,resolve,p,dv,fu,du,invoke,builtin,f];simp only[cw,p] at h;split at h;rename_i t L H;have M:c.argTypes[0]?=U t:=by have:=jY (λl=>l[0]?) L;simpa using this
 rw[H];split at h;rename_i e am q X;cases h;have Q:P.underlying t=U (.slice e):=(y _ _ X).desc;simp[Builtin.len_,M,C.ai,K.ai,RE.ai,RE.rv,eX.gX Q,goInt];exact h.elim;rename_i t r aa L H;have M:c.argTypes[0]?=U t:=by have:=jY (λl=>l[0]?) L;simpa using this
 rw[H];split at h;rename_i e am q e' X w;cases h;have Q:P.underlying t=U (.slice e):=(y _ _ X).desc;obtain⟨A,l,cc,G⟩:=RP R w;have z:=G;unfold RE.ai at z;simp[Builtin.len_,M,C.ai,K.ai,G,z,eX.gX Q,lenOf,goInt];rename_i am q X w;cases h;have Q:P.underlying t=U .string:=(y _ _ X).desc;obtain⟨ab,G⟩:=G7 R w;have z:=G;unfold RE.ai at z;simp[Builtin.len_,M,C.ai,K.ai,G,z,eX.gX Q,lenOf,goInt];exact h.elim;rename_i t i ac n af L H;have M:c.argTypes[0]?=U t:=by have:=jY (λl=>l[0]?) L;simpa using this
 rw[H];split at h;rename_i e am q X;cases h;have Q:P.underlying t=U (.slice e):=(y _ _ X).desc;simp[Builtin.len_,M,C.ai,K.ai,eX.gX Q,goInt];exact h.elim;exact h.elim
def al4(R:aA g u D d V O s a W)(G:eB B O){c:Call}(L:F.op=.call c)(X:c.callee=.builtin .min\/c.callee=.builtin .max)(A:∀x∈c.args.toList,(s.ev B x).eY=E)
  (h:(cw d B s (.call c)).gives O N):(execOp a.eval F).run P W=.ok (.value (N.ai O V)) W:=by
 have H:c.args.map a.eval=((c.args.toList.map (s.ev B)).map (C.ai O V)).toArray:=by
  apply nD;simp only[yY,oX];exact kF λx z=>de R G x (A x z)
 rcases X with X|X;simp only[execOp,L,resolve,X,dv,fu,du,invoke,builtin,H];simp only[cw,X] at h;split at h;rename_i k x l Q;rw[Q];split at h;rename_i e M;cases h;have:=adl (P:=P) (W:=W) (O:=O) (V:=V) E k l x e M
 grind [jX,C.ai,Builtin.min_,oG,du]
 exact h.elim;exact h.elim;simp only[execOp,L,resolve,X,dv,fu,du,invoke,builtin,H];simp only[cw,X] at h;split at h;rename_i k x l Q;rw[Q];split at h;rename_i e M;cases h;have:=adl (P:=P) (W:=W) (O:=O) (V:=V) J k l x e M
 grind [C.ai,Builtin.max_,oG,du]
 exact h.elim;exact h.elim
end
section
variable{g:ar}{A:World}{D:bT}{P:Program}{f:Ty}{B:nZ}{V:ar}{O:aj}{s:S}{a:Act}{W:World}
def ads{l:bA}(h:r=E->Y l=1):zv (gR r l)=l:=by
 cases r;obtain⟨x,rfl⟩:=pK.1 (h rfl);rfl;simp[gR,zv,Function.comp_def,bn]
def adt{x y z:K}(h:JI R r N=U (x,y,z)):N.ai O V=gR r ([x.ai O,y.ai O,z.ai O].take R)/\([x.ai O,y.ai O,z.ai O].take R).length=R:=by
 unfold JI at h;split at h;split at h;rename_i X;cases h;simp at X
 grind [gR,C.ai]
 cases h;split at h;rename_i X;cases h;simp at X
 grind [gR,C.ai,C.az]
 cases h;split at h;rename_i X;cases h;simp at X
 grind [gR,C.ai,C.az]
 cases h;split at h;rename_i X;cases h;simp at X
 grind [gR,C.ai,C.az]
 cases h;cases h
def adu:∀{l:uq}{m:Nat}{e:MapEntry},e∈gA m l->∃p∈l,e.key=p.1
 |[],m,e,h=>by simp[gA] at h
 |x::r,m,e,h=>by
  simp only[gA,fh] at h;rcases h with rfl|h;simp;obtain⟨p,X,R⟩:=adu h
  grind
def G8(n:Nat)(X:aE):Prop:=∃l:bA,Y l=n/\X.take n=l.map λx=>.mk (.int I x) []
def RT{ag:Bool}(M:ag=E->R=1){X:aE}(h:G8 R X):∃l:bA,Y l=R/\rV ag (X.take R)=gR ag l/\(X.take R).map (λc=>bn c.val)=l:=by
 obtain⟨l,Q,N⟩:=h;refine⟨l,Q, ?_,by rw[N];simp[Function.comp_def,bn]⟩;rw[N];cases ag;obtain⟨x,rfl⟩:=pK.1 (Q.trans (M rfl));rfl;simp[rV,gR]
def al5{n:Nat}{Q va:Bool}(N:Q=E->n=1){X:bA}(L:(X.take n).length=n):∀{rows:av}{m i:Nat},(∀R∈rows,G8 n R)->
  (mj n X rows=Z/\pm (X.take n) (gA m (rows.map (xF n Q va))) i=Z)\/∃R j,mj n X rows=U R/\R∈rows/\pm (X.take n) (gA m (rows.map (xF n Q va))) i=U (j,rV va (R.drop n))
 |[],m,i,_=>.inl ⟨rfl,rfl⟩
 |R::rows,m,i,h=>by
  obtain⟨l,H,G,F⟩:=RT (ag:=Q) N (h R aw);simp only[mj,awa,dH,gA,pm,xF,G];rw[ads (λe=>H.trans (N e))];have B:mi n X R=decide (l=X.take n):=by simp only[mi,F]
  rw[B];by_cases A:l=X.take n
  grind
  simp only[A,decide_false,ku];rcases al5 (rows:=rows) (m:=m+1) (i:=i+1) (va:=va) N L (λr z=>h r (by simp[z])) with M|⟨r,j,M,y,x⟩;exact .inl M;exact .inr ⟨r,j,M,by simp[y],x⟩
def al6(O:aj)(V:ar){k e:TypeId}(F:P.underlying X=U (.map k e))(B:vW P k R r)(A:eX P e t){l:uq}(y:W.heap[M]?=U (rg l)){L:bA}(u:Y L=R)
  (g:∀p∈l,∃N:bA,Y N=R/\p.1=gR r N)(H:Bool):
  ∃z,(zeroValue e).run P W=.ok z W/\(Instr.lookup X (.map (U M)) (gR r L) H).run P W=.ok (let Q:=match pm L (gA 0 l) 0 with
   |U (_,v)=>(v,J)
   |none=>(z,E);if H then .tuple #[Q.1,.bool Q.2] else Q.1) W:=by
 obtain⟨z,G,f⟩:=M7 (P:=P) (W:=W) (O:=O) (V:=V) A;refine⟨z,G, ?_⟩;have q:∀x∈gA 0 l,∃N:bA,Y N=R/\x.key=gR r N:=λx o=>by
  obtain⟨p,d,c⟩:=adu o
  grind
 obtain⟨m,i⟩:=B.2 L (gA 0 l) W u q;have h:=MapKept.run_getObj_map (P:=P) (w:=W) y;simp only[Instr.lookup,dv,eX.gX F,du,h,fu,m,i];cases hf:pm L (gA 0 l) 0 with|none=>simp[G]|some p=>obtain⟨j,v⟩:=p;simp
structure J9(f:Ty)(sh:Sh)(row:aE):Prop where
 len:Y row=(bI f (.mr sh)).length
 int:∀(j:Nat)(c:RV)(k:IntKind),row[j]?=U c->(bI f (.mr sh))[j]?=U (.int k)->∃n,c=.mk (.int k n) []
 bool:∀(j:Nat)(c:RV),row[j]?=U c->(bI f (.mr sh))[j]?=U .bool->∃x,c=.mk (.bool x) []
def aw9{R:Sh}(h:bG W f (.mr R) L):∀X∈L.ah,J9 f R X:=by
 cases h with
 |mr R A H G F z=>
  intro X B;obtain⟨i,Q⟩:=sK B;exact⟨H i X Q,λj c k N M=>G i j X c k Q N M,λj c N M=>F i j X c Q N M⟩
def Ka(R:aA g A D f V O s a W){X:Sh}{r:RE}(h:r.pL f s X=J):∀Q∈(r.rv O).ah,J9 f X Q:=by
 unfold RE.pL at h;rcases avV.1 h with h|h;exact aw9 (rh R aw (GK h));unfold RE.nil at h;split at h;intro Q N;simp[RE.rv] at N;cases h
def M8{e:TypeId}{va:Bool}(Q:ut f X R r=J)(M:f e=U t):∃N:eL,bI f (.mr ⟨X,e,R,r,va⟩)=N++t.am/\Y N=R/\∀c∈N,c=.int I:=by
 unfold ut at Q;split at Q;rename_i tk L;simp only[aC,gc] at Q
 grind [bI,acv]
 cases Q
def M9{e:TypeId}{N:Bool}(H:ut f X R r=J)(G:f e=U t){Q:aE}(h:J9 f ⟨X,e,R,r,N⟩ Q):G8 R Q:=by
 obtain⟨v,M,F,B⟩:=M8 (va:=N) H G;have A:=h.len;rw[M,f9,F] at A;refine⟨(Q.take R).map λc=>bn c.val,bY, ?_⟩;apply kU;intro j;rw[et,et,qg];by_cases z:j<R;rw[aH z];have L:j<Y Q:=ae;rw[dG L];have y:(bI f (.mr ⟨X,e,R,r,N⟩))[j]?=U (.int I):=by
  rw[M,f8 ae,dG ae];congr 1;exact B _ (ul _)
 obtain⟨x,w⟩:=h.int j _ I (dG L) y;simp only[ga,w,RV.pe,bn]
 grind
def adv{r:RE}{n:Nat}{x y z:K}{X:aE}(H:mj n [x.ai O,y.ai O,z.ai O] (r.rv O).ah=U X):∀{am:eL}{j:Nat},am.all n7=J->Y X=j+Y am->
  (∀(i:Nat)(k:IntKind),am[i]?=U (.int k)->∃m,X[j+i]?=U (.mk (.int k m) []))->(∀(i:Nat),am[i]?=U .bool->∃m,X[j+i]?=U (.mk (.bool m) []))->
  C.az O V (rO r n x y z j am)=(X.drop j).map RV.val
 |[],j,_,R,_,_=>by rw[avO (by simp at R;omega)];rfl
 |.int k::am,j,Q,R,M,L=>by
  obtain⟨m,N⟩:=M 0 k rfl;have G:=adv H (am:=am) (j:=j+1) (by simpa[n7] using Q) (by simp at R⊢;omega) (λi k h=>by have:=M (i+1) k (by simpa using h);rwa [show j+(i+1)=j+1+i from ae] at this) (λi h=>by have:=L (i+1) (by simpa using h);rwa [show j+(i+1)=j+1+i from ae] at this);have F:X.drop j=.mk (.int k m) []::X.drop (j+1):=by
   rw[yZ] at N
   grind [Cb]
  rw[yZ] at N
  grind [rO,C.az,C.ai,K.ai,RV.pe,bn]
 |.bool::am,j,Q,R,M,L=>by
  obtain⟨m,N⟩:=L 0 rfl;have G:=adv H (am:=am) (j:=j+1) (by simpa[n7] using Q) (by simp at R⊢;omega) (λi k h=>by have:=M (i+1) k (by simpa using h);rwa [show j+(i+1)=j+1+i from ae] at this) (λi h=>by have:=L (i+1) (by simpa using h);rwa [show j+(i+1)=j+1+i from ae] at this);have F:X.drop j=.mk (.bool m) []::X.drop (j+1):=by
   rw[yZ] at N
   grind [Cb]
  rw[yZ] at N
  grind [rO,C.az,C.ai,BE.ai,RV.pe,jp]
 |.bw _ _::am,j,Q,_,_,_=>by simp[n7] at Q
def adw{r:RE}{n:Nat}{x y z:K}(R:mj n [x.ai O,y.ai O,z.ai O] (r.rv O).ah=Z):∀{am:eL}{j:Nat},am.all n7=J->C.az O V (rO r n x y z j am)=am.map rX
 |[],j,_=>rfl
 |.int k::am,j,X=>by
  simp only[rO,C.az,C.ai,K.ai,R,dH,rX,adw R (am:=am) (j:=j+1) (by simpa[n7] using X)]
 |.bool::am,j,X=>by
  simp only[rO,C.az,C.ai,BE.ai,R,dH,rX,adw R (am:=am) (j:=j+1) (by simpa[n7] using X)]
 |.bw _ _::am,j,X=>by simp[n7] at X
def WB{r:RE}{n:Nat}{x y z:K}:∀{am:eL}{j:Nat},(rO r n x y z j am).length=Y am
 |[],j=>rfl|.int _::am,j=>by simp[rO,WB (am:=am)]|.bool::am,j=>by simp[rO,WB (am:=am)]|.bw _ _::am,j=>by simp[rO,WB (am:=am)]
def adx(h:eX P X t){z:Value}(R:(zeroValue X).run P W=.ok z W):z=if t.d.isAgg then .agg (t.am.map rX).toArray else(t.am.map rX).headD undef:=by
 obtain⟨i,Q,-,M,N,L⟩:=h.M1;have H:z=M:=by simp[zeroValue,typeInfo,Q,N] at R;exact R.symm
 subst H;have G:=h.alK i z Q N;rw[<-G,<-L];cases z<;>simp[Ws,Value.cells]
def CH(h:eX P X t)(Q:t.d.isAgg=E):Y t.am=1:=by
 obtain⟨i,N,H,z,M,L⟩:=h.M1;have:=h.alK i z N M;rw[Q] at this;have R:=jY Y L;simp only[oW] at R;rw[<-R];cases z<;>simp[Ws] at this<;>rfl
def Na:∀{R:aq}{X:bA},rP R=U X->ES (C.az O V R)=(X.zip (n8 R)).map (λp=>(.int I p.1,p.2.ai O V))/\Y X=(n8 R).length
 |[],X,h=>by simp[rP] at h;subst h;exact⟨rfl,rfl⟩|[v],X,h=>by unfold rP at h;split at h<;>simp_all
 |u::v::r,X,h=>by
  unfold rP at h;split at h
  grind
  rename_i k M L N;cases N;cases Q:rP r with
  |none=>rw[Q] at h;cases h
  |some H=>
   rw[Q] at h;simp at h;subst h;obtain⟨G,F⟩:=Na Q
   grind [C.az,C.ai,K.ai,ES,n8,Es]
  cases h
def al7{x:Int}:∀{ks:bA}{vs:aq}{m i:Nat},(pm [x] (gA m ((ks.zip vs).map λp=>(.int I p.1,p.2.ai O V))) i).map (·.2)=(eU x ks vs).map (C.ai O V)
 |[],vs,m,i=>by simp[gA,pm,eU]|_::_,[],m,i=>by simp[gA,pm,eU]
 |k::ks,v::vs,m,i=>by
  simp only[Es,dH,gA,pm,zv,GG,and_true,eU];by_cases h:x=k
  grind
  rw[aS (λe=>h e.symm),aS h];exact al7
theorem G9{X:RE}{Q:Bool}:j5 xq (C.bL O V [.ak X,.int I (.c (R:Int)),.bool (.c r),.bool (.c Q)])=rg ((X.rv O).ah.map (xF R r Q)):=by
 simp[j5,xq,vF,C.bL,C.gf,C.ai,K.ai,BE.ai]
def Hd:j5 vF (C.bL O V v)=rg (ES (C.az O V v)):=by
 simp only[j5,dO,alH]
def axa(R:aA g A D f V O s a W)(a0:jq P f)(hg:eB B O){ix:Operand}(ho:F.op=.lookup X n ix r)(hk:(s.ev B n).eY=E)(bs:(s.ev B ix).eY=E)
  (h:(cw f B s (.lookup X n ix r)).gives O N):(execOp a.eval F).run P W=.ok (.value (N.ai O V)) W:=by
 have he:=de R hg n hk;have bx:=de R hg ix bs;simp only[execOp,ho,dv,he,bx];simp only[cw] at h;split at h;rename_i k e Q ag am q i ht hx;rw[hx];have hd:P.underlying X=U (.map k e):=(a0 _ _ ht).desc;have hK:vW P k Q ag:=(a0 _ _ ht).key k e Q ag rfl;unfold VR at h;split at h;rename_i L G xb xc bt cs g1 g2 g3;have aa:=a0 _ _ g1;split at h;exact h.elim;rename_i al;have al:ut f k Q ag=true:=by simpa using al
 obtain⟨b0,a1⟩:=adt (O:=O) (V:=V) g2;have ac:=R.mem.box i bt cs g3;simp only[C.ai,b0];split at h;rename_i fm;simp only[gc] at fm;subst fm;split at h;rename_i M nk ka va;split at h;rename_i bb;simp only[aC,gc] at bb;obtain⟨⟨⟨⟨⟨c1,c2⟩,c3⟩,c4⟩,c5⟩,-⟩:=bb;subst c2 c3 c4;rw[G9] at ac;have bc:=Ka R c1;have bd:∀b∈(M.rv O).ah,G8 Q b:=λb hr=>M9 al g1 (bc b hr)
 obtain⟨z,hz,a3⟩:=al6 O V hd hK aa ac a1 (λp hp=>by
  obtain⟨b,hr,rfl⟩:=fw.1 hp;obtain⟨l,q1,q2,-⟩:=RT hK.1 (bd b hr);exact⟨l,q1,q2⟩) r
 rw[a3];simp only[VQ,PR.gives] at h;subst h;have an:L.d.isAgg=E->(rO M Q G xb xc Q L.am).length=1:=λha=>by rw[WB];exact CH aa ha
 rcases al5 (m:=0) (i:=0) (va:=L.d.isAgg) hK.1 a1 bd with⟨f1,f2⟩|⟨b,j,f1,f2,f3⟩;have hv:(ur L.d.isAgg (rO M Q G xb xc Q L.am)).ai O V=z:=by
  rw[EX an,adw f1 c5];exact(adx aa hz).symm
 simp only[f2];cases r;simp only[jX,ku,hv];rfl;simp only[dO,C.ai,C.az,hv,BE.ai,f1];rfl;obtain⟨kc,r1,r2,r3⟩:=M8 (va:=L.d.isAgg) al g1;have a4:=bc b f2;have b1:Y b=Q+Y L.am:=by rw[a4.len,r1,f9,r2]
 have bf:∀(m:Nat)(ct:CT),L.am[m]?=U ct->(bI f (.mr ⟨k,e,Q,_,L.d.isAgg⟩))[Q+m]?=U ct:=λm ct hm=>by
  rw[r1,ji ae,r2,show Q+m-Q=m from ae];exact hm
 have bg:∀(m:Nat)(ct:CT),L.am[m]?=U ct->∃c,b[Q+m]?=U c:=λm ct hm=>by
  have:m<Y L.am:=(dq.1 hm).1;exact⟨b[Q+m]' ae,dG _⟩
 have b2:=adv (V:=V) f1 (am:=L.am) (j:=Q) c5 b1 (λm kk hm=>by
  obtain⟨c,hc⟩:=bg m _ hm;obtain⟨x',a9⟩:=a4.int (Q+m) c kk hc (bf m _ hm);exact⟨x',by rw[hc,a9]⟩) (λm hm=>by
  obtain⟨c,hc⟩:=bg m _ hm;obtain⟨x',a9⟩:=a4.bool (Q+m) c hc (bf m _ hm);exact⟨x',by rw[hc,a9]⟩)
 have hv:(ur L.d.isAgg (rO M Q G xb xc Q L.am)).ai O V=rV L.d.isAgg (b.drop Q):=by
  rw[EX an,b2,rV];cases b3:L.d.isAgg;have h1:=CH aa b3;obtain⟨c,hc⟩:=pK.1 (show(b.drop Q).length=1 from bY);rw[hc];rfl;rfl
 simp only[f3];cases r;simp only[jX,ku,hv];rfl;simp only[dO,C.ai,C.az,hv,BE.ai,f1];rfl;exact h.elim;exact h.elim;split at h;rename_i fm;simp only[gc] at fm;subst fm;split at h;rename_i bk;simp only[aC,gc,jP] at bk;obtain⟨rfl,rfl⟩:=bk;rw[Hd] at ac;split at h;rename_i v0 y H;simp only[VQ,PR.gives] at h;subst h;unfold alf at H;split at H;rename_i ks b4;obtain⟨p1,p2⟩:=Na (O:=O) (V:=V) b4;rw[p1] at ac;obtain⟨z,hz,a3⟩:=al6 O V hd hK aa ac a1 (λp hp=>by
  obtain⟨u,hu,rfl⟩:=fw.1 hp;exact⟨[u.1],rfl,rfl⟩) r
 rw[a3];have ab:=al7 (O:=O) (V:=V) (x:=G.ai O) (ks:=ks) (vs:=n8 cs) (m:=0) (i:=0);have bl:(∀u,eU (G.ai O) ks (n8 cs)=U u->v0.ai O V=u.ai O V/\y.ai O=J)/\(eU (G.ai O) ks (n8 cs)=Z->v0.ai O V=z/\y.ai O=E):=by
  split at H;rename_i x0;simp only[K.ai] at*;split at H;rename_i u hu;cases H;exact⟨λu' af=>by rw[hu] at af;cases af;exact⟨rfl,rfl⟩,λhn=>by rw[hu] at hn;cases hn⟩;rename_i hu;cases H;refine⟨λu' af=>(by rw[hu] at af;cases af),λ_=>⟨?_,rfl⟩⟩;rw[EX (λha=>by simp[eo];exact CH aa ha),al3];exact(adx aa hz).symm;rename_i b7;split at H;rename_i b5;cases ba:EA G ks ((n8 cs).map C.cells) 0 L.am with
  |none=>rw[ba] at H;cases H
  |some l=>
   rw[ba] at H;simp only[ga,dW,JA] at H;obtain⟨rfl,rfl⟩:=H;obtain⟨s0,s1,s2⟩:=Wv (O:=O) (V:=V) ba;rw[Wu] at s1 s2;have an:L.d.isAgg=E->Y l=1:=λha=>by rw[s0];exact CH aa ha
   rw[EX an,Ww p2];refine⟨λu hu=> ?_,λhu=> ?_⟩;have br:=gz.1 b5 u (M5 hu);have b6:Y u.cells=0+Y L.am:=by
    simp only[Cm,aC,gc] at br;omega
   rw[s1 u.cells (by rw[hu];rfl) b6,hu,Wy (xI R) br];exact⟨rfl,rfl⟩;rw[s2 (by rw[hu];rfl),hu];exact⟨(adx aa hz).symm,rfl⟩
  cases H
 have hL:[G.ai O,xb.ai O,xc.ai O].take 1=[G.ai O]:=rfl;rw[hL] at*;cases hp:eU (G.ai O) ks (n8 cs) with
 |some u=>
  rw[hp] at ab;obtain⟨q1,q2⟩:=bl.1 u hp;cases hf:pm [G.ai O] (gA 0 ((ks.zip (n8 cs)).map λp=>(.int I p.1,p.2.ai O V))) 0 with
  |none=>rw[hf] at ab;cases ab
  |some jv=>
   obtain⟨j,w⟩:=jv;rw[hf] at ab;simp only[ga,dW] at ab;subst ab;cases r;simp only[jX,ku,q1];rfl;simp only[dO,C.ai,C.az,q1,q2];rfl
 |none=>
  rw[hp] at ab;obtain⟨q1,q2⟩:=bl.2 hp;cases hf:pm [G.ai O] (gA 0 ((ks.zip (n8 cs)).map λp=>(.int I p.1,p.2.ai O V))) 0 with
  |some jv=>rw[hf] at ab;cases ab
  |none=>
   cases r;simp only[jX,ku,q1];rfl;simp only[dO,C.ai,C.az,q1,q2];rfl
 cases H;exact h.elim;exact h.elim;exact h.elim;exact h.elim;exact h.elim
end
section
variable{u:ar}{A:World}{D:bT}{P:Program}{g:Ty}{B:nZ}{V:ar}{O:aj}{s:S}{a:Act}{W:World}
def al8(R:aA u A D g V O s a W)(G:jq P g)(M:eB B O)(o:Oper)(X:∀x∈o.op.operands.toList,(s.ev B x).eY=E)
  (h:(cw g B s o.op).gives O N):(execOp a.eval o).run P W=.ok (.value (N.ai O V)) W:=by
 cases Q:o.op with
 |move x=>
  rw[Q] at h X;have H:=de R M x (X x cq);simp only[cw,PR.gives] at h;simp[execOp,Q,H,h]
 |assign x=>
  rw[Q] at h X;have H:=de R M x (X x cq);simp only[cw,PR.gives] at h;simp[execOp,Q,H,h]
 |pick c x y=>
  rw[Q] at h X;have z:=de R M c (X c cq);have L:=de R M x (X x cq);have hy:=de R M y (X y cq);simp only[cw] at h;split at h;rename_i ag;cases h;rw[ag] at z;simp[execOp,Q,z,L,C.ai,BE.ai,asBool];rename_i ag;cases h;rw[ag] at z;simp[execOp,Q,z,hy,C.ai,BE.ai,asBool];exact h.elim
 |load t x=>rw[Q] at h X;exact awU R G M Q (X x cq) h|fieldAddr t x f=>rw[Q] at h X;exact awV R G M Q (X x cq) h|field t x f=>rw[Q] at h X;exact awW R G M Q (X x cq) h|indexAddr t x y=>rw[Q] at h X;exact awX R G M Q (X x cq) (X y cq) h|index t x y=>rw[Q] at h X;exact awY R G M Q (X x cq) (X y cq) h|binOp op t x y t2=>rw[Q] at h X;exact aw4 R G M Q (X x cq) (X y cq) h
 |unOp op t x=>
  rw[Q] at h X;have H:=de R M x (X x cq);simp only[cw] at h;split at h;rename_i b L;cases h;simp[execOp,Q,H,L,C.ai,Op.unary,RO];rename_i k e L;cases h;simp[execOp,Q,H,L,C.ai,Op.unary,Op.intArith,M3,be,K.ai];exact h.elim
 |convert t1 t2 x=>
  rw[Q] at h X;have H:=de R M x (X x cq);simp only[cw] at h;split at h;rename_i k1 q1 k2 q2 k n h1 h2 L;cases h;obtain⟨d1,ac,-,al,-⟩:=(G _ _ h1).desc;obtain⟨d2,af,-,an,-⟩:=(G _ _ h2).desc;rw[al _ rfl] at ac;rw[an _ rfl] at af;simp[execOp,Q,H,L,C.ai,convert,eX.gX ac,eX.gX af,Conv.intToInt,K.ai];rename_i k1 q1 k2 q2 k n hn h1 h2 L;cases h;obtain⟨d1,ac,-,al,-⟩:=(G _ _ h1).desc;obtain⟨d2,af,-,an,-⟩:=(G _ _ h2).desc;rw[al _ rfl] at ac;rw[an _ rfl] at af;simp[execOp,Q,H,L,C.ai,convert,eX.gX ac,eX.gX af,Conv.intToInt,K.ai];exact h.elim
 |makeInterface t x=>
  rw[Q] at h X;have H:=de R M x (X x cq);simp only[cw] at h;split at h;exact h.elim;rename_i ti ba ht;cases h;have hd:=(G _ _ ht).desc;have ab:∀d,P.underlying t=U d->(∀m,d≠ .interface m)->(Instr.makeInterface t (a.eval x)).run P W=.ok (.iface t (a.eval x)) W:=by
   intro d h1 h2;simp only[Instr.makeInterface,dv,eX.gX h1,du];cases d<;>first|rfl|exact bF rfl (h2 _)
  have:(Instr.makeInterface t (a.eval x)).run P W=.ok (.iface t (a.eval x)) W:=by
   obtain⟨d,am,q⟩:=ti;cases d with
   |one=>obtain⟨d,h1,⟨h2,-⟩,-⟩:=hd;exact ab d h1 (λm j=>by rw[j] at h2;exact h2)
   |gH=>exact bF rfl (ba _ _)|str=>exact ab _ hd (λm j=>by cases j)|slice e=>exact ab _ hd (λm j=>by cases j)|arr n e=>exact ab _ hd (λm j=>by cases j)|struct fs=>obtain⟨F,h1,-⟩:=hd;exact ab _ h1 (λm j=>by cases j)
   |map k e=>exact ab _ hd (λm j=>by cases j)
  rw[H] at this;simp[execOp,Q,H,this,C.ai];exact h.elim
 |makeFunc fn first bD=>
  rw[Q] at h X;simp only[cw] at h;split at h;rename_i f hf;cases aa:kq f 1000000;rw[aa] at h;exact h.elim;rw[aa] at h;cases h;have a0:first= #[]:=by apply nD;simpa using hf
  subst a0;have a4:bD.map a.eval=(C.az O V (bD.toList.map (s.ev B))).toArray:=by
   apply nD;simp only[yY,oG,oX];exact kF λx L=>de R M x (X x (by simp[im];simpa using L))
  simp[execOp,Q,Instr.makeFunc,C.ai,a4,adb aa];rename_i f x hf;cases aa:kq f 1000000;rw[aa] at h;exact h.elim;rw[aa] at h;cases h;have a0:first= #[x]:=by apply nD;simpa using hf
  subst a0;have a4:bD.map a.eval=(C.az O V (bD.toList.map (s.ev B))).toArray:=by
   apply nD;simp only[yY,oG,oX];exact kF λx L=>de R M x (X x (by simp[im];exact .inr (by simpa using L)))
  have L:=de R M x (X x cq);have hb:kq (f+1000000) 1000000=false:=by
   rw[<-ak1,Nat.blt_eq];omega
  have bb:kq (f+1000000) 2000000=true:=by
   rw[Nat.blt_eq] at aa⊢;omega
  simp[execOp,Q,Instr.makeFunc,C.ai,C.az,a4,L,vV,hb,bb];exact h.elim
 |extract x i=>
  rw[Q] at h X;have H:=de R M x (X x cq);simp only[cw] at h;split at h;rename_i l L;split at h;rename_i y hy;simp only[PR.gives] at h;subst h;have:(C.az O V l).toArray[i]?=U (N.ai O V):=by simp[uC,hy]
  simp[execOp,Q,H,L,C.ai,Instr.extract,this,-akU];exact h.elim;exact h.elim
 |nilCheck x=>
  rw[Q] at h X;have H:=de R M x (X x cq);simp only[cw] at h;split at h;rename_i i bc L;cases h;simp[execOp,Q,H,L,C.ai];rename_i r w i bc L;cases h;simp[execOp,Q,H,L,C.ai];rename_i f bD L;cases aa:kq f 2000000;rw[aa] at h;exact h.elim;rw[aa] at h;cases h;obtain⟨a1,a2,a3,e1⟩:=adc (C.az O V bD) aa;simp[execOp,Q,H,L,C.ai,e1];exact h.elim
 |slice t x lo hi mx=>
  rw[Q] at h X;exact aw7 R G M Q (X x cq) (λy hy=>X y (by subst hy;simp[im])) h
 |build t parts=>
  rw[Q] at h X;exact aw6 R G M Q (λp hp=>X p.2 (by simp[im];exact⟨p.1,by simpa using hp⟩)) h
 |lookup t x ix ok=>
  rw[Q] at h X;exact axa R G M Q (X x cq) (X ix cq) h
 |call c=>
  rw[Q] at h X;have a9:∀x∈c.args.toList,(s.ev B x).eY=false:=λx L=>X x (by simp[im,Ch];exact .inr (by simpa using L))
  cases z:c.callee with
  |builtin b=>
   cases b with|len=>exact aw8 R G M Q z a9 h|min=>exact al4 R M Q (.inl z) a9 h|max=>exact al4 R M Q (.inr z) a9 h|_=>simp only[cw,z,PR.gives] at h
  |value f=>simp only[cw,z,PR.gives] at h|invoke r m=>simp only[cw,z,PR.gives] at h
 |_=>rw[Q] at h;simp only[cw,PR.gives] at h
end
section
variable{p:ar}{q:World}{D:bT}{P:Program}{ty:Ty}{f:nZ}{V:ar}{O:aj}{s:S}{a:Act}{W:World}
def EY{o:Obj}(h:Q.heap[R]?=U o):R<Q.heap.size:=(lF.1 h).1
def ee.world{X:vE}{R:CF}{W':World}(h:ee q D X x R Q)(N:∀(b:Nat)(o:Obj),Q.heap[b]?=U o->(∀L t H,o≠ .cells L t H)->W'.heap[b]?=U o):ee q D X x R W':=
 ⟨h.len,h.rW,λn l r G F B=>let⟨a,b,c⟩:=h.dI n l r G F B;⟨a,N _ _ b (λ_ _ _ h=>by cases h),c⟩,h.inj,let⟨A,a,z,b,c⟩:=h.mu;⟨A,a,z,b,λd M=>⟨N _ _ (c d M).1 (λ_ _ _ h=>by cases h),(c d M).2⟩⟩⟩
def Nb:Obj->Bool
 |.loop _|.deferred _=>J|_=>E
def al9{o:Obj}(h:Nb o=J):∀X t R,o≠ .cells X t R:=λX t R e=>by subst e;cases h
def ama{o:Obj}(h:Nb o=J):∀t l,o≠j5 t l:=by
 intro t l e;subst e;unfold j5 at h;split at h;cases h;split at h;split at h<;>cases h;split at h;split at h<;>cases h;cases h
def ee.axb{X:vE}{R:CF}{N:World}(h:ee q D X x R Q)(M:∀(b:Nat)(o:Obj),Q.heap[b]?=U o->Nb o=J->N.heap[b]?=U o):ee q D X x R N:=
 ⟨h.len,h.rW,λn l r H G F=>let⟨a,b,c⟩:=h.dI n l r H G F;⟨a,M _ _ b rfl,c⟩,h.inj,let⟨B,a,A,b,c⟩:=h.mu;⟨B,a,A,b,λd L=>⟨M _ _ (c d L).1 rfl,(c d L).2⟩⟩⟩
def ee.below{X:vE}{R:CF}{N:World}(h:ee q D X x R Q)(L:Below Q.heap.size Q N):ee q D X x R N:=
 h.world λb o M _=>(L.block b (EY M)).trans M
theorem ee.cells{M:vE}{L:CF}{H:World}(h:ee q D M x L Q){G:mO}{F:Nat×Nat}(B:Q.heap[R]?=U (.cells G X F))(A:∀b,b≠R->b<Q.heap.size->H.heap[b]?=Q.heap[b]?):ee q D M x L H:=
 h.world λb o N z=>(A b (λe=>by subst e;rw[B] at N;cases N;exact z _ _ _ rfl) (EY N)).trans N
def bG.Kb{F:World}(h:bG Q ty y L)(B:∀b,dV ty y L b->F.heap[b]?=Q.heap[b]?)(hs:Q.heap.size<=F.heap.size):bG F ty y L:=by
 induction h with
 |sl e A R p N x w u g f ho t=>
  refine bG.sl e A R p N x w (λi M X=> ?_) g f (λi j M c z o X H n=>t i j M c z o X H n (λb r=>B b (dV.deep e _ _ i j M c z o b X H n r)));obtain⟨d,b,m,rfl,⟨gJ,t0,aa,q2⟩,q3⟩:=u i M X;have ab:0<R:=by have:=(dq.1 X).1;omega
  obtain⟨q,rfl⟩:∃q,R=q+1:=⟨R-1,ae⟩;have G:=B b (dV.here e ⟨b,m,Z⟩ q p N);refine⟨d,b,m,rfl,⟨gJ,t0,aa,G.trans q2⟩,λj c H=> ?_⟩;have l:=q3 j c H;simp only[oD,G] at l⊢;exact l
 |str s=>exact bG.str s|bw v hv=>exact bG.bw v hv|own e L h hn t=>exact bG.own e L (t λb r=>B b (dV.own e L b r)) hn|aR L h=>exact bG.aR L h|mr sh N x w u G=>exact bG.mr sh N x w u G
theorem bG.lt(h:bG Q ty y L)(X:dV ty y L R):R<Q.heap.size:=by
 induction h generalizing R with
 |sl e A t r N q p H o n m M=>
  cases X with
  |here e a l c N=>
   have G:0<Y N:=ae;obtain⟨-,R,g,f,⟨_,_,_,d⟩,-⟩:=H 0 _ (dG G)
   grind
  |deep e v N i j F c z y R B x w u=>exact M i j F c z y B x w u
 |str s=>cases X|bw v hv=>cases X
 |own e L h hn M=>cases X with|own e L R X=>exact M X
 |aR L h=>cases X|mr sh N=>cases X
def bG.grow{G:World}(h:bG Q ty y L)(x:Below Q.heap.size Q G):bG G ty y L:=by
 induction h with
 |sl e A w u X R N M t r ho H=>
  refine bG.sl e A w u X R N (λi q p=> ?_) t r H;obtain⟨o,b,n,rfl,⟨gJ,m,l,F⟩,g⟩:=M i q p;have B:=x.block b (EY F);refine⟨o,b,n,rfl,⟨gJ,m,l,B.trans F⟩,λj c f=> ?_⟩;have z:=g j c f;simp only[oD,B] at z⊢;exact z
 |str s=>exact bG.str s|bw v d=>exact bG.bw v d|own e L h hn H=>exact bG.own e L H hn|aR L h=>exact bG.aR L h|mr sh X R N M h4=>exact bG.mr sh X R N M h4
theorem jE.lt{Q:bo}(X:jE p q V O w ty Q W)(h:aJ w R=J):ad V R<W.heap.size:=by
 unfold aJ at h;obtain⟨⟨t,N⟩,M⟩:=jy.1 h;exact(lF.1 (X.box R t N M)).1
def jE.below{N:bo}(R:jE p q V O w ty N W)(X:Below W.heap.size W Q):jE p q V O w ty N Q:=by
 refine⟨R.base.call X,R.own,R.inj,λi t M h=> ?_,λk e L H G=> ?_⟩;rw[X.block _ (R.lt (by simp[aJ,h]))];exact R.box i t M h;obtain⟨F,B⟩:=R.ak k e L H G;exact⟨F.grow X,B⟩
theorem AW.lt{Q:bo}(h:AW p q V O w ty Q W R X L M):M<W.heap.size:=by
 obtain⟨N,H,db,-,G,-⟩:=h.mem
 grind
def AW.world{Q:bo}{W':World}(h:AW p q V O w ty Q W R X L M)(N:W'.heap[M]?=W.heap[M]?):AW p q V O w ty Q W' R X L M:=by
 obtain⟨H,G,db,F,B,A⟩:=h.mem;exact⟨h.own,⟨H,G,db,F,N.trans B,A⟩,h.box,h.alone,h.inner⟩
def aA.below{Q:World}(R:aA p q D ty V O s a W)(X:Below W.heap.size W Q):aA p q D ty V O s a Q:=
 ⟨R.mem.below X,R.gC,R.ei,R.eb,R.er,R.dl.below X,R.size,R.tmps,λk e N b M L H=>let t:=R.eN k e N b M L H;t.world (X.block b t.lt)⟩
theorem aA.put(R:aA p q D ty V O s a W)(X:cG)(v:C):aA p q D ty V O (s.put X v) (a.put X (v.ai O V)) W:=by
 cases X with
 |none=>exact R
 |some d=>
  refine⟨R.mem,R.gC,R.ei,R.eb,R.er,R.dl,by simp[S.put,Act.put,R.size],λt Q h=> ?_,R.eN⟩;simp only[S.put,Ck,yW] at h;simp only[Act.put];split at h
  grind [R.size]
  rename_i M;rcases R.tmps t Q h with N|N
  grind
  grind
def aA.zw(R:aA p q D ty V O s a W)(X:s.bd=J):C.dP (Y O.i) (Y O.b) (Y O.r) (aJ s.au) s.tmps=J/\C.rQ (Y O.i) (Y O.b) (Y O.r) (aJ s.au) s.au=true:=by
 simp only[S.bd,aC] at X;rw[R.ei,R.eb,R.er];exact X
structure oJ(bx:bm)(O O':aj)(V V':ar):Prop where
 agree:ja O O' (Y O.i) (Y O.b) (Y O.r)
 li:Y O.i<=Y O'.i
 lb:Y O.b<=Y O'.b
 lr:Y O.r<=Y O'.r
 ad:∀k,aJ bx k=J->ad V' k=ad V k
def oJ.refl(X:bm)(O:aj)(V:ar):oJ X O O V V:=⟨ja.refl _ _ _ _,cd _,cd _,cd _,λ_ _=>rfl⟩
def oJ.trans{X R:bm}{O Q N:aj}{V M L:ar}(h:oJ X O Q V M)(k:oJ R Q N M L)(G:∀i,aJ X i=J->aJ R i=J):oJ X O N V L:=
 ⟨h.agree.trans (k.agree.mono h.li h.lb h.lr),mc h.li k.li,mc h.lb k.lb,mc h.lr k.lr,λj H=>(k.ad j (G j H)).trans (h.ad j H)⟩
def axc(O:aj)(x:XV):Y O.i<=(O.add x).i.length/\Y O.b<=(O.add x).b.length/\Y O.r<=(O.add x).r.length:=by cases x<;>simp[aj.add]
def WC:∀(X:aZ)(O:aj),Y O.i<=(O.ext X).i.length/\Y O.b<=(O.ext X).b.length/\Y O.r<=(O.ext X).r.length
 |[],O=>by simp[aj.ext]
 |x::X,O=>by
  have R:=axc O x;have Q:=WC X (O.add x);simp only[aj.ext];omega
def CI(R:bm)(O:aj)(X:aZ)(V:ar):oJ R O (O.ext X) V V:=by
 have h:=WC X O;exact⟨ET X O,h.1,h.2.1,h.2.2,λ_ _=>rfl⟩
theorem oJ.ai{X:aj}{R:ar}(h:oJ w k X x R)(Q:N.bd (Y k.i) (Y k.b) (Y k.r) (aJ w)=J):N.ai X R=N.ai k x:=C.ef h.agree h.ad N Q
theorem oJ.az{X:aj}{R:ar}(h:oJ w k X x R)(Q:C.dP (Y k.i) (Y k.b) (Y k.r) (aJ w) v=J):C.az X R v=C.az k x v:=C.MZ h.agree h.ad v Q
theorem oJ.bL{X:aj}{R:ar}(h:oJ w k X x R)(Q:C.dP (Y k.i) (Y k.b) (Y k.r) (aJ w) v=J):C.bL X R v=C.bL k x v:=RN h.agree h.ad v Q
def eB.ext{O:aj}{N:ar}(h:eB f O)(R:oJ w O k x N):eB f k:=by
 intro X M;obtain⟨Q,L⟩:=h X M;exact⟨QR Q R.lr,by rw[R.agree.r _ Q];exact L⟩
theorem EZ{V:ar}{n x k:Nat}(h:k≠n):ad (V.set n x) k=ad V k:=by simp[ad,Cd (Ne.symm h)]
def E0(h:R<Y x):ad (x.set R M) R=M:=by simp[ad,h]
def uD(h:qZ w R X=J):gr w R=true:=by simp only[qZ,aC] at h;exact h.1
def Nc(h:qZ w R X=J):mQ X=false:=by simp only[qZ,aC,jP] at h;exact h.2
def pn(h:gr w R=J):aJ w R=E/\R<Y w:=by
 grind [aJ,bS,gr]
def amc(h:gr w R=J)(O:aj)(V:ar)(x:Nat):oJ w O O V (V.set R x):=
 ⟨ja.refl _ _ _ _,cd _,cd _,cd _,λk X=>EZ (λe=>by subst e;rw[(pn h).1] at X;cases X)⟩
theorem xJ{x:Option (TypeId×aq)}(h:M≠R):bP (w.set R x) M=bP w M:=by simp[bS,Cd (Ne.symm h)]
theorem E1{x:TypeId×aq}(h:R<Y w):bP (w.set R (U x)) R=U x:=by simp[bS,h]
def qB{x:TypeId×aq}(h:R<Y w):aJ (w.set R (U x)) M=J<->M=R\/aJ w M=true:=by
 grind [aJ,E1,xJ]
def aA.alloc(R:aA p q D ty V O s a W){n:Nat}(v:gr s.au n=J)(t:TypeId)(F:aq)(G:s.eV F=J):
  aA p q D ty (V.set n W.heap.size) O (s.cX n t F) a (W.alloc (j5 t (C.bL O V F))):=by
 simp only[S.eV,aC] at G;obtain⟨z,G⟩:=G;obtain⟨r,o⟩:=R.zw z;rw[<-R.ei,<-R.eb,<-R.er] at G;obtain⟨m,M⟩:=pn v;have y:=amc v O V W.heap.size;have B:Below W.heap.size W (W.alloc (j5 t (C.bL O V F))):=(Below.refl _ _).alloc (cd _) _;have L:n<Y V:=by rw[R.gC];exact M
 have H:∀i,aJ s.au i=J->i≠n:=λi Q e=>by subst e;rw[m] at Q;cases Q
 refine⟨⟨R.mem.base.alloc _, ?_, ?_, ?_, ?_⟩,by simp[S.cX,R.gC],R.ei,R.eb,R.er,R.dl.below B,R.size, ?_,λk e x b X N A=> ?_⟩;intro i Q;rcases(qB M).1 Q with rfl|h;rw[E0 L];exact .inl R.mem.base.size;rw[EZ (H i h)];exact R.mem.own i h;intro i j Q u h;rcases(qB M).1 Q with rfl|X;rcases(qB M).1 u with rfl|N;rfl;rw[E0 L,EZ (H j N)] at h;have:=R.mem.lt N;omega;rcases(qB M).1 u with rfl|N;rw[E0 L,EZ (H i X)] at h;have:=R.mem.lt X;omega;rw[EZ (H i X),EZ (H j N)] at h;exact R.mem.inj i j X N h;intro i w l h;by_cases X:i=n;subst X;rw[S.cX,E1 M] at h;simp at h;obtain⟨rfl,rfl⟩:=h;rw[E0 L,y.bL G];exact Vz W _;rw[S.cX,xJ X] at h;rw[EZ X,B.block _ (R.mem.lt (by simp[aJ,h])),y.bL (ta o h)];exact R.mem.box i w l h;intro k e x X N;obtain⟨A,h4⟩:=R.mem.ak k e x X N;refine⟨A.grow B,λb z i Q=> ?_⟩;rcases(qB M).1 Q with rfl|h;rw[E0 L];have:=A.lt z;omega
 grind [EZ]
 intro w g h;rcases R.tmps w g h with X|X
 grind
 right;rw[y.ai (xG r h)];exact X;have t:=R.eN k e x b X N A;obtain⟨f,d,db,c,q2,q3⟩:=t.mem;refine⟨t.own,⟨f,d,db,c,(B.block b t.lt).trans q2,q3⟩,λi Q=> ?_,t.alone,t.inner⟩;rcases(qB M).1 Q with rfl|h;rw[E0 L];have:=t.lt;omega;rw[EZ (H i h)];exact t.box i h
def AY(l:fy)(X:Nat):fy->fy
 |[]=>l|v::r=>AY (l.set X v) (X+1) r
def ady:∀(R l:fy)(X:Nat),(AY l X R).length=Y l
 |[],l,X=>rfl|v::R,l,X=>by rw[AY,ady];simp
theorem amd:∀(X l:aq)(R:Nat),C.az O V (mg l R X)=AY (C.az O V l) R (C.az O V X)
 |[],l,R=>rfl
 |v::X,l,R=>by
  rw[mg,amd X,C.az,AY];congr 1;simp[oG]
def ame{v:Value}(h:jm v=J):v.oneCell'=true:=by cases v<;>simp_all[jm,Value.oneCell']
def adz(b X:Nat)(t:TypeId):∀(Q:fy)(i:Nat)(db:mO)(W:World),W.heap[b]?=U (.cells db t (0,0))->X+i+Y Q<=db.size->(∀v∈Q,jm v=J)->
  ∃R,(storeCells ⟨b,X,Z⟩ Q i).run P W=.ok () R/\R.heap[b]?=U (.cells (AY db.toList (X+i) Q).toArray t (0,0))/\(∀k,k≠b->R.heap[k]?=W.heap[k]?)/\R.heap.size=W.heap.size/\R.os=W.os/\R.tape=W.tape/\R.output=W.output
 |[],i,db,W,N,_,_=>⟨W,rfl,by simpa[AY] using N,λ_ _=>rfl,rfl,rfl,rfl,rfl⟩
 |v::Q,i,db,W,N,H,M=>by
  simp at H;have n:X+i<db.size:=ae;have G:W.cell? ⟨b,X+i,Z⟩=U db[X+i]:=by simp[oD,N]
  have F:W.frozen? ⟨b,X+i,Z⟩=false:=by simp[VK,N]
  have B:(store ((⟨b,X,Z⟩:Addr).add i) v).run P W=.ok () (W.setCell ⟨b,X+i,Z⟩ v):=by
   rw[xH,run_store P W _ v _ (ame (M v aw)),G];simp[F]
  have A:(W.setCell ⟨b,X+i,Z⟩ v).heap[b]?=U (.cells (db.setIfInBounds (X+i) v) t (0,0)):=by
   simp[acm,QP,N]
  obtain⟨R,z,y,w,u,r,q,p⟩:=adz b X t Q (i+1) (db.setIfInBounds (X+i) v) (W.setCell ⟨b,X+i,Z⟩ v) A bY (λx o=>M x (by simp[o]));refine⟨R,by simp only[storeCells,dv,B,du,z], ?_,λk L=>(w k L).trans (Below.heap_setCell _ _ _ _ L),u.trans aw,r,q,p⟩;rw[y,AY]
  grind
def amf(R:aA p q D ty V O s a W):∀{l:aq},GN l=J->∀v∈C.az O V l,jm v=J
 |[],_,v,X=>by simp[C.az] at X
 |x::N,h,v,X=>by
  simp only[VN,aC] at h;simp only[C.az,fh] at X;rcases X with rfl|X;have Q:=h.1;cases x<;>simp[C.single] at Q<;>try rfl
  rename_i r;exact xI R r (by cases r<;>simp_all[RE.JE]);simp only[C.ai];exact Wp _ _;simp only[C.ai];exact adh _ _ _;exact amf R h.2 v X
def aA.store(Q:aA p q D ty V O s a W){H:TypeId}(n:eX P X t){off:Nat}{G:aq}{v:C}(M:bP s.au R=U (H,G))(fm:mQ H=E)(m:Y v.cells=Y t.am)(ho:off+Y v.cells<=Y G)(l:GN v.cells=J)(u:(v.ai O V).cells.toList=C.az O V v.cells):
  ∃F,(Instr.storeAt X (.pointer (U ⟨ad V R,off,Z⟩)) (v.ai O V)).run P W=.ok () F/\aA p q D ty V O (s.cX R H (mg G off v.cells)) a F:=by
 have y:=Q.mem.box R H G M;rw[qA fm] at y;obtain⟨F,g,h2,B,f,d,c,h7⟩:=adz (P:=P) (ad V R) off H (C.az O V v.cells) 0 _ W y bY (amf Q l);have aa:(v.ai O V).cells.size=Y t.am:=by rw[<-GF,u];simp[m]
 have hi:R<Y s.au:=(dq.1 (ky.1 M)).1;have A:aJ s.au R=true:=by simp[aJ,M]
 have z:∀j,aJ (s.au.set R (U (H,mg G off v.cells))) j=J->aJ s.au j=true:=λj N=>by
  rcases(qB hi).1 N with rfl|h;exact A;exact h
 refine⟨F, ?_,⟨⟨?_,λj N=>Q.mem.own j (z j N),λj k N x=>Q.mem.inj j k (z j N) (z k x), ?_, ?_⟩,by simpa[S.cX] using Q.gC,Q.ei,Q.eb,Q.er,Q.dl.cells y (λb M _=>B b M),Q.size,Q.tmps,λk e w b q1 q2 q3=> ?_⟩⟩;simp only[Instr.storeAt,Instr.sureAddr,storeVar,dv,fu,du,n.nL,aa,u,ne_eq,not_true_eq_false,ku,g];refine⟨d.trans Q.mem.base.os,c.trans Q.mem.base.tape,h7.trans Q.mem.base.output,by rw[f];exact Q.mem.base.size,λk x hn=> ?_⟩;have ab:k≠ad V R:=by
  rintro rfl;rcases Q.mem.own R A with h|h;omega
  grind
 rw[B k ab];exact Q.mem.base.block k x hn;intro j L ac N;by_cases r:j=R
 grind [S.cX,E1,Jx,JA,qA,amd]
 rw[S.cX,xJ r] at N;rw[B _ (λh=>r (Q.mem.inj j R (by simp[aJ,N]) A h))];exact Q.mem.box j L ac N;intro k e w af ag;obtain⟨al,o⟩:=Q.mem.ak k e w af ag;exact⟨al.Kb (λb M=>B b (λh=>o b M R A h.symm)) ae,λb M j N=>o b M j (z j N)⟩;have X:=Q.eN k e w b q1 q2 q3;have L:=X.world (W':=F) (B b (λh=>X.box R A h.symm));exact⟨L.own,L.mem,λj N=>L.box j (z j N),L.alone,L.inner⟩
end
def Nd(X:ar):∀(l:bo)(n i:Nat),(jB X n l)[i]?=(l[i]?).map λx=>if X.contains (n+i) then .aR else x
 |[],n,i=>by simp[jB]|x::R,n,0=>by simp[jB]
 |x::R,n,i+1=>by
  simp only[jB,vC];rw[Nd X R (n+1) i,show n+1+i=n+(i+1) from ae]
def Nf(X:ar):∀(l:bo)(n i:Nat),(kV X n l)[i]?=(l[i]?).map (AN (X.contains (n+i)))
 |[],n,i=>by simp[kV]|x::R,n,0=>by simp[kV]
 |x::R,n,i+1=>by
  simp only[kV,vC];rw[Nf X R (n+1) i,show n+1+i=n+(i+1) from ae]
def adA(X:ar):∀(l:bo)(n i:Nat),(EC X n l)[i]?=(l[i]?).map (Rf (X.contains (n+i)))
 |[],n,i=>by simp[EC]|x::R,n,0=>by simp[EC]
 |x::R,n,i+1=>by
  simp only[EC,vC];rw[adA X R (n+1) i,show n+1+i=n+(i+1) from ae]
def CJ(X:ar):∀(l:bo)(n:Nat),(jB X n l).length=Y l
 |[],n=>rfl|x::R,n=>by simp[jB,CJ X R (n+1)]
def CL(X:ar):∀(l:bo)(n:Nat),(kV X n l).length=Y l
 |[],n=>rfl|x::R,n=>by simp[kV,CL X R (n+1)]
def amg(X:ar):∀(l:bo)(n:Nat),(EC X n l).length=Y l
 |[],n=>rfl|x::R,n=>by simp[EC,amg X R (n+1)]
def rY(e X:RK):Prop:=X=e\/X=.aR\/∃t,e=.own t/\X=.sl t
structure ri(rs rs':bo):Prop where
 len:Y rs'=Y rs
 get:∀(k:Nat)(e':RK),rs'[k]?=U e'->∃e,rs[k]?=U e/\rY e e'
def ri.refl(X:bo):ri X X:=⟨rfl,λk e h=>⟨e,h,.inl rfl⟩⟩
def rY.trans{b c:RK}(h:rY y b)(k:rY b c):rY y c:=by
 rcases k with rfl|rfl|⟨t,rfl,rfl⟩;exact h;exact .inr (.inl rfl);rcases h with h|h|⟨R,Q,X⟩;exact .inr (.inr ⟨t,h.symm,rfl⟩);cases h;cases X
def ri.trans{a b c:bo}(h:ri a b)(k:ri b c):ri a c:=
 ⟨k.len.trans h.len,λi e X=>let⟨R,Q,N⟩:=k.get i e X;let⟨M,L,H⟩:=h.get i R Q;⟨M,L,H.trans N⟩⟩
def axd(b:Bool)(e:RK):rY e (AN b e):=by
 cases e<;>simp only[AN]
 case own t=>cases b;exact .inl rfl;exact .inr (.inr ⟨t,rfl,rfl⟩)
 all_goals exact .inl rfl
def amh(b:Bool)(e:RK):rY e (Rf b e):=by
 cases e<;>simp only[Rf]
 case own t=>cases b;exact .inr (.inl rfl);exact .inr (.inr ⟨t,rfl,rfl⟩)
 all_goals exact .inl rfl
def RU(Q:ar)(X:bo):ri X (kV Q 0 X):=by
 refine⟨CL _ _ _,λk N h=> ?_⟩;rw[Nf] at h;cases R:X[k]? with|none=>rw[R] at h;cases h|some e=>rw[R] at h;simp only[ga,dW] at h;exact⟨e,rfl,h▸axd _ e⟩
def adB(Q:ar)(X:bo):ri X (EC Q 0 X):=by
 refine⟨amg _ _ _,λk N h=> ?_⟩;rw[adA] at h;cases R:X[k]? with|none=>rw[R] at h;cases h|some e=>rw[R] at h;simp only[ga,dW] at h;exact⟨e,rfl,h▸amh _ e⟩
def bG.lJ{X:RK}(h:bG Q l y L)(w:rY y X):bG Q l X L:=by
 rcases w with rfl|rfl|⟨t,rfl,rfl⟩;exact h;exact bG.aR L (M6 h);exact alT h
def dV.lJ{X:RK}(w:rY y X)(h:dV l X L R):dV l y L R:=by
 rcases w with rfl|rfl|⟨t,rfl,rfl⟩;exact h;cases h;exact dV.own _ _ _ h
def AV.lJ{d:Ty}{e R:RK}{Q:RV}{b:Nat}(w:rY e R)(h:AV d R Q b):AV d e Q b:=by
 rcases h with h|⟨⟨t,rfl⟩,h⟩;exact .inl (h.lJ w);rcases w with rfl|X|⟨N,_,X⟩;exact .inr ⟨⟨t,rfl⟩,h⟩;cases X;cases X
def rY.own(w:rY y (.own X)):y=.own X:=by
 rcases w with h|h|⟨R,_,h⟩
 grind
 cases h;cases h
section
variable{p:ar}{q:World}{D:bT}{P:Program}{d:Ty}{B:nZ}{V:ar}{O:aj}{s:S}{a:Act}{W:World}
def jE.lJ{X:bm}{Q N:bo}(R:jE p q V O X d Q W)(h:ri Q N):jE p q V O X d N W:=
 ⟨R.base,R.own,R.inj,R.box,λk e M B L=>let⟨H,G,F⟩:=h.get k e B;⟨(R.ak k H M G L).1.lJ F,λb A i z=>(R.ak k H M G L).2 b (A.lJ F) i z⟩⟩
def aA.lJ(R:aA p q D d V O s a W){X:bo}(h:ri s.rs X):aA p q D d V O {s with rs:=X} a W:=by
 refine⟨R.mem.lJ h,R.gC,R.ei,R.eb,R.er.trans h.len.symm,R.dl,R.size,R.tmps,λk e N b M L H=> ?_⟩;obtain⟨o,G,F⟩:=h.get k _ M;have:=F.own;subst this;have t:=R.eN k e N b G L H;exact⟨t.own,t.mem,t.box,λQ B A z y x w=>let⟨v,u,r⟩:=h.get Q B y;t.alone Q v A z u x (w.lJ r),t.inner⟩
def aA.eE(N:aA p q D d V O s a W)(g:s.rs[R]?=U (.own X))(hr:O.r[R]?=U L)(B:W.grownBy Q L.lq):
  aA p q D d V O {s with rs:=jB [R] 0 s.rs} a Q:=by
 have m:∀M G,(jB [R] 0 s.rs)[M]?=U G->(M=R/\G=.aR)\/(M≠R/\s.rs[M]?=U G):=by
  intro M G h;rw[Nd] at h;cases f:s.rs[M]? with
  |none=>rw[f] at h;cases h
  |some x=>
   rw[f] at h;simp only[jk,ga,dW] at h;by_cases F:M=R;subst F;left;simp at h;exact⟨rfl,h.symm⟩;right;simp[F] at h;exact⟨F,by rw[h]⟩
 have y:∀b,L.lq=U b->AW p q V O s.au d s.rs W R X L b:=λb H=>N.eN R X L b g hr H
 have ab:fk p q Q:=N.mem.base.grown B (λb H=>((y b H).own).symm.imp_left alC);refine⟨⟨ab,N.mem.own,N.mem.inj,λi t cs h=> ?_,λM G A l z=> ?_⟩,N.gC,N.ei,N.eb,by simp[CJ];exact N.er, ?_,N.size,N.tmps,λM G A b l z w=> ?_⟩;rw[B.block _ (N.mem.lt (by simp[aJ,h])) (λH=>(y _ H.symm).box i (by simp[aJ,h]) rfl)];exact N.mem.box i t cs h;rcases m M G l with⟨rfl,rfl⟩|⟨v,u⟩;refine⟨bG.aR _ ?_,λb H=>by cases H⟩;exact M6 (N.mem.ak M _ A g z).1;obtain⟨w,h4⟩:=N.mem.ak M G A u z;exact⟨w.Kb (λb H=>B.block b (w.lt H) (λF=>(y b F.symm).alone M G A v u z (.inl H))) B.size,h4⟩;cases H:L.lq with
 |none=>exact N.dl.world λb o h _=>(B.block b (EY h) (by rw[H];simp)).trans h
 |some b0=>
  obtain⟨c,aa,db,q1,j,q3⟩:=(y b0 H).mem;exact N.dl.cells j (λb v ac=>B.block b ac (λX=>v (by rw[H] at X;cases X;rfl)))
 rcases m M _ l with⟨-,F⟩|⟨v,u⟩;cases F;have t:=N.eN M G A b u z w;have hw:Q.heap[b]?=W.heap[b]?:=B.block b t.lt (λF=>(y b F.symm).alone M _ A v u z (.inr ⟨⟨G,rfl⟩,w⟩));obtain⟨c,aa,db,q1,j,q3⟩:=t.mem;refine⟨t.own,⟨c,aa,db,q1,hw.trans j,q3⟩,t.box,λk2 e2 af g1 g2 g3 n=> ?_,t.inner⟩;rcases m k2 e2 g2 with⟨rfl,rfl⟩|⟨_,ag⟩;rcases n with n|⟨⟨t',al⟩,_⟩;cases n;cases al;exact t.alone k2 e2 af g1 ag g3 n
def aA.grown(R:aA p q D d V O s a W)(X:W.grownBy Q Z):aA p q D d V O s a Q:=
 R.below ⟨X.os,X.tape,X.output,X.size,λk N=>X.block k N aw⟩
def tc(X:bm)(O:aj)(x:XV)(V:ar):oJ X O (O.add x) V V:=by
 have h:=CI X O [x] V;exact h
def Kc{v:RV}(h:(O.add (.r L)).r[R]?=U v):(R<Y O.r/\O.r[R]?=U v)\/(R=Y O.r/\v=L):=by
 grind [aj.add]
structure axe(p:ar)(q:World)(V:ar)(O:aj)(bx:bm)(d:Ty)(rs:bo)(W:World)(e:TypeId)(rv:RV)(b:Nat):Prop where
 own:q.heap.size<=b\/b∈rf q.heap.size p
 mem:∃len cap db,rv.val=.slice (U ⟨b,0,Z⟩) len cap/\W.heap[b]?=U (.cells db e (0,0))/\len<=cap/\cap<=maxLen/\db.size=cap*(bI d (.sl e)).length
 box:∀i,aJ bx i=J->ad V i≠b
 alone:∀(k':Nat)(e':RK)(rv':RV),rs[k']?=U e'->O.r[k']?=U rv'->¬AV d e' rv' b
 inner:¬oH d e rv.ah b
theorem aA.add(R:aA p q D d V O s a W)(w:s.bd=J){N:RK}{rv:RV}(c:bG W d N rv)(hx:∀b,dV d N rv b->∀i,aJ s.au i=J->ad V i≠b)
  (ho:∀(k:Nat)(e:TypeId)(H:RV)(b:Nat),s.rs[k]?=U (.own e)->O.r[k]?=U H->H.lq=U b->¬AV d N rv b)
  (u:∀e b,N=.own e->rv.lq=U b->axe p q V O s.au d s.rs W e rv b):aA p q D d V (O.add (.r rv)) {s with rs:=s.rs++[N]} a W:=by
 obtain⟨o,n⟩:=R.zw w;have A:=tc s.au O (.r rv) V;have bZ:∀{k:Nat}{e:RK},(s.rs++[N])[k]?=U e->(k<Y O.r/\s.rs[k]?=U e)\/(k=Y O.r/\e=N):=by
  grind [R.er]
 refine⟨⟨R.mem.base,R.mem.own,R.mem.inj,λi t m h=> ?_,λk e v X M=> ?_⟩,R.gC,R.ei,R.eb,by simp[aj.add,R.er],R.dl,R.size,λt l h=> ?_,λk e v b X M z=> ?_⟩;rw[A.bL (ta n h)];exact R.mem.box i t m h;rcases bZ X with⟨G,X⟩|⟨rfl,rfl⟩;rcases Kc M with⟨_,M⟩|⟨rfl,rfl⟩;exact R.mem.ak k e v X M;omega;rcases Kc M with⟨G,_⟩|⟨_,rfl⟩;omega
 grind
 rcases R.tmps t l h with X|X
 grind
 right;rw[A.ai (xG o h)];exact X;rcases bZ X with⟨G,j⟩|⟨rfl,g⟩;rcases Kc M with⟨_,f⟩|⟨rfl,rfl⟩;have t:=R.eN k e v b j f z;refine⟨t.own,t.mem,t.box,λF B H y L Q=> ?_,t.inner⟩;rcases bZ L with⟨x,L⟩|⟨x,aa⟩;rcases Kc Q with⟨_,Q⟩|⟨rfl,rfl⟩;exact t.alone F B H y L Q;omega;rcases Kc Q with⟨ab,_⟩|⟨_,ac⟩;omega
 grind
 omega;rcases Kc M with⟨G,_⟩|⟨_,rfl⟩;omega;have t:=u e b g.symm z;refine⟨t.own,t.mem,t.box,λF B H y L Q=> ?_,t.inner⟩;rcases bZ L with⟨x,L⟩|⟨rfl,_⟩;rcases Kc Q with⟨_,Q⟩|⟨rfl,rfl⟩;exact t.alone F B H L Q;omega;omega
end
variable{i:av}
structure fU(W:World)(o:Ty)(e:TypeId)(rows:av):Prop where
 len:∀(i:Nat)(row:aE),rows[i]?=U row->Y row=(bI o (.sl e)).length
 int:∀(i j:Nat)(row:aE)(c:RV)(k:IntKind),rows[i]?=U row->row[j]?=U c->(bI o (.sl e))[j]?=U (.int k)->∃n,c.val=.int k n
 bool:∀(i j:Nat)(row:aE)(c:RV),rows[i]?=U row->row[j]?=U c->(bI o (.sl e))[j]?=U .bool->∃x,c.val=.bool x
 bw:∀(i j:Nat)(row:aE)(c:RV)(z:Value)(k:RK),rows[i]?=U row->row[j]?=U c->(bI o (.sl e))[j]?=U (.bw z k)->bG W o k c
def eF(rows:av):fy:=rows.flatMap λX=>X.map RV.val
theorem CM{w:Nat}:∀{rows:av},(∀(i:Nat)(X:aE),rows[i]?=U X->Y X=w)->(eF rows).length=Y rows*w
 |[],_=>by simp[eF]
 |r::R,h=>by
  have N:=h 0 r rfl;have M:=CM (rows:=R) (λi X Q=>h (i+1) X (by simpa using Q))
  grind [eF,f9,oW,oV,sM]
def RW{w:Nat}:∀{rows:av},(∀(i:Nat)(row:aE),rows[i]?=U row->Y row=w)->∀{i j:Nat}{row:aE}{c:RV},rows[i]?=U row->row[j]?=U c->(eF rows)[i*w+j]?=U c.val
 |[],_,i,j,row,c,h,_=>by simp at h
 |r::Q,h,0,j,row,c,X,R=>by
  simp at X;subst X;have M:j<Y r:=(dq.1 R).1;simp only[eF,av2,Nat.zero_mul,jk]
  grind
 |r::Q,h,i+1,j,row,c,X,R=>by
  have L:=h 0 r rfl;have H:=RW (rows:=Q) (λi row N=>h (i+1) row (by simpa using N)) (i:=i) (by simpa using X) R
  grind [eF,sM]
def Ng{w:Nat}:∀{rows:av},(∀(i:Nat)(X:aE),rows[i]?=U X->Y X=w)->∀{q:Nat}{u:Value},(eF rows)[q]?=U u->∃i j X c,rows[i]?=U X/\X[j]?=U c/\q=i*w+j/\u=c.val
 |[],_,q,u,h=>by simp[eF] at h
 |r::N,h,q,u,R=>by
  have B:=h 0 r rfl;simp only[eF,av2] at R;by_cases M:q<Y r;rw[f8 (by simpa using M),et] at R;cases Q:r[q]? with|none=>rw[Q] at R;cases R|some c=>rw[Q] at R;simp at R;exact⟨0,q,r,c,rfl,Q,aw,R.symm⟩
  rw[ji bY] at R;obtain⟨i,j,X,c,L,H,A,G⟩:=Ng (rows:=N) (λi X F=>h (i+1) X (by simpa using F)) R;refine⟨i+1,j,X,c,by simpa using L,H, ?_,G⟩
  grind
def adC(a b:av):eF (a++b)=eF a++eF b:=by simp[eF]
section
variable{W W':World}{o:Ty}{e:TypeId}{rows aF:av}
def fU.zx{v:Value}(h:bG W o (.sl e) (.mk v rows)):fU W o e rows:=by
 cases h with|sl e A H G rows F B X R Q N=>exact⟨λi M L=>(X i M L).1,R,Q,N⟩
def uE{A:oY}(h:bG W o (.sl e) (.mk (.slice A R M) rows)):Y rows=R/\R<=M:=by
 cases h with|sl e A R M rows X Q N L H G=>exact⟨X,Q⟩
def RX{A:oY}(h:bG W o (.sl e) (.mk (.slice A R M) rows)):∀(q:Nat)(u:Value),(eF rows)[q]?=U u->∃b X,A=U ⟨b,X,Z⟩/\(∃Q t N,W.heap[b]?=U (.cells Q t N))/\W.cell? ⟨b,X+q,Z⟩=U u:=by
 intro q u L;have H:=fU.zx h;obtain⟨i,j,G,c,F,B,rfl,rfl⟩:=Ng H.len L;cases h with
 |sl e A R M rows z y x w v r=>
  grind
def adD(h:fU W o e rows){b X R:Nat}(N:∃M t L,W.heap[b]?=U (.cells M t L))(H:∀(q:Nat)(u:Value),(eF rows)[q]?=U u->W.cell? ⟨b,X+q,Z⟩=U u)(G:Y rows<=R):bG W o (.sl e) (.mk (.slice (U ⟨b,X,Z⟩) (Y rows) R) rows):=
 bG.sl e _ _ _ _ rfl G (λi F Q=>⟨h.len i F Q,b,X,rfl,N,λj c B=>by
  have:=H _ _ (RW h.len Q B)
  rwa [<-QY] at this⟩) h.int h.bool h.bw
def E2(A:oY)(Q:Nat):bG W o (.sl e) (.mk (.slice A 0 Q) []):=
 bG.sl e _ _ _ _ rfl (rN _) (λi R X=>by simp at X) (λi j R c k X=>by simp at X) (λi j R c X=>by simp at X) (λi j R c z k X=>by simp at X)
def fU.single(h:fU W o e rows):∀u∈eF rows,jm u=true:=by
 intro u L;obtain⟨q,H⟩:=sK L;obtain⟨i,j,X,c,R,Q,rfl,rfl⟩:=Ng h.len H;have F:j<(bI o (.sl e)).length:=by rw[<-h.len i X R];exact(dq.1 Q).1
 cases N:(bI o (.sl e))[j]? with
 |none=>rw[El] at N;omega
 |some G=>
  cases G with
  |int k=>obtain⟨n,M⟩:=h.int i j X c k R Q N;rw[M];rfl
  |bool=>obtain⟨n,M⟩:=h.bool i j X c R Q N;rw[M];rfl
  |bw z k=>exact M6 (h.bw i j X c z k R Q N)
def fU.world(h:fU W o e rows)(M:∀b,oH o e rows b->W'.heap[b]?=W.heap[b]?)(L:W.heap.size<=W'.heap.size):fU W' o e rows:=
 ⟨h.len,h.int,h.bool,λi j X c z k R Q N=>(h.bw i j X c z k R Q N).Kb (λb H=>M b ⟨i,j,X,c,z,k,R,Q,N,H⟩) L⟩
theorem fU.lt(h:fU W o e rows){b:Nat}(X:oH o e rows b):b<W.heap.size:=by
 obtain⟨i,j,R,c,z,k,Q,N,M,L⟩:=X;exact(h.bw i j R c z k Q N M).lt L
def fU.nil:fU W o e []:=⟨λi X h=>by simp at h,λi j X c k h=>by simp at h,λi j X c h=>by simp at h,λi j X c z k h=>by simp at h⟩
def RY{b:av}{X:aE}(h:(i++b)[R]?=U X):i[R]?=U X\/b[R-Y i]?=U X:=by
 grind
def fU.iB(h:fU W o e rows)(R:fU W o e aF):fU W o e (rows++aF):=
 ⟨λi Q X=>(RY X).elim (h.len _ _) (R.len _ _),λi j Q c k X=>(RY X).elim (h.int _ _ _ _ _) (R.int _ _ _ _ _),
  λi j Q c X=>(RY X).elim (h.bool _ _ _ _) (R.bool _ _ _ _),λi j Q c z k X=>(RY X).elim (h.bw _ _ _ _ _ _) (R.bw _ _ _ _ _ _)⟩
def axf(h:oH o e (rows++aF) R):oH o e rows R\/oH o e aF R:=by
 obtain⟨i,j,Q,c,z,k,X,N,M,L⟩:=h;exact(RY X).imp (λX=>⟨_,j,Q,c,z,k,X,N,M,L⟩) (λX=>⟨_,j,Q,c,z,k,X,N,M,L⟩)
def RZ(h:oH o e [] R):False:=by
 obtain⟨i,j,Q,c,z,k,X,-⟩:=h;simp at X
def R6{v:Value}(h:oH o e rows R):dV o (.sl e) (.mk v rows) R:=by
 obtain⟨i,j,X,c,z,k,Q,N,M,L⟩:=h;exact dV.deep e v rows i j X c z k R Q N M L
def ami{v:Value}(h:dV o (.sl e) (.mk v rows) R):(∃a X Q,v=.slice (U a) (X+1) Q/\R=a.block)\/oH o e rows R:=by
 cases h with|here e a X Q rows=>exact .inl ⟨a,X,Q,rfl,rfl⟩|deep e v rows i j N c z k R M L H G=>exact .inr ⟨i,j,N,c,z,k,M,L,H,G⟩
end
def axg(h:dV l y (cH y L) R):dV l y L R:=by
 cases y with
 |sl e=>
  simp only[cH] at h;split at h;exact h;cases h with|deep e L rows i j Q c z y R X=>simp at X
 |str=>cases h|bw=>cases h
 |own e=>
  simp only[cH] at h;split at h;exact h;cases h with
  |own e M R N=>cases N with|deep e L rows i j Q c z y R X=>simp at X
 |aR=>cases h|mr H=>cases h
def amj(h:dV l y default R):False:=by
 cases h with
 |deep e v rows i j Q c z y R X=>simp at X
 |own e M R N=>cases N with|deep e v rows i j Q c z y R X=>simp at X
def WD(h:dV l y.rd L R):dV l y L R:=by
 cases y with|own t=>exact dV.own _ _ _ h|_=>exact h
def axh{Q:Int}{j:Nat}(M:JH (bI l (.sl X))[j]?=y)(L:y≠ .bw)(h:dV l y (cH y (aN i Q j)) R):oH l X i R:=by
 have N:=axg h;simp only[aN,dM] at N;cases H:i[Q.toNat]? with
 |none=>rw[H] at N;exact(amj (by simpa using N)).elim
 |some B=>
  rw[H] at N;simp at N;cases G:B[j]? with
  |none=>rw[G] at N;exact(amj (by simpa using N)).elim
  |some c=>
   rw[G] at N;cases F:(bI l (.sl X))[j]? with
   |none=>rw[F] at M;exact bF M.symm L
   |some A=>
    rw[F] at M;subst M;cases A with|bw z x=>exact⟨_,j,B,c,z,x,H,G,F,by simpa[JH] using N⟩|int _=>exact bF rfl L|bool=>exact bF rfl L
def WE{o:Ty}{O:aj}{s:S}{b:Nat}:∀{r:RE}{e:RK},e≠ .bw->r.kind o s=e->dV o e (r.rv O) b->
  ∃X R,r.root=U X/\s.rs[X]?=U R/\((r=.v X/\R.rd=e)\/∃t,R.rd=.sl t/\oH o t (O.rv X).ah b)
 |.v k,e,Q,h,N=>by
  simp only[RE.kind,dM] at h;cases M:s.rs[k]? with|none=>rw[M] at h;exact bF (show e=.bw from h.symm) Q|some q=>rw[M] at h;simp at h;exact⟨k,q,rfl,M,.inl ⟨rfl,h⟩⟩
 |.cell r i j y,e,Q,h,N=>by
  simp only[RE.kind] at h;split at h;rename_i H G;split at h;rename_i F;subst h;simp only[RE.rv] at N;have L:=axh F Q N;have B:dV o (.sl H) (r.rv O) b:=by
   revert L;generalize r.rv O=v;intro L;obtain⟨v,rows⟩:=v;exact R6 L
  obtain⟨X,R,A,z,x⟩:=WE (r:=r) (e:=.sl H) aw G B;refine⟨X,R,A,z,.inr ?_⟩
  grind [RE.rv]
  grind
  grind
 |.k v,e,Q,h,N=>by
  cases v<;>simp only[RE.kind] at h
  case string s=>subst h;cases N
  all_goals exact bF h.symm Q
section
variable{p:ar}{d:World}{D:bT}{P:Program}{o:Ty}{B:nZ}{V:ar}{O:aj}{s:S}{a:Act}{W:World}
def uF(X:aA p d D o V O s a W)(h:s.rs[R]?=U y):O.r[R]?=U (O.rv R):=by
 grind [X.er,aj.rv]
def He(v:RV):RV.mk v.val v.ah=v:=by cases v;rfl
def Nh{e0:RK}(h:e0.rd=.sl X)(Q:oH o X (O.rv R).ah M):dV o e0 (O.rv R) M:=by
 apply WD;rw[h,<-He (O.rv R)];exact R6 Q
def Ni(Q:aA p d D o V O s a W)(H:s.rs[R]?=U (.own X))(F:O.r[R]?=U L)(x:L.lq=U M){t:TypeId}(N:s.rs[h]?=U y)(G:y.rd=.sl t)(B:oH o t (O.rv h).ah M):False:=by
 have A:=Q.eN R X L M H F x;by_cases z:h=R;subst z;rw[H] at N;cases N;simp only[RK.rd,RK.sl.injEq] at G;subst G;have:=uF Q H;rw[F] at this;cases this;exact A.inner B;exact A.alone h y (O.rv h) z N (uF Q N) (.inl (Nh G B))
def R7(Q:aA p d D o V O s a W)(F:s.rs[R]?=U (.own X))(B:O.r[R]?=U L)(A:L.lq=U M){r:RE}(w:y≠ .bw)(h:r.kind o s=y)(z:dV o y (r.rv O) M):r=.v R:=by
 obtain⟨H,u,m,G,N⟩:=WE w h z;rcases N with⟨rfl,N⟩|⟨t,N,q⟩;by_cases x:H=R;rw[x];have n:=Q.eN R X L M F B A;exact bF (.inl (WD (by rw[N];exact z))) (n.alone H u (O.rv H) x G (uF Q G));exact(Ni Q F B A G N q).elim
def Kd(X:aA p d D o V O s a W){r:RE}(F:y≠ .bw)(h:r.kind o s=y)(H:dV o y (r.rv O) R):O.ph o s.rs R/\∀i,aJ s.au i=J->ad V i≠R:=by
 obtain⟨N,M,A,L,Q⟩:=WE F h H;have G:dV o M (O.rv N) R:=by
  rcases Q with⟨rfl,Q⟩|⟨t,Q,B⟩;exact WD (by rw[Q];exact H);exact Nh Q B
 exact⟨⟨N,M,L,G⟩,(X.mem.ak N M _ L (uF X L)).2 R G⟩
def amk(R:aA p d D o V O s a W){k:RK}{r:RE}(h:r.fits o s k=J):bG W o k (r.rv O):=by
 unfold RE.fits at h;split at h;rename_i e;simp at h;rcases h with h|h;exact rh R aw h;unfold RE.isNil at h;split at h;exact E2 Z 0;cases h;simp at h;exact rh R aw h;cases h
def adF{r:RE}(h:r.fits o s y=J)(X:dV o y (r.rv O) R):r.kind o s=y/\y≠ .bw:=by
 unfold RE.fits at h;split at h;rename_i e;simp at h;rcases h with h|h
 grind
 unfold RE.isNil at h;split at h;simp only[RE.rv] at X;cases X with|deep e v rows i j N c z y R Q=>simp at Q
 cases h
 grind
 cases h
def Ke:∀{am:eL}{R:aq},nJ o s am R=J->Y R=Y am/\∀(j:Nat)(X:CT)(v:C),am[j]?=U X->R[j]?=U v->uv o s X v=J
 |[],[],_=>⟨rfl,λj X v h=>by simp at h⟩|[],_::_,h=>by simp[nJ] at h|_::_,[],h=>by simp[nJ] at h
 |c::G,v::F,h=>by
  simp only[nJ,aC] at h;obtain⟨M,L⟩:=Ke h.2;refine⟨by simp[M],λj X H Q N=> ?_⟩;cases j with|zero=>simp at Q N;subst Q N;exact h.1|succ j=>exact L j X H (by simpa using Q) (by simpa using N)
def aml{X:CT}(h:uv o s X N=J):N.ai O V=(N.cj O).val:=by
 unfold uv at h;split at h<;>first|rfl|cases h
structure WF(W:World)(o:Ty)(am:eL)(row:aE):Prop where
 len:Y row=Y am
 int:∀(j:Nat)(c:RV)(k:IntKind),row[j]?=U c->am[j]?=U (.int k)->∃n,c.val=.int k n
 bool:∀(j:Nat)(c:RV),row[j]?=U c->am[j]?=U .bool->∃x,c.val=.bool x
 bw:∀(j:Nat)(c:RV)(z:Value)(k:RK),row[j]?=U c->am[j]?=U (.bw z k)->bG W o k c
def fU.of(h:∀(R:Nat)(Q:aE),i[R]?=U Q->WF W o (bI o (.sl X)) Q):fU W o X i:=
 ⟨λR Q N=>(h R Q N).len,λR j Q c k N=>(h R Q N).int j c k,λR j Q c N=>(h R Q N).bool j c,λR j Q c z k N=>(h R Q N).bw j c z k⟩
def fU.get(h:fU W o X i){Q:aE}(N:i[R]?=U Q):WF W o (bI o (.sl X)) Q:=
 ⟨h.len R Q N,λj c k=>h.int R j Q c k N,λj c=>h.bool R j Q c N,λj c z k=>h.bw R j Q c z k N⟩
def adG(R:aA p d D o V O s a W){am:eL}(h:nJ o s am v=J):WF W o am (v.map (C.cj O)):=by
 obtain⟨B,A⟩:=Ke h;have G:∀(j:Nat)(c:RV)(H:CT),(v.map (C.cj O))[j]?=U c->am[j]?=U H->∃X,uv o s H X=J/\c=X.cj O:=by
  intro j c H M L;rw[et] at M;cases F:v[j]? with|none=>rw[F] at M;cases M|some X=>rw[F] at M;simp at M;exact⟨X,A j H X L F,M.symm⟩
 refine⟨by simpa using B,λj c k M L=> ?_,λj c M L=> ?_,λj c z k M L=> ?_⟩;obtain⟨X,N,rfl⟩:=G j c _ M L;unfold uv at N;split at N;rename_i Q;cases Q;simp at N;subst N;exact⟨_,rfl⟩;rename_i Q;cases Q;rename_i Q;cases Q;cases N;obtain⟨X,N,rfl⟩:=G j c _ M L;unfold uv at N;split at N;rename_i Q;cases Q;exact⟨_,rfl⟩;rename_i Q;cases Q;cases N;obtain⟨X,N,rfl⟩:=G j c _ M L;unfold uv at N;split at N;rename_i Q;cases Q;rename_i Q;cases Q;rename_i Q;cases Q;exact amk R N;cases N
def adH{am:eL}(h:nJ o s am v=J){j:Nat}{z:Value}(Q:(v.map (C.cj O))[j]?=U L)(G:am[j]?=U (.bw z y))(M:dV o y L R):
  ∃r:RE,v[j]?=U (.ak r)/\r.kind o s=y/\y≠ .bw/\dV o y (r.rv O) R:=by
 obtain⟨A,F⟩:=Ke h;rw[et] at Q;cases H:v[j]? with
 |none=>rw[H] at Q;cases Q
 |some X=>
  rw[H] at Q;simp at Q;subst Q;have N:=F j _ X G H;unfold uv at N;split at N
  grind
  grind
  rename_i r B;cases B;exact⟨r,rfl,(adF (O:=O) N M).1,(adF (O:=O) N M).2,M⟩;cases N
def Hf:∀{am:eL}{l:ze},oE o s am l=J->∀(i:Nat)(X:aq),l[i]?=U X->nJ o s am X=J
 |am,[],_,i,X,h=>by simp at h|am,r::Q,h,0,X,R=>by simp only[oE,aC] at h;simp at R;subst R;exact h.1|am,r::Q,h,i+1,X,R=>by simp only[oE,aC] at h;exact Hf h.2 i X (by simpa using R)
def adI{N:bo}(h:(kV x 0 N)[R]?=U (.own X)):N[R]?=U (.own X)/\R∉x:=by
 rw[Nf] at h;cases M:N[R]? with
 |none=>rw[M] at h;cases h
 |some Q=>
  rw[M] at h;simp only[jk,ga,dW] at h;cases Q<;>simp[AN] at h
  case own t=>
   grind
def amm{N:bo}(h:(jB x 0 N)[R]?=U y):(R∈x/\y=.aR)\/(R∉x/\N[R]?=U y):=by
 rw[Nd] at h;cases M:N[R]? with
 |none=>rw[M] at h;cases h
 |some X=>
  rw[M] at h;simp only[jk,ga,dW] at h;by_cases Q:R∈x;simp[Q] at h;exact .inl ⟨Q,h.symm⟩;simp[Q] at h;exact .inr ⟨Q,by rw[h]⟩
structure Hg(W W':World)(e:TypeId)(w:Nat)(old:cG)(rows:av)(A:oY)(cap:Nat):Prop where
 le:Y rows<=cap
 nil:A=Z->cap=0
 mem:cap=0\/∃b db,A=U ⟨b,0,Z⟩/\W'.heap[b]?=U (.cells db e (0,0))/\cap<=maxLen/\db.size=cap*w/\db.toList.take (Y rows*w)=eF rows/\(W.heap.size<=b\/old=U b)
def CN(o:Ty)(V:ar)(O:aj)(s:S)(e:TypeId)(rows:av)(dj:ar):Prop:=
 ∀b,oH o e rows b->O.ph o s.rs b/\(∀i,aJ s.au i=J->ad V i≠b)/\∀(k:Nat)(t:TypeId)(X:RV),s.rs[k]?=U (.own t)->O.r[k]?=U X->X.lq=U b->k∈dj
def Nj{X:bo}(h:s.bd=J)(R:Y X=Y s.rs):({s with rs:=X}:S).bd=true:=by
 simp only[S.bd,R] at h⊢;exact h
def aA.bind(R:aA p d D o V O s a W)(hb:s.bd=J){e:TypeId}{rows:av}{kill dj:ar}{old:cG}{W':World}{A:oY}{cap:Nat}
  (hk:(kill=[]/\old=Z)\/∃k t x,kill=[k]/\s.rs[k]?=U (.own t)/\O.r[k]?=U x/\old=x.lq)(a3:∀k∈kill,k∉dj)
  (n:W.grownBy W' old)(aa:fU W o e rows)(m:CN o V O s e rows dj)(z:Hg W W' e (bI o (.sl e)).length old rows A cap):
  aA p d D o V (O.add (.r (.mk (.slice A (Y rows) cap) rows))) {s with rs:=kV dj 0 (jB kill 0 s.rs)++[.own e]} a W'/\∀b,dV o (.sl e) (.mk (.slice A (Y rows) cap) rows) b->d.heap.size<=b\/b∈rf d.heap.size p\/O.ph o s.rs b:=by
 have ab:∀b,old=U b->(d.heap.size<=b\/b∈rf d.heap.size p)/\b<W.heap.size/\(∀i,aJ s.au i=J->ad V i≠b)/\(∀M L X,M∉kill->s.rs[M]?=U L->O.r[M]?=U X->¬AV o L X b)/\¬oH o e rows b:=by
  intro b ac;rcases hk with⟨_,h0⟩|⟨k,t,x,rfl,Q,F,y⟩
  grind
  rw[y] at ac;have j:=R.eN k t x b Q F ac;refine⟨j.own,j.lt,j.box,λM L X hn=>j.alone M L X (by simpa using hn),λG=> ?_⟩;exact a3 k aw ((m b G).2.2 k t x Q F ac)
 have R1:aA p d D o V O {s with rs:=jB kill 0 s.rs} a W':=by
  rcases hk with⟨rfl,rfl⟩|⟨k,t,x,rfl,Q,F,rfl⟩;have:jB [] 0 s.rs=s.rs:=by
   apply kU;intro i;rw[Nd];cases s.rs[i]?<;>simp
  rw[this];exact R.grown n;exact R.eE Q F n
 have R2:=R1.lJ (RU dj _);have a4:fU W' o e rows:=aa.world (λb G=>n.block b (aa.lt G) (λh=>(ab b h.symm).2.2.2.2 G)) n.size;have a9:bG W' o (.sl e) (.mk (.slice A (Y rows) cap) rows):=by
  rcases z.mem with h0|⟨b,db,rfl,Q,F,y,h4,N⟩;have H:=z.le;have:rows=[]:=ui ae;subst this;exact E2 A cap;refine adD a4 ⟨_,_,_,Q⟩ (λq u g=> ?_) z.le;rw[<-h4,qg] at g;split at g;simp only[oD,Q,jk];simpa using g;cases g
 have af:∀b,AV o (.own e) (.mk (.slice A (Y rows) cap) rows) b->(W.heap.size<=b\/old=U b)\/oH o e rows b:=by
  intro b H;have ba:∀w,A=U w->cap≠0->w.block=b->(W.heap.size<=b\/old=U b):=by
   intro w hA hc al;rcases z.mem with h0|⟨v,db,Q,_,_,_,_,N⟩;omega
   grind
  rcases H with H|⟨-,H⟩;cases H with
  |own e x b H=>
   rcases ami H with⟨w,bl,br,Q,rfl⟩|Q;simp at Q;exact .inl (ba w Q.1 (by have:=z.le;omega) rfl)
   grind
  grind [RV.lq,RV.pe]
 have bb:∀{k:Nat}{L:RK},(kV dj 0 (jB kill 0 s.rs))[k]?=U L->∃f,(jB kill 0 s.rs)[k]?=U f/\rY f L:=λh=>(RU dj _).get _ _ h
 constructor;refine R2.add (Nj (Nj hb (CJ _ _ _)) (CL _ _ _)) (bG.own e _ a9 (λl c h=>by cases h;exact z.nil rfl)) (λb H i G=> ?_) (λk t X b Q F y H=> ?_) (λt b ht an=> ?_);rcases af b (.inl H) with(h|h)|h;have:=R.mem.lt G;omega
 grind
 exact(m b h).2.1 i G;obtain⟨bc,bf⟩:=adI Q;rcases amm bc with⟨_,h⟩|⟨bg,ag⟩;cases h;rcases af b H with(h|h)|h;have:=(R.eN k t X b ag F y).lt;omega;exact(ab b h).2.2.2.1 k _ X bg ag F (.inr ⟨⟨t,rfl⟩,y⟩);exact bf ((m b h).2.2 k t X ag F y);cases ht;have bs:cap≠0:=by
  intro h;subst h;simp[RV.lq] at an
 rcases z.mem with h0|⟨v,db,rfl,Q,F,y,h4,N⟩;omega;have al:v=b:=by
  obtain⟨c',rfl⟩:∃c',cap=c'+1:=⟨cap-1,ae⟩;simpa[RV.lq] using an
 subst al;have bk:∀(M:Nat)(L:RK)(X:RV),(jB kill 0 s.rs)[M]?=U L->O.r[M]?=U X->¬AV o L X v:=by
  intro M L X g1 g2 B;rcases amm g1 with⟨_,rfl⟩|⟨hn,a1⟩;rcases B with B|⟨⟨t,ht⟩,_⟩;cases B;cases ht;rcases N with N|N;rcases B with B|⟨⟨t,rfl⟩,B⟩;have:=(R.mem.ak M L X a1 g2).1.lt B;omega;have:=(R.eN M t X v a1 g2 B).lt;omega
  grind
 refine⟨?_,⟨Y rows,cap,db,rfl,Q,z.le,F,y⟩,λi G=> ?_,λM L X g1 g2 B=> ?_,λG=> ?_⟩;rcases N with N|N;exact .inl (mc R.mem.base.size N)
 grind
 rcases N with N|N;have:=R.mem.lt G;omega
 grind
 obtain⟨f,g4,hw⟩:=bb g1;exact bk M f X g4 g2 (B.lJ hw);rcases N with N|N;have:=aa.lt G;omega;exact(ab v N).2.2.2.2 G;intro b H;rcases af b (.inl (dV.own _ _ _ H)) with(h|h)|h;exact .inl (mc R.mem.base.size h)
 grind
 exact .inr (.inr (m b h).1)
end
section
variable{p:ar}{d:World}{D:bT}{P:Program}{o:Ty}{V:ar}{O:aj}{s:S}{a:Act}{W:World}
def mW(A:oY)(X:Nat):cG:=match A,X with|U a,_+1=>U a.block|_,_=>Z
def Nk(A:oY)(n X:Nat)(R:av):(RV.mk (.slice A n X) R).lq=mW A X:=by
 cases A<;>cases X<;>rfl
structure Kf(W:World)(e:TypeId)(w:Nat)(A:oY)(cap:Nat):Prop where
 nil:A=Z->cap=0
 mem:cap=0\/∃b db,A=U ⟨b,0,Z⟩/\W.heap[b]?=U (.cells db e (0,0))/\cap<=maxLen/\db.size=cap*w
def adJ{e:TypeId}{X:av}{b n R:Nat}{db:mO}{t:TypeId}{Q:Nat×Nat}(h:bG W o (.sl e) (.mk (.slice (U ⟨b,0,Z⟩) n R) X))(N:W.heap[b]?=U (.cells db t Q)):
  db.toList.take (Y X*(bI o (.sl e)).length)=eF X:=by
 have G:=CM (fU.zx h).len;have F:∀(q:Nat)(u:Value),(eF X)[q]?=U u->db[q]?=U u:=by
  intro q u M;obtain⟨B,A,L,z,H⟩:=RX h q u M;cases L;simpa[oD,N] using H
 apply kU
 grind
def axi{e t t2 tyR:TypeId}{G:TI}(a3:eX P e G)(hw:Y G.am≠0)(ab:(bI o (.sl e)).length=Y G.am)(r:P.underlying t=U (.slice e))(p:P.underlying t2=U (.slice e))
  {L N:av}{H n:oY}{X Q R cap2:Nat}(B:bG W o (.sl e) (.mk (.slice H X Q) L)){old:cG}(hr:(Kf W e (Y G.am) H Q/\old=mW H Q)\/(X=Q/\0<R))
  (ac:Y N=R)(a4:fU W o e N)(a9:∀(q:Nat)(u:Value),(eF N)[q]?=U u->∃m,n=U m/\W.cell? (m.add q)=U u)
  (b8:X<=536870912)(ca:R<=536870912):
  ∃A ba W',(Builtin.append_ #[t,t2] tyR #[.slice H X Q,.slice n R cap2]).run P W=.ok (.slice A (X+R) ba) W'/\W.grownBy W' old/\Hg W W' e (Y G.am) old (L++N) A ba:=by
 obtain⟨i,y,w,z,hz,bf⟩:=a3.M1;have bg:=a3.bytes i y;have bk:z.cells.size=Y G.am:=by rw[<-GF,bf];simp
 obtain⟨dX,cc⟩:=uE B;have bl:=fU.zx B;have bb:(eF L).length=X*i.size:=by rw[CM bl.len,dX,ab,w]
 have af:(eF N).length=R*i.size:=by rw[CM a4.len,ac,ab,w]
 have ag:(eF (L++N)).length=(X+R)*Y G.am:=by rw[adC,f9,bb,af,w,sM]
 have l:(L++N).length=X+R:=by simp[dX,ac]
 have al:∀M:World,(∀x,M.cell? x=W.cell? x)->(Builtin.firstCells i.size R (.slice n R cap2)).run P M=.ok (eF N).toArray M:=by
  intro M g;cases n with
  |none=>
   have:eF N=[]:=by
    cases hq:eF N with|nil=>rfl|cons x xs=>obtain⟨m,h,_⟩:=a9 0 x (by rw[hq];rfl);cases h
   rw[run_firstCells_none,this]
  |some a2=>
   refine run_firstCells_some M i.size R a2 R cap2 _ af (λj v hj=> ?_);obtain⟨m,h,h'⟩:=a9 j v hj;cases h;rw[g];exact h'
 have br:∀M:World,(∀x,M.cell? x=W.cell? x)->(Builtin.firstCells i.size X (.slice H X Q)).run P M=.ok (eF L).toArray M:=by
  intro M g;cases H with
  |none=>
   have:eF L=[]:=by
    cases hq:eF L with|nil=>rfl|cons x xs=>obtain⟨b,bs,h,_⟩:=RX B 0 x (by rw[hq];rfl);cases h
   rw[run_firstCells_none,this]
  |some f=>
   refine run_firstCells_some M i.size X f X Q _ bb (λj v hj=> ?_);obtain⟨b,bs,h,_,h'⟩:=RX B j v hj;cases h;rw[g,xH];exact h'
 by_cases d:X+R<=Q
 
 obtain⟨bt,rfl⟩:Kf W e (Y G.am) H Q/\old=mW H Q:=hr.resolve_right λq=>by have:=q.1;have:=q.2;omega
 rcases Mj Q with h0|h0;have e1:X=0:=ae;have e2:R=0:=ae;subst h0 e1 e2;have r1:L=[]:=ui dX;have r2:N=[]:=ui ac;subst r1 r2;refine⟨H,0,W, ?_,⟨rfl,rfl,rfl,cd _,λ_ _ _=>rfl⟩,⟨cd _,λ_=>rfl,.inl rfl⟩⟩;have F:=al W (λ_=>rfl);have aa:∀f:Addr,(storeCells f [] 0).run P W=.ok () W:=λ_=>rfl
 cases H with|none=>simp[Builtin.append_,run_underlying r,run_underlying p,Go.sizeOf,typeInfo,y,Builtin.lenOf,F,eF]|some f=>simp[Builtin.append_,run_underlying r,run_underlying p,Go.sizeOf,typeInfo,y,Builtin.lenOf,F,eF,aa]
 rcases bt.mem with g|⟨b,db,rfl,hg,an,bx⟩;omega;have b0:X*i.size+(eF N).length<=db.size:=by rw[af,bx,<-sM,w];exact GC _ d
 have F:=al W (λ_=>rfl);have aa:=run_storeCells_at P b (X*i.size) e (eF N) 0 db W hg (by simpa using b0) (λu hu=>ame (a4.single u hu));simp only[yZ] at aa;have bc:mW (U ⟨b,0,Z⟩) Q=U b:=by cases Q with|zero=>omega|succ c=>rfl
 refine⟨U ⟨b,0,Z⟩,Q,W.setRow b (db.toList.take (X*i.size)++eF N++db.toList.drop (X*i.size+(eF N).length)).toArray, ?_,⟨rfl,rfl,rfl,by simp[World.setRow],λk _ hk=>setRow_other W b k _ (λh=>hk (by rw[bc,h]))⟩,
  ⟨by rw[l];exact d,aw,.inr ⟨b,_,rfl,setRow_heap W b db _ e _ hg,an, ?_, ?_,.inr bc⟩⟩⟩
 simp[Builtin.append_,run_underlying r,run_underlying p,Go.sizeOf,typeInfo,y,Builtin.lenOf,d,F,Addr.add_lit,aa];simp only[Mn,f9,Mo,Cf,GF];omega;have bd:=adJ B hg;rw[dX,ab,<-w] at bd;rw[l,bd,<-adC,<-ag];exact List.take_left
 
 have b1:X+R<=1073741824:=ae;have b2:(X+R)*i.bytes<=140737488355328:=by
  have:(X+R)*i.bytes<=1073741824*131072:=Mr b1 bg;omega
 have cf:=growslice_fits (show Q<X+R from ae) b2;have b3:X+R<=maxLen:=by simp only[maxLen];omega
 have b4:=grownCap_ge W (X+R) Q e;have an:=grownCap_le_maxLen W (X+R) Q e b3;have F:=al W.drew (λ_=>aw);have b5:=br W.drew (λ_=>aw);have b6:¬(9223372036854775807<((X:Int)+(R:Int))):=ae;have b7:¬(281474976710656<Builtin.nextslicecap (X+R) Q*i.bytes):=ae;refine⟨U ⟨W.heap.size,0,Z⟩,grownCap W (X+R) Q e,W.drew.alloc (.cells ((eF (L++N)).toArray++Builtin.zeroCells z.cells (grownCap W (X+R) Q e-(X+R))) e), ?_,
  ⟨rfl,rfl,rfl,aw,λk hk _=>Below.heap_alloc W.drew _ _ hk⟩,⟨by rw[l];exact b4,aw,.inr ⟨W.heap.size,_,rfl,Vz W.drew _,an, ?_, ?_,.inl (cd _)⟩⟩⟩
 simp[Builtin.append_,run_underlying r,run_underlying p,Go.sizeOf,typeInfo,zeroValue,y,hz,Builtin.lenOf,d,b6,b7,Question.forced,F,b5,newRow,grownCap];congr 2;apply nD;simp[Ce,adC];simp only[Array.size_append,Mn,size_zeroCells,bk,ag,<-sM];congr 1;omega;simp only[Array.toList_append,l,<-ag];exact List.take_left
end
structure bB(s:S)(O:aj)(V:ar)(s':S)(O':aj)(V':ar):Prop where
 ext:oJ s.au O O' V V'
 mono:∀i,aJ s.au i=J->aJ s'.au i=J
 len:Y s.au<=Y s'.au
 ax:s.ax<=s'.ax
def bB.refl(s:S)(O:aj)(V:ar):bB s O V s O V:=⟨oJ.refl _ _ _,λ_ h=>h,cd _,cd _⟩
def bB.trans{s s' X:S}{O R Q:aj}{V N M:ar}(h:bB s O V s' R N)(k:bB s' R N X Q M):bB s O V X Q M:=
 ⟨h.ext.trans k.ext h.mono,λi L=>k.mono i (h.mono i L),mc h.len k.len,mc h.ax k.ax⟩
theorem bB.put{s s':S}{X:aj}{R:ar}(h:bB s k x s' X R)(d:cG)(v:C):bB s k x (s'.put d v) X R:=by
 cases d<;>exact⟨h.ext,h.mono,h.len,h.ax⟩
def OR.gives(O:aj)(X:S):OR->Prop
 |.ok x=>X=x|.aQ b x=>b.ai O=J/\X=x|.split b R Q=>X=if b.ai O then R else Q|.no _=>False
def td(P:Program)(o:Oper)(a:Act)(W:World)(v:Value)(X:World):Prop:=
 (execOp a.eval o).run P W=.ok (.value v) X\/((execOp a.eval o).run P W=.ok .skip X/\v=undef)
def adK{s:S}(h:gr s.au R=J)(t:TypeId)(X:aq)(d:cG)(v:C):bB s k x ((s.cX R t X).put d v) k (x.set R M):=by
 refine bB.put (s':=s.cX R t X) ⟨amc h k x M,λi Q=>(qB (pn h).2).2 (.inr Q),by simp[S.cX],by simp[S.cX]⟩ d v
def amn{s:S}{N:aq}(h:bP s.au R=U (X,v))(d:cG)(Q:C):bB s k x ((s.cX R X N).put d Q) k x:=by
 refine bB.put (s':=s.cX R X N) ⟨oJ.refl _ _ _,λi M=>(qB (dq.1 (ky.1 h)).1).2 (.inr M),by simp[S.cX],by simp[S.cX]⟩ d Q
def bB.lk{s X:S}{R:aj}{Q:ar}(h:bB s k x X R Q)(n:Nat):bB s k x {X with lk:=n} R Q:=⟨h.ext,h.mono,h.len,h.ax⟩
section
variable{g:ar}{u:World}{D:bT}{P:Program}{f:bv}{V:ar}{O:aj}{s:S}{a:Act}{W:World}
def aA.lk(R:aA g u D f.ty V O s a W)(n:Nat):aA g u D f.ty V O {s with lk:=n} a W:=⟨R.mem,R.gC,R.ei,R.eb,R.er,R.dl,R.size,R.tmps,R.eN⟩
def CO{s X:S}{d:cG}{r:PR}(h:(xz s d R r).gives k X):∃v,r.gives k v/\X=s.dE d v R:=by
 cases r with
 |ok v=>exact⟨v,rfl,h⟩
 |aQ b v=>
  simp only[xz] at h;split at h;exact⟨v,⟨h.1,rfl⟩,h.2⟩;exact h.elim
 |no w=>exact h.elim
def amo(n:Nat)(l:aq):(zk n l).length=n*Y l:=by
 induction n with|zero=>simp[zk]|succ n X=>simp[zk,X,sM];omega
def adL(l:aq):∀(n k:Nat),k<n*Y l->(zk n l)[k]?=l[k%Y l]?
 |0,k,h=>by simp at h
 |n+1,k,h=>by
  have X:0<Y l:=by
   grind
  rw[zk];by_cases R:k<Y l
  grind [Nat.mod_eq_of_lt]
  rw[ji ae,adL l n (k-Y l) (by rw[sM] at h;omega)];congr 1;have:k=(k-Y l)+Y l:=ae
  conv=>rhs;rw[this,Nat.add_mod_right]
def R8(R:aA g u D f.ty V O s a W)(B:jq P f.ty)(F:eB f.gl O)(m:OM){s':S}(h:(gI f m s).gives O s'):
  ∃v W' V',td P m.o a W v W'/\aA g u D f.ty V' O s' (a.put m.o.dst v) W'/\bB s O V s' O V':=by
 unfold gI at h;split at h;exact h.elim;rename_i Q;have Q:∀x∈m.o.op.operands.toList,(s.ev f.gl x).eY=false:=by
  intro x hx;cases hh:(s.ev f.gl x).eY;rfl;exact bF (nA.2 ⟨x,hx,hh⟩) Q
 split at h
 
 rename_i t X;split at h;rename_i ti r;split at h;rename_i N;simp only[aC] at N;cases h;obtain⟨z,ac,af⟩:=M7 (P:=P) (W:=W) (O:=O) (V:=V) (B _ _ r);have G:=R.alloc (uD N.2) t (eo ti) N.1;rw[qA (Nc N.2)] at G;have j:=pn (uD N.2);refine⟨.pointer (U ⟨W.heap.size,0,Z⟩),W.alloc (.cells (C.az O V (eo ti)).toArray t),V.set m.ix W.heap.size,.inl ?_, ?_,adK (uD N.2) _ _ _ _⟩;rw[<-af];simp[execOp,X,Instr.alloc,ac,newVar,newRow];have:=G.put m.o.dst (.loc m.ix 0);rw[C.ai,E0 (by rw[R.gC];exact j.2)] at this;exact this;exact h.elim;exact h.elim
 
 rename_i t x X;rw[X] at Q;have he:=de R F x (Q x cq);split at h;rename_i ti r;split at h;rename_i N;simp only[aC] at N;cases h;obtain⟨⟨⟨-,d⟩,h2⟩,H⟩:=N;have ag:=WA (O:=O) (V:=V) (xI R) h2;have G:=R.alloc (uD H) t (s.ev f.gl x).cells d;rw[qA (Nc H)] at G;have j:=pn (uD H);refine⟨.pointer (U ⟨W.heap.size,0,Z⟩),W.alloc (.cells (C.az O V (s.ev f.gl x).cells).toArray t),V.set m.ix W.heap.size,.inl ?_, ?_,adK (uD H) _ _ _ _⟩;rw[<-ag];simp[execOp,X,Instr.box,newVar,newRow,he];have:=G.put m.o.dst (.loc m.ix 0);rw[C.ai,E0 (by rw[R.gC];exact j.2)] at this;exact this;exact h.elim;exact h.elim
 
 rename_i t L parts X;rw[X] at Q;have a3:(parts.map λ(i,x)=>(i,a.eval x)).toList=(parts.toList.map λp=>(p.1,s.ev f.gl p.2)).map λp=>(p.1,p.2.ai O V):=by
  simp only[yY,oX];apply kF;intro p hp;have:=de R F p.2 (Q p.2 (by simp[im];exact⟨p.1,by simpa using hp⟩));simp[this]
 split at h;rename_i e am q r;split at h;rename_i M al;split at h;rename_i l hf;split at h;rename_i N;simp only[aC,dD] at N;cases h;obtain⟨⟨d,h2⟩,H⟩:=N;have hd:P.underlying t=U (.slice e):=(B _ _ r).desc;obtain⟨z,ac,af⟩:=M7 (P:=P) (W:=W) (O:=O) (V:=V) (B _ _ al);have a4:=RQ (V:=V) (xI R) _ _ _ _ hf;have aa:(eo M).length=Y M.am:=by simp[eo]
 have hzero:((ak8 (L*Y M.am)).map ((if L*Y M.am=0 then #[] else z.cells)[· %(if L*Y M.am=0 then #[] else z.cells).size]!))=(C.az O V (zk L (eo M))).toArray:=by
  apply nD;apply kU;intro k;by_cases ab:k<L*Y M.am;have bb:¬L*Y M.am=0:=ae;have bc:0<Y M.am:=by
   rcases Mj (Y M.am) with A|A;rw[A] at ab;simp at ab;exact A
  have a9:k%Y M.am<(C.az O V (eo M)).length:=by rw[MY,aa];exact Q0 _ bc
  simp only[bb,ku,af,yY,avZ,et,Ep ab,ga,uC,adL _ _ _ (by rw[aa];exact ab),aa];rw[<-uC,dG a9];simp only[Mn,MY,aa];rw[getElem!_pos _ _ (by simpa using a9)];simp;rw[uk bY,uk (by simp[amo,aa];omega)]
 have G:=R.alloc (uD H) e l d;rw[qA (Nc H)] at G;have j:=pn (uD H);refine⟨.slice (U ⟨W.heap.size,0,Z⟩) L L,W.alloc (.cells (C.az O V l).toArray e),V.set m.ix W.heap.size,.inl ?_, ?_,adK (uD H) _ _ _ _⟩;have ba:¬L*Y M.am>2^24:=ae;by_cases A:L*Y M.am=0;simp only[aH A] at hzero;simp only[execOp,X,Instr.buildSlice,dv,eX.gX hd,du,(B _ _ al).nL,ba,ku,fu,aH A,a3];rw[hzero,a4];simp[newRow];simp only[aS A] at hzero;simp only[execOp,X,Instr.buildSlice,dv,eX.gX hd,du,(B _ _ al).nL,ba,ku,fu,aS A,a3,ac];rw[hzero,a4];simp[newRow];have:=G.put m.o.dst (.iO m.ix 0 L L);rw[C.ai,E0 (by rw[R.gC];exact j.2)] at this;exact this;exact h.elim;exact h.elim;exact h.elim;exact h.elim
 
 rename_i t x y X;rw[X] at Q;have an:=de R F x (Q x cq);have a0:=de R F y (Q y cq);split at h;rename_i ti i bf r hx;split at h;rename_i bt cs n;split at h;rename_i N;simp only[aC,gc,dD] at N;cases h;obtain⟨⟨⟨⟨d,h2⟩,H⟩,h4⟩,-⟩:=N;have ag:=WA (O:=O) (V:=V) (xI R) h4;obtain⟨n,bd⟩:=AX n;obtain⟨W',hr,G⟩:=R.store (B _ _ r) n bd d h2 H ag;refine⟨undef,W',V,.inr ⟨?_,rfl⟩,G.put m.o.dst (.bH []),amn n _ _⟩;simp only[execOp,X,an,a0,hx,C.ai,dv,hr,du,fu];exact h.elim;exact h.elim;exact h.elim
 
 rename_i c x y X;rw[X] at Q;have a1:=de R F c (Q c cq);have an:=de R F x (Q x cq);have a0:=de R F y (Q y cq);split at h;rename_i b n;simp only[OR.gives] at h;rw[n,C.ai] at a1;cases w:b.ai O;simp only[w,jX,ku] at h;subst h;refine⟨_,W,V,.inl ?_,R.put _ _,(bB.refl _ _ _).put _ _⟩;simp[execOp,X,a1,w,asBool,a0];simp only[w,dO] at h;subst h;refine⟨_,W,V,.inl ?_,R.put _ _,(bB.refl _ _ _).put _ _⟩;simp[execOp,X,a1,w,asBool,an];exact h.elim
 
 rename_i t x X;obtain⟨v,w,rfl⟩:=CO h;exact⟨v.ai O V,W,V,.inl (al8 R B F m.o Q (by rw[X];exact w)),(R.lk _).put _ _,((bB.refl _ _ _).lk _).put _ _⟩
 
 obtain⟨v,w,rfl⟩:=CO h;exact⟨v.ai O V,W,V,.inl (al8 R B F m.o Q w),(R.lk _).put _ _,((bB.refl _ _ _).lk _).put _ _⟩
theorem aA.room{g:ar}{u:World}{D:bT}{V:ar}{O:aj}{s:S}{a:Act}{W:World}(R:aA g u D f.ty V O s a W)(n:Nat):
  aA g u D f.ty (V++eu n 0) O (s.room n) a W/\bB s O V (s.room n) O (V++eu n 0):=by
 have X:∀k,ad (V++eu n 0) k=ad V k:=by
  grind [ad]
 have G:∀i,bP (s.au++eu n Z) i=bP s.au i:=by
  grind [bS]
 have N:∀i,aJ (s.au++eu n Z) i=aJ s.au i:=λi=>by simp[aJ,G]
 have B:=ja.refl O (Y O.i) (Y O.b) (Y O.r);have F:∀v,C.ai O (V++eu n 0) v=v.ai O V:=by
  intro v;have:ad (V++eu n 0)=ad V:=funext X;exact Wr this v
 have q:∀l,C.az O (V++eu n 0) l=C.az O V l:=λl=>by simp only[oG];exact kF λv _=>F v
 refine⟨⟨⟨R.mem.base,λi Q=> ?_,λi j Q A=> ?_,λi t z h=> ?_,λk e M L H=> ?_⟩,by simp[S.room,R.gC],R.ei,R.eb,R.er,R.dl,R.size,λt y h=> ?_,λk e M b L H x=> ?_⟩,⟨⟨B,cd _,cd _,cd _,λk _=>X k⟩,λi Q=> ?_,by simp[S.room],cd _⟩⟩;rw[X];exact R.mem.own i (by rw[<-N];exact Q);rw[X,X];exact R.mem.inj i j (by rw[<-N];exact Q) (by rw[<-N];exact A);rw[X,alI (funext X)];exact R.mem.box i t z (by rw[<-G];exact h);refine⟨(R.mem.ak k e M L H).1,λb w i Q=> ?_⟩;rw[X];exact(R.mem.ak k e M L H).2 b w i (by rw[<-N];exact Q);rw[F];exact R.tmps t y h;have t:=R.eN k e M b L H x;exact⟨t.own,t.mem,λi Q=>by rw[X];exact t.box i (by rw[<-N];exact Q),t.alone,t.inner⟩
 grind [S.room]
end
section
variable{p:ar}{g:World}{D:bT}{P:Program}{cf:bv}{V:ar}{O:aj}{s:S}{a:Act}{W:World}
def AZ{d:cG}{aQ:BE}{R:LE}{dj:ar}{b:BI}(h:kW s d aQ X y R x dj=U b):
  s.bd=J/\(∀y∈x,y∉dj)/\b=⟨aQ,X,R,({s with rs:=kV dj 0 (jB x 0 s.rs)++[y]}:S).put d (.ak (.v (Y s.rs)))⟩:=by
 unfold kW at h
 grind
def Kg{X:S}(N:aA p g D l V (O.add (.r L)) X a Q)(M:Y O.r=R)(d:cG):aA p g D l V (O.add (.r L)) (X.put d (.ak (.v R))) (a.put d L.val) Q:=by
 have:=N.put d (.ak (.v R));have e:C.ai (O.add (.r L)) V (.ak (.v R))=L.val:=by subst M;simp[C.ai,RE.ai,RE.rv,aj.rv,aj.add]
 grind
def Hh{rv:RV}(X:bo)(d:cG)(v:C):bB s O V (({s with rs:=X}:S).put d v) (O.add (.r rv)) V:=
 bB.put (s:=s) (s':={s with rs:=X}) ⟨tc _ _ _ _,λ_ h=>h,cd _,cd _⟩ d v
def R9{n:K}(h:(JP n).ai O=J):n.ai O<=536870912:=by
 grind [EW,fj,K.ai,MC,JP]
def Nl(P:Program)(p:ar)(g:World)(D:bT)(R:Ty)(V:ar)(O:aj)(s:S)(a:Act)(W:World)(o:Oper)(b:BI):Prop:=
 ∃v Q X,td P o a W v Q/\J8 R p g b.e b.x s.rs O X/\aA p g D R V (O.add (.r X)) b.s (a.put o.dst v) Q/\bB s O V b.s (O.add (.r X)) V
def Sa(Q:aA p g D cf.ty V O s a W)(h:s.rs[R]?=U (.own X)):∃A n N,O.rv R=.mk (.slice A n N) (O.rv R).ah/\bG W cf.ty (.sl X) (.mk (.slice A n N) (O.rv R).ah)/\Kf W X (bI cf.ty (.sl X)).length A N:=by
 have M:=ado Q h;have y:=uF Q h;have H:=λb G=>Q.eN R X _ b h y G
 revert M H;generalize O.rv R=x;intro M H;cases M with
 |own X x M F=>
  cases M with
  |sl X A L N B w v u t G r=>
   refine⟨A,L,N,rfl,bG.sl X A L N B w v u t G r,λq=>F L N (by rw[q];rfl), ?_⟩;rcases Mj N with o|o;omega;right;cases A with
   |none=>have:=F L N rfl;omega
   |some z=>
    have m:(RV.mk (.slice (U z) L N) B).lq=U z.block:=by rw[Nk];cases N with|zero=>omega|succ c=>rfl
    obtain⟨l,j,db,i,f,d,g4,g5⟩:=(H _ m).mem
    grind [RV.pe,Value.slice.injEq]
def axj(R:aA p g D cf.ty V O s a W){u:LE}{i:BE}(h:xx cf.ty s X r N=U (u,i,x))(d:i.ai O=J):
  ∃A n L,N.ai O V=.slice A n L/\bG W cf.ty (.sl X) (.mk (.slice A n L) (u.ah O))/\n<=536870912/\
   (∃q,((Kf W X (bI cf.ty (.sl X)).length A L/\q=mW A L)\/(n=L/\∃f l,N=.fn f l))/\((x=[]/\q=Z)\/∃k t F,x=[k]/\s.rs[k]?=U (.own t)/\O.r[k]?=U F/\q=F.lq))/\∀dj,CN cf.ty V O s X (u.ah O) dj:=by
 unfold xx at h;split at h;rename_i k;split at h;rename_i hc;cases h;have G:=hc.1;obtain⟨A,n,L,B,c,o⟩:=Sa R G;have H:=R9 d;refine⟨A,n,L,by simp only[C.ai,RE.ai,RE.rv];rw[B];rfl,by simpa[LE.ah,RE.rv] using c, ?_,⟨_,.inl ⟨o,rfl⟩,.inr ⟨k,X,O.rv k,rfl,G,uF R G,by rw[B,Nk]⟩⟩,λdj b M=> ?_⟩;simp only[K.ai,RE.rv] at H;rw[B] at H;simp[lenOf] at H;omega;simp only[LE.ah,RE.rv] at M;have z:=Nh (O:=O) (e0:=.own X) rfl M;refine⟨⟨k,_,G,z⟩,(R.mem.ak k _ _ G (uF R G)).2 b z,λk' t F g1 g2 g3=>(Ni R g1 g2 g3 G rfl M).elim⟩;cases h;rename_i Q ac;split at h;rename_i aa;cases h;unfold RE.isNil at aa;split at aa;refine⟨Z,0,0,rfl,E2 _ _,ae,⟨_,.inl ⟨⟨λ_=>rfl,.inl rfl⟩,rfl⟩,.inl ⟨rfl,rfl⟩⟩,λdj b M=>(RZ (by simpa[LE.ah] using M)).elim⟩
 grind
 cases h;cases h;refine⟨_,0,0,rfl,E2 _ _,ae,⟨_,.inl ⟨⟨aw,.inl rfl⟩,rfl⟩,.inl ⟨rfl,rfl⟩⟩,λdj b M=>(RZ (by simpa[LE.ah] using M)).elim⟩;rename_i Q;split at h;rename_i y;cases h;have m:=rh R aw y;have H:=R9 d;simp only[K.ai] at H;have j:∀dj,CN cf.ty V O s X (Q.rv O).ah dj:=by
  intro dj b M;have z:dV cf.ty (.sl X) (Q.rv O) b:=by rw[<-He (Q.rv O)];exact R6 M
  obtain⟨q1,q2⟩:=Kd R aw y z;refine⟨q1,q2,λk' t F w k2 k3=> ?_⟩;have:=R7 R w k2 k3 aw y z;subst this;simp only[RE.kind,dM,w,yX,RK.rd,RK.sl.injEq] at y;subst y;exact(Ni R w k2 k3 w rfl M).elim
 have hd:(C.fn 3000000 [.ak Q]).ai O V=ada (Q.rv O).val:=rfl;rw[hd];simp only[LE.ah];revert m H j;generalize Q.rv O=F;intro m H j;cases m with
 |sl X A v L ab B c o hi M ho=>
  exact⟨A,v,v,rfl,bG.sl X A v v ab B (cd _) o hi M ho,by simp[lenOf] at H;omega,⟨Z,.inr ⟨rfl,_,_,rfl⟩,.inl aw⟩,j⟩
 cases h;cases h
def WG{w:Nat}:∀{n:Nat}{l:aq}{i:Nat}{X:aq},(jZ w n l)[i]?=U X->X=(l.drop (i*w)).take w/\i<n
 |0,l,i,X,h=>by simp[jZ] at h|n+1,l,0,X,h=>by simp[jZ] at h;subst h;exact⟨aw,ae⟩
 |n+1,l,i+1,X,h=>by
  simp only[jZ,vC] at h;obtain⟨R,Q⟩:=WG h
  grind [QX,sM]
def WH(w:Nat):∀(n:Nat)(l:aq),(jZ w n l).length=n
 |0,l=>rfl|n+1,l=>by simp[jZ,WH w n]
def WI:∀{l:aq}{r:RE}{k:Nat},C.ak r∈l->r.root=U k->k∈C.qm l
 |[],r,k,h,_=>by simp at h
 |x::R,r,k,h,X=>by
  simp only[C.qm,fg];rcases fh.1 h with rfl|h;left;simp[C.acA,X];right;exact WI h X
def amp(R:aA p g D cf.ty V O s a W){l:ze}{dj:ar}(B:oE cf.ty s (bI cf.ty (.sl X)) l=J)(A:∀N∈l,∀(r:RE)(k:Nat),C.ak r∈N->r.root=U k->k∈dj):
  CN cf.ty V O s X (l.map λN=>N.map (C.cj O)) dj:=by
 intro b ⟨i,j,N,c,z,k,Q,y,x,w⟩;rw[et] at Q;cases M:l[i]? with
 |none=>rw[M] at Q;cases Q
 |some L=>
  rw[M] at Q;simp at Q;subst Q;obtain⟨r,v,H,G,F⟩:=adH (Hf B i L M) y x w;obtain⟨u,q⟩:=Kd R G H F;refine⟨u,q,λh t f o n m=> ?_⟩;have:=R7 R o n m G H F;subst this;exact A L (jz M) _ _ (jz v) rfl
def adM(R:aA p g D cf.ty V O s a W){l:ze}(M:oE cf.ty s (bI cf.ty (.sl X)) l=J):fU W cf.ty X (l.map λN=>N.map (C.cj O)):=by
 refine fU.of (λi N Q=> ?_);rw[et] at Q;cases h:l[i]? with|none=>rw[h] at Q;cases Q|some L=>rw[h] at Q;simp at Q;subst Q;exact adG R (Hf M i L h)
def adN{e:TypeId}{l:aq}{w n:Nat}(z:(bI cf.ty (.sl e)).length=w)(G:oE cf.ty s (bI cf.ty (.sl e)) (jZ w n l)=J){q:Nat}{u:Value}(F:(∀(i:Nat)(X:aE),((jZ w n l).map λX=>X.map (C.cj O))[i]?=U X->Y X=w))
  (h:(eF ((jZ w n l).map λX=>X.map (C.cj O)))[q]?=U u):(C.az O V l)[q]?=U u:=by
 obtain⟨i,j,X,c,R,Q,rfl,rfl⟩:=Ng F h;rw[et] at R;cases N:(jZ w n l)[i]? with
 |none=>rw[N] at R;cases R
 |some L=>
  rw[N] at R;simp at R;subst R;rw[et] at Q;cases M:L[j]? with
  |none=>rw[M] at Q;cases Q
  |some v=>
   rw[M] at Q;simp at Q;subst Q;obtain⟨y,B⟩:=Ke (Hf G i L N);have x:j<Y L:=(dq.1 M).1;obtain⟨H,A⟩:∃H,(bI cf.ty (.sl e))[j]?=U H:=⟨_,dG ae⟩;rw[uC];have t:=(WG N).1;have:l[i*w+j]?=U v:=by
    grind
   rw[this];simp;exact aml (B j H v A M)
def axk(R:aA p g D cf.ty V O s a W)(af:cf.ty X=U t){F:LE}{n2:BE}(h:sQ cf.ty s X t N=U (F,n2,x))(hn:n2.ai O=J):
  ∃A n L,N.ai O V=.slice A n L/\(F.ah O).length=n/\fU W cf.ty X (F.ah O)/\(∀(q:Nat)(u:Value),(eF (F.ah O))[q]?=U u->∃a0,A=U a0/\W.cell? (a0.add q)=U u)/\n<=536870912/\CN cf.ty V O s X (F.ah O) x:=by
 have f:bI cf.ty (.sl X)=t.am:=by simp[bI,af]
 unfold sQ at h;split at h;rename_i r;split at h;rename_i ab;cases h;unfold RE.isNil at ab;split at ab;exact⟨Z,0,0,rfl,rfl,fU.nil,λq u H=>by simp[LE.ah,eF] at H,ae,λb M=>(RZ (by simpa[LE.ah] using M)).elim⟩
 grind
 split at h;rename_i B;cases h;have z:=rh R aw B;have w:=R9 hn;simp only[K.ai] at w;have d:CN cf.ty V O s X (r.rv O).ah []:=by
  intro b M;have hl:dV cf.ty (.sl X) (r.rv O) b:=by rw[<-He (r.rv O)];exact R6 M
  obtain⟨q1,q2⟩:=Kd R aw B hl;refine⟨q1,q2,λk' Q c o k2 k3=> ?_⟩;have:=R7 R o k2 k3 aw B hl;subst this;simp only[RE.kind,dM,o,yX,RK.rd,RK.sl.injEq] at B;subst B;exact(Ni R o k2 k3 o rfl M).elim
 simp only[C.ai,RE.ai,LE.ah];revert z w d;generalize r.rv O=c;intro z w d;have m:=fU.zx (v:=c.val) (rows:=c.ah) (by rw[He];exact z);cases z with
 |sl X A G L ag l h2 h3 hi M ho=>
  refine⟨A,G,L,rfl,l,m,λq u H=> ?_,by simp[lenOf] at w;omega,d⟩;obtain⟨b,aa,g1,g2,g3⟩:=RX (bG.sl X A G L ag l h2 h3 hi M ho) q u H
  grind [xH]
 cases h;rename_i i aa G L;split at h;rename_i bt cs M;split at h;rename_i hc;cases h;simp at hc;obtain⟨⟨l,h2⟩,h3⟩:=hc;have hf:oE cf.ty s (bI cf.ty (.sl X)) (jZ (Y t.am) G (zi cs aa (G*Y t.am)))=true:=by rw[f];exact l
 have m:=adM R hf;refine⟨U ⟨ad V i,aa,Z⟩,G,L,rfl,by simp[LE.ah,WH],by simpa[LE.ah] using m,λq u H=> ?_,by simp[MC] at h3;omega, ?_⟩;simp only[LE.ah] at H;have j:=adN (V:=V) (by rw[f]) hf (λi ac hr=>by rw[m.len i ac hr,f]) H;refine⟨_,rfl, ?_⟩;rw[uC,zi,qg] at j;split at j;rw[yV,<-uC] at j;obtain⟨M,al⟩:=AX M;have:=R.mem.box i bt cs M;rw[qA al] at this;rw[xH];simp[oD,this,j]
 grind
 refine amp R hf (λac an r k hr hk=> ?_);obtain⟨ii,a1⟩:=sK an;have:=(WG a1).1;subst this;exact WI (En (GD hr)) hk;cases h;cases h;cases h
end
section
variable{g:ar}{u:World}{D:bT}{P:Program}{d:bv}{V:ar}{O:aj}{s:S}{a:Act}{W:World}
def CP{x y:BE}(h:(xu x y).ai O=J):x.ai O=J/\y.ai O=true:=by
 rw[adj] at h
 grind
def A4{x y:K}(h:(qY .leq x y).ai O=J):x.ai O<=y.ai O:=by
 grind [EW,fj]
def axl(R:aA g u D d.ty V O s a W)(L:jq P d.ty)(hg:eB d.gl O){c:Call}(m:F.op=.call c)(k:c.callee=.builtin .append){dr:Bool}{b:BI}(h:eW d F r dr s=U b)(hn:b.aQ.ai O=J):
  Nl P g u D d.ty V O s a W F b:=by
 unfold eW at h;simp only[m,k] at h;split at h;rename_i t j x y ac i;split at h;rename_i e am q M bb q2 ht af;split at h;rename_i te H;split at h;cases h;rename_i aa;have he:e=M:=by by_cases X:e=M;exact X;exact bF (.inl X) aa
 have ag:Y te.am≠0:=λX=>aa (.inr X)
 subst he;split at h;rename_i N n1 bc Q n2 dj h1 h2;split at h;cases h;rename_i G;obtain⟨ce,al,rfl⟩:=AZ h;obtain⟨an,a0⟩:=CP hn;obtain⟨A1,m1,c1,e1,B,g3,⟨ab,g2,g4⟩,g5⟩:=axj (cf:=d) R h1 an;obtain⟨A2,m2,c2,M,w,k2,k3,k4,k5⟩:=axk R H h2 a0;have v:(bI d.ty (.sl e)).length=Y te.am:=by simp[bI,H]
 obtain⟨A,n,W',r1,r2,r3⟩:=axi (P:=P) (tyR:=F.type) (t:=t) (t2:=j) (cap2:=c2) (L _ _ H) ag v (L _ _ ht).desc (L _ _ af).desc B (old:=ab) (by
  rw[<-v];rcases g2 with g2|⟨q1,f,l,rfl⟩
  grind
  refine .inr ⟨q1, ?_⟩;simp at G;cases Q with
  |lit rr=>
   cases rr with|nil=>simp[acB] at G|cons r0 rr=>rw[<-w];simp[LE.ah]
  |_=>simp[acB] at G) w k2 k3 g3 k4
 have a1:(LE.iB N Q).ah O=N.ah O++Q.ah O:=rfl;have bd:(N.ah O++Q.ah O).length=m1+m2:=by rw[f9,(uE B).1,w]
 have a3:CN d.ty V O s e (N.ah O++Q.ah O) dj:=λb hb=>(axf hb).elim (g5 dj b) (k5 b)
 obtain⟨R',a4⟩:=R.bind ce (old:=ab) g4 al r2 ((fU.zx B).iB k2) a3 (by rw[v];exact r3);refine⟨.slice A (m1+m2) n,W',.mk (.slice A (N.ah O++Q.ah O).length n) (N.ah O++Q.ah O),.inl ?_,⟨⟨A,_,n,by rw[a1],rfl⟩,a4,λ_ _ _ _ h=>by cases h⟩, ?_,Hh _ _ _⟩;have ha:c.args.toList=[c.args.toList.getD 0 default,c.args.toList.getD 1 default]:=by
  have hl:Y c.args.toList=2:=by have:=jY Y i;simpa using this
  match c.args.toList,hl with|[p,q],_=>rfl
 have bf:∀z∈c.args.toList,a.eval z=(s.ev d.gl z).ai O V:=by
  intro z hz;refine de R hg z ?_;have:s.ev d.gl z∈[x,y]:=by rw[<-i];exact List.mem_map_of_mem hz
  rcases fh.1 this with X|X;rw[X];cases x<;>first|rfl|(simp[xx] at h1)
  rw[VB.1 X];cases y<;>first|rfl|(simp[sQ] at h2)
 have a9:c.args.map a.eval= #[x.ai O V,y.ai O V]:=by
  grind
 have ba:c.argTypes= #[t,j]:=by apply nD;rw[ac]
 simp only[execOp,m,resolve,k,dv,fu,du,invoke,builtin,a9,ba,e1,M,r1];have:=Kg R' R.er F.dst
 grind [RV.pe]
 cases h;cases h;cases h;cases h
def axm(X:CT):((Ex X).cj O).val=rX X:=by cases X<;>rfl
def axn(R:aA g u D d.ty V O s a W)(ab:jq P d.ty)(hg:eB d.gl O){xm:Operand}(ho:F.op=.makeSlice X n xm){dr:Bool}{b:BI}(h:eW d F r dr s=U b)(hn:b.aQ.ai O=J):
  Nl P g u D d.ty V O s a W F b:=by
 unfold eW at h;simp only[ho] at h;split at h;rename_i e am q Q m ht a1 a3;split at h;rename_i M p;split at h;rename_i hc;simp only[aC,bne_iff_ne,ne_eq] at hc;obtain⟨⟨bc,bd⟩,bf⟩:=hc;obtain⟨ce,ch,rfl⟩:=AZ h;obtain⟨ac,af⟩:=CP hn;have ac:=A4 ac;have af:=R9 af;simp only[K.ai] at ac;obtain⟨N,l⟩:∃N:Nat,Q.ai O=(N:Int):=⟨(Q.ai O).toNat,ae⟩;rw[l] at af;have bg:N<=536870912:=ae;have hw:(bI d.ty (.sl e)).length=Y M.am:=by simp[bI,p]
 have f:bI d.ty (.sl e)=M.am:=by simp[bI,p]
 have ag:=de R hg n (by rw[a1];rfl);have al:=de R hg xm (by rw[a3];rfl);have bk:m=Q:=(K.bW _ _ bc).symm;rw[a1,C.ai,l] at ag;rw[a3,C.ai,bk,l] at al;obtain⟨i,hi,bl,z,hz,a4⟩:=(ab _ _ p).M1;have br:=(ab _ _ p).bytes i hi;have a9:z.cells.size=Y M.am:=by rw[<-GF,a4];simp
 have hf:oE d.ty s (bI d.ty (.sl e)) [eo M]=true:=by rw[f];exact bd
 have bs:WF W d.ty (bI d.ty (.sl e)) ((eo M).map (C.cj O)):=adG R (Hf hf 0 _ rfl);have bt:(LE.xt Q (eo M)).ah O=eu N ((eo M).map (C.cj O)):=by simp[LE.ah,l]
 have y:fU W d.ty e (eu N ((eo M).map (C.cj O))):=fU.of (λi aa G=>by
  rw[Vv] at G;split at G;cases G;exact bs;cases G)
 have bx:CN d.ty V O s e (eu N ((eo M).map (C.cj O))) []:=by
  intro b ⟨i,j,aa,c,z,k,B,H,L,hl⟩;rw[Vv] at B;split at B;cases B;exfalso;rw[et,eo,et] at H;rw[f] at L;rw[L] at H;simp only[ga,dW,Ex,C.cj,RE.rv] at H;subst H;cases hl with
  |deep e v b0 i j aa c z k b g1=>simp at g1
  |own e' cl b hl=>
   have an:=(Ke (Hf hf 0 _ rfl)).2 j _ (.ak (.k z)) (by rw[f];exact L) (by simp[eo,L,Ex]);simp[uv,RE.fits] at an
  |here e a0 b1 b2 b0=>
   have an:=(Ke (Hf hf 0 _ rfl)).2 j _ (.ak (.k (.slice (U a0) (b1+1) b2))) (by rw[f];exact L) (by simp[eo,L,Ex]);simp[uv,RE.fits,RE.kind,RE.isNil] at an
  cases B
 have b3:(ak8 (N*Y M.am)).map (z.cells[· %z.cells.size]!)=(eF (eu N ((eo M).map (C.cj O)))).toArray:=by
  apply nD;apply kU;intro q;have cn:(eF (eu N ((eo M).map (C.cj O)))).length=N*Y M.am:=by rw[CM y.len,hw];simp
  by_cases hq:q<N*Y M.am;have b4:0<Y M.am:=ae;have b5:q/Y M.am<N:=avT (by rw[VM];exact hq);have hj:q%Y M.am<Y M.am:=Q0 _ b4;have ba:M.am[q%Y M.am]?=U M.am[q%Y M.am]:=dG hj;have B:(eu N ((eo M).map (C.cj O)))[q/Y M.am]?=U ((eo M).map (C.cj O)):=by rw[Vv,aH b5]
  have H:((eo M).map (C.cj O))[q%Y M.am]?=U ((Ex M.am[q%Y M.am]).cj O):=by simp[eo,ba]
  have L:=RW (w:=Y M.am) (λi aa G=>by rw[y.len i aa G,hw]) B H;have b6:q/Y M.am*Y M.am+q%Y M.am=q:=by rw[VM];exact awb q _
  rw[b6,axm] at L;simp only[yY,avZ,et,Ep hq,ga,a9];rw[L];congr 1;have bb:q%Y M.am<z.cells.size:=by rw[a9];exact hj
  rw[getElem!_pos z.cells _ bb];have:z.cells.toList[q%Y M.am]?=U (rX M.am[q%Y M.am]):=by rw[a4,et,ba];rfl
  rw[acd,Mh bb] at this;simpa using this;rw[uk bY,uk (by rw[ach];omega)]
 have b7:IntKind.i64.wrap (N:Int)=N:=IntWalk.i64_in _ ae;have co:(i.bytes:Int)*N<=2^46:=by
  have:i.bytes*N<=131072*536870912:=Mr br bg;have H:((i.bytes*N:Nat):Int)<=((131072*536870912:Nat):Int):=Int.ofNat_le.2 this;simp only[awc] at H;omega
 obtain⟨R',b8⟩:=R.bind ce (old:=Z) (kill:=[]) (dj:=[]) (A:=U ⟨W.heap.size,0,Z⟩) (cap:=N) (W':=W.alloc (.cells (eF (eu N ((eo M).map (C.cj O)))).toArray e)) (.inl ⟨rfl,rfl⟩) aw (aI1 W _ Z) y bx
  ⟨aw,aw,by
   rcases Mj N with x|x;exact .inl x;exact .inr ⟨W.heap.size,_,rfl,Vz W _,by simp only[maxLen];omega,by
    rw[Mn,CM y.len,hw];simp,by
    rw[ach,Jt];rw[CM y.len];exact cd _,.inl (cd _)⟩⟩
 refine⟨.slice (U ⟨W.heap.size,0,Z⟩) N N,W.alloc (.cells (eF (eu N ((eo M).map (C.cj O)))).toArray e),.mk (.slice (U ⟨W.heap.size,0,Z⟩) (eu N ((eo M).map (C.cj O))).length N) _,.inl ?_,⟨⟨_,_,_,by rw[bt],rfl⟩,b8,λ_ _ _ _ h=>by cases h⟩, ?_,Hh _ _ _⟩;have hd:P.underlying X=U (.slice e):=(ab _ _ ht).desc;rw[<-b3];have c1:¬((N:Int)<0):=ae;have c2:¬((i.bytes:Int)*N>2^48):=ae;by_cases x:N*Y M.am=0;have ca:N=0:=by rcases Nat.mul_eq_zero.1 x with hh|hh;exact hh;exact bF hh bf
 subst ca;have cc:IntKind.i64.wrap 0=0:=IntWalk.i64_in 0 ae;simp[execOp,ho,ag,al,Instr.makeSlice,eX.gX hd,asInt,asIntOf,typeInfo,hi,cc,Go.sizeOf,newRow,askRoom];congr 2;apply nD;simp[ak8];simp[execOp,ho,ag,al,Instr.makeSlice,eX.gX hd,asInt,asIntOf,typeInfo,hi,b7,c1,Go.sizeOf,bl,x,zeroValue,hz,newRow];intro hh;omega;have:=Kg R' R.er F.dst;rw[RV.pe] at this;simp only[List.length_replicate] at this⊢;exact this;cases h;cases h;cases h
def axo(Q:aA g u D d.ty V O s a W)(v:jq P d.ty)(hg:eB d.gl O){parts:Array (Nat×Operand)}(f:F.op=.buildSlice X R parts){dr:Bool}{b:BI}(h:eW d F r dr s=U b):
  Nl P g u D d.ty V O s a W F b:=by
 unfold eW at h;simp only[f] at h;split at h;cases h;split at h;rename_i e am q ht;split at h;rename_i M n;split at h;rename_i l hf;split at h;rename_i hc;simp only[aC,bne_iff_ne,ne_eq,gc,dD,jP] at hc;obtain⟨⟨⟨⟨⟨h1,h2⟩,h3⟩,h4⟩,h5⟩,h6⟩:=hc;obtain⟨ce,a0,rfl⟩:=AZ h;have G:bI d.ty (.sl e)=M.am:=by simp[bI,n]
 have c:oE d.ty s (bI d.ty (.sl e)) (jZ (Y M.am) R l)=true:=by rw[G];exact h2
 have aa:=adM Q c;have a1:(LE.lit (jZ (Y M.am) R l)).ah O=(jZ (Y M.am) R l).map λL=>L.map (C.cj O):=rfl
 have m:((jZ (Y M.am) R l).map λL=>L.map (C.cj O)).length=R:=by simp[WH]
 have a3:=amp Q c (dj:=C.qm l) (λL a4 N k B hk=>by
  obtain⟨ii,a9⟩:=sK a4;have:=(WG a9).1;subst this;exact WI (En (GD B)) hk)
 have j:(eF ((jZ (Y M.am) R l).map λL=>L.map (C.cj O))).length=R*Y M.am:=by rw[CM (w:=Y M.am) (λi L B=>by rw[aa.len i L B,G]),m]
 have ba:eF ((jZ (Y M.am) R l).map λL=>L.map (C.cj O))=C.az O V l:=by
  apply kU;intro k;by_cases hk:k<R*Y M.am;have ab:k<(eF ((jZ (Y M.am) R l).map λL=>L.map (C.cj O))).length:=by rw[j];exact hk
  have:=adN (V:=V) (by rw[G]) c (λi L B=>by rw[aa.len i L B,G]) (dG ab);rw[this,dG ab];rw[uk (by rw[j];omega),uk (by rw[MY,h1];omega)]
 have bk:R<=536870912:=by simp only[MC] at h4;omega
 obtain⟨R',bb⟩:=Q.bind ce (old:=Z) (kill:=[]) (dj:=C.qm l) (A:=U ⟨W.heap.size,0,Z⟩) (cap:=R) (W':=W.alloc (.cells (eF ((jZ (Y M.am) R l).map λL=>L.map (C.cj O))).toArray e)) (.inl ⟨rfl,rfl⟩) a0 (aI1 W _ Z) aa a3
  ⟨by rw[m];exact cd _,aw,by
   rcases Mj R with H|H;exact .inl H;exact .inr ⟨W.heap.size,_,rfl,Vz W _,by simp only[maxLen];omega,by
    rw[Mn,j,G],by
    rw[ach,Jt];rw[j,m,G];exact cd _,.inl (cd _)⟩⟩
 refine⟨.slice (U ⟨W.heap.size,0,Z⟩) R R,W.alloc (.cells (eF ((jZ (Y M.am) R l).map λL=>L.map (C.cj O))).toArray e),.mk (.slice (U ⟨W.heap.size,0,Z⟩) ((jZ (Y M.am) R l).map λL=>L.map (C.cj O)).length R) _,.inl ?_,⟨⟨_,_,_,by rw[a1],rfl⟩,bb,λ_ _ _ _ h=>by cases h⟩, ?_,Hh _ _ _⟩;have hd:P.underlying X=U (.slice e):=(v _ _ ht).desc;have ac:(parts.map λ(i,x)=>(i,a.eval x)).toList=(parts.toList.map λp=>(p.1,s.ev d.gl p.2)).map λp=>(p.1,p.2.ai O V):=by
  simp only[yY,oX];apply kF;intro p hp;have:=de Q hg p.2 (by
   cases hh:(s.ev d.gl p.2).eY;rfl;exact bF (nA.2 ⟨p,hp,hh⟩) (by rw[h6];simp))
  simp[this]
 obtain⟨z,bc,bd⟩:=M7 (P:=P) (W:=W) (O:=O) (V:=V) (v _ _ n);have af:=RQ (V:=V) (xI Q) _ _ _ _ hf;have y:(eo M).length=Y M.am:=by simp[eo]
 have hzero:((ak8 (R*Y M.am)).map ((if R*Y M.am=0 then #[] else z.cells)[· %(if R*Y M.am=0 then #[] else z.cells).size]!))=(C.az O V (zk R (eo M))).toArray:=by
  apply nD;apply kU;intro k;by_cases ag:k<R*Y M.am;have bf:¬R*Y M.am=0:=ae;have bg:0<Y M.am:=Nat.pos_of_ne_zero h3;have al:k%Y M.am<(C.az O V (eo M)).length:=by rw[MY,y];exact Q0 _ bg
  simp only[bf,ku,bd,yY,avZ,et,Ep ag,ga,uC,adL _ _ _ (by rw[y];exact ag),y];rw[<-uC,dG al];simp only[Mn,MY,y];rw[getElem!_pos _ _ (by simpa using al)];simp;rw[uk bY,uk (by simp[amo,y];omega)]
 have an:¬R*Y M.am>2^24:=ae;rw[ba];by_cases H:R*Y M.am=0;simp only[aH H] at hzero;simp only[execOp,f,Instr.buildSlice,dv,eX.gX hd,du,(v _ _ n).nL,an,ku,fu,aH H,ac];rw[hzero,af];simp[newRow];simp only[aS H] at hzero;simp only[execOp,f,Instr.buildSlice,dv,eX.gX hd,du,(v _ _ n).nL,an,ku,fu,aS H,ac,bc];rw[hzero,af];simp[newRow];have:=Kg R' Q.er F.dst;rw[RV.pe] at this;rw[m] at this⊢;exact this;cases h;cases h;cases h;cases h
end
section
variable{p:ar}{g:World}{D:bT}{P:Program}{d:bv}{V:ar}{O:aj}{s:S}{a:Act}{W:World}
def WJ{h:Nat}{X:aE}(Q:((i.take h).drop R)[M]?=U X):i[R+M]?=U X/\R+M<h:=by
 grind
def axp{h:Nat}(N:oH l X ((i.take h).drop R) M):oH l X i M:=by
 obtain⟨Q,j,L,c,z,k,H,G,F,B⟩:=N;exact⟨_,j,L,c,z,k,(WJ H).1,G,F,B⟩
def axq{Q:Ty}{e:TypeId}{A:oY}{n R l h:Nat}{X:av}(M:bG W Q (.sl e) (.mk (.slice A n R) X))(r:l<=h)(p:h<=n):
  bG W Q (.sl e) (.mk (.slice (if R=l then A else A.map (·.add (l*(bI Q (.sl e)).length))) (h-l) (R-l)) ((X.take h).drop l)):=by
 obtain⟨H,o⟩:=uE M;have G:((X.take h).drop l).length=h-l:=by simp[H];omega
 have F:=fU.zx M;have L:fU W Q e ((X.take h).drop l):=fU.of (λi N B=>F.get (WJ B).1);by_cases z:l=h;have:(X.take h).drop l=[]:=ui ae;rw[this,z,acn];exact E2 _ _;have m:l<h:=ae;have y:R≠l:=ae;rw[aS y];obtain⟨N,x⟩:∃N,X[l]?=U N:=⟨_,dG ae⟩;cases M with
 |sl e A k R X g f w d hb ho=>
  obtain⟨-,b,aa,rfl,v,-⟩:=w l N x;rw[<-G];simp only[ga,xH];refine adD L v (λq u t=> ?_) ae;obtain⟨i,j,ab,c,k1,k2,rfl,rfl⟩:=Ng L.len t
  grind
def adO(Q:aA p g D d.ty V O s a W)(ce:s.bd=J){r:RE}(G:r.kind d.ty s=.sl X){A:oY}(m:r.ai O=.slice A R M){l h:Nat}(j:l<=h)(f:h<=R){F:oY}{B:Nat}
  (L:F=if M=l then A else A.map (·.add (l*(bI d.ty (.sl X)).length)))(c:B=M-l):
  aA p g D d.ty V (O.add (.r (.mk (.slice F (h-l) B) (((r.rv O).ah.take h).drop l)))) {s with rs:=kV r.root.toList 0 (jB [] 0 s.rs)++[.sl X]} a W/\
   (((r.rv O).ah.take h).drop l).length=h-l/\∀b,dV d.ty (.sl X) (.mk (.slice F (h-l) B) (((r.rv O).ah.take h).drop l)) b->g.heap.size<=b\/b∈rf g.heap.size p\/O.ph d.ty s.rs b:=by
 have z:=rh Q aw G;have v:r.rv O=.mk (.slice A R M) (r.rv O).ah:=by rw[<-m];exact(He _).symm
 rw[v] at z;have aa:=axq z j f;have y:∀b,dV d.ty (.sl X) (.mk (.slice F (h-l) B) (((r.rv O).ah.take h).drop l)) b->dV d.ty (.sl X) (r.rv O) b:=by
  intro b H;rw[v];rcases ami H with⟨a0,al,c0,N,rfl⟩|N;simp at N;obtain⟨N,u,q⟩:=N;obtain⟨x,rfl⟩:∃x,R=x+1:=⟨R-1,ae⟩;rw[N] at L;have ab:M≠l:=by have:=(uE z).2;omega
  rw[aS ab] at L;cases A with
  |none=>simp at L
  |some o=>
   simp at L;have:a0.block=o.block:=by rw[L];unfold Addr.add;split<;>rfl
   rw[this];exact dV.here X o x M _
  exact R6 (axp N)
 have ac:jB [] 0 s.rs=s.rs:=by
  apply kU;intro i;rw[Nd];cases s.rs[i]?<;>simp
 rw[ac];have R1:=Q.lJ (RU r.root.toList s.rs);refine⟨?_,by have:=(uE z).1;simp;omega,λb H=>.inr (.inr (Kd Q aw G (y b H)).1)⟩;refine R1.add (Nj ce (CL _ _ _)) (by rw[L,c];exact aa) (λb H=>(Kd Q aw G (y b H)).2) (λk t rv b N u q w=> ?_) (λt b ht=>by cases ht);obtain⟨af,an⟩:=adI N;rcases w with w|⟨⟨t',ag⟩,_⟩;have:=R7 Q af u q aw G (y b w)
 grind [RE.root]
 cases ag
def Sb{n:Int}(h:0<=n):∃N:Nat,n=(N:Int):=⟨n.toNat,ae⟩
def axr(R:aA p g D d.ty V O s a W)(aa:jq P d.ty)(hg:eB d.gl O){lo hi mx:Option Operand}(ho:F.op=.slice X n lo hi mx){dr:Bool}{b:BI}(h:eW d F r dr s=U b)(hn:b.aQ.ai O=J):
  Nl P p g D d.ty V O s a W F b:=by
 unfold eW at h;simp only[ho] at h;split at h;cases h;have an:∀{y:Option Operand}{v:C},y.map (s.ev d.gl)=U v->v≠ .any->y.map a.eval=U (v.ai O V):=by
  intro y v hy G;cases y with
  |none=>cases hy
  |some z=>
   simp only[ga,dW] at hy⊢;rw[<-hy];exact de R hg z (by rw[hy];cases v<;>first|rfl|exact bF rfl G)
 have a0:∀{y:Option Operand},y.map (s.ev d.gl)=Z->y.map a.eval=none:=by
  intro y hy;cases y with|none=>rfl|some z=>cases hy
 split at h
 
 rename_i e am q Q k1 k2 ht w ac af ag;split at h;rename_i te j;split at h;rename_i hc;obtain⟨ce,a9,rfl⟩:=AZ h;have u:=de R hg n (by rw[w];rfl);rw[w,C.ai] at u;have hd:P.underlying X=U (.slice e):=(aa _ _ ht).desc;obtain⟨A,N,M,G⟩:∃A N M,Q.ai O=.slice A N M:=by
  rcases hc with hc|hc;exact RP R hc;unfold RE.isNil at hc;split at hc;exact⟨Z,0,0,rfl⟩;cases hc
 obtain⟨R',al⟩:=R.bind ce (old:=Z) (kill:=[]) (dj:=[]) (rows:=[]) (e:=e) (A:=A) (cap:=0) (W':=W) (.inl ⟨rfl,rfl⟩) aw ⟨rfl,rfl,rfl,cd _,λ_ _ _=>rfl⟩ fU.nil (λb hb=>(RZ hb).elim) ⟨aw,λ_=>rfl,.inl rfl⟩;refine⟨.slice A 0 0,W,.mk (.slice A 0 0) [],.inl ?_,⟨⟨A,0,0,rfl,rfl⟩,al,λ_ _ _ _ h=>by cases h⟩,Kg R' R.er F.dst,Hh _ _ _⟩;have e1:=an ac aw;have i:=an af aw;have f:=a0 ag;simp only[C.ai,K.ai] at e1 i;simp[execOp,ho,u,G,e1,i,f,Instr.sliceAt,eX.gX hd,Instr.slice,Instr.sliceBounds,Instr.sliceBound,asIntOf,(aa _ _ j).nL];cases h;cases h
 
 rename_i e am q Q ih il ht w ac af ag;split at h;rename_i te j;split at h;rename_i m;obtain⟨ce,a9,rfl⟩:=AZ h;obtain⟨B,a4⟩:=CP hn;obtain⟨a4,k⟩:=CP a4;have B:=A4 B;have a4:=A4 a4;have k:=A4 k;have u:=de R hg n (by rw[w];rfl);rw[w,C.ai] at u;have hd:P.underlying X=U (.slice e):=(aa _ _ ht).desc;obtain⟨A,N,M,G⟩:=RP R m;have a1:lenOf (Q.rv O).val=N:=by have:=G;unfold RE.ai at this;rw[this];rfl
 simp only[K.ai,a1] at B k;obtain⟨L,hL⟩:=Sb B;obtain⟨H,hH⟩:=Sb (show 0<=ih.ai O from ae);have ba:N<=M:=by
  have:=rh R aw m;rw[<-He (Q.rv O),show(Q.rv O).val=.slice A N M from G] at this;exact(uE this).2
 obtain⟨R',a3,al⟩:=adO R ce m G (l:=L) (h:=H) ae ae rfl rfl;have ab:(LE.sub (.ak Q) il ih).ah O=((Q.rv O).ah.take H).drop L:=by simp[LE.ah,hL,hH]
 have hw:(bI d.ty (.sl e)).length=Y te.am:=by simp[bI,j]
 refine⟨.slice (if M=L then A else A.map (·.add (L*(bI d.ty (.sl e)).length))) (H-L) (M-L),W,_,.inl ?_,⟨⟨_,_,_,by rw[ab],by rw[ab];exact a3⟩,al,λ_ _ _ _ h=>by cases h⟩,Kg R' R.er F.dst,Hh _ _ _⟩;have e1:=a0 ac;have i:=an af aw;have f:=an ag aw;simp only[C.ai,hL,hH] at i f;have c1:(H:Int)<=(M:Int):=ae;have c2:(L:Int)<=(H:Int):=ae;simp[execOp,ho,u,G,e1,i,f,Instr.sliceAt,eX.gX hd,Instr.slice,Instr.sliceBounds,Instr.sliceBound,asIntOf,(aa _ _ j).nL,hw];simp[show H<=M from ae,show L<=H from ae];cases h;cases h
 
 rename_i e am q Q ih ht w ac af ag;split at h;rename_i te j;split at h;rename_i m;obtain⟨ce,a9,rfl⟩:=AZ h;obtain⟨B,k⟩:=CP hn;have B:=A4 B;have k:=A4 k;have u:=de R hg n (by rw[w];rfl);rw[w,C.ai] at u;have hd:P.underlying X=U (.slice e):=(aa _ _ ht).desc;obtain⟨A,N,M,G⟩:=RP R m;have a1:lenOf (Q.rv O).val=N:=by have:=G;unfold RE.ai at this;rw[this];rfl
 simp only[K.ai,a1] at B k;obtain⟨H,hH⟩:=Sb B;have ba:N<=M:=by
  have:=rh R aw m;rw[<-He (Q.rv O),show(Q.rv O).val=.slice A N M from G] at this;exact(uE this).2
 obtain⟨R',a3,al⟩:=adO R ce m G (l:=0) (h:=H) ae ae rfl rfl;have ab:(LE.sub (.ak Q) (.c 0) ih).ah O=((Q.rv O).ah.take H).drop 0:=by simp[LE.ah,hH,K.ai]
 have hw:(bI d.ty (.sl e)).length=Y te.am:=by simp[bI,j]
 refine⟨.slice (if M=0 then A else A.map (·.add (0*(bI d.ty (.sl e)).length))) (H-0) (M-0),W,_,.inl ?_,⟨⟨_,_,_,by rw[ab],by rw[ab];exact a3⟩,al,λ_ _ _ _ h=>by cases h⟩,Kg R' R.er F.dst,Hh _ _ _⟩;have e1:=a0 ac;have i:=an af aw;have f:=a0 ag;simp only[C.ai,hH] at i;simp[execOp,ho,u,G,e1,i,f,Instr.sliceAt,eX.gX hd,Instr.slice,Instr.sliceBounds,Instr.sliceBound,asIntOf,(aa _ _ j).nL,hw];intro hh;omega;cases h;cases h
 
 rename_i e am q Q il ht w ac af ag;split at h;rename_i te j;split at h;rename_i m;obtain⟨ce,a9,rfl⟩:=AZ h;obtain⟨B,k⟩:=CP hn;have B:=A4 B;have k:=A4 k;have u:=de R hg n (by rw[w];rfl);rw[w,C.ai] at u;have hd:P.underlying X=U (.slice e):=(aa _ _ ht).desc;obtain⟨A,N,M,G⟩:=RP R m;have a1:lenOf (Q.rv O).val=N:=by have:=G;unfold RE.ai at this;rw[this];rfl
 simp only[K.ai,a1] at B k;obtain⟨L,hL⟩:=Sb B;have ba:N<=M:=by
  have:=rh R aw m;rw[<-He (Q.rv O),show(Q.rv O).val=.slice A N M from G] at this;exact(uE this).2
 obtain⟨R',a3,al⟩:=adO R ce m G (l:=L) (h:=N) ae ae rfl rfl;have ab:(LE.sub (.ak Q) il (.len Q)).ah O=((Q.rv O).ah.take N).drop L:=by simp[LE.ah,hL,K.ai,a1]
 have hw:(bI d.ty (.sl e)).length=Y te.am:=by simp[bI,j]
 refine⟨.slice (if M=L then A else A.map (·.add (L*(bI d.ty (.sl e)).length))) (N-L) (M-L),W,_,.inl ?_,⟨⟨_,_,_,by rw[ab],by rw[ab];exact a3⟩,al,λ_ _ _ _ h=>by cases h⟩,Kg R' R.er F.dst,Hh _ _ _⟩;have e1:=a0 ac;have i:=a0 af;have f:=an ag aw;simp only[C.ai,hL] at f;simp[execOp,ho,u,G,e1,i,f,Instr.sliceAt,eX.gX hd,Instr.slice,Instr.sliceBounds,Instr.sliceBound,asIntOf,(aa _ _ j).nL,hw];intro hh;omega;cases h;cases h;cases h
mutual
theorem adP{k n:Nat}(h:(O.rv n).val=(O.rv k).val):∀(v:C),(v.iD k n).ai O V=v.ai O V
 |.int _ _|.bool _|.loc _ _|.iO _ _ _ _|.yl _|.any=>rfl
 |.ak (.v j)=>by
  grind [C.iD,C.ai,RE.ai,RE.rv]
 |.ak (.cell _ _ _ _)=>rfl|.ak (.k _)=>rfl
 |.el (.v j) w i o=>by
  grind [C.iD,C.ai,RE.ai,RE.rv]
 |.el (.cell _ _ _ _) _ _ _=>rfl|.el (.k _) _ _ _=>rfl|.agg l=>by simp only[C.iD,C.ai,Nn h l]|.bH l=>by simp only[C.iD,C.ai,Nn h l]|.fn f l=>by simp only[C.iD,C.ai,Nn h l]|.gH t x=>by simp only[C.iD,C.ai,adP h x]|.mp _=>rfl|.gp e R X=>by simp only[C.iD,C.ai,Nn h X]
theorem Nn{k n:Nat}(h:(O.rv n).val=(O.rv k).val):∀(l:aq),C.az O V (C.qn k n l)=C.az O V l
 |[]=>rfl|x::X=>by simp only[C.qn,C.az,adP h x,Nn h X]
end
def axs(v:C):v.iD R M=.any<->v=.any:=by
 cases v with
 |ak r=>cases r<;>simp[C.iD]<;>split<;>simp
 |el r w i o=>cases r<;>simp[C.iD]<;>split<;>simp
 |_=>simp[C.iD]
def amq{k n:Nat}:∀(l:aq)(i:Nat),(C.qn k n l)[i]?=(l[i]?).map (C.iD k n)
 |[],i=>by simp[C.qn]|x::X,0=>by simp[C.qn]|x::X,i+1=>by simp[C.qn,amq X i]
def amr{k n:Nat}:∀(l:aq),(C.qn k n l).length=Y l
 |[]=>rfl|x::X=>by simp[C.qn,amr X]
def Sc{k n:Nat}:∀(l:bm),(vH k n l).length=Y l
 |[]=>rfl|Z::X=>by simp[vH,Sc X]|U (t,R)::X=>by simp[vH,Sc X]
def adQ(k n:Nat)(x:TypeId×aq):TypeId×aq:=(x.1,if mQ x.1 then x.2 else C.qn k n x.2)
def WK{k n:Nat}:∀(l:bm)(i:Nat),bP (vH k n l) i=(bP l i).map (adQ k n)
 |[],i=>by simp[vH,bS]|Z::X,0=>by simp[vH,bS]|U (t,R)::X,0=>by simp[vH,bS,adQ]|Z::X,i+1=>by have:=WK X i (k:=k) (n:=n);simpa[vH,bS] using this|U (t,R)::X,i+1=>by have:=WK X i (k:=k) (n:=n);simpa[vH,bS] using this
def Kh{k n:Nat}(l:bm)(i:Nat):aJ (vH k n l) i=aJ l i:=by simp[aJ,WK]
theorem aA.iD{B:Ty}(R:aA p g D B V O s a W){k n:Nat}(h:(O.rv n).val=(O.rv k).val):aA p g D B V O (s.iD k n) a W:=by
 have A:(s.iD k n).au=vH k n s.au:=rfl;refine⟨⟨R.mem.base,λi N=>R.mem.own i (by rw[<-Kh (k:=k) (n:=n)];exact N),λi j N z=>R.mem.inj i j (by rw[<-Kh (k:=k) (n:=n)];exact N) (by rw[<-Kh (k:=k) (n:=n)];exact z),λi t v X=> ?_,λH e G Q F=> ?_⟩,
  by simp[S.iD,Sc,R.gC],R.ei,R.eb,R.er,R.dl,by simp[S.iD,amr,R.size],λt u L=> ?_,λH e G b Q F y=> ?_⟩
 rw[A,WK] at X;cases M:bP s.au i with
 |none=>rw[M] at X;cases X
 |some x=>
  obtain⟨w,gJ⟩:=x;rw[M] at X;simp only[ga,adQ,dW,JA] at X;obtain⟨rfl,rfl⟩:=X;have r:=R.mem.box i w gJ M
  grind [jX,qA,Nn]
 exact⟨(R.mem.ak H e G Q F).1,λb X i N=>(R.mem.ak H e G Q F).2 b X i (by rw[<-Kh (k:=k) (n:=n)];exact N)⟩;simp only[S.iD,amq] at L;cases M:s.tmps[t]? with
 |none=>rw[M] at L;cases L
 |some x=>
  rw[M] at L;simp at L;subst L;rcases R.tmps t x M with Q|Q;exact .inl ((axs x).2 Q);right;rw[adP h];exact Q
 have t:=R.eN H e G b Q F y;exact⟨t.own,t.mem,λi N=>t.box i (by rw[<-Kh (k:=k) (n:=n)];exact N),t.alone,t.inner⟩

def ams:∀(Q X:aE)(R:Nat),(ge X R Q).length=Y X
 |[],X,R=>rfl|v::Q,X,R=>by rw[ge,ams];simp
def WL:∀(R Q:aE)(X j:Nat),X+Y R<=Y Q->(ge Q X R)[j]?=if X<=j/\j<X+Y R then R[j-X]? else Q[j]?
 |[],Q,X,j,_=>by simp[ge];intro N M;omega
 |v::R,Q,X,j,h=>by
  simp at h;rw[ge,WL R _ (X+1) j bY]
  grind
def amt:∀(R l:fy)(X j:Nat),X+Y R<=Y l->(AY l X R)[j]?=if X<=j/\j<X+Y R then R[j-X]? else l[j]?
 |[],l,X,j,_=>by simp[AY];intro Q N;omega
 |v::R,l,X,j,h=>by
  simp at h;rw[AY,amt R _ (X+1) j bY]
  grind
def No{f:aE->aE}{X:aE}(h:(i.modify R f)[M]?=U X):(M=R/\∃Q,i[R]?=U Q/\X=f Q)\/(M≠R/\i[M]?=U X):=by
 grind
def axt{w:Nat}{l:fy}(Q:∀(X:Nat)(R:aE),i[X]?=U R->Y R=w)(L:Y l=Y i*w)(h:∀(X j:Nat)(R:aE)(c:RV),i[X]?=U R->R[j]?=U c->l[X*w+j]?=U c.val):l=eF i:=by
 apply kU;intro q;by_cases N:q<(eF i).length;have M:=dG N;obtain⟨X,j,R,c,H,G,F,B⟩:=Ng Q M
 grind
 grind [CM]
def axu(R:aA p g D d.ty V O s a W)(ch:jq P d.ty)(hg:eB d.gl O){y:Operand}(ho:F.op=.store X n y){dr:Bool}{b:BI}(h:eW d F r dr s=U b)(hn:b.aQ.ai O=J):
  Nl P p g D d.ty V O s a W F b:=by
 unfold eW at h;simp only[ho] at h;split at h;cases h;split at h;rename_i B k w i L cl hx;split at h;rename_i e hk;split at h;rename_i te cn;split at h;rename_i hc;simp only[aC,gc,dD] at hc;obtain⟨⟨⟨⟨co,a3⟩,cp⟩,af⟩,cu⟩:=hc;cases hb:kW s Z (xw i (.len (.v k))) e (.own e) (.set (.ak (.v k)) i L (s.ev d.gl y).cells) [k] (C.qm (s.ev d.gl y).cells) with
 |none=>rw[hb] at h;cases h
 |some b0=>
  rw[hb] at h;simp only[ga,dW] at h;obtain⟨ce,cv,rfl⟩:=AZ hb;subst h;have bs:bI d.ty (.sl e)=te.am:=by simp[bI,cn]
  have hw:(bI d.ty (.sl e)).length=w:=by rw[bs];exact co
  obtain⟨A,Q,aa,g1,g2,g3⟩:=Sa R hk;have ba:=uF R hk;simp only[xw] at hn;obtain⟨a4,ag⟩:=CP hn;have a4:=A4 a4;rw[EW] at ag;simp only[fj,K.ai,RE.rv] at a4 ag;have ag:=GK ag;rw[g1] at ag;simp only[RV.pe,lenOf] at ag;obtain⟨N,hI⟩:=Sb a4;have c9:N<Q:=ae;obtain⟨bt,bx⟩:=uE g2;have a1:=fU.zx g2;obtain⟨bk,db,hA,b1,cx,a9⟩:∃b db,A=U ⟨b,0,Z⟩/\W.heap[b]?=U (.cells db e (0,0))/\aa<=maxLen/\db.size=aa*(bI d.ty (.sl e)).length:=by
   rcases g3.mem with h0|h0;omega;exact h0
  subst hA;have cy:mW (U ⟨bk,0,Z⟩) aa=U bk:=by cases aa with|zero=>omega|succ c=>rfl
  have cA:s.ev d.gl y≠ .any:=by
   intro hy;rw[hy] at af a3;simp only[C.cells,ace] at a3;rw[<-a3] at af;cases hd:(te.am.drop L).take 1 with|nil=>rw[hd] at af;simp[nJ,C.cells] at af|cons c cs=>rw[hd] at af;simp[nJ,C.cells,uv] at af
  have cB:=de R hg y (by cases hh:s.ev d.gl y<;>first|rfl|exact bF hh cA);have cC:=de R hg n (by rw[hx];rfl);have cD:=WA (O:=O) (V:=V) (xI R) cu;obtain⟨f1,f2⟩:=Ke af;have bq:(s.ev d.gl y).cells.length=Y B.am:=a3;have dc:((te.am.drop L).take (Y B.am)).length=Y B.am:=bY;have b2:∀(j:Nat),j<Y B.am->((te.am.drop L).take (Y B.am))[j]?=(bI d.ty (.sl e))[L+j]?:=by
   intro j hj;rw[qg,aH hj,yV,bs]
  have b3:C.az O V (s.ev d.gl y).cells=((s.ev d.gl y).cells.map (C.cj O)).map RV.val:=by
   apply kU;intro j;rw[uC,et,et];cases hv:(s.ev d.gl y).cells[j]? with
   |none=>rfl
   |some v=>
    have hj:j<Y B.am:=by rw[<-bq];exact(dq.1 hv).1
    obtain⟨ct,cO⟩:∃ct,((te.am.drop L).take (Y B.am))[j]?=U ct:=⟨_,dG ae⟩;simp only[ga];rw[aml (f2 j ct v cO hv)]
  have al:=adG R af;have b4:(LE.set (.ak (.v k)) i L (s.ev d.gl y).cells).ah O=(O.rv k).ah.modify N λH=>ge H L ((s.ev d.gl y).cells.map (C.cj O)):=by simp[LE.ah,RE.rv,hI]
  have bb:((s.ev d.gl y).cells.map (C.cj O)).length=Y B.am:=by simp[bq]
  generalize cW:(s.ev d.gl y).cells.map (C.cj O)=vv at*;have bc:∀G:aE,Y G=(bI d.ty (.sl e)).length->L+Y vv<=Y G:=λG h0=>by rw[h0,hw,bb];exact cp
  have bd:fU W d.ty e ((O.rv k).ah.modify N λH=>ge H L vv):=by
   refine fU.of (λm H hr=> ?_);rcases No hr with⟨rfl,G,f,rfl⟩|⟨bf,f⟩
   ·have q:=a1.get f;have c0:=bc G q.len;refine⟨by rw[ams];exact q.len,λj c kk ab ac=> ?_,λj c ab ac=> ?_,λj c z kk ab ac=> ?_⟩
    all_goals
     rw[WL _ _ _ _ c0] at ab;split at ab;rename_i hj;have bg:j-L<Y B.am:=ae;have an:=b2 _ bg;rw[show L+(j-L)=j from ae,ac] at an
     first
      |exact al.int (j-L) c _ ab an
      |exact al.bool (j-L) c ab an
      |exact al.bw (j-L) c _ _ ab an
     first
      |exact q.int j c _ ab ac
      |exact q.bool j c ab ac
      |exact q.bw j c _ _ ab ac
   exact a1.get f
  have c1:CN d.ty V O s e ((O.rv k).ah.modify N λH=>ge H L vv) (C.qm (s.ev d.gl y).cells):=by
   intro b ⟨m,j,H,c,z,kk,h1,l,h3,hl⟩;have elder:∀G,(O.rv k).ah[m]?=U G->G[j]?=U c->O.ph d.ty s.rs b/\(∀i,aJ s.au i=J->ad V i≠b)/\∀(k':Nat)(X:TypeId)(rv:RV),s.rs[k']?=U (.own X)->O.r[k']?=U rv->rv.lq=U b->k'∈C.qm (s.ev d.gl y).cells:=by
    intro G q1 q2;have hi:oH d.ty e (O.rv k).ah b:=⟨m,j,G,c,z,kk,q1,q2,h3,hl⟩;have b5:=Nh (O:=O) (e0:=.own e) rfl hi;exact⟨⟨k,_,hk,b5⟩,(R.mem.ak k _ _ hk ba).2 b b5,λk' X rv q3 q4 q5=>(Ni R q3 q4 q5 hk rfl hi).elim⟩
   rcases No h1 with⟨rfl,G,f,rfl⟩|⟨bf,f⟩;rw[WL _ _ _ _ (bc G (a1.len _ _ f))] at l;split at l;rename_i hj;have bg:j-L<Y B.am:=ae;have an:((te.am.drop L).take (Y B.am))[j-L]?=U (.bw z kk):=(b2 _ bg).trans (by rw[show L+(j-L)=j from ae];exact h3);rw[<-cW] at l;obtain⟨M,q1,q2,q3,q4⟩:=adH af l an hl;obtain⟨p1,p2⟩:=Kd R q3 q2 q4;refine⟨p1,p2,λk' X rv k1 k2 k3=> ?_⟩;have:=R7 R k1 k2 k3 q3 q2 q4;subst this;exact WI (jz q1) rfl;exact elder G f l;exact elder H f l
  have bl:(C.az O V (s.ev d.gl y).cells).length=Y B.am:=by simp[bq]
  have c2:N*w+L+Y B.am<=aa*w:=by
   have:(N+1)*w<=aa*w:=GC _ ae;rw[sM] at this;omega
  obtain⟨W',r1,r2,r3,r4,r5,r6,r7⟩:=adz (P:=P) bk (N*w+L) e (C.az O V (s.ev d.gl y).cells) 0 db W b1 (by rw[bl,a9,hw];omega) (λu hu=>by
   rw[b3] at hu;obtain⟨c,c3,rfl⟩:=fw.1 hu;obtain⟨j,hj⟩:=sK c3;have dd:j<Y B.am:=by rw[<-bb];exact(dq.1 hj).1
   obtain⟨ct,ac⟩:∃ct,((te.am.drop L).take (Y B.am))[j]?=U ct:=⟨_,dG ae⟩;cases ct with
   |int kk=>obtain⟨n',br⟩:=al.int j c kk hj ac;rw[br];rfl
   |bool=>obtain⟨n',br⟩:=al.bool j c hj ac;rw[br];rfl
   |bw z kk=>exact M6 (al.bw j c z kk hj ac))
  have a0:((O.rv k).ah.modify N λH=>ge H L vv).length=Q:=by simp[bt]
  have b6:=adJ g2 b1;rw[bt,hw] at b6;obtain⟨R',c4⟩:=R.bind ce (old:=U bk) (kill:=[k]) (dj:=C.qm (s.ev d.gl y).cells) (A:=U ⟨bk,0,Z⟩) (cap:=aa) (W':=W') (.inr ⟨k,e,_,rfl,hk,ba,by rw[g1,Nk,cy]⟩) cv
   ⟨r5,r6,r7,ae,λq _ hq=>r3 q (λh=>hq (by rw[h]))⟩ bd c1
   ⟨by rw[a0];exact bx,aw,.inr ⟨bk,_,rfl,r2,cx,by rw[hw,Mn,ady,GF,a9,hw],by
    rw[a0,hw];refine axt (w:=w) (λm H hr=>by rw[bd.len m H hr,hw]) ?_ (λm j H c h1 l=> ?_);rw[a0,Mo,ach,ady,GF,a9,hw];exact Mp (GC _ bx);have df:m<Q:=by rw[<-a0];exact(dq.1 h1).1
    have dk:j<w:=by rw[<-hw,<-bd.len m H h1];exact(dq.1 l).1
    have b7:m*w+j<Q*w:=by
     have:(m+1)*w<=Q*w:=GC _ ae;rw[sM] at this;omega
    rw[qg,aH b7,ach,yZ,amt _ _ _ _ (by rw[bl,GF,a9,hw];exact c2),bl];have b8:∀G:aE,(O.rv k).ah[m]?=U G->G[j]?=U c->db.toList[m*w+j]?=U c.val:=by
     intro G q1 q2;have:=RW (w:=w) (λi H hr=>by rw[a1.len i H hr,hw]) q1 q2;rw[<-b6,qg,aH b7] at this;exact this
    rcases No h1 with⟨rfl,G,f,rfl⟩|⟨bf,f⟩;rw[WL _ _ _ _ (bc G (a1.len _ _ f)),bb] at l;by_cases hj:L<=j/\j<L+Y B.am;rw[aH hj] at l;rw[aH ae,b3,show m*w+j-(m*w+L)=j-L from ae,et,l];rfl;rw[aS hj] at l;rw[aS ae];exact b8 G f l;have c5:¬(N*w+L<=m*w+j/\m*w+j<N*w+L+Y B.am):=by
     rintro⟨q1,q2⟩;rcases aI5 bf with dn|ds;have:(m+1)*w<=N*w:=GC _ ae;rw[sM] at this;omega;have:(N+1)*w<=m*w:=GC _ ae;rw[sM] at this;omega
    rw[aS c5];exact b8 H f l,.inr rfl⟩⟩
  have c6:k<Y O.r:=(dq.1 ba).1;have R2:=R'.iD (k:=k) (n:=Y s.rs) (by
   rw[<-R.er];have e1:(O.add (.r (.mk (.slice (U ⟨bk,0,Z⟩) ((O.rv k).ah.modify N λH=>ge H L vv).length aa) ((O.rv k).ah.modify N λH=>ge H L vv)))).rv (Y O.r)=.mk (.slice (U ⟨bk,0,Z⟩) ((O.rv k).ah.modify N λH=>ge H L vv).length aa) ((O.rv k).ah.modify N λH=>ge H L vv):=by simp[aj.rv,aj.add]
   have e2:(O.add (.r (.mk (.slice (U ⟨bk,0,Z⟩) ((O.rv k).ah.modify N λH=>ge H L vv).length aa) ((O.rv k).ah.modify N λH=>ge H L vv)))).rv k=O.rv k:=by simp[aj.rv,aj.add,f8,c6]
   rw[e1,e2,RV.pe,a0];have:=jY RV.val g1;exact this.symm)
  refine⟨undef,W',_,.inr ⟨?_,rfl⟩,⟨⟨_,_,_,by rw[b4],by rw[b4]⟩,c4,λk' _ _ _ hx=>by
   cases hx;rw[RV.pe,a0];exact(jY RV.val g1).symm⟩,R2.put F.dst (.bH []), ?_⟩
  have c7:(O.rv k).val=.slice (U ⟨bk,0,Z⟩) Q aa:=by rw[g1];rfl
  have ca:((s.ev d.gl y).ai O V).cells.toList=C.az O V (s.ev d.gl y).cells:=cD;have c8:((s.ev d.gl y).ai O V).cells.size=Y B.am:=by rw[<-GF,ca];simp[bq]
  simp only[execOp,ho,cC,cB,hx,C.ai,RE.ai,RE.rv,c7,pf,hI,rM,jk,Instr.storeAt,Instr.sureAddr,storeVar,dv,fu,du,(ch _ _ cl).nL,c8,ca,ne_eq,not_true_eq_false,ku,r1];have cc:bB s O V ({s with rs:=kV (C.qm (s.ev d.gl y).cells) 0 (jB [k] 0 s.rs)++[.own e]}:S) _ V:=Hh (rv:=.mk (.slice (U ⟨bk,0,Z⟩) ((O.rv k).ah.modify N λH=>ge H L vv).length aa) ((O.rv k).ah.modify N λH=>ge H L vv)) _ Z (.bH []);refine bB.put (s:=s) (s':=(({s with rs:=kV (C.qm (s.ev d.gl y).cells) 0 (jB [k] 0 s.rs)++[.own e]}:S).put Z (.ak (.v (Y s.rs)))).iD k (Y s.rs)) ⟨cc.ext,λq hq=> ?_,by simp[S.put,S.iD,Sc],cc.ax⟩ _ _;simp only[S.put,S.iD,Kh];exact hq
 cases h;cases h;cases h;cases h
def adR(R:aA p g D d.ty V O s a W)(Q:jq P d.ty)(N:eB d.gl O){H:Bool}{b:BI}(h:eW d F r H s=U b)(M:b.aQ.ai O=J):Nl P p g D d.ty V O s a W F b:=by
 cases X:F.op with
 |call c=>
  cases L:c.callee with
  |builtin G=>cases G with|append=>exact axl R Q N X L h M|_=>simp[eW,X,L] at h
  |_=>simp[eW,X,L] at h
 |makeSlice t n m=>exact axn R Q N X h M|buildSlice t B parts=>exact axo R Q N X h|slice t x A z w=>exact axr R Q N X h M|store t x y=>exact axu R Q N X h M|_=>simp[eW,X] at h
end
